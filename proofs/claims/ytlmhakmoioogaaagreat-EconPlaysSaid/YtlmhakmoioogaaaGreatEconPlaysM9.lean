/-
  What an order holds; a purse has so many more. For every order and purse.
-/
import Derived.Test.YtlmhakmoioogaaaGreatEconPlaysM5
import Derived.Test.YtlmhakmoioogaaaGreatEconPlaysM8
set_option maxHeartbeats 16000000
set_option maxRecDepth 100000
set_option linter.unusedSimpArgs false
set_option linter.unusedVariables false
section
namespace Go.Proofs.YtlmhakmoioogaaaGreat
open Go.RowKit Go.Sl
def getK(i:It)(k:Int):Int:=if k=0 then i.x0 else if k=1 then i.x1 else if k=2 then i.x2 else i.x3
def setK(i:It)(k n:Int):It:=if k=0 then⟨n,i.x1,i.x2,i.x3⟩else if k=1 then⟨i.x0,n,i.x2,i.x3⟩else if k=2 then⟨i.x0,i.x1,n,i.x3⟩else⟨i.x0,i.x1,i.x2,n⟩
def holdsF(o:Ord):It:=if o.buy=true then⟨o.cnt*o.price,0,0,0⟩else setK it0 o.item o.cnt
theorem BV7{a b:Int}(h1:0≤a)(h2:a≤1048576)(h3:0≤b)(h4:b≤1024):0≤a*b∧a*b≤1073741824:=by
 refine⟨Int.mul_nonneg h1 h3,?_⟩
 have:=Int.mul_le_mul h2 h4 h3 (by omega)
 omega
theorem KE7(o:Ord)(hm:MayP o)(W w:World)(R:List HP)(hS:St W R w):
  Calls Tryz.prog 125 #[.agg o.cells.toArray] w fun e w'=>e=.returned (.agg (holdsF o).cells.toArray)∧St W R w':=by
 have h1:=hm.item0
 have h2:=hm.item1
 have h3:=BV7 (by have:=hm.cnt0;omega) hm.cnt1 (by have:=hm.price0;omega) hm.price1
 obtain⟨i,u,y,t,c,pr⟩:=o
 simp only at h1 h2 h3
 clear hm
 cases y with
 | true=>
  have e:holdsF ⟨i,u,true,t,c,pr⟩=⟨c*pr,0,0,0⟩:=rfl
  rw[e]
  simp only[Ord.cells,It.cells]
  have h4:c*pr≤9223372036854775807:=by omega
  have h5 : -9223372036854775808≤c*pr:=by omega
  clear e h1 h2
  go_enter Tryz.func125,Tryz.ntmps125
  go_wp2_with(first|(refine zl1 hS ?_)|(refine zlN hS ?_)|(refine zs1 hS ?_;clear hS;intro w hS)|(refine zsN hS ?_;clear hS;intro w hS)|(refine zbx hS ?_;clear hS;intro b w hS)|(refine zal hS ?_;clear hS;intro b w hS))
  (apply Ao7;rfl;rfl;rfl;exact hS;decide +kernel;(exact cesS);kernel_rfl)
  exact⟨rfl,hS.s _⟩
 | false=>
  have ht:t=1∨t=2∨t=3:=by omega
  rcases ht with rfl|rfl|rfl
  ·have e:holdsF ⟨i,u,false,1,c,pr⟩=⟨0,c,0,0⟩:=rfl
   rw[e]
   simp only[Ord.cells,It.cells]
   clear e h1 h2 h3
   go_enter Tryz.func125,Tryz.ntmps125
   go_wp2_with(first|(refine zl1 hS ?_)|(refine zlN hS ?_)|(refine zs1 hS ?_;clear hS;intro w hS)|(refine zsN hS ?_;clear hS;intro w hS)|(refine zbx hS ?_;clear hS;intro b w hS)|(refine zal hS ?_;clear hS;intro b w hS))
   (apply Ao7;rfl;rfl;rfl;exact hS;decide +kernel;(exact cesS);kernel_rfl)
   exact⟨rfl,hS.s _⟩
  ·have e:holdsF ⟨i,u,false,2,c,pr⟩=⟨0,0,c,0⟩:=rfl
   rw[e]
   simp only[Ord.cells,It.cells]
   clear e h1 h2 h3
   go_enter Tryz.func125,Tryz.ntmps125
   go_wp2_with(first|(refine zl1 hS ?_)|(refine zlN hS ?_)|(refine zs1 hS ?_;clear hS;intro w hS)|(refine zsN hS ?_;clear hS;intro w hS)|(refine zbx hS ?_;clear hS;intro b w hS)|(refine zal hS ?_;clear hS;intro b w hS))
   (apply Ao7;rfl;rfl;rfl;exact hS;decide +kernel;(exact cesS);kernel_rfl)
   exact⟨rfl,hS.s _⟩
  ·have e:holdsF ⟨i,u,false,3,c,pr⟩=⟨0,0,0,c⟩:=rfl
   rw[e]
   simp only[Ord.cells,It.cells]
   clear e h1 h2 h3
   go_enter Tryz.func125,Tryz.ntmps125
   go_wp2_with(first|(refine zl1 hS ?_)|(refine zlN hS ?_)|(refine zs1 hS ?_;clear hS;intro w hS)|(refine zsN hS ?_;clear hS;intro w hS)|(refine zbx hS ?_;clear hS;intro b w hS)|(refine zal hS ?_;clear hS;intro b w hS))
   (apply Ao7;rfl;rfl;rfl;exact hS;decide +kernel;(exact cesS);kernel_rfl)
   exact⟨rfl,hS.s _⟩
def capI(a:Int):Int:=if 1152921504606846976<a then 1152921504606846976 else a
def giveI(i:It)(k n:Int):It:=setK i k (capI (getK i k+n))
def giveP(p:Ps)(who:ByteArray)(k n:Int):Ps:=layP p who (giveI (purseA p who) k n)
theorem CF7(vb mb:Nat)(p:Ps)(who:ByteArray)(k n:Int)(u1 u2:Value)(hx:isIt (purseA p who)=true)(hk:0≤k∧k≤3)(hn:0≤n∧n≤1152921504606846976)(W w:World)(R:List HP)(hS:St W (blk vb [.map (some mb),u1,u2] 176::amap eS eP mb p::R) w):
  Calls Tryz.prog 170 #[.agg #[.pointer (some ⟨vb,0,none⟩),.string who],.int .i64 k,.int .i64 n] w fun e w'=>e=.returned (.tuple #[])∧St W (blk vb [.map (some mb),u1,u2] 176::amap eS eP mb (giveP p who k n)::R) w':=by
 obtain⟨px,hp⟩:∃x,purseA p who=x:=⟨_,rfl⟩
 rw[hp]at hx
 obtain⟨p0,p1,p2,p3⟩:=px
 have Hx:=Lib.hid hp
 clear hp
 obtain⟨a0,a1,a2,a3⟩:=Ag7.1 hx
 simp only at a0 a1 a2 a3
 clear hx
 have hk4:k=0∨k=1∨k=2∨k=3:=by omega
 rcases hk4 with rfl|rfl|rfl|rfl
 ·by_cases hc:1152921504606846976<p0+n
  ·skip
   have e:giveP p who 0 n=layP p who ⟨1152921504606846976,p1,p2,p3⟩:=by unfold giveP giveI;rw[Hx.out];simp[setK,getK,capI,hc]
   rw[e]
   clear e
   go_enter Tryz.func170,Tryz.ntmps170
   go_wp2_with(first|(refine zbx hS ?_;clear hS;intro b w hS))
   refine rf3 [0,1,3,7,15,0,32,127,0,511] (fun i=>i==8) (fun _=>none) [⟨some 8,some 9,fun nd=>ptrTo (nd 8) [.int .i64 0,.int .i64 0,.int .i64 0,.int .i64 0] 29⟩,⟨some 9,none,fun nd=>ptrTo (nd 8) [.int .i64 p0,.int .i64 p1,.int .i64 p2,.int .i64 p3] 29⟩] [none,none,none] hS ?_
   intro nd
   repeat(first|(refine zc1 ?_)|(refine zcn ?_)|(apply AP7 (ek:=eS) (ev:=eP) (k:=who) it0 ⟨p0,p1,p2,p3⟩;rfl;kernel_rfl;(with_reducible rfl);rfl;rfl;rfl;(intro F;exact⟨_,by exact takO⟩);exact mP;exact kS;exact zP;rfl;exact Hx.out;(simp only[Act.put,fA,fB,fC,Nat.reduceAdd,eP,It.cells]))|(refine cR ?_))
   (refine zca ?_)
   (refine zct ?_)
   refine Ad7 ?_
   clear hS
   intro w hS
   have hS2:St W [ptrTo (nd 8) _ _,blk b _ _,blk vb _ _,amap eS eP mb p,sats R] w:=hS
   clear hS
   have hS:=hS2.unpack [_,_,_,_]
   clear hS2
   simp only[List.cons_append,List.nil_append]at hS
   generalize nd 8=v8 at *
   have h1:=hS.ptr;clear hS;obtain⟨b2,rfl,hS⟩:=h1
   go_wp2_with(first|(go_at_call 164;refine(AZ7 vb mb p who u1 u2 W _ R ⟨1152921504606846976,p1,p2,p3⟩ (hS.s _)).mono ?_;clear hS;rintro e w ⟨rfl,hS⟩)|(refine zl1 hS ?_)|(refine zlN hS ?_)|(refine zs1 hS ?_;clear hS;intro w hS))
   go_end0
   exact⟨rfl,hS⟩
  ·skip
   have e:giveP p who 0 n=layP p who ⟨p0+n,p1,p2,p3⟩:=by unfold giveP giveI;rw[Hx.out];simp[setK,getK,capI,hc]
   rw[e]
   clear e
   go_enter Tryz.func170,Tryz.ntmps170
   go_wp2_with(first|(refine zbx hS ?_;clear hS;intro b w hS))
   refine rf3 [0,1,3,7,15,0,32,127,0,511] (fun i=>i==8) (fun _=>none) [⟨some 8,some 9,fun nd=>ptrTo (nd 8) [.int .i64 0,.int .i64 0,.int .i64 0,.int .i64 0] 29⟩,⟨some 9,none,fun nd=>ptrTo (nd 8) [.int .i64 p0,.int .i64 p1,.int .i64 p2,.int .i64 p3] 29⟩] [none,none,none] hS ?_
   intro nd
   repeat(first|(refine zc1 ?_)|(refine zcn ?_)|(apply AP7 (ek:=eS) (ev:=eP) (k:=who) it0 ⟨p0,p1,p2,p3⟩;rfl;kernel_rfl;(with_reducible rfl);rfl;rfl;rfl;(intro F;exact⟨_,by exact takO⟩);exact mP;exact kS;exact zP;rfl;exact Hx.out;(simp only[Act.put,fA,fB,fC,Nat.reduceAdd,eP,It.cells]))|(refine cR ?_))
   (refine zca ?_)
   (refine zct ?_)
   refine Ad7 ?_
   clear hS
   intro w hS
   have hS2:St W [ptrTo (nd 8) _ _,blk b _ _,blk vb _ _,amap eS eP mb p,sats R] w:=hS
   clear hS
   have hS:=hS2.unpack [_,_,_,_]
   clear hS2
   simp only[List.cons_append,List.nil_append]at hS
   generalize nd 8=v8 at *
   have h1:=hS.ptr;clear hS;obtain⟨b2,rfl,hS⟩:=h1
   go_wp2_with(first|(go_at_call 164;refine(AZ7 vb mb p who u1 u2 W _ R ⟨p0+n,p1,p2,p3⟩ (hS.s _)).mono ?_;clear hS;rintro e w ⟨rfl,hS⟩)|(refine zl1 hS ?_)|(refine zlN hS ?_)|(refine zs1 hS ?_;clear hS;intro w hS))
   go_end0
   exact⟨rfl,hS⟩
 ·by_cases hc:1152921504606846976<p1+n
  ·skip
   have e:giveP p who 1 n=layP p who ⟨p0,1152921504606846976,p2,p3⟩:=by unfold giveP giveI;rw[Hx.out];simp[setK,getK,capI,hc]
   rw[e]
   clear e
   go_enter Tryz.func170,Tryz.ntmps170
   go_wp2_with(first|(refine zbx hS ?_;clear hS;intro b w hS))
   refine rf3 [0,1,3,7,15,0,32,127,0,511] (fun i=>i==8) (fun _=>none) [⟨some 8,some 9,fun nd=>ptrTo (nd 8) [.int .i64 0,.int .i64 0,.int .i64 0,.int .i64 0] 29⟩,⟨some 9,none,fun nd=>ptrTo (nd 8) [.int .i64 p0,.int .i64 p1,.int .i64 p2,.int .i64 p3] 29⟩] [none,none,none] hS ?_
   intro nd
   repeat(first|(refine zc1 ?_)|(refine zcn ?_)|(apply AP7 (ek:=eS) (ev:=eP) (k:=who) it0 ⟨p0,p1,p2,p3⟩;rfl;kernel_rfl;(with_reducible rfl);rfl;rfl;rfl;(intro F;exact⟨_,by exact takO⟩);exact mP;exact kS;exact zP;rfl;exact Hx.out;(simp only[Act.put,fA,fB,fC,Nat.reduceAdd,eP,It.cells]))|(refine cR ?_))
   (refine zca ?_)
   (refine zct ?_)
   refine Ad7 ?_
   clear hS
   intro w hS
   have hS2:St W [ptrTo (nd 8) _ _,blk b _ _,blk vb _ _,amap eS eP mb p,sats R] w:=hS
   clear hS
   have hS:=hS2.unpack [_,_,_,_]
   clear hS2
   simp only[List.cons_append,List.nil_append]at hS
   generalize nd 8=v8 at *
   have h1:=hS.ptr;clear hS;obtain⟨b2,rfl,hS⟩:=h1
   go_wp2_with(first|(go_at_call 164;refine(AZ7 vb mb p who u1 u2 W _ R ⟨p0,1152921504606846976,p2,p3⟩ (hS.s _)).mono ?_;clear hS;rintro e w ⟨rfl,hS⟩)|(refine zl1 hS ?_)|(refine zlN hS ?_)|(refine zs1 hS ?_;clear hS;intro w hS))
   go_end0
   exact⟨rfl,hS⟩
  ·skip
   have e:giveP p who 1 n=layP p who ⟨p0,p1+n,p2,p3⟩:=by unfold giveP giveI;rw[Hx.out];simp[setK,getK,capI,hc]
   rw[e]
   clear e
   go_enter Tryz.func170,Tryz.ntmps170
   go_wp2_with(first|(refine zbx hS ?_;clear hS;intro b w hS))
   refine rf3 [0,1,3,7,15,0,32,127,0,511] (fun i=>i==8) (fun _=>none) [⟨some 8,some 9,fun nd=>ptrTo (nd 8) [.int .i64 0,.int .i64 0,.int .i64 0,.int .i64 0] 29⟩,⟨some 9,none,fun nd=>ptrTo (nd 8) [.int .i64 p0,.int .i64 p1,.int .i64 p2,.int .i64 p3] 29⟩] [none,none,none] hS ?_
   intro nd
   repeat(first|(refine zc1 ?_)|(refine zcn ?_)|(apply AP7 (ek:=eS) (ev:=eP) (k:=who) it0 ⟨p0,p1,p2,p3⟩;rfl;kernel_rfl;(with_reducible rfl);rfl;rfl;rfl;(intro F;exact⟨_,by exact takO⟩);exact mP;exact kS;exact zP;rfl;exact Hx.out;(simp only[Act.put,fA,fB,fC,Nat.reduceAdd,eP,It.cells]))|(refine cR ?_))
   (refine zca ?_)
   (refine zct ?_)
   refine Ad7 ?_
   clear hS
   intro w hS
   have hS2:St W [ptrTo (nd 8) _ _,blk b _ _,blk vb _ _,amap eS eP mb p,sats R] w:=hS
   clear hS
   have hS:=hS2.unpack [_,_,_,_]
   clear hS2
   simp only[List.cons_append,List.nil_append]at hS
   generalize nd 8=v8 at *
   have h1:=hS.ptr;clear hS;obtain⟨b2,rfl,hS⟩:=h1
   go_wp2_with(first|(go_at_call 164;refine(AZ7 vb mb p who u1 u2 W _ R ⟨p0,p1+n,p2,p3⟩ (hS.s _)).mono ?_;clear hS;rintro e w ⟨rfl,hS⟩)|(refine zl1 hS ?_)|(refine zlN hS ?_)|(refine zs1 hS ?_;clear hS;intro w hS))
   go_end0
   exact⟨rfl,hS⟩
 ·by_cases hc:1152921504606846976<p2+n
  ·skip
   have e:giveP p who 2 n=layP p who ⟨p0,p1,1152921504606846976,p3⟩:=by unfold giveP giveI;rw[Hx.out];simp[setK,getK,capI,hc]
   rw[e]
   clear e
   go_enter Tryz.func170,Tryz.ntmps170
   go_wp2_with(first|(refine zbx hS ?_;clear hS;intro b w hS))
   refine rf3 [0,1,3,7,15,0,32,127,0,511] (fun i=>i==8) (fun _=>none) [⟨some 8,some 9,fun nd=>ptrTo (nd 8) [.int .i64 0,.int .i64 0,.int .i64 0,.int .i64 0] 29⟩,⟨some 9,none,fun nd=>ptrTo (nd 8) [.int .i64 p0,.int .i64 p1,.int .i64 p2,.int .i64 p3] 29⟩] [none,none,none] hS ?_
   intro nd
   repeat(first|(refine zc1 ?_)|(refine zcn ?_)|(apply AP7 (ek:=eS) (ev:=eP) (k:=who) it0 ⟨p0,p1,p2,p3⟩;rfl;kernel_rfl;(with_reducible rfl);rfl;rfl;rfl;(intro F;exact⟨_,by exact takO⟩);exact mP;exact kS;exact zP;rfl;exact Hx.out;(simp only[Act.put,fA,fB,fC,Nat.reduceAdd,eP,It.cells]))|(refine cR ?_))
   (refine zca ?_)
   (refine zct ?_)
   refine Ad7 ?_
   clear hS
   intro w hS
   have hS2:St W [ptrTo (nd 8) _ _,blk b _ _,blk vb _ _,amap eS eP mb p,sats R] w:=hS
   clear hS
   have hS:=hS2.unpack [_,_,_,_]
   clear hS2
   simp only[List.cons_append,List.nil_append]at hS
   generalize nd 8=v8 at *
   have h1:=hS.ptr;clear hS;obtain⟨b2,rfl,hS⟩:=h1
   go_wp2_with(first|(go_at_call 164;refine(AZ7 vb mb p who u1 u2 W _ R ⟨p0,p1,1152921504606846976,p3⟩ (hS.s _)).mono ?_;clear hS;rintro e w ⟨rfl,hS⟩)|(refine zl1 hS ?_)|(refine zlN hS ?_)|(refine zs1 hS ?_;clear hS;intro w hS))
   go_end0
   exact⟨rfl,hS⟩
  ·skip
   have e:giveP p who 2 n=layP p who ⟨p0,p1,p2+n,p3⟩:=by unfold giveP giveI;rw[Hx.out];simp[setK,getK,capI,hc]
   rw[e]
   clear e
   go_enter Tryz.func170,Tryz.ntmps170
   go_wp2_with(first|(refine zbx hS ?_;clear hS;intro b w hS))
   refine rf3 [0,1,3,7,15,0,32,127,0,511] (fun i=>i==8) (fun _=>none) [⟨some 8,some 9,fun nd=>ptrTo (nd 8) [.int .i64 0,.int .i64 0,.int .i64 0,.int .i64 0] 29⟩,⟨some 9,none,fun nd=>ptrTo (nd 8) [.int .i64 p0,.int .i64 p1,.int .i64 p2,.int .i64 p3] 29⟩] [none,none,none] hS ?_
   intro nd
   repeat(first|(refine zc1 ?_)|(refine zcn ?_)|(apply AP7 (ek:=eS) (ev:=eP) (k:=who) it0 ⟨p0,p1,p2,p3⟩;rfl;kernel_rfl;(with_reducible rfl);rfl;rfl;rfl;(intro F;exact⟨_,by exact takO⟩);exact mP;exact kS;exact zP;rfl;exact Hx.out;(simp only[Act.put,fA,fB,fC,Nat.reduceAdd,eP,It.cells]))|(refine cR ?_))
   (refine zca ?_)
   (refine zct ?_)
   refine Ad7 ?_
   clear hS
   intro w hS
   have hS2:St W [ptrTo (nd 8) _ _,blk b _ _,blk vb _ _,amap eS eP mb p,sats R] w:=hS
   clear hS
   have hS:=hS2.unpack [_,_,_,_]
   clear hS2
   simp only[List.cons_append,List.nil_append]at hS
   generalize nd 8=v8 at *
   have h1:=hS.ptr;clear hS;obtain⟨b2,rfl,hS⟩:=h1
   go_wp2_with(first|(go_at_call 164;refine(AZ7 vb mb p who u1 u2 W _ R ⟨p0,p1,p2+n,p3⟩ (hS.s _)).mono ?_;clear hS;rintro e w ⟨rfl,hS⟩)|(refine zl1 hS ?_)|(refine zlN hS ?_)|(refine zs1 hS ?_;clear hS;intro w hS))
   go_end0
   exact⟨rfl,hS⟩
 ·by_cases hc:1152921504606846976<p3+n
  ·skip
   have e:giveP p who 3 n=layP p who ⟨p0,p1,p2,1152921504606846976⟩:=by unfold giveP giveI;rw[Hx.out];simp[setK,getK,capI,hc]
   rw[e]
   clear e
   go_enter Tryz.func170,Tryz.ntmps170
   go_wp2_with(first|(refine zbx hS ?_;clear hS;intro b w hS))
   refine rf3 [0,1,3,7,15,0,32,127,0,511] (fun i=>i==8) (fun _=>none) [⟨some 8,some 9,fun nd=>ptrTo (nd 8) [.int .i64 0,.int .i64 0,.int .i64 0,.int .i64 0] 29⟩,⟨some 9,none,fun nd=>ptrTo (nd 8) [.int .i64 p0,.int .i64 p1,.int .i64 p2,.int .i64 p3] 29⟩] [none,none,none] hS ?_
   intro nd
   repeat(first|(refine zc1 ?_)|(refine zcn ?_)|(apply AP7 (ek:=eS) (ev:=eP) (k:=who) it0 ⟨p0,p1,p2,p3⟩;rfl;kernel_rfl;(with_reducible rfl);rfl;rfl;rfl;(intro F;exact⟨_,by exact takO⟩);exact mP;exact kS;exact zP;rfl;exact Hx.out;(simp only[Act.put,fA,fB,fC,Nat.reduceAdd,eP,It.cells]))|(refine cR ?_))
   (refine zca ?_)
   (refine zct ?_)
   refine Ad7 ?_
   clear hS
   intro w hS
   have hS2:St W [ptrTo (nd 8) _ _,blk b _ _,blk vb _ _,amap eS eP mb p,sats R] w:=hS
   clear hS
   have hS:=hS2.unpack [_,_,_,_]
   clear hS2
   simp only[List.cons_append,List.nil_append]at hS
   generalize nd 8=v8 at *
   have h1:=hS.ptr;clear hS;obtain⟨b2,rfl,hS⟩:=h1
   go_wp2_with(first|(go_at_call 164;refine(AZ7 vb mb p who u1 u2 W _ R ⟨p0,p1,p2,1152921504606846976⟩ (hS.s _)).mono ?_;clear hS;rintro e w ⟨rfl,hS⟩)|(refine zl1 hS ?_)|(refine zlN hS ?_)|(refine zs1 hS ?_;clear hS;intro w hS))
   go_end0
   exact⟨rfl,hS⟩
  ·skip
   have e:giveP p who 3 n=layP p who ⟨p0,p1,p2,p3+n⟩:=by unfold giveP giveI;rw[Hx.out];simp[setK,getK,capI,hc]
   rw[e]
   clear e
   go_enter Tryz.func170,Tryz.ntmps170
   go_wp2_with(first|(refine zbx hS ?_;clear hS;intro b w hS))
   refine rf3 [0,1,3,7,15,0,32,127,0,511] (fun i=>i==8) (fun _=>none) [⟨some 8,some 9,fun nd=>ptrTo (nd 8) [.int .i64 0,.int .i64 0,.int .i64 0,.int .i64 0] 29⟩,⟨some 9,none,fun nd=>ptrTo (nd 8) [.int .i64 p0,.int .i64 p1,.int .i64 p2,.int .i64 p3] 29⟩] [none,none,none] hS ?_
   intro nd
   repeat(first|(refine zc1 ?_)|(refine zcn ?_)|(apply AP7 (ek:=eS) (ev:=eP) (k:=who) it0 ⟨p0,p1,p2,p3⟩;rfl;kernel_rfl;(with_reducible rfl);rfl;rfl;rfl;(intro F;exact⟨_,by exact takO⟩);exact mP;exact kS;exact zP;rfl;exact Hx.out;(simp only[Act.put,fA,fB,fC,Nat.reduceAdd,eP,It.cells]))|(refine cR ?_))
   (refine zca ?_)
   (refine zct ?_)
   refine Ad7 ?_
   clear hS
   intro w hS
   have hS2:St W [ptrTo (nd 8) _ _,blk b _ _,blk vb _ _,amap eS eP mb p,sats R] w:=hS
   clear hS
   have hS:=hS2.unpack [_,_,_,_]
   clear hS2
   simp only[List.cons_append,List.nil_append]at hS
   generalize nd 8=v8 at *
   have h1:=hS.ptr;clear hS;obtain⟨b2,rfl,hS⟩:=h1
   go_wp2_with(first|(go_at_call 164;refine(AZ7 vb mb p who u1 u2 W _ R ⟨p0,p1,p2,p3+n⟩ (hS.s _)).mono ?_;clear hS;rintro e w ⟨rfl,hS⟩)|(refine zl1 hS ?_)|(refine zlN hS ?_)|(refine zs1 hS ?_;clear hS;intro w hS))
   go_end0
   exact⟨rfl,hS⟩
end Go.Proofs.YtlmhakmoioogaaaGreat
end
