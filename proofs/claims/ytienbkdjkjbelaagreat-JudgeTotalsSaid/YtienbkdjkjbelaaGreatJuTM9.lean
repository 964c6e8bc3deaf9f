/-
  What an order holds.
-/
import Derived.Test.YtienbkdjkjbelaaGreatJuTM5
import Derived.Test.YtienbkdjkjbelaaGreatJuTM8
set_option maxHeartbeats 16000000
set_option maxRecDepth 100000
set_option linter.unusedSimpArgs false
set_option linter.unusedVariables false
section
namespace Go.Proofs.YtienbkdjkjbelaaGreat
open Go.RowKit Go.Sl
def r7(i:It)(k:Int):Int:=if k=0 then i.x0 else if k=1 then i.x1 else if k=2 then i.x2 else i.x3
def aE4(i:It)(k n:Int):It:=if k=0 then⟨n,i.x1,i.x2,i.x3⟩else if k=1 then⟨i.x0,n,i.x2,i.x3⟩else if k=2 then⟨i.x0,i.x1,n,i.x3⟩else⟨i.x0,i.x1,i.x2,n⟩
def j5(o:Ord):It:=if o.buy=true then⟨o.cnt*o.price,0,0,0⟩else aE4 it0 o.item o.cnt
theorem BN7{a b:Int}(h1:0<=a)(h2:a<=1048576)(h3:0<=b)(h4:b<=1024):0<=a*b/\a*b<=1073741824:=by refine⟨Int.mul_nonneg h1 h3,?_⟩;have:=Int.mul_le_mul h2 h4 h3 (by omega);omega
theorem Kg7(o:Ord)(hm:MayP o)(W w:World)(R:List HP)(hS:St W R w):
  Calls Tryz.prog 117 #[.agg o.cells.toArray] w fun e w'=>e=.returned (.agg (j5 o).cells.toArray)/\St W R w':=by
 have h1:=hm.item0;have h2:=hm.item1;have h3:=BN7 (by have:=hm.cnt0;omega) hm.cnt1 (by have:=hm.price0;omega) hm.price1;obtain⟨i,u,y,t,c,pr⟩:=o;simp only at h1 h2 h3;clear hm
 cases y with
 | true=>
  have e:j5 ⟨i,u,true,t,c,pr⟩=⟨c*pr,0,0,0⟩:=rfl;rw[e];simp only[Ord.cells,It.cells];have h4:c*pr<=9223372036854775807:=by omega
  have h5 : -9223372036854775808<=c*pr:=by omega
  clear e h1 h2;go_enter Tryz.func117,Tryz.ntmps117;go_wp2_with(first|refine zl1 hS ?_|refine zlN hS ?_|refine zs1 hS ?_;clear hS;intro w hS|refine zsN hS ?_;clear hS;intro w hS|refine zbx hS ?_;clear hS;intro b w hS|refine zal hS ?_;clear hS;intro b w hS);apply Ap7;rfl;rfl;rfl;exact hS;decide +kernel;(exact r6);kernel_rfl;exact⟨rfl,hS.s _⟩
 | false=>
  have ht:t=1\/t=2\/t=3:=by omega
  rcases ht with rfl|rfl|rfl
  ·have e:j5 ⟨i,u,false,1,c,pr⟩=⟨0,c,0,0⟩:=rfl;rw[e];simp only[Ord.cells,It.cells];clear e h1 h2 h3;go_enter Tryz.func117,Tryz.ntmps117;go_wp2_with(first|refine zl1 hS ?_|refine zlN hS ?_|refine zs1 hS ?_;clear hS;intro w hS|refine zsN hS ?_;clear hS;intro w hS|refine zbx hS ?_;clear hS;intro b w hS|refine zal hS ?_;clear hS;intro b w hS);apply Ap7;rfl;rfl;rfl;exact hS;decide +kernel;(exact r6);kernel_rfl;exact⟨rfl,hS.s _⟩
  ·have e:j5 ⟨i,u,false,2,c,pr⟩=⟨0,0,c,0⟩:=rfl;rw[e];simp only[Ord.cells,It.cells];clear e h1 h2 h3;go_enter Tryz.func117,Tryz.ntmps117;go_wp2_with(first|refine zl1 hS ?_|refine zlN hS ?_|refine zs1 hS ?_;clear hS;intro w hS|refine zsN hS ?_;clear hS;intro w hS|refine zbx hS ?_;clear hS;intro b w hS|refine zal hS ?_;clear hS;intro b w hS);apply Ap7;rfl;rfl;rfl;exact hS;decide +kernel;(exact r6);kernel_rfl;exact⟨rfl,hS.s _⟩
  ·have e:j5 ⟨i,u,false,3,c,pr⟩=⟨0,0,0,c⟩:=rfl;rw[e];simp only[Ord.cells,It.cells];clear e h1 h2 h3;go_enter Tryz.func117,Tryz.ntmps117;go_wp2_with(first|refine zl1 hS ?_|refine zlN hS ?_|refine zs1 hS ?_;clear hS;intro w hS|refine zsN hS ?_;clear hS;intro w hS|refine zbx hS ?_;clear hS;intro b w hS|refine zal hS ?_;clear hS;intro b w hS);apply Ap7;rfl;rfl;rfl;exact hS;decide +kernel;(exact r6);kernel_rfl;exact⟨rfl,hS.s _⟩
def P8(a:Int):Int:=if 1152921504606846976<a then 1152921504606846976 else a
def aj4(i:It)(k n:Int):It:=aE4 i k (P8 (r7 i k+n))
def l5(p:Ps)(who:ByteArray)(k n:Int):Ps:=G9 p who (aj4 (j8 p who) k n)
abbrev tB8a:List Nat:=[0,1,3,7,15,0,32,127,0,511]
theorem Cs7(vb mb:Nat)(p:Ps)(who:ByteArray)(k n:Int)(u1 u2:Value)(hx:s6 (j8 p who)=true)(hk:0<=k/\k<=3)(hn:0<=n/\n<=1152921504606846976)(W w:World)(R:List HP)(hS:St W (blk vb [.map (some mb),u1,u2] 215::d9 eS eP mb p::R) w):
  Calls Tryz.prog 151 #[.agg #[.P vb,.string who],.I k,.I n] w fun e w'=>e=.returned (.tuple #[])/\St W (blk vb [.map (some mb),u1,u2] 215::d9 eS eP mb (l5 p who k n)::R) w':=by
 obtain⟨px,hp⟩:∃x,j8 p who=x:=⟨_,rfl⟩
 rw[hp]at hx;obtain⟨p0,p1,p2,p3⟩:=px;have Hx:=jH hp;clear hp;obtain⟨a0,a1,a2,a3⟩:=Ag7.1 hx;simp only at a0 a1 a2 a3;clear hx;have hk4:k=0\/k=1\/k=2\/k=3:=by omega
 rcases hk4 with rfl|rfl|rfl|rfl
 ·by_cases hc:1152921504606846976<p0+n
  ·skip
   have e:l5 p who 0 n=G9 p who ⟨1152921504606846976,p1,p2,p3⟩:=by unfold l5 aj4;rw[Hx.out];simp[aE4,r7,P8,hc]
   rw[e];clear e;go_enter Tryz.func151,Tryz.ntmps151;go_wp2_with(first|refine zbx hS ?_;clear hS;intro b w hS);refine rf3 tB8a (fun i=>i==8) (fun _=>none) [⟨some 8,some 9,fun nd=>i8 (nd 8) [.I 0,.I 0,.I 0,.I 0] 34⟩,⟨some 9,none,fun nd=>i8 (nd 8) [.I p0,.I p1,.I p2,.I p3] 34⟩] [none,none,none] hS ?_;intro nd
   repeat(first|refine zc1 ?_|refine zcn ?_|apply AJ7 (ek:=eS) (ev:=eP) (k:=who) it0 ⟨p0,p1,p2,p3⟩;rfl;kernel_rfl;rfl;rfl;rfl;rfl;intro F;exact⟨_,by exact A6⟩;exact mP;exact kS;exact zP;rfl;exact Hx.out;simp only[Act.put,fA,fB,fC,Nat.reduceAdd,eP,It.cells]|refine cR ?_)
   (refine zca ?_);refine zct ?_;refine Ad7 ?_;clear hS;intro w hS;have hS2:St W [i8 (nd 8) _ _,blk b _ _,blk vb _ _,d9 eS eP mb p,sats R] w:=hS;clear hS;have hS:=hS2.unpack [_,_,_,_];clear hS2;simp only[jK,jN]at hS;generalize nd 8=v8 at *;have h1:=hS.ptr;clear hS;obtain⟨b2,rfl,hS⟩:=h1;go_wp2_with(first|go_at_call 146;refine(AR7 vb mb p who u1 u2 W _ R ⟨1152921504606846976,p1,p2,p3⟩ (hS.s _)).mono ?_;clear hS;rintro e w ⟨rfl,hS⟩|refine zl1 hS ?_|refine zlN hS ?_|refine zs1 hS ?_;clear hS;intro w hS);go_end0;exact⟨rfl,hS⟩
  ·skip
   have e:l5 p who 0 n=G9 p who ⟨p0+n,p1,p2,p3⟩:=by unfold l5 aj4;rw[Hx.out];simp[aE4,r7,P8,hc]
   rw[e];clear e;go_enter Tryz.func151,Tryz.ntmps151;go_wp2_with(first|refine zbx hS ?_;clear hS;intro b w hS);refine rf3 tB8a (fun i=>i==8) (fun _=>none) [⟨some 8,some 9,fun nd=>i8 (nd 8) [.I 0,.I 0,.I 0,.I 0] 34⟩,⟨some 9,none,fun nd=>i8 (nd 8) [.I p0,.I p1,.I p2,.I p3] 34⟩] [none,none,none] hS ?_;intro nd
   repeat(first|refine zc1 ?_|refine zcn ?_|apply AJ7 (ek:=eS) (ev:=eP) (k:=who) it0 ⟨p0,p1,p2,p3⟩;rfl;kernel_rfl;rfl;rfl;rfl;rfl;intro F;exact⟨_,by exact A6⟩;exact mP;exact kS;exact zP;rfl;exact Hx.out;simp only[Act.put,fA,fB,fC,Nat.reduceAdd,eP,It.cells]|refine cR ?_)
   (refine zca ?_);refine zct ?_;refine Ad7 ?_;clear hS;intro w hS;have hS2:St W [i8 (nd 8) _ _,blk b _ _,blk vb _ _,d9 eS eP mb p,sats R] w:=hS;clear hS;have hS:=hS2.unpack [_,_,_,_];clear hS2;simp only[jK,jN]at hS;generalize nd 8=v8 at *;have h1:=hS.ptr;clear hS;obtain⟨b2,rfl,hS⟩:=h1;go_wp2_with(first|go_at_call 146;refine(AR7 vb mb p who u1 u2 W _ R ⟨p0+n,p1,p2,p3⟩ (hS.s _)).mono ?_;clear hS;rintro e w ⟨rfl,hS⟩|refine zl1 hS ?_|refine zlN hS ?_|refine zs1 hS ?_;clear hS;intro w hS);go_end0;exact⟨rfl,hS⟩
 ·by_cases hc:1152921504606846976<p1+n
  ·skip
   have e:l5 p who 1 n=G9 p who ⟨p0,1152921504606846976,p2,p3⟩:=by unfold l5 aj4;rw[Hx.out];simp[aE4,r7,P8,hc]
   rw[e];clear e;go_enter Tryz.func151,Tryz.ntmps151;go_wp2_with(first|refine zbx hS ?_;clear hS;intro b w hS);refine rf3 tB8a (fun i=>i==8) (fun _=>none) [⟨some 8,some 9,fun nd=>i8 (nd 8) [.I 0,.I 0,.I 0,.I 0] 34⟩,⟨some 9,none,fun nd=>i8 (nd 8) [.I p0,.I p1,.I p2,.I p3] 34⟩] [none,none,none] hS ?_;intro nd
   repeat(first|refine zc1 ?_|refine zcn ?_|apply AJ7 (ek:=eS) (ev:=eP) (k:=who) it0 ⟨p0,p1,p2,p3⟩;rfl;kernel_rfl;rfl;rfl;rfl;rfl;intro F;exact⟨_,by exact A6⟩;exact mP;exact kS;exact zP;rfl;exact Hx.out;simp only[Act.put,fA,fB,fC,Nat.reduceAdd,eP,It.cells]|refine cR ?_)
   (refine zca ?_);refine zct ?_;refine Ad7 ?_;clear hS;intro w hS;have hS2:St W [i8 (nd 8) _ _,blk b _ _,blk vb _ _,d9 eS eP mb p,sats R] w:=hS;clear hS;have hS:=hS2.unpack [_,_,_,_];clear hS2;simp only[jK,jN]at hS;generalize nd 8=v8 at *;have h1:=hS.ptr;clear hS;obtain⟨b2,rfl,hS⟩:=h1;go_wp2_with(first|go_at_call 146;refine(AR7 vb mb p who u1 u2 W _ R ⟨p0,1152921504606846976,p2,p3⟩ (hS.s _)).mono ?_;clear hS;rintro e w ⟨rfl,hS⟩|refine zl1 hS ?_|refine zlN hS ?_|refine zs1 hS ?_;clear hS;intro w hS);go_end0;exact⟨rfl,hS⟩
  ·skip
   have e:l5 p who 1 n=G9 p who ⟨p0,p1+n,p2,p3⟩:=by unfold l5 aj4;rw[Hx.out];simp[aE4,r7,P8,hc]
   rw[e];clear e;go_enter Tryz.func151,Tryz.ntmps151;go_wp2_with(first|refine zbx hS ?_;clear hS;intro b w hS);refine rf3 tB8a (fun i=>i==8) (fun _=>none) [⟨some 8,some 9,fun nd=>i8 (nd 8) [.I 0,.I 0,.I 0,.I 0] 34⟩,⟨some 9,none,fun nd=>i8 (nd 8) [.I p0,.I p1,.I p2,.I p3] 34⟩] [none,none,none] hS ?_;intro nd
   repeat(first|refine zc1 ?_|refine zcn ?_|apply AJ7 (ek:=eS) (ev:=eP) (k:=who) it0 ⟨p0,p1,p2,p3⟩;rfl;kernel_rfl;rfl;rfl;rfl;rfl;intro F;exact⟨_,by exact A6⟩;exact mP;exact kS;exact zP;rfl;exact Hx.out;simp only[Act.put,fA,fB,fC,Nat.reduceAdd,eP,It.cells]|refine cR ?_)
   (refine zca ?_);refine zct ?_;refine Ad7 ?_;clear hS;intro w hS;have hS2:St W [i8 (nd 8) _ _,blk b _ _,blk vb _ _,d9 eS eP mb p,sats R] w:=hS;clear hS;have hS:=hS2.unpack [_,_,_,_];clear hS2;simp only[jK,jN]at hS;generalize nd 8=v8 at *;have h1:=hS.ptr;clear hS;obtain⟨b2,rfl,hS⟩:=h1;go_wp2_with(first|go_at_call 146;refine(AR7 vb mb p who u1 u2 W _ R ⟨p0,p1+n,p2,p3⟩ (hS.s _)).mono ?_;clear hS;rintro e w ⟨rfl,hS⟩|refine zl1 hS ?_|refine zlN hS ?_|refine zs1 hS ?_;clear hS;intro w hS);go_end0;exact⟨rfl,hS⟩
 ·by_cases hc:1152921504606846976<p2+n
  ·skip
   have e:l5 p who 2 n=G9 p who ⟨p0,p1,1152921504606846976,p3⟩:=by unfold l5 aj4;rw[Hx.out];simp[aE4,r7,P8,hc]
   rw[e];clear e;go_enter Tryz.func151,Tryz.ntmps151;go_wp2_with(first|refine zbx hS ?_;clear hS;intro b w hS);refine rf3 tB8a (fun i=>i==8) (fun _=>none) [⟨some 8,some 9,fun nd=>i8 (nd 8) [.I 0,.I 0,.I 0,.I 0] 34⟩,⟨some 9,none,fun nd=>i8 (nd 8) [.I p0,.I p1,.I p2,.I p3] 34⟩] [none,none,none] hS ?_;intro nd
   repeat(first|refine zc1 ?_|refine zcn ?_|apply AJ7 (ek:=eS) (ev:=eP) (k:=who) it0 ⟨p0,p1,p2,p3⟩;rfl;kernel_rfl;rfl;rfl;rfl;rfl;intro F;exact⟨_,by exact A6⟩;exact mP;exact kS;exact zP;rfl;exact Hx.out;simp only[Act.put,fA,fB,fC,Nat.reduceAdd,eP,It.cells]|refine cR ?_)
   (refine zca ?_);refine zct ?_;refine Ad7 ?_;clear hS;intro w hS;have hS2:St W [i8 (nd 8) _ _,blk b _ _,blk vb _ _,d9 eS eP mb p,sats R] w:=hS;clear hS;have hS:=hS2.unpack [_,_,_,_];clear hS2;simp only[jK,jN]at hS;generalize nd 8=v8 at *;have h1:=hS.ptr;clear hS;obtain⟨b2,rfl,hS⟩:=h1;go_wp2_with(first|go_at_call 146;refine(AR7 vb mb p who u1 u2 W _ R ⟨p0,p1,1152921504606846976,p3⟩ (hS.s _)).mono ?_;clear hS;rintro e w ⟨rfl,hS⟩|refine zl1 hS ?_|refine zlN hS ?_|refine zs1 hS ?_;clear hS;intro w hS);go_end0;exact⟨rfl,hS⟩
  ·skip
   have e:l5 p who 2 n=G9 p who ⟨p0,p1,p2+n,p3⟩:=by unfold l5 aj4;rw[Hx.out];simp[aE4,r7,P8,hc]
   rw[e];clear e;go_enter Tryz.func151,Tryz.ntmps151;go_wp2_with(first|refine zbx hS ?_;clear hS;intro b w hS);refine rf3 tB8a (fun i=>i==8) (fun _=>none) [⟨some 8,some 9,fun nd=>i8 (nd 8) [.I 0,.I 0,.I 0,.I 0] 34⟩,⟨some 9,none,fun nd=>i8 (nd 8) [.I p0,.I p1,.I p2,.I p3] 34⟩] [none,none,none] hS ?_;intro nd
   repeat(first|refine zc1 ?_|refine zcn ?_|apply AJ7 (ek:=eS) (ev:=eP) (k:=who) it0 ⟨p0,p1,p2,p3⟩;rfl;kernel_rfl;rfl;rfl;rfl;rfl;intro F;exact⟨_,by exact A6⟩;exact mP;exact kS;exact zP;rfl;exact Hx.out;simp only[Act.put,fA,fB,fC,Nat.reduceAdd,eP,It.cells]|refine cR ?_)
   (refine zca ?_);refine zct ?_;refine Ad7 ?_;clear hS;intro w hS;have hS2:St W [i8 (nd 8) _ _,blk b _ _,blk vb _ _,d9 eS eP mb p,sats R] w:=hS;clear hS;have hS:=hS2.unpack [_,_,_,_];clear hS2;simp only[jK,jN]at hS;generalize nd 8=v8 at *;have h1:=hS.ptr;clear hS;obtain⟨b2,rfl,hS⟩:=h1;go_wp2_with(first|go_at_call 146;refine(AR7 vb mb p who u1 u2 W _ R ⟨p0,p1,p2+n,p3⟩ (hS.s _)).mono ?_;clear hS;rintro e w ⟨rfl,hS⟩|refine zl1 hS ?_|refine zlN hS ?_|refine zs1 hS ?_;clear hS;intro w hS);go_end0;exact⟨rfl,hS⟩
 ·by_cases hc:1152921504606846976<p3+n
  ·skip
   have e:l5 p who 3 n=G9 p who ⟨p0,p1,p2,1152921504606846976⟩:=by unfold l5 aj4;rw[Hx.out];simp[aE4,r7,P8,hc]
   rw[e];clear e;go_enter Tryz.func151,Tryz.ntmps151;go_wp2_with(first|refine zbx hS ?_;clear hS;intro b w hS);refine rf3 tB8a (fun i=>i==8) (fun _=>none) [⟨some 8,some 9,fun nd=>i8 (nd 8) [.I 0,.I 0,.I 0,.I 0] 34⟩,⟨some 9,none,fun nd=>i8 (nd 8) [.I p0,.I p1,.I p2,.I p3] 34⟩] [none,none,none] hS ?_;intro nd
   repeat(first|refine zc1 ?_|refine zcn ?_|apply AJ7 (ek:=eS) (ev:=eP) (k:=who) it0 ⟨p0,p1,p2,p3⟩;rfl;kernel_rfl;rfl;rfl;rfl;rfl;intro F;exact⟨_,by exact A6⟩;exact mP;exact kS;exact zP;rfl;exact Hx.out;simp only[Act.put,fA,fB,fC,Nat.reduceAdd,eP,It.cells]|refine cR ?_)
   (refine zca ?_);refine zct ?_;refine Ad7 ?_;clear hS;intro w hS;have hS2:St W [i8 (nd 8) _ _,blk b _ _,blk vb _ _,d9 eS eP mb p,sats R] w:=hS;clear hS;have hS:=hS2.unpack [_,_,_,_];clear hS2;simp only[jK,jN]at hS;generalize nd 8=v8 at *;have h1:=hS.ptr;clear hS;obtain⟨b2,rfl,hS⟩:=h1;go_wp2_with(first|go_at_call 146;refine(AR7 vb mb p who u1 u2 W _ R ⟨p0,p1,p2,1152921504606846976⟩ (hS.s _)).mono ?_;clear hS;rintro e w ⟨rfl,hS⟩|refine zl1 hS ?_|refine zlN hS ?_|refine zs1 hS ?_;clear hS;intro w hS);go_end0;exact⟨rfl,hS⟩
  ·skip
   have e:l5 p who 3 n=G9 p who ⟨p0,p1,p2,p3+n⟩:=by unfold l5 aj4;rw[Hx.out];simp[aE4,r7,P8,hc]
   rw[e];clear e;go_enter Tryz.func151,Tryz.ntmps151;go_wp2_with(first|refine zbx hS ?_;clear hS;intro b w hS);refine rf3 tB8a (fun i=>i==8) (fun _=>none) [⟨some 8,some 9,fun nd=>i8 (nd 8) [.I 0,.I 0,.I 0,.I 0] 34⟩,⟨some 9,none,fun nd=>i8 (nd 8) [.I p0,.I p1,.I p2,.I p3] 34⟩] [none,none,none] hS ?_;intro nd
   repeat(first|refine zc1 ?_|refine zcn ?_|apply AJ7 (ek:=eS) (ev:=eP) (k:=who) it0 ⟨p0,p1,p2,p3⟩;rfl;kernel_rfl;rfl;rfl;rfl;rfl;intro F;exact⟨_,by exact A6⟩;exact mP;exact kS;exact zP;rfl;exact Hx.out;simp only[Act.put,fA,fB,fC,Nat.reduceAdd,eP,It.cells]|refine cR ?_)
   (refine zca ?_);refine zct ?_;refine Ad7 ?_;clear hS;intro w hS;have hS2:St W [i8 (nd 8) _ _,blk b _ _,blk vb _ _,d9 eS eP mb p,sats R] w:=hS;clear hS;have hS:=hS2.unpack [_,_,_,_];clear hS2;simp only[jK,jN]at hS;generalize nd 8=v8 at *;have h1:=hS.ptr;clear hS;obtain⟨b2,rfl,hS⟩:=h1;go_wp2_with(first|go_at_call 146;refine(AR7 vb mb p who u1 u2 W _ R ⟨p0,p1,p2,p3+n⟩ (hS.s _)).mono ?_;clear hS;rintro e w ⟨rfl,hS⟩|refine zl1 hS ?_|refine zlN hS ?_|refine zs1 hS ?_;clear hS;intro w hS);go_end0;exact⟨rfl,hS⟩
def F7{α:Type}(xs:List α)(i j:Nat)(hi:i<xs.length)(hj:j<xs.length):List α:=(xs.set i xs[j]).set j xs[i]
theorem Ct7(b:Option Addr)(n cap:Nat)(W w:World)(L:List HP)(hS:St W L w):
  Calls Tryz.prog 254 #[.slice b n cap] w fun e w'=>e=.returned (.I n)/\St W L w':=by
 go_enter Tryz.func254,Tryz.ntmps254;go_wp2_with(fail);go_ret;exact⟨rfl,hS⟩
theorem Bu7(xs:List Ord)(junk:List Value)(g n cap i j:Nat)(hn:xs.length=n)(hi:i<xs.length)(hj:j<xs.length)(hcap:n<=cap)(hm:cap<=maxLen)(W w:World)(L:List HP)(hS:St W (blk g (xs.flatMap Ord.cells++junk) 173::L) w):
  Calls Tryz.prog 258 #[.S g n cap,.I i,.I j] w fun e w'=>e=.returned (.tuple #[])/\St W (blk g ((F7 xs i j hi hj).flatMap Ord.cells++junk) 173::L) w':=by
 subst hn;unfold maxLen at hm;go_enter Tryz.func258,Tryz.ntmps258;go_wp2_with(fail)
 refine rf2 [0,0,0,0,0,0,48,112,0,0,768,1792,4083,8179,16383,32767] (fun i=>false) [⟨some 13,some 15,fun nd=>blk g ((xs.set i xs[j]).flatMap Ord.cells++junk) 173⟩,⟨some 15,none,fun nd=>blk g ((F7 xs i j hi hj).flatMap Ord.cells++junk) 173⟩]
  [some 13] hS ?_
 intro nd
 iterate 7 (refine cR ?_)
 (refine zcN ?_ (hc:=by(intro F;exact d8.elem Ord.len hj)))
 iterate 3 (refine cR ?_)
 (refine zcN ?_ (hc:=by(intro F;exact d8.elem Ord.len hi)));refine cR ?_;have hlt:∀k,k<xs.length->k*6+6<=xs.length*6:=fun k hk=>by omega
 have hfl:=Ab7 Ord.len xs;have hfl2:=Ab7 Ord.len (xs.set i xs[j]);rw[List.length_set]at hfl2;(apply cR4 (vs:=xs[j].cells);rfl;rfl;rfl;rfl;(focus((conv=>lhs;whnf);try rfl));rfl;kernel_rfl;rfl;rfl;(rw[jA,hfl,Ord.len];have:=hlt i hi;omega);exact Gi7 Ord.len xs junk i hi xs[j];rfl;try(refine frS ?_));refine cR ?_;(apply cR4 (vs:=xs[i].cells);rfl;rfl;rfl;rfl;(focus((conv=>lhs;whnf);try rfl));rfl;kernel_rfl;rfl;rfl;(rw[jA,hfl2,Ord.len];have:=hlt j hj;omega);exact Gi7 Ord.len (xs.set i xs[j]) junk j (by simpa using hj) xs[i];rfl;try(refine frS ?_));refine Ad7 ?_;clear hS;intro w hS;have hS:St W [blk g ((F7 xs i j hi hj).flatMap Ord.cells++junk) _,sats L] w:=hS;replace hS:=hS.unpack [_];simp only[jK,jN]at hS;go_wp2_with(fail);go_end0;exact⟨rfl,hS⟩
theorem Hg7(xs:List Ord)(junk:List Value)(l:List Value)(T:TypeId)(bb off g n cap:Nat)(hn:xs.length=n+1)(hcap:n+1<=cap)(hm:cap<=maxLen)(hl:l[off]? = some (.S g (n+1) cap))(W w:World)(L:List HP)
  (hS:St W (blk bb l T::blk g (xs.flatMap Ord.cells++junk) 173::L) w):
  Calls Tryz.prog 256 #[.pointer (some ⟨bb,off,none⟩)] w fun e w'=>e=.returned (.iface 173 (.agg (xs[n]'(by omega)).cells.toArray))/\St W (blk bb (l.set off (.S g n cap)) T::blk g (xs.flatMap Ord.cells++junk) 173::L) w':=by
 unfold maxLen at hm;have hn':n<xs.length:=by omega
 have hlt:off<l.length:=(List.getElem?_eq_some_iff.1 hl).1;generalize hx:xs[n]=x;have Hx:=jH hx;clear hx;obtain⟨i1,u1,y1,t1,c1,p1⟩:=x;simp only[Ord.cells];have hS:St W (blk bb l T::blk g (xs.flatMap Ord.cells++junk) 173::L) w:=hS;go_enter Tryz.func256,Tryz.ntmps256;go_wp2_with(first|refine zl1 hS ?_ (hc:=by exact i6.here hl)|refine zlN hS ?_ (hc:=by exact(d8.there (d8.elemEq Ord.len hn' Hx.out):d8 _ _ _ [.I i1,.string u1,.bool y1,.I t1,.I c1,.I p1]))|((with_reducible apply GN7 hS);rfl;rfl;rfl;(focus((conv=>lhs;whnf);try rfl));kernel_rfl;rfl;rfl;exact cI4;exact hlt;rfl;clear hS;intro w hS;try(refine frS ?_))|refine zlN hS ?_|refine zsN hS ?_;clear hS;intro w hS|refine zal hS ?_;clear hS;intro b w hS);go_ret;exact⟨rfl,hS.drop⟩
theorem Kh7(xs:List Ord)(o:Ord)(l:List Value)(T:TypeId)(bb off n:Nat)(v:Value)(hn:xs.length=n)(h63:n<=4294967296)(hl:l[off]? = some v)(W w:World)(L:List HP)
  (hS:St W (blk bb l T::row v 6 173 n (xs.flatMap Ord.cells)::L) w):
  Calls Tryz.prog 257 #[.pointer (some ⟨bb,off,none⟩),.iface 173 (.agg o.cells.toArray)] w fun e w'=>∃v',e=.returned (.tuple #[])/\St W (blk bb (l.set off v') T::row v' 6 173 (n+1) ((xs++[o]).flatMap Ord.cells)::L) w':=by
 have hlt:off<l.length:=(List.getElem?_eq_some_iff.1 hl).1;obtain⟨i1,u1,y1,t1,c1,p1⟩:=o;simp only[Ord.cells];have hta:=Pk7;go_enter Tryz.func257,Tryz.ntmps257;go_wp2_with(fail)
 refine rf2 [0,0,2,6,0,16,48,126,255,511] (fun i=>i==6||i==7) [⟨some 6,none,fun nd=>L8 (nd 6) 1 1 [.I i1,.string u1,.bool y1,.I t1,.I c1,.I p1] 173⟩,⟨some 7,none,fun nd=>row (nd 7) 6 173 (n+1) (xs.flatMap Ord.cells++[.I i1,.string u1,.bool y1,.I t1,.I c1,.I p1])⟩,⟨some 9,none,fun nd=>blk bb (l.set off (nd 7)) T⟩]
  [some 9,some 7] hS ?_
 intro nd;refine cR ?_;refine cR ?_;refine zcn ?_;apply Pj7;rfl;kernel_rfl;rfl;rfl;rfl;decide +kernel;intro F;exact i6.here hl;refine frS ?_;refine cR ?_;refine cR ?_;apply aC4;rfl;rfl;rfl;(focus(simp only[fD,fI,fJ,Act.eval,fE,fF,fG,fH,fK];try rfl));(exact esS);(exact rsS);rfl;rfl;rfl;rfl;(intro _;rfl);rfl;(intro _;rfl);(refine frS ?_);apply Ai7;rfl;rfl;rfl;(focus((conv=>lhs;whnf);try rfl));(focus((conv=>lhs;whnf);try rfl));(exact esS);(exact rsS);rfl;decide;rfl;(intro F w hS;exact AC7 hS (by exact A6));(focus(try rfl));rfl;(focus(unfold maxLen;omega));(focus(omega));(intro _;rfl);(intro _;rfl);(refine frS ?_);refine zcn ?_;(apply Jo7;rfl;rfl;rfl;rfl;(focus((conv=>lhs;whnf);try rfl));kernel_rfl;rfl;intro F w hS;exact hS.rowOne (by exact A6);(focus(exact hlt));rfl;rfl;try(refine frS ?_));refine Ad7 ?_;clear hS;intro w hS;have hS:St W [L8 (nd 6) 1 1 _ _,row (nd 7) 6 _ (n+1) _,blk bb (l.set off (nd 7)) T,sats L] w:=hS;generalize nd 7=v7 at *;replace hS:=hS.drop.swap.unpack [_,_];simp only[jK,jN]at hS;go_wp2_with(fail);go_end0;refine⟨v7,rfl,?_⟩;rw[List.flatMap_append];exact hS
end Go.Proofs.YtienbkdjkjbelaaGreat
end
