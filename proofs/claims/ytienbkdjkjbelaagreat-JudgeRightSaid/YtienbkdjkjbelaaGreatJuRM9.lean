/-
  The vault's Put and Take.
-/
import Derived.Test.YtienbkdjkjbelaaGreatJuRM5
import Derived.Test.YtienbkdjkjbelaaGreatJuRM8
set_option maxHeartbeats 16000000
set_option maxRecDepth 100000
set_option linter.unusedSimpArgs false
set_option linter.unusedVariables false
section
namespace Go.Proofs.YtienbkdjkjbelaaGreat
open Go.RowKit Go.Sl
def J8(p:Ps)(k:ByteArray)(i:It):Int:=if x9 k=true/\s8 i=true then(if(J7 [j7 p k,i] it0).isSome=true then 0 else 6)else 1
def G8(p:Ps)(k:ByteArray)(i:It):Ps:=if x9 k=true/\s8 i=true then(match J7 [j7 p k,i] it0 with|some s=>E7 p k s|none=>p)else p
def m9(p:Ps)(k:ByteArray)(i:It):Int:=if x9 k=true/\s8 i=true then(if G6 (j7 p k) i=true then 0 else 14)else 1
def s5(p:Ps)(k:ByteArray)(i:It):Ps:=if x9 k=true/\s8 i=true then(if G6 (j7 p k) i=true then E7 p k (bb4 (j7 p k) i)else p)else p
section
variable(vb mb:Nat)(p:Ps)(k:ByteArray)(u1 u2:Value)(i:It)(W w:World)(R:List HP)
abbrev tB8b:List Nat:=[0,1,3,7,0,31,0,127,255,511,1023,1023,0,6143,16383]
theorem LG7(hS:St W (blk vb [.map (some mb),u1,u2] 215::d9 eS eP mb p::R) w):
  Calls Tryz.prog 110 #[.P vb,.string k,.agg i.cells.toArray] w fun e w'=>e=.returned (.I (J8 p k i))/\St W (blk vb [.map (some mb),u1,u2] 215::d9 eS eP mb (G8 p k i)::R) w':=by
 obtain⟨x0,x1,x2,x3⟩:=i
 cases hk:x9 k with
 | false=>
  have e1:J8 p k ⟨x0,x1,x2,x3⟩=1:=by simp[J8,hk]
  have e2:G8 p k ⟨x0,x1,x2,x3⟩=p:=by simp[G8,hk]
  rw[e1,e2];clear e1 e2;simp only[It.cells];go_enter Tryz.func110,Tryz.ntmps110;go_wp2_with(first|go_big_skip|go_at_call 145;refine(BA7 k W _ _ hS).mono ?_;clear hS;rw[hk];rintro e w ⟨rfl,hS⟩|refine zbx hS ?_;clear hS;intro b w hS);go_ret;exact⟨rfl,hS.drop⟩
 | true=>
  cases hi:s8 ⟨x0,x1,x2,x3⟩with
  | false=>
   have e1:J8 p k ⟨x0,x1,x2,x3⟩=1:=by simp[J8,hk,hi]
   have e2:G8 p k ⟨x0,x1,x2,x3⟩=p:=by simp[G8,hk,hi]
   rw[e1,e2];clear e1 e2;simp only[It.cells];go_enter Tryz.func110,Tryz.ntmps110;go_wp2_with(first|go_at_call 145;refine(BA7 k W _ _ hS).mono ?_;clear hS;rw[hk];rintro e w ⟨rfl,hS⟩|go_at_call 75;refine(as4 _ _ _ _ W _ _ hS).mono ?_;clear hS;rw[hi];rintro e w ⟨rfl,hS⟩|refine zlN hS ?_|refine zbx hS ?_;clear hS;intro b w hS);go_ret;exact⟨rfl,hS.drop⟩
  | true=>
   obtain⟨px,hx⟩:∃x,j7 p k=x:=⟨_,rfl⟩
   obtain⟨p0,p1,p2,p3⟩:=px
   cases ha:J7 [⟨p0,p1,p2,p3⟩,⟨x0,x1,x2,x3⟩] it0 with
   | none=>
    have e1:J8 p k ⟨x0,x1,x2,x3⟩=6:=by simp[J8,hk,hi,hx,ha]
    have e2:G8 p k ⟨x0,x1,x2,x3⟩=p:=by simp[G8,hk,hi,hx,ha]
    rw[e1,e2];have Hx:=jH hx;have Ha:=jH ha;clear ha hx e1 e2;simp only[It.cells];go_enter Tryz.func110,Tryz.ntmps110;go_wp2_with(first|go_at_call 145;refine(BA7 k W _ _ hS).mono ?_;clear hS;rw[hk];rintro e w ⟨rfl,hS⟩|go_at_call 75;refine(as4 _ _ _ _ W _ _ hS).mono ?_;clear hS;rw[hi];rintro e w ⟨rfl,hS⟩|refine zlN hS ?_|refine zbx hS ?_;clear hS;intro b w hS);refine rf3 tB8b (fun i=>i==7||i==12) (fun i=>if i==8 then some (.tuple #[.agg #[.I 0,.I 0,.I 0,.I 0],.bool false])else none) [⟨some 7,some 8,fun nd=>row (nd 7) 4 34 2 ([(⟨p0,p1,p2,p3⟩:It),⟨x0,x1,x2,x3⟩].flatMap It.cells)⟩,⟨some 12,some 13,fun nd=>i8 (nd 12) [.I 0,.I 0,.I 0,.I 0] 34⟩,⟨some 13,none,fun nd=>i8 (nd 12) [.I 0,.I 0,.I 0,.I 0] 34⟩] [none,none,none] hS ?_;intro nd
    repeat(first|refine zc1 ?_|refine zcN ?_|refine zcn ?_|apply AB7 (ek:=eS) (ev:=eP) (k:=k) it0 ⟨p0,p1,p2,p3⟩;rfl;kernel_rfl;rfl;rfl;rfl;rfl;intro F;exact⟨_,by exact w8⟩;exact mP;exact kS;exact zP;rfl;exact Hx.out;simp only[Act.put,fA,fB,fC,Nat.reduceAdd,eP,It.cells]|refine cR ?_)
    (apply Bi7;rfl;rfl;rfl;(focus(simp only[fD,fI,fJ,Act.eval,fE,fF,fG,fH,fK];try rfl));exact esS;exact rsS;rfl;rfl;rfl;rfl;rfl;decide;intro _;rfl;rfl;intro _;rfl;refine frS ?_);refine zcv ?_ (hs:=by(intro F w hS;(try clear hS0);exact LF7 Ha.out _ W w _ hS))
    iterate 3 (refine cR ?_)
    (refine zca ?_);refine zct ?_;refine cR ?_;refine Ad7 ?_;clear hS;intro w hS;have hS2:St W [i8 (nd 12) _ _,blk b _ _,blk vb _ _,d9 eS eP mb p,sats R] w:=hS;clear hS;have hS:=hS2.unpack [_,_,_,_];clear hS2;simp only[jK,jN]at hS;generalize nd 12=v12 at *;have h1:=hS.ptr;clear hS;obtain⟨b2,rfl,hS⟩:=h1;go_wp2_with(fail);go_ret;exact⟨rfl,hS.s _⟩
   | some s=>
    obtain⟨s0,s1,s2,s3⟩:=s;have e1:J8 p k ⟨x0,x1,x2,x3⟩=0:=by simp[J8,hk,hi,hx,ha]
    have e2:G8 p k ⟨x0,x1,x2,x3⟩=E7 p k ⟨s0,s1,s2,s3⟩:=by simp[G8,hk,hi,hx,ha,bb4]
    rw[e1,e2];have Hx:=jH hx;have Ha:=jH ha;clear ha hx e1 e2;simp only[It.cells];go_enter Tryz.func110,Tryz.ntmps110;go_wp2_with(first|go_at_call 145;refine(BA7 k W _ _ hS).mono ?_;clear hS;rw[hk];rintro e w ⟨rfl,hS⟩|go_at_call 75;refine(as4 _ _ _ _ W _ _ hS).mono ?_;clear hS;rw[hi];rintro e w ⟨rfl,hS⟩|refine zlN hS ?_|refine zbx hS ?_;clear hS;intro b w hS);refine rf3 tB8b (fun i=>i==7||i==12) (fun i=>if i==8 then some (.tuple #[.agg #[.I s0,.I s1,.I s2,.I s3],.bool true])else none) [⟨some 7,some 8,fun nd=>row (nd 7) 4 34 2 ([(⟨p0,p1,p2,p3⟩:It),⟨x0,x1,x2,x3⟩].flatMap It.cells)⟩,⟨some 12,some 13,fun nd=>i8 (nd 12) [.I 0,.I 0,.I 0,.I 0] 34⟩,⟨some 13,none,fun nd=>i8 (nd 12) [.I s0,.I s1,.I s2,.I s3] 34⟩] [none,none,none] hS ?_;intro nd
    repeat(first|refine zc1 ?_|refine zcN ?_|refine zcn ?_|apply AB7 (ek:=eS) (ev:=eP) (k:=k) it0 ⟨p0,p1,p2,p3⟩;rfl;kernel_rfl;rfl;rfl;rfl;rfl;intro F;exact⟨_,by exact w8⟩;exact mP;exact kS;exact zP;rfl;exact Hx.out;simp only[Act.put,fA,fB,fC,Nat.reduceAdd,eP,It.cells]|refine cR ?_)
    (apply Bi7;rfl;rfl;rfl;(focus(simp only[fD,fI,fJ,Act.eval,fE,fF,fG,fH,fK];try rfl));exact esS;exact rsS;rfl;rfl;rfl;rfl;rfl;decide;intro _;rfl;rfl;intro _;rfl;refine frS ?_);refine zcv ?_ (hs:=by(intro F w hS;(try clear hS0);exact LE7 Ha.out _ W w _ hS))
    iterate 3 (refine cR ?_)
    (refine zca ?_);refine zct ?_;refine cR ?_;refine Ad7 ?_;clear hS;intro w hS;have hS2:St W [i8 (nd 12) _ _,blk b _ _,blk vb _ _,d9 eS eP mb p,sats R] w:=hS;clear hS;have hS:=hS2.unpack [_,_,_,_];clear hS2;simp only[jK,jN]at hS;generalize nd 12=v12 at *;have h1:=hS.ptr;clear hS;obtain⟨b2,rfl,hS⟩:=h1;go_wp2_with(first|go_at_call 146;refine(AK7 vb mb p k u1 u2 W _ R ⟨s0,s1,s2,s3⟩ (hS.s _)).mono ?_;clear hS;rintro e w ⟨rfl,hS⟩|refine zlN hS ?_);go_ret;exact⟨rfl,hS⟩
abbrev tB8c:List Nat:=[0,1,3,7,0,31,0,127,255,511,511,0,3071,8191]
theorem Eo7(hS:St W (blk vb [.map (some mb),u1,u2] 215::d9 eS eP mb p::R) w):
  Calls Tryz.prog 112 #[.P vb,.string k,.agg i.cells.toArray] w fun e w'=>e=.returned (.I (m9 p k i))/\St W (blk vb [.map (some mb),u1,u2] 215::d9 eS eP mb (s5 p k i)::R) w':=by
 obtain⟨x0,x1,x2,x3⟩:=i
 cases hk:x9 k with
 | false=>
  have e1:m9 p k ⟨x0,x1,x2,x3⟩=1:=by simp[m9,hk]
  have e2:s5 p k ⟨x0,x1,x2,x3⟩=p:=by simp[s5,hk]
  rw[e1,e2];clear e1 e2;simp only[It.cells];go_enter Tryz.func112,Tryz.ntmps112;go_wp2_with(first|go_big_skip|go_at_call 145;refine(BA7 k W _ _ hS).mono ?_;clear hS;rw[hk];rintro e w ⟨rfl,hS⟩|refine zbx hS ?_;clear hS;intro b w hS);go_ret;exact⟨rfl,hS.drop⟩
 | true=>
  cases hi:s8 ⟨x0,x1,x2,x3⟩with
  | false=>
   have e1:m9 p k ⟨x0,x1,x2,x3⟩=1:=by simp[m9,hk,hi]
   have e2:s5 p k ⟨x0,x1,x2,x3⟩=p:=by simp[s5,hk,hi]
   rw[e1,e2];clear e1 e2;simp only[It.cells];go_enter Tryz.func112,Tryz.ntmps112;go_wp2_with(first|go_at_call 145;refine(BA7 k W _ _ hS).mono ?_;clear hS;rw[hk];rintro e w ⟨rfl,hS⟩|go_at_call 75;refine(as4 _ _ _ _ W _ _ hS).mono ?_;clear hS;rw[hi];rintro e w ⟨rfl,hS⟩|refine zlN hS ?_|refine zbx hS ?_;clear hS;intro b w hS);go_ret;exact⟨rfl,hS.drop⟩
  | true=>
   obtain⟨px,hx⟩:∃x,j7 p k=x:=⟨_,rfl⟩
   obtain⟨p0,p1,p2,p3⟩:=px
   cases ha:G6 ⟨p0,p1,p2,p3⟩ ⟨x0,x1,x2,x3⟩with
   | false=>
    have e1:m9 p k ⟨x0,x1,x2,x3⟩=14:=by simp[m9,hk,hi,hx,ha]
    have e2:s5 p k ⟨x0,x1,x2,x3⟩=p:=by simp[s5,hk,hi,hx,ha]
    rw[e1,e2];have Hx:=jH hx;have Ha:=jH ha;clear ha hx e1 e2;simp only[It.cells];go_enter Tryz.func112,Tryz.ntmps112;go_wp2_with(first|go_at_call 145;refine(BA7 k W _ _ hS).mono ?_;clear hS;rw[hk];rintro e w ⟨rfl,hS⟩|go_at_call 75;refine(as4 _ _ _ _ W _ _ hS).mono ?_;clear hS;rw[hi];rintro e w ⟨rfl,hS⟩|refine zlN hS ?_|refine zbx hS ?_;clear hS;intro b w hS);refine rf3 tB8c (fun i=>i==11) (fun i=>if i==7 then some (.tuple #[.agg #[.I (0),.I (0),.I (0),.I (0)],.bool false])else none) [⟨some 11,some 12,fun nd=>i8 (nd 11) [.I 0,.I 0,.I 0,.I 0] 34⟩,⟨some 12,none,fun nd=>i8 (nd 11) [.I (0),.I (0),.I (0),.I (0)] 34⟩] [none,none,none] hS ?_;intro nd
    repeat(first|refine zc1 ?_|refine zcN ?_|refine zcn ?_|apply AB7 (ek:=eS) (ev:=eP) (k:=k) it0 ⟨p0,p1,p2,p3⟩;rfl;kernel_rfl;rfl;rfl;rfl;rfl;intro F;exact⟨_,by exact w8⟩;exact mP;exact kS;exact zP;rfl;exact Hx.out;simp only[Act.put,fA,fB,fC,Nat.reduceAdd,eP,It.cells]|refine cR ?_)
    (refine zcv ?_ (hs:=by(intro F w hS;(try clear hS0);exact Oj7 Ha.out W w _ hS)))
    iterate 3 (refine cR ?_)
    (refine zca ?_);refine zct ?_;refine cR ?_;refine Ad7 ?_;clear hS;intro w hS;have hS2:St W [i8 (nd 11) _ _,blk b _ _,blk vb _ _,d9 eS eP mb p,sats R] w:=hS;clear hS;have hS:=hS2.unpack [_,_,_,_];clear hS2;simp only[jK,jN]at hS;generalize nd 11=v12 at *;have h1:=hS.ptr;clear hS;obtain⟨b2,rfl,hS⟩:=h1;go_wp2_with(fail);go_ret;exact⟨rfl,hS.s _⟩
   | true=>
    have e1:m9 p k ⟨x0,x1,x2,x3⟩=0:=by simp[m9,hk,hi,hx,ha]
    have e2:s5 p k ⟨x0,x1,x2,x3⟩=E7 p k ⟨p0-x0,p1-x1,p2-x2,p3-x3⟩:=by simp[s5,hk,hi,hx,ha,bb4]
    rw[e1,e2];have Hx:=jH hx;have Ha:=jH ha;clear ha hx e1 e2;simp only[It.cells];go_enter Tryz.func112,Tryz.ntmps112;go_wp2_with(first|go_at_call 145;refine(BA7 k W _ _ hS).mono ?_;clear hS;rw[hk];rintro e w ⟨rfl,hS⟩|go_at_call 75;refine(as4 _ _ _ _ W _ _ hS).mono ?_;clear hS;rw[hi];rintro e w ⟨rfl,hS⟩|refine zlN hS ?_|refine zbx hS ?_;clear hS;intro b w hS);refine rf3 tB8c (fun i=>i==11) (fun i=>if i==7 then some (.tuple #[.agg #[.I (p0-x0),.I (p1-x1),.I (p2-x2),.I (p3-x3)],.bool true])else none) [⟨some 11,some 12,fun nd=>i8 (nd 11) [.I 0,.I 0,.I 0,.I 0] 34⟩,⟨some 12,none,fun nd=>i8 (nd 11) [.I (p0-x0),.I (p1-x1),.I (p2-x2),.I (p3-x3)] 34⟩] [none,none,none] hS ?_;intro nd
    repeat(first|refine zc1 ?_|refine zcN ?_|refine zcn ?_|apply AB7 (ek:=eS) (ev:=eP) (k:=k) it0 ⟨p0,p1,p2,p3⟩;rfl;kernel_rfl;rfl;rfl;rfl;rfl;intro F;exact⟨_,by exact w8⟩;exact mP;exact kS;exact zP;rfl;exact Hx.out;simp only[Act.put,fA,fB,fC,Nat.reduceAdd,eP,It.cells]|refine cR ?_)
    (refine zcv ?_ (hs:=by(intro F w hS;(try clear hS0);exact Nm7 Ha.out W w _ hS)))
    iterate 3 (refine cR ?_)
    (refine zca ?_);refine zct ?_;refine cR ?_;refine Ad7 ?_;clear hS;intro w hS;have hS2:St W [i8 (nd 11) _ _,blk b _ _,blk vb _ _,d9 eS eP mb p,sats R] w:=hS;clear hS;have hS:=hS2.unpack [_,_,_,_];clear hS2;simp only[jK,jN]at hS;generalize nd 11=v12 at *;have h1:=hS.ptr;clear hS;obtain⟨b2,rfl,hS⟩:=h1;go_wp2_with(first|go_at_call 146;refine(AK7 vb mb p k u1 u2 W _ R ⟨p0-x0,p1-x1,p2-x2,p3-x3⟩ (hS.s _)).mono ?_;clear hS;rintro e w ⟨rfl,hS⟩|refine zlN hS ?_);go_ret;exact⟨rfl,hS⟩
end
def H8(i:It)(k:Int):Int:=if k=0 then i.x0 else if k=1 then i.x1 else if k=2 then i.x2 else i.x3
def ap4(i:It)(k n:Int):It:=if k=0 then⟨n,i.x1,i.x2,i.x3⟩else if k=1 then⟨i.x0,n,i.x2,i.x3⟩else if k=2 then⟨i.x0,i.x1,n,i.x3⟩else⟨i.x0,i.x1,i.x2,n⟩
def l5(o:Ord):It:=if o.buy=true then⟨o.cnt*o.price,0,0,0⟩else ap4 it0 o.item o.cnt
theorem Cz7{a b:Int}(h1:0<=a)(h2:a<=1048576)(h3:0<=b)(h4:b<=1024):0<=a*b/\a*b<=1073741824:=by refine⟨Int.mul_nonneg h1 h3,?_⟩;have:=Int.mul_le_mul h2 h4 h3 (by omega);omega
theorem II7(o:Ord)(hm:MayP o)(W w:World)(R:List HP)(hS:St W R w):
  Calls Tryz.prog 117 #[.agg o.cells.toArray] w fun e w'=>e=.returned (.agg (l5 o).cells.toArray)/\St W R w':=by
 have h1:=hm.item0;have h2:=hm.item1;have h3:=Cz7 (by have:=hm.cnt0;omega) hm.cnt1 (by have:=hm.price0;omega) hm.price1;obtain⟨i,u,y,t,c,pr⟩:=o;simp only at h1 h2 h3;clear hm
 cases y with
 | true=>
  have e:l5 ⟨i,u,true,t,c,pr⟩=⟨c*pr,0,0,0⟩:=rfl;rw[e];simp only[Ord.cells,It.cells];have h4:c*pr<=9223372036854775807:=by omega
  have h5 : -9223372036854775808<=c*pr:=by omega
  clear e h1 h2;go_enter Tryz.func117,Tryz.ntmps117;go_wp2_with(first|refine zl1 hS ?_|refine zlN hS ?_|refine zs1 hS ?_;clear hS;intro w hS|refine zsN hS ?_;clear hS;intro w hS|refine zbx hS ?_;clear hS;intro b w hS|refine zal hS ?_;clear hS;intro b w hS);apply Am7;rfl;rfl;rfl;exact hS;decide +kernel;(exact m8);kernel_rfl;exact⟨rfl,hS.s _⟩
 | false=>
  have ht:t=1\/t=2\/t=3:=by omega
  rcases ht with rfl|rfl|rfl
  ·have e:l5 ⟨i,u,false,1,c,pr⟩=⟨0,c,0,0⟩:=rfl;rw[e];simp only[Ord.cells,It.cells];clear e h1 h2 h3;go_enter Tryz.func117,Tryz.ntmps117;go_wp2_with(first|refine zl1 hS ?_|refine zlN hS ?_|refine zs1 hS ?_;clear hS;intro w hS|refine zsN hS ?_;clear hS;intro w hS|refine zbx hS ?_;clear hS;intro b w hS|refine zal hS ?_;clear hS;intro b w hS);apply Am7;rfl;rfl;rfl;exact hS;decide +kernel;(exact m8);kernel_rfl;exact⟨rfl,hS.s _⟩
  ·have e:l5 ⟨i,u,false,2,c,pr⟩=⟨0,0,c,0⟩:=rfl;rw[e];simp only[Ord.cells,It.cells];clear e h1 h2 h3;go_enter Tryz.func117,Tryz.ntmps117;go_wp2_with(first|refine zl1 hS ?_|refine zlN hS ?_|refine zs1 hS ?_;clear hS;intro w hS|refine zsN hS ?_;clear hS;intro w hS|refine zbx hS ?_;clear hS;intro b w hS|refine zal hS ?_;clear hS;intro b w hS);apply Am7;rfl;rfl;rfl;exact hS;decide +kernel;(exact m8);kernel_rfl;exact⟨rfl,hS.s _⟩
  ·have e:l5 ⟨i,u,false,3,c,pr⟩=⟨0,0,0,c⟩:=rfl;rw[e];simp only[Ord.cells,It.cells];clear e h1 h2 h3;go_enter Tryz.func117,Tryz.ntmps117;go_wp2_with(first|refine zl1 hS ?_|refine zlN hS ?_|refine zs1 hS ?_;clear hS;intro w hS|refine zsN hS ?_;clear hS;intro w hS|refine zbx hS ?_;clear hS;intro b w hS|refine zal hS ?_;clear hS;intro b w hS);apply Am7;rfl;rfl;rfl;exact hS;decide +kernel;(exact m8);kernel_rfl;exact⟨rfl,hS.s _⟩
def O5(a:Int):Int:=if 1152921504606846976<a then 1152921504606846976 else a
def ad4(i:It)(k n:Int):It:=ap4 i k (O5 (H8 i k+n))
def k9(p:Ps)(who:ByteArray)(k n:Int):Ps:=E7 p who (ad4 (j7 p who) k n)
abbrev tB8a:List Nat:=[0,1,3,7,15,0,32,127,0,511]
theorem Cf7(vb mb:Nat)(p:Ps)(who:ByteArray)(k n:Int)(u1 u2:Value)(hx:s8 (j7 p who)=true)(hk:0<=k/\k<=3)(hn:0<=n/\n<=1152921504606846976)(W w:World)(R:List HP)(hS:St W (blk vb [.map (some mb),u1,u2] 215::d9 eS eP mb p::R) w):
  Calls Tryz.prog 151 #[.agg #[.P vb,.string who],.I k,.I n] w fun e w'=>e=.returned (.tuple #[])/\St W (blk vb [.map (some mb),u1,u2] 215::d9 eS eP mb (k9 p who k n)::R) w':=by
 obtain⟨px,hp⟩:∃x,j7 p who=x:=⟨_,rfl⟩
 rw[hp]at hx;obtain⟨p0,p1,p2,p3⟩:=px;have Hx:=jH hp;clear hp;obtain⟨a0,a1,a2,a3⟩:=Ah7.1 hx;simp only at a0 a1 a2 a3;clear hx;have hk4:k=0\/k=1\/k=2\/k=3:=by omega
 rcases hk4 with rfl|rfl|rfl|rfl
 ·by_cases hc:1152921504606846976<p0+n
  ·skip
   have e:k9 p who 0 n=E7 p who ⟨1152921504606846976,p1,p2,p3⟩:=by unfold k9 ad4;rw[Hx.out];simp[ap4,H8,O5,hc]
   rw[e];clear e;go_enter Tryz.func151,Tryz.ntmps151;go_wp2_with(first|refine zbx hS ?_;clear hS;intro b w hS);refine rf3 tB8a (fun i=>i==8) (fun _=>none) [⟨some 8,some 9,fun nd=>i8 (nd 8) [.I 0,.I 0,.I 0,.I 0] 34⟩,⟨some 9,none,fun nd=>i8 (nd 8) [.I p0,.I p1,.I p2,.I p3] 34⟩] [none,none,none] hS ?_;intro nd
   repeat(first|refine zc1 ?_|refine zcn ?_|apply AB7 (ek:=eS) (ev:=eP) (k:=who) it0 ⟨p0,p1,p2,p3⟩;rfl;kernel_rfl;rfl;rfl;rfl;rfl;intro F;exact⟨_,by exact w8⟩;exact mP;exact kS;exact zP;rfl;exact Hx.out;simp only[Act.put,fA,fB,fC,Nat.reduceAdd,eP,It.cells]|refine cR ?_)
   (refine zca ?_);refine zct ?_;refine Ad7 ?_;clear hS;intro w hS;have hS2:St W [i8 (nd 8) _ _,blk b _ _,blk vb _ _,d9 eS eP mb p,sats R] w:=hS;clear hS;have hS:=hS2.unpack [_,_,_,_];clear hS2;simp only[jK,jN]at hS;generalize nd 8=v8 at *;have h1:=hS.ptr;clear hS;obtain⟨b2,rfl,hS⟩:=h1;go_wp2_with(first|go_at_call 146;refine(AK7 vb mb p who u1 u2 W _ R ⟨1152921504606846976,p1,p2,p3⟩ (hS.s _)).mono ?_;clear hS;rintro e w ⟨rfl,hS⟩|refine zl1 hS ?_|refine zlN hS ?_|refine zs1 hS ?_;clear hS;intro w hS);go_end0;exact⟨rfl,hS⟩
  ·skip
   have e:k9 p who 0 n=E7 p who ⟨p0+n,p1,p2,p3⟩:=by unfold k9 ad4;rw[Hx.out];simp[ap4,H8,O5,hc]
   rw[e];clear e;go_enter Tryz.func151,Tryz.ntmps151;go_wp2_with(first|refine zbx hS ?_;clear hS;intro b w hS);refine rf3 tB8a (fun i=>i==8) (fun _=>none) [⟨some 8,some 9,fun nd=>i8 (nd 8) [.I 0,.I 0,.I 0,.I 0] 34⟩,⟨some 9,none,fun nd=>i8 (nd 8) [.I p0,.I p1,.I p2,.I p3] 34⟩] [none,none,none] hS ?_;intro nd
   repeat(first|refine zc1 ?_|refine zcn ?_|apply AB7 (ek:=eS) (ev:=eP) (k:=who) it0 ⟨p0,p1,p2,p3⟩;rfl;kernel_rfl;rfl;rfl;rfl;rfl;intro F;exact⟨_,by exact w8⟩;exact mP;exact kS;exact zP;rfl;exact Hx.out;simp only[Act.put,fA,fB,fC,Nat.reduceAdd,eP,It.cells]|refine cR ?_)
   (refine zca ?_);refine zct ?_;refine Ad7 ?_;clear hS;intro w hS;have hS2:St W [i8 (nd 8) _ _,blk b _ _,blk vb _ _,d9 eS eP mb p,sats R] w:=hS;clear hS;have hS:=hS2.unpack [_,_,_,_];clear hS2;simp only[jK,jN]at hS;generalize nd 8=v8 at *;have h1:=hS.ptr;clear hS;obtain⟨b2,rfl,hS⟩:=h1;go_wp2_with(first|go_at_call 146;refine(AK7 vb mb p who u1 u2 W _ R ⟨p0+n,p1,p2,p3⟩ (hS.s _)).mono ?_;clear hS;rintro e w ⟨rfl,hS⟩|refine zl1 hS ?_|refine zlN hS ?_|refine zs1 hS ?_;clear hS;intro w hS);go_end0;exact⟨rfl,hS⟩
 ·by_cases hc:1152921504606846976<p1+n
  ·skip
   have e:k9 p who 1 n=E7 p who ⟨p0,1152921504606846976,p2,p3⟩:=by unfold k9 ad4;rw[Hx.out];simp[ap4,H8,O5,hc]
   rw[e];clear e;go_enter Tryz.func151,Tryz.ntmps151;go_wp2_with(first|refine zbx hS ?_;clear hS;intro b w hS);refine rf3 tB8a (fun i=>i==8) (fun _=>none) [⟨some 8,some 9,fun nd=>i8 (nd 8) [.I 0,.I 0,.I 0,.I 0] 34⟩,⟨some 9,none,fun nd=>i8 (nd 8) [.I p0,.I p1,.I p2,.I p3] 34⟩] [none,none,none] hS ?_;intro nd
   repeat(first|refine zc1 ?_|refine zcn ?_|apply AB7 (ek:=eS) (ev:=eP) (k:=who) it0 ⟨p0,p1,p2,p3⟩;rfl;kernel_rfl;rfl;rfl;rfl;rfl;intro F;exact⟨_,by exact w8⟩;exact mP;exact kS;exact zP;rfl;exact Hx.out;simp only[Act.put,fA,fB,fC,Nat.reduceAdd,eP,It.cells]|refine cR ?_)
   (refine zca ?_);refine zct ?_;refine Ad7 ?_;clear hS;intro w hS;have hS2:St W [i8 (nd 8) _ _,blk b _ _,blk vb _ _,d9 eS eP mb p,sats R] w:=hS;clear hS;have hS:=hS2.unpack [_,_,_,_];clear hS2;simp only[jK,jN]at hS;generalize nd 8=v8 at *;have h1:=hS.ptr;clear hS;obtain⟨b2,rfl,hS⟩:=h1;go_wp2_with(first|go_at_call 146;refine(AK7 vb mb p who u1 u2 W _ R ⟨p0,1152921504606846976,p2,p3⟩ (hS.s _)).mono ?_;clear hS;rintro e w ⟨rfl,hS⟩|refine zl1 hS ?_|refine zlN hS ?_|refine zs1 hS ?_;clear hS;intro w hS);go_end0;exact⟨rfl,hS⟩
  ·skip
   have e:k9 p who 1 n=E7 p who ⟨p0,p1+n,p2,p3⟩:=by unfold k9 ad4;rw[Hx.out];simp[ap4,H8,O5,hc]
   rw[e];clear e;go_enter Tryz.func151,Tryz.ntmps151;go_wp2_with(first|refine zbx hS ?_;clear hS;intro b w hS);refine rf3 tB8a (fun i=>i==8) (fun _=>none) [⟨some 8,some 9,fun nd=>i8 (nd 8) [.I 0,.I 0,.I 0,.I 0] 34⟩,⟨some 9,none,fun nd=>i8 (nd 8) [.I p0,.I p1,.I p2,.I p3] 34⟩] [none,none,none] hS ?_;intro nd
   repeat(first|refine zc1 ?_|refine zcn ?_|apply AB7 (ek:=eS) (ev:=eP) (k:=who) it0 ⟨p0,p1,p2,p3⟩;rfl;kernel_rfl;rfl;rfl;rfl;rfl;intro F;exact⟨_,by exact w8⟩;exact mP;exact kS;exact zP;rfl;exact Hx.out;simp only[Act.put,fA,fB,fC,Nat.reduceAdd,eP,It.cells]|refine cR ?_)
   (refine zca ?_);refine zct ?_;refine Ad7 ?_;clear hS;intro w hS;have hS2:St W [i8 (nd 8) _ _,blk b _ _,blk vb _ _,d9 eS eP mb p,sats R] w:=hS;clear hS;have hS:=hS2.unpack [_,_,_,_];clear hS2;simp only[jK,jN]at hS;generalize nd 8=v8 at *;have h1:=hS.ptr;clear hS;obtain⟨b2,rfl,hS⟩:=h1;go_wp2_with(first|go_at_call 146;refine(AK7 vb mb p who u1 u2 W _ R ⟨p0,p1+n,p2,p3⟩ (hS.s _)).mono ?_;clear hS;rintro e w ⟨rfl,hS⟩|refine zl1 hS ?_|refine zlN hS ?_|refine zs1 hS ?_;clear hS;intro w hS);go_end0;exact⟨rfl,hS⟩
 ·by_cases hc:1152921504606846976<p2+n
  ·skip
   have e:k9 p who 2 n=E7 p who ⟨p0,p1,1152921504606846976,p3⟩:=by unfold k9 ad4;rw[Hx.out];simp[ap4,H8,O5,hc]
   rw[e];clear e;go_enter Tryz.func151,Tryz.ntmps151;go_wp2_with(first|refine zbx hS ?_;clear hS;intro b w hS);refine rf3 tB8a (fun i=>i==8) (fun _=>none) [⟨some 8,some 9,fun nd=>i8 (nd 8) [.I 0,.I 0,.I 0,.I 0] 34⟩,⟨some 9,none,fun nd=>i8 (nd 8) [.I p0,.I p1,.I p2,.I p3] 34⟩] [none,none,none] hS ?_;intro nd
   repeat(first|refine zc1 ?_|refine zcn ?_|apply AB7 (ek:=eS) (ev:=eP) (k:=who) it0 ⟨p0,p1,p2,p3⟩;rfl;kernel_rfl;rfl;rfl;rfl;rfl;intro F;exact⟨_,by exact w8⟩;exact mP;exact kS;exact zP;rfl;exact Hx.out;simp only[Act.put,fA,fB,fC,Nat.reduceAdd,eP,It.cells]|refine cR ?_)
   (refine zca ?_);refine zct ?_;refine Ad7 ?_;clear hS;intro w hS;have hS2:St W [i8 (nd 8) _ _,blk b _ _,blk vb _ _,d9 eS eP mb p,sats R] w:=hS;clear hS;have hS:=hS2.unpack [_,_,_,_];clear hS2;simp only[jK,jN]at hS;generalize nd 8=v8 at *;have h1:=hS.ptr;clear hS;obtain⟨b2,rfl,hS⟩:=h1;go_wp2_with(first|go_at_call 146;refine(AK7 vb mb p who u1 u2 W _ R ⟨p0,p1,1152921504606846976,p3⟩ (hS.s _)).mono ?_;clear hS;rintro e w ⟨rfl,hS⟩|refine zl1 hS ?_|refine zlN hS ?_|refine zs1 hS ?_;clear hS;intro w hS);go_end0;exact⟨rfl,hS⟩
  ·skip
   have e:k9 p who 2 n=E7 p who ⟨p0,p1,p2+n,p3⟩:=by unfold k9 ad4;rw[Hx.out];simp[ap4,H8,O5,hc]
   rw[e];clear e;go_enter Tryz.func151,Tryz.ntmps151;go_wp2_with(first|refine zbx hS ?_;clear hS;intro b w hS);refine rf3 tB8a (fun i=>i==8) (fun _=>none) [⟨some 8,some 9,fun nd=>i8 (nd 8) [.I 0,.I 0,.I 0,.I 0] 34⟩,⟨some 9,none,fun nd=>i8 (nd 8) [.I p0,.I p1,.I p2,.I p3] 34⟩] [none,none,none] hS ?_;intro nd
   repeat(first|refine zc1 ?_|refine zcn ?_|apply AB7 (ek:=eS) (ev:=eP) (k:=who) it0 ⟨p0,p1,p2,p3⟩;rfl;kernel_rfl;rfl;rfl;rfl;rfl;intro F;exact⟨_,by exact w8⟩;exact mP;exact kS;exact zP;rfl;exact Hx.out;simp only[Act.put,fA,fB,fC,Nat.reduceAdd,eP,It.cells]|refine cR ?_)
   (refine zca ?_);refine zct ?_;refine Ad7 ?_;clear hS;intro w hS;have hS2:St W [i8 (nd 8) _ _,blk b _ _,blk vb _ _,d9 eS eP mb p,sats R] w:=hS;clear hS;have hS:=hS2.unpack [_,_,_,_];clear hS2;simp only[jK,jN]at hS;generalize nd 8=v8 at *;have h1:=hS.ptr;clear hS;obtain⟨b2,rfl,hS⟩:=h1;go_wp2_with(first|go_at_call 146;refine(AK7 vb mb p who u1 u2 W _ R ⟨p0,p1,p2+n,p3⟩ (hS.s _)).mono ?_;clear hS;rintro e w ⟨rfl,hS⟩|refine zl1 hS ?_|refine zlN hS ?_|refine zs1 hS ?_;clear hS;intro w hS);go_end0;exact⟨rfl,hS⟩
 ·by_cases hc:1152921504606846976<p3+n
  ·skip
   have e:k9 p who 3 n=E7 p who ⟨p0,p1,p2,1152921504606846976⟩:=by unfold k9 ad4;rw[Hx.out];simp[ap4,H8,O5,hc]
   rw[e];clear e;go_enter Tryz.func151,Tryz.ntmps151;go_wp2_with(first|refine zbx hS ?_;clear hS;intro b w hS);refine rf3 tB8a (fun i=>i==8) (fun _=>none) [⟨some 8,some 9,fun nd=>i8 (nd 8) [.I 0,.I 0,.I 0,.I 0] 34⟩,⟨some 9,none,fun nd=>i8 (nd 8) [.I p0,.I p1,.I p2,.I p3] 34⟩] [none,none,none] hS ?_;intro nd
   repeat(first|refine zc1 ?_|refine zcn ?_|apply AB7 (ek:=eS) (ev:=eP) (k:=who) it0 ⟨p0,p1,p2,p3⟩;rfl;kernel_rfl;rfl;rfl;rfl;rfl;intro F;exact⟨_,by exact w8⟩;exact mP;exact kS;exact zP;rfl;exact Hx.out;simp only[Act.put,fA,fB,fC,Nat.reduceAdd,eP,It.cells]|refine cR ?_)
   (refine zca ?_);refine zct ?_;refine Ad7 ?_;clear hS;intro w hS;have hS2:St W [i8 (nd 8) _ _,blk b _ _,blk vb _ _,d9 eS eP mb p,sats R] w:=hS;clear hS;have hS:=hS2.unpack [_,_,_,_];clear hS2;simp only[jK,jN]at hS;generalize nd 8=v8 at *;have h1:=hS.ptr;clear hS;obtain⟨b2,rfl,hS⟩:=h1;go_wp2_with(first|go_at_call 146;refine(AK7 vb mb p who u1 u2 W _ R ⟨p0,p1,p2,1152921504606846976⟩ (hS.s _)).mono ?_;clear hS;rintro e w ⟨rfl,hS⟩|refine zl1 hS ?_|refine zlN hS ?_|refine zs1 hS ?_;clear hS;intro w hS);go_end0;exact⟨rfl,hS⟩
  ·skip
   have e:k9 p who 3 n=E7 p who ⟨p0,p1,p2,p3+n⟩:=by unfold k9 ad4;rw[Hx.out];simp[ap4,H8,O5,hc]
   rw[e];clear e;go_enter Tryz.func151,Tryz.ntmps151;go_wp2_with(first|refine zbx hS ?_;clear hS;intro b w hS);refine rf3 tB8a (fun i=>i==8) (fun _=>none) [⟨some 8,some 9,fun nd=>i8 (nd 8) [.I 0,.I 0,.I 0,.I 0] 34⟩,⟨some 9,none,fun nd=>i8 (nd 8) [.I p0,.I p1,.I p2,.I p3] 34⟩] [none,none,none] hS ?_;intro nd
   repeat(first|refine zc1 ?_|refine zcn ?_|apply AB7 (ek:=eS) (ev:=eP) (k:=who) it0 ⟨p0,p1,p2,p3⟩;rfl;kernel_rfl;rfl;rfl;rfl;rfl;intro F;exact⟨_,by exact w8⟩;exact mP;exact kS;exact zP;rfl;exact Hx.out;simp only[Act.put,fA,fB,fC,Nat.reduceAdd,eP,It.cells]|refine cR ?_)
   (refine zca ?_);refine zct ?_;refine Ad7 ?_;clear hS;intro w hS;have hS2:St W [i8 (nd 8) _ _,blk b _ _,blk vb _ _,d9 eS eP mb p,sats R] w:=hS;clear hS;have hS:=hS2.unpack [_,_,_,_];clear hS2;simp only[jK,jN]at hS;generalize nd 8=v8 at *;have h1:=hS.ptr;clear hS;obtain⟨b2,rfl,hS⟩:=h1;go_wp2_with(first|go_at_call 146;refine(AK7 vb mb p who u1 u2 W _ R ⟨p0,p1,p2,p3+n⟩ (hS.s _)).mono ?_;clear hS;rintro e w ⟨rfl,hS⟩|refine zl1 hS ?_|refine zlN hS ?_|refine zs1 hS ?_;clear hS;intro w hS);go_end0;exact⟨rfl,hS⟩
end Go.Proofs.YtienbkdjkjbelaaGreat
end
