/-
  The document's vault.
-/
import Derived.Test.YtlmhakmoioogaaaGreatEconCuM5
import Derived.Test.YtlmhakmoioogaaaGreatEconCuM17
import Derived.Test.YtlmhakmoioogaaaGreatEconCuM23
set_option maxHeartbeats 16000000
set_option maxRecDepth 100000
set_option linter.unusedSimpArgs false
set_option linter.unusedVariables false
section
namespace Go.Proofs.YtlmhakmoioogaaaGreat
open Go.RowKit Go.Sl
section
variable(xb:Nat)(vB:Value)(n:Int)(p:Ps)(N:Nat)(W w:World)(R:List HP)
abbrev tB23a:List Nat:=[0,0,3,0,15,31,63,127,127,0,767,2047]
theorem he4(hw:PsW p N)(hN:N<=1000000)(k:ByteArray)(i:It)(hS:St W (xvP xb vB n p::R) w):
  Calls Tryz.prog 51 #[.P xb,.string k,.agg i.cells.toArray] w fun e w'=>e=.returned (.I (K7 p k i))/\St W (xvP xb vB n (F9 p k i)::R) w':=by
 obtain⟨x0,x1,x2,x3⟩:=i;have Hw:=jH hw;clear hw
 cases hk:B8 k with
 | false=>
  have e1:K7 p k ⟨x0,x1,x2,x3⟩=1:=by simp[K7,hk]
  have e2:F9 p k ⟨x0,x1,x2,x3⟩=p:=by simp[F9,hk]
  rw[e1,e2];clear e1 e2;simp only[It.cells];go_enter Tryz.func51,Tryz.ntmps51;go_wp2_with(first|go_big_skip|go_at_call 115;refine(dE4 k W _ _ hS).mono ?_;clear hS;rw[hk];rintro e w ⟨rfl,hS⟩|refine zbx hS ?_;clear hS;intro b w hS);go_ret;exact⟨rfl,hS.drop⟩
 | true=>
  cases hi:s9 ⟨x0,x1,x2,x3⟩with
  | false=>
   have e1:K7 p k ⟨x0,x1,x2,x3⟩=1:=by simp[K7,hk,hi]
   have e2:F9 p k ⟨x0,x1,x2,x3⟩=p:=by simp[F9,hk,hi]
   rw[e1,e2];clear e1 e2;simp only[It.cells];go_enter Tryz.func51,Tryz.ntmps51;go_wp2_with(first|go_at_call 115;refine(dE4 k W _ _ hS).mono ?_;clear hS;rw[hk];rintro e w ⟨rfl,hS⟩|go_at_call 116;refine(CB7 _ _ _ _ W _ _ hS).mono ?_;clear hS;rw[hi];rintro e w ⟨rfl,hS⟩|refine zbx hS ?_;clear hS;intro b w hS|refine zlN hS ?_);go_ret;exact⟨rfl,hS.drop⟩
  | true=>
   obtain⟨px,hx⟩:∃x,k9 p k=x:=⟨_,rfl⟩
   obtain⟨p0,p1,p2,p3⟩:=px
   cases ha:C6 [⟨p0,p1,p2,p3⟩,⟨x0,x1,x2,x3⟩] it0 with
   | none=>
    have e1:K7 p k ⟨x0,x1,x2,x3⟩=6:=by simp[K7,hk,hi,hx,ha]
    have e2:F9 p k ⟨x0,x1,x2,x3⟩=p:=by simp[F9,hk,hi,hx,ha]
    rw[e1,e2];have Hx:=jH hx;have Ha:=jH ha;clear ha hx e1 e2;simp only[It.cells];go_enter Tryz.func51,Tryz.ntmps51;go_wp2_with(first|go_at_call 115;refine(dE4 k W _ _ hS).mono ?_;clear hS;rw[hk];rintro e w ⟨rfl,hS⟩|go_at_call 116;refine(CB7 _ _ _ _ W _ _ hS).mono ?_;clear hS;rw[hi];rintro e w ⟨rfl,hS⟩|refine zbx hS ?_;clear hS;intro b w hS|refine zlN hS ?_);refine rf3 tB23a (fun i=>i==4||i==9) (fun i=>if i==2 then some (.agg #[.I p0,.I p1,.I p2,.I p3])else if i==5 then some (.tuple #[.agg #[.I 0,.I 0,.I 0,.I 0],.bool false])else none) [⟨some 4,some 5,fun nd=>row (nd 4) 4 29 2 ([(⟨p0,p1,p2,p3⟩:It),⟨x0,x1,x2,x3⟩].flatMap It.cells)⟩,⟨some 9,some 10,fun nd=>j5 (nd 9) [.I 0,.I 0,.I 0,.I 0] 29⟩,⟨some 10,none,fun nd=>j5 (nd 9) [.I 0,.I 0,.I 0,.I 0] 29⟩] [none,none] hS ?_;intro nd
    iterate 2 (refine cR ?_)
    (refine zcv ?_ (hs:=by(intro F w hS;(try clear hS0);exact Eh7 Hw.out Hx.out hS (by exact r6))));refine zcN ?_;apply Bl7;rfl;rfl;rfl;(focus(simp only[fD,fI,fJ,Act.eval,fE,fF,fG,fH,fK];try rfl));(exact esS);(exact rsS);rfl;rfl;rfl;rfl;rfl;decide;(intro _;rfl);rfl;(intro _;rfl);(refine frS ?_);refine zcv ?_ (hs:=by(intro F w hS;(try clear hS0);exact NR7 Ha.out _ W w _ hS))
    iterate 3 (refine cR ?_)
    (refine zca ?_);refine zct ?_;refine cR ?_;refine Ad7 ?_;clear hS;intro w hS;have hS2:St W [j5 (nd 9) _ _,blk b _ _,xvP xb vB n p,sats R] w:=hS;clear hS;have hS:=hS2.unpack [_,_,_];clear hS2;simp only[jK,jN]at hS;generalize nd 9=v12 at *;have h1:=hS.ptr;clear hS;obtain⟨b2,rfl,hS⟩:=h1;go_wp2_with(fail);go_ret;exact⟨rfl,hS.s _⟩
   | some s=>
    obtain⟨s0,s1,s2,s3⟩:=s;have e1:K7 p k ⟨x0,x1,x2,x3⟩=0:=by simp[K7,hk,hi,hx,ha]
    have e2:F9 p k ⟨x0,x1,x2,x3⟩=H7 p k ⟨s0,s1,s2,s3⟩:=by simp[F9,hk,hi,hx,ha,bD4]
    rw[e1,e2];have Hx:=jH hx;have Ha:=jH ha;clear ha hx e1 e2;simp only[It.cells];go_enter Tryz.func51,Tryz.ntmps51;go_wp2_with(first|go_at_call 115;refine(dE4 k W _ _ hS).mono ?_;clear hS;rw[hk];rintro e w ⟨rfl,hS⟩|go_at_call 116;refine(CB7 _ _ _ _ W _ _ hS).mono ?_;clear hS;rw[hi];rintro e w ⟨rfl,hS⟩|refine zbx hS ?_;clear hS;intro b w hS|refine zlN hS ?_);refine rf3 tB23a (fun i=>i==4||i==9) (fun i=>if i==2 then some (.agg #[.I p0,.I p1,.I p2,.I p3])else if i==5 then some (.tuple #[.agg #[.I s0,.I s1,.I s2,.I s3],.bool true])else none) [⟨some 4,some 5,fun nd=>row (nd 4) 4 29 2 ([(⟨p0,p1,p2,p3⟩:It),⟨x0,x1,x2,x3⟩].flatMap It.cells)⟩,⟨some 9,some 10,fun nd=>j5 (nd 9) [.I 0,.I 0,.I 0,.I 0] 29⟩,⟨some 10,none,fun nd=>j5 (nd 9) [.I s0,.I s1,.I s2,.I s3] 29⟩] [none,none] hS ?_;intro nd
    iterate 2 (refine cR ?_)
    (refine zcv ?_ (hs:=by(intro F w hS;(try clear hS0);exact Eh7 Hw.out Hx.out hS (by exact r6))));refine zcN ?_;apply Bl7;rfl;rfl;rfl;(focus(simp only[fD,fI,fJ,Act.eval,fE,fF,fG,fH,fK];try rfl));(exact esS);(exact rsS);rfl;rfl;rfl;rfl;rfl;decide;(intro _;rfl);rfl;(intro _;rfl);(refine frS ?_);refine zcv ?_ (hs:=by(intro F w hS;(try clear hS0);exact IJ7 Ha.out _ W w _ hS))
    iterate 3 (refine cR ?_)
    (refine zca ?_);refine zct ?_;refine cR ?_;refine Ad7 ?_;clear hS;intro w hS;have hS2:St W [j5 (nd 9) _ _,blk b _ _,xvP xb vB n p,sats R] w:=hS;clear hS;have hS:=hS2.unpack [_,_,_];clear hS2;simp only[jK,jN]at hS;generalize nd 9=v12 at *;have h1:=hS.ptr;clear hS;obtain⟨b2,rfl,hS⟩:=h1;go_wp2_with(first|go_at_call 119;refine(cc4 Hw.out hN k ⟨s0,s1,s2,s3⟩ (hS.s (xvP xb vB n p::R))).mono ?_;clear hS;rintro e w ⟨rfl,hS⟩|refine zlN hS ?_);go_ret;exact⟨rfl,hS⟩
abbrev tB23b:List Nat:=[0,0,3,0,15,31,63,63,0,383,1023]
theorem et4(hw:PsW p N)(hN:N<=1000000)(k:ByteArray)(i:It)(hS:St W (xvP xb vB n p::R) w):
  Calls Tryz.prog 120 #[.P xb,.string k,.agg i.cells.toArray] w fun e w'=>e=.returned (.I (m9 p k i))/\St W (xvP xb vB n (p9 p k i)::R) w':=by
 obtain⟨x0,x1,x2,x3⟩:=i;have Hw:=jH hw;clear hw
 cases hk:B8 k with
 | false=>
  have e1:m9 p k ⟨x0,x1,x2,x3⟩=1:=by simp[m9,hk]
  have e2:p9 p k ⟨x0,x1,x2,x3⟩=p:=by simp[p9,hk]
  rw[e1,e2];clear e1 e2;simp only[It.cells];go_enter Tryz.func120,Tryz.ntmps120;go_wp2_with(first|go_big_skip|go_at_call 115;refine(dE4 k W _ _ hS).mono ?_;clear hS;rw[hk];rintro e w ⟨rfl,hS⟩|refine zbx hS ?_;clear hS;intro b w hS);go_ret;exact⟨rfl,hS.drop⟩
 | true=>
  cases hi:s9 ⟨x0,x1,x2,x3⟩with
  | false=>
   have e1:m9 p k ⟨x0,x1,x2,x3⟩=1:=by simp[m9,hk,hi]
   have e2:p9 p k ⟨x0,x1,x2,x3⟩=p:=by simp[p9,hk,hi]
   rw[e1,e2];clear e1 e2;simp only[It.cells];go_enter Tryz.func120,Tryz.ntmps120;go_wp2_with(first|go_at_call 115;refine(dE4 k W _ _ hS).mono ?_;clear hS;rw[hk];rintro e w ⟨rfl,hS⟩|go_at_call 116;refine(CB7 _ _ _ _ W _ _ hS).mono ?_;clear hS;rw[hi];rintro e w ⟨rfl,hS⟩|refine zbx hS ?_;clear hS;intro b w hS|refine zlN hS ?_);go_ret;exact⟨rfl,hS.drop⟩
  | true=>
   obtain⟨px,hx⟩:∃x,k9 p k=x:=⟨_,rfl⟩
   obtain⟨p0,p1,p2,p3⟩:=px
   cases ha:J8 ⟨p0,p1,p2,p3⟩ ⟨x0,x1,x2,x3⟩with
   | false=>
    have e1:m9 p k ⟨x0,x1,x2,x3⟩=14:=by simp[m9,hk,hi,hx,ha]
    have e2:p9 p k ⟨x0,x1,x2,x3⟩=p:=by simp[p9,hk,hi,hx,ha]
    rw[e1,e2];have Hx:=jH hx;have Ha:=jH ha;clear ha hx e1 e2;simp only[It.cells];go_enter Tryz.func120,Tryz.ntmps120;go_wp2_with(first|go_at_call 115;refine(dE4 k W _ _ hS).mono ?_;clear hS;rw[hk];rintro e w ⟨rfl,hS⟩|go_at_call 116;refine(CB7 _ _ _ _ W _ _ hS).mono ?_;clear hS;rw[hi];rintro e w ⟨rfl,hS⟩|refine zbx hS ?_;clear hS;intro b w hS|refine zlN hS ?_);refine rf3 tB23b (fun i=>i==8) (fun i=>if i==2 then some (.agg #[.I p0,.I p1,.I p2,.I p3])else if i==4 then some (.tuple #[.agg #[.I (0),.I (0),.I (0),.I (0)],.bool false])else none) [⟨some 8,some 9,fun nd=>j5 (nd 8) [.I 0,.I 0,.I 0,.I 0] 29⟩,⟨some 9,none,fun nd=>j5 (nd 8) [.I (0),.I (0),.I (0),.I (0)] 29⟩] [none,none] hS ?_;intro nd
    iterate 2 (refine cR ?_)
    (refine zcv ?_ (hs:=by(intro F w hS;(try clear hS0);exact Eh7 Hw.out Hx.out hS (by exact r6))));refine zcN ?_;refine zcv ?_ (hs:=by(intro F w hS;(try clear hS0);exact Rw7 Ha.out W w _ hS))
    iterate 3 (refine cR ?_)
    (refine zca ?_);refine zct ?_;refine cR ?_;refine Ad7 ?_;clear hS;intro w hS;have hS2:St W [j5 (nd 8) _ _,blk b _ _,xvP xb vB n p,sats R] w:=hS;clear hS;have hS:=hS2.unpack [_,_,_];clear hS2;simp only[jK,jN]at hS;generalize nd 8=v12 at *;have h1:=hS.ptr;clear hS;obtain⟨b2,rfl,hS⟩:=h1;go_wp2_with(fail);go_ret;exact⟨rfl,hS.s _⟩
   | true=>
    have e1:m9 p k ⟨x0,x1,x2,x3⟩=0:=by simp[m9,hk,hi,hx,ha]
    have e2:p9 p k ⟨x0,x1,x2,x3⟩=H7 p k ⟨p0-x0,p1-x1,p2-x2,p3-x3⟩:=by simp[p9,hk,hi,hx,ha,bD4]
    rw[e1,e2];have Hx:=jH hx;have Ha:=jH ha;clear ha hx e1 e2;simp only[It.cells];go_enter Tryz.func120,Tryz.ntmps120;go_wp2_with(first|go_at_call 115;refine(dE4 k W _ _ hS).mono ?_;clear hS;rw[hk];rintro e w ⟨rfl,hS⟩|go_at_call 116;refine(CB7 _ _ _ _ W _ _ hS).mono ?_;clear hS;rw[hi];rintro e w ⟨rfl,hS⟩|refine zbx hS ?_;clear hS;intro b w hS|refine zlN hS ?_);refine rf3 tB23b (fun i=>i==8) (fun i=>if i==2 then some (.agg #[.I p0,.I p1,.I p2,.I p3])else if i==4 then some (.tuple #[.agg #[.I (p0-x0),.I (p1-x1),.I (p2-x2),.I (p3-x3)],.bool true])else none) [⟨some 8,some 9,fun nd=>j5 (nd 8) [.I 0,.I 0,.I 0,.I 0] 29⟩,⟨some 9,none,fun nd=>j5 (nd 8) [.I (p0-x0),.I (p1-x1),.I (p2-x2),.I (p3-x3)] 29⟩] [none,none] hS ?_;intro nd
    iterate 2 (refine cR ?_)
    (refine zcv ?_ (hs:=by(intro F w hS;(try clear hS0);exact Eh7 Hw.out Hx.out hS (by exact r6))));refine zcN ?_;refine zcv ?_ (hs:=by(intro F w hS;(try clear hS0);exact PC7 Ha.out W w _ hS))
    iterate 3 (refine cR ?_)
    (refine zca ?_);refine zct ?_;refine cR ?_;refine Ad7 ?_;clear hS;intro w hS;have hS2:St W [j5 (nd 8) _ _,blk b _ _,xvP xb vB n p,sats R] w:=hS;clear hS;have hS:=hS2.unpack [_,_,_];clear hS2;simp only[jK,jN]at hS;generalize nd 8=v12 at *;have h1:=hS.ptr;clear hS;obtain⟨b2,rfl,hS⟩:=h1;go_wp2_with(first|go_at_call 119;refine(cc4 Hw.out hN k ⟨p0-x0,p1-x1,p2-x2,p3-x3⟩ (hS.s (xvP xb vB n p::R))).mono ?_;clear hS;rintro e w ⟨rfl,hS⟩|refine zlN hS ?_);go_ret;exact⟨rfl,hS⟩
end
def xkP(xB:Nat)(L:List Ord)(n:Int):HP:=fun f=>∃(v:Value) (last:Int),last<n/\sats [blk xB [v,.I last] 244,j7 v L] f
section
variable{W w:World}{xB:Nat}{L:List Ord}{n:Int}{R:List HP}
theorem bA4(h:St W (xkP xB L n::R) w):∃a c last,last<n/\St W (blk xB [.slice a L.length c,.I last] 244::j7 (.slice a L.length c) L::R) w:=by obtain⟨v,h⟩:=St.ex h;obtain⟨last,h⟩:=St.ex h;obtain⟨h1,h⟩:=St.and h;have hS:=(St.split (St.split h).swap).swap.drop.swap;obtain⟨a,c,rfl⟩:=hS.drop.rowVal;exact⟨a,c,last,h1,hS⟩
theorem aR4{v:Value}{last:Int}(hl:last<n)(h:St W (blk xB [v,.I last] 244::j7 v L::R) w):St W (xkP xB L n::R) w:=by refine St.mkEx v (St.mkEx last (St.mkAnd hl ?_));refine St.join ?_;refine St.swap (St.imp h.swap ?_);intro f hf;exact⟨fun _=>true,hf,trivial⟩
end
abbrev xvR(xb xB:Nat)(p:Ps)(L:List Ord)(n:Int)(R:List HP):List HP:=xvP xb (.P xB) n p::xkP xB L n::R
section
variable(xb xB:Nat)(p:Ps)(L:List Ord)(n:Int)(N:Nat)(o:Ord)(W w:World)(R:List HP)
theorem Mk7(h:bv4 o=false)(hS:St W (xvR xb xB p L n R) w):
  Calls Tryz.prog 121 #[.P xb,.agg o.cells.toArray] w fun e w'=>e=.returned (.tuple #[.I 0,.I 1])/\St W (xvR xb xB p L n R) w':=by
 obtain⟨i,u,y,t,c,pr⟩:=o;have hm:K5 ⟨1,u,y,t,c,pr⟩=false:=h;clear h;simp only[Ord.cells];obtain⟨xv,hS1⟩:=ba4 hS;obtain⟨la,lc,last,hlast,hS2⟩:=bA4 (hS1.s (xkP xB L n::blk xb _ _::hdR _ (hdL p)::R));clear hS hS1;have hS:=hS2;clear hS2;go_enter Tryz.func121,Tryz.ntmps121;go_wp2_with(first|go_at_call 182;refine(Bx7 ⟨1,u,y,t,c,pr⟩ W _ _ hS).mono ?_;clear hS;rw[hm];rintro e w ⟨rfl,hS⟩|(with_reducible apply AG7 hS);rfl;rfl;rfl;rfl;clear hS;intro b3 w hS;refine frS ?_|(with_reducible apply Al7 hS);rfl;rfl;exact zsS;clear hS;intro b6 w hS;refine frS ?_|refine zl1 hS ?_|refine zlN hS ?_|refine zs1 hS ?_;clear hS;intro w hS|refine zsN hS ?_;clear hS;intro w hS);go_ret2;have hS1:=aR4 hlast (hS.s (blk xB _ _::j7 _ L::blk xb _ _::hdR _ (hdL p)::R));exact⟨rfl,av4 (hS1.s (blk xb _ _::hdR _ (hdL p)::xkP xB L n::R))⟩
theorem JX7(h:bv4 o=true)(hf:32<=L.length\/1099511627776<n)(hS:St W (xvR xb xB p L n R) w):
  Calls Tryz.prog 121 #[.P xb,.agg o.cells.toArray] w fun e w'=>e=.returned (.tuple #[.I 0,.I 6])/\St W (xvR xb xB p L n R) w':=by
 obtain⟨i,u,y,t,c,pr⟩:=o;have hm:K5 ⟨1,u,y,t,c,pr⟩=true:=h;clear h;simp only[Ord.cells];obtain⟨xv,hS1⟩:=ba4 hS;obtain⟨la,lc,last,hlast,hS2⟩:=bA4 (hS1.s (xkP xB L n::blk xb _ _::hdR _ (hdL p)::R));clear hS hS1;have hS:=hS2;clear hS2;by_cases hl:32<=L.length
 ·have d1:(32:Int)<=(L.length:Int):=by omega
  clear hf;go_enter Tryz.func121,Tryz.ntmps121;go_wp2_with(first|go_at_call 182;refine(Bx7 ⟨1,u,y,t,c,pr⟩ W _ _ hS).mono ?_;clear hS;rw[hm];rintro e w ⟨rfl,hS⟩|(with_reducible apply AG7 hS);rfl;rfl;rfl;rfl;clear hS;intro b3 w hS;refine frS ?_|(with_reducible apply Al7 hS);rfl;rfl;exact zsS;clear hS;intro b6 w hS;refine frS ?_|refine zl1 hS ?_|refine zlN hS ?_|refine zs1 hS ?_;clear hS;intro w hS|refine zsN hS ?_;clear hS;intro w hS);go_ret2;have hS1:=aR4 hlast (hS.s (blk xB _ _::j7 _ L::blk xb _ _::hdR _ (hdL p)::R));exact⟨rfl,av4 (hS1.s (blk xb _ _::hdR _ (hdL p)::xkP xB L n::R))⟩
 ·have d1:decide ((32:Int)<=(L.length:Int))=false:=by simp;omega
  have d2:1099511627776<n:=hf.resolve_left hl;clear hf hl;go_enter Tryz.func121,Tryz.ntmps121;go_wp2_with(first|go_at_call 182;refine(Bx7 ⟨1,u,y,t,c,pr⟩ W _ _ hS).mono ?_;clear hS;rw[hm];rintro e w ⟨rfl,hS⟩|(with_reducible apply AG7 hS);rfl;rfl;rfl;rfl;clear hS;intro b3 w hS;refine frS ?_|(with_reducible apply Al7 hS);rfl;rfl;exact zsS;clear hS;intro b6 w hS;refine frS ?_|refine zl1 hS ?_|refine zlN hS ?_|refine zs1 hS ?_;clear hS;intro w hS|refine zsN hS ?_;clear hS;intro w hS);go_ret2;have hS1:=aR4 hlast (hS.s (blk xB _ _::j7 _ L::blk xb _ _::hdR _ (hdL p)::R));exact⟨rfl,av4 (hS1.s (blk xb _ _::hdR _ (hdL p)::xkP xB L n::R))⟩
theorem Ei7{o:Ord}{h0 h1 h2 h3:Int}(hm:MayP o)(h:j9 o=⟨h0,h1,h2,h3⟩)(W w:World)(R:List HP)(hS:St W R w):
  Calls Tryz.prog 183 #[.agg o.cells.toArray] w fun e w'=>e=.returned (.agg #[.I h0,.I h1,.I h2,.I h3])/\St W R w':=
 (fI4 o hm W w R hS).mono fun e w' ⟨he,hS⟩=>⟨by rw[he,h];rfl,hS⟩
theorem IK7(hw:PsW p N)(hN:N<=1000000)(h:bv4 o=true)(hL:L.length<32)(hn0:1<=n)(hn:n<=1099511627776)(ht:m9 p o.who (j9 o)=14)(hS:St W (xvR xb xB p L n R) w):
  Calls Tryz.prog 121 #[.P xb,.agg o.cells.toArray] w fun e w'=>e=.returned (.tuple #[.I 0,.I 14])/\St W (xvR xb xB p L n R) w':=by
 obtain⟨i,u,y,t,c,pr⟩:=o;have hm:K5 ⟨1,u,y,t,c,pr⟩=true:=h;have hm1:=Av7.1 hm;have hm2:MayP ⟨n,u,y,t,c,pr⟩:=⟨hn0,hn,hm1.who0,hm1.who1,hm1.item0,hm1.item1,hm1.cnt0,hm1.cnt1,hm1.price0,hm1.price1⟩
 have ht':m9 p u (j9 ⟨n,u,y,t,c,pr⟩)=14:=ht
 have hp':p9 p u (j9 ⟨n,u,y,t,c,pr⟩)=p:=by
  unfold m9 at ht';unfold p9;split at ht'
  ·rename_i hc
   rw[if_pos hc];split at ht'
   ·cases ht'
   ·rename_i hs;rw[if_neg hs]
  ·cases ht'
 have Hm2:=jH hm2;have Hw:=jH hw;clear h ht hm1 hm2 hw;have d1:decide ((32:Int)<=(L.length:Int))=false:=by simp;omega
 have d2:decide ((1099511627776:Int)<n)=false:=by simp;omega
 simp only[Ord.cells];obtain⟨it,hit⟩:∃x,j9 ⟨n,u,y,t,c,pr⟩=x:=⟨_,rfl⟩
 rw[hit]at ht' hp';obtain⟨h0,h1,h2,h3⟩:=it;have Hit:=jH hit;have Hte:=jH ht';have Htp:=jH hp';clear hit ht' hp';obtain⟨xv,hS1⟩:=ba4 hS;obtain⟨la,lc,last,hlast,hS2⟩:=bA4 (hS1.s (xkP xB L n::blk xb _ _::hdR _ (hdL p)::R));clear hS hS1;have hS:=hS2;clear hS2;go_enter Tryz.func121,Tryz.ntmps121;go_wp2_with(first|go_at_call 182;refine(Bx7 ⟨1,u,y,t,c,pr⟩ W _ _ hS).mono ?_;clear hS;rw[hm];rintro e w ⟨rfl,hS⟩|(with_reducible apply AG7 hS);rfl;rfl;rfl;rfl;clear hS;intro b3 w hS;refine frS ?_|(with_reducible apply Al7 hS);rfl;rfl;exact zsS;clear hS;intro b6 w hS;refine frS ?_|refine zl1 hS ?_|refine zlN hS ?_|refine zs1 hS ?_;clear hS;intro w hS|refine zsN hS ?_;clear hS;intro w hS);refine rt 5 hS ?_
 iterate 2 (refine qR ?_)
 (refine zq1 ?_);refine zqN ?_;apply Ar7;rfl;(intro w;apply Ag7;rfl;decide +kernel;(focus(simp only[fD,fI,fJ,Act.eval,fE,fF,fG,fH,fK];try rfl)));(intro w hS;exact Ei7 (o:=⟨n,u,y,t,c,pr⟩) Hm2.out Hit.out W w _ hS);(refine frS ?_);clear hS;intro w hS;simp only[jD,List.drop_zero];go_wp2_with(first|go_at_call 120;refine(et4 xb _ n p N W _ _ Hw.out hN u ⟨h0,h1,h2,h3⟩ (av4 (hS.s (blk xb _ _::hdR _ (hdL p)::blk xB _ _::j7 _ L::blk b6 _ _::blk b3 _ _::R)))).mono ?_;clear hS;rw[Hte.out,Htp.out];rintro e w ⟨rfl,hS⟩);go_ret2;have hS1:=aR4 hlast (hS.s (blk xB _ _::j7 _ L::xvP xb _ n p::R));exact⟨rfl,hS1.s _⟩
end
def pxR(xB:Nat)(L:List Ord)(m:Int)(ts:List Trd)(v:Value):HP:=fun f=>∃(a:Option Addr) (c:Nat) (left:Int),v=.tuple #[.slice a ts.length c,.I left,.I 0]/\sats [xkP xB L m,row (.slice a ts.length c) 8 251 ts.length (ts.flatMap Trd.cells)] f
section
variable{W w:World}{xB:Nat}{L:List Ord}{m n:Int}{ts:List Trd}{v:Value}{R:List HP}
theorem eu4(h:St W (pxR xB L m ts v::R) w):∃a c left,v=.tuple #[.slice a ts.length c,.I left,.I 0]/\St W (xkP xB L m::row (.slice a ts.length c) 8 251 ts.length (ts.flatMap Trd.cells)::R) w:=by obtain⟨a,h⟩:=St.ex h;obtain⟨c,h⟩:=St.ex h;obtain⟨left,h⟩:=St.ex h;obtain⟨h1,h⟩:=St.and h;refine⟨a,c,left,h1,?_⟩;exact(St.split (St.split h).swap).swap.drop.swap
theorem fK4{a:Option Addr}{c:Nat}{left:Int}(hv:v=.tuple #[.slice a ts.length c,.I left,.I 0])(h:St W (xkP xB L m::row (.slice a ts.length c) 8 251 ts.length (ts.flatMap Trd.cells)::R) w):St W (pxR xB L m ts v::R) w:=by refine St.mkEx a (St.mkEx c (St.mkEx left (St.mkAnd hv ?_)));refine St.join ?_;refine St.swap (St.imp h.swap ?_);intro f hf;exact⟨fun _=>true,hf,trivial⟩
theorem ev4{L1 R1:List HP}(hS:St W L1 w)(hu:Take L1 (pxR xB L m ts v) R1):∃vs:Array Value,v=.tuple vs/\vs.size=3:=by obtain⟨a,c,left,h,_⟩:=eu4 (hS.take hu);exact⟨_,h,rfl⟩
theorem eT4{o:Ord}{L2:List Ord}(hm:MayP o)(hid:o.id=n)(hL:L.length<32)(hmay:∀x∈L,MayP x)(h1:cX4 L o=L2)(h2:be4 L o=ts)(hS:St W (xkP xB L n::R) w):
  Calls Tryz.prog 184 #[.P xB,.agg o.cells.toArray] w fun e w'=>∃v,e=.returned v/\St W (pxR xB L2 (n+1) ts v::R) w':=by
 subst h1 h2;obtain⟨a,c,last,hlast,hS⟩:=bA4 hS;have hno:¬(K5 o=false\/o.id<=last):=by rintro(h|h);(rw[Av7.2 hm]at h;cases h);omega
 have ht:(F7 L last o).trades=be4 L o:=by unfold F7;rw[if_neg hno,if_neg (by omega)];rfl
 have hl:(F7 L last o).L=cX4 L o:=by unfold F7;rw[if_neg hno,if_neg (by omega)];rfl
 refine(JN7 L last o xB _ (Av7.2 hm) (by omega) (by omega) (fun x hx=>⟨(hmay x hx).cnt0,(hmay x hx).cnt1⟩) W w R hS).mono ?_;rw[ht,hl];rintro e w' ⟨v7,v',rfl,hS⟩;obtain⟨a7,c7,rfl⟩:=hS.drop.drop.rowVal;exact⟨_,rfl,fK4 rfl (aR4 (by omega) hS)⟩
end
def OxR(W:World)(F:Ps->List HP)(p:Ps)(ts:List Trd)(v:Value)(w:World):Prop:=
 ∃(k:Nat),v=.I k/\k<=ts.length/\St W (F ((ts.take k).foldl aK4 p)) w
section
variable(xb xB:Nat)(p:Ps)(L:List Ord)(n:Int)(N:Nat)(o:Ord)(W w:World)(R:List HP)
theorem NS7(hp:M6 p)(hw:PsW p N)(hN:N+150<=1000000)(hmay:∀x∈L,MayP x)(h:bv4 o=true)(hn0:1<=n)(hn:n<=1099511627776)(hL:L.length<32)(ht:m9 p o.who (j9 o)=0)(hS:St W (xvR xb xB p L n R) w):
  Calls Tryz.prog 121 #[.P xb,.agg o.cells.toArray] w fun e w'=>e=.returned (.tuple #[.I n,.I 0]) /\
   St W (xvR xb xB ((be4 L { o with id:=n }).foldl aK4 (p9 p o.who (j9 o))) (cX4 L { o with id:=n }) (n+1) R) w':=by
 obtain⟨i,u,y,t,c,pr⟩:=o;have hm:K5 ⟨1,u,y,t,c,pr⟩=true:=h;have hm1:=Av7.1 hm;have hm2:MayP ⟨n,u,y,t,c,pr⟩:=⟨hn0,hn,hm1.who0,hm1.who1,hm1.item0,hm1.item1,hm1.cnt0,hm1.cnt1,hm1.price0,hm1.price1⟩
 have eh:j9 ⟨i,u,y,t,c,pr⟩=j9 ⟨n,u,y,t,c,pr⟩:=rfl;have ht':m9 p u (j9 ⟨n,u,y,t,c,pr⟩)=0:=ht;have c0':1<=c:=hm2.cnt0;have c1':c<=1048576:=hm2.cnt1;have htr:∀x∈be4 L ⟨n,u,y,t,c,pr⟩,TrB x:=Da7 _ _ _ _ hmay ⟨show 0<=c by omega,c1',hm2.item0,hm2.item1,hm2.price1⟩ fun t ht=>(by cases ht)
 have htw:∀x∈be4 L ⟨n,u,y,t,c,pr⟩,B8 x.buyer=true/\B8 x.seller=true:=EO7 _ _ _ _ (fun x hx=>EM7 (hmay x hx)) (EM7 hm2) fun t ht=>(by cases ht)
 have htl:(be4 L ⟨n,u,y,t,c,pr⟩).length<=33:=by have:=EN7 (L.length+1) ⟨n,u,y,t,c,pr⟩ L [];unfold be4;rw[List.length_nil]at this;omega
 have hok1:M6 (p9 p u (j9 ⟨n,u,y,t,c,pr⟩)):=CA7 hp _ _;have hw1:PsW (p9 p u (j9 ⟨n,u,y,t,c,pr⟩)) (N+1):=Fv7 hw _ _;simp only[eh];obtain⟨p1,hp1⟩:∃x,p9 p u (j9 ⟨n,u,y,t,c,pr⟩)=x:=⟨_,rfl⟩
 rw[hp1]at hok1 hw1;simp only[hp1];obtain⟨it,hit⟩:∃x,j9 ⟨n,u,y,t,c,pr⟩=x:=⟨_,rfl⟩
 rw[hit]at ht' hp1;obtain⟨h0,h1,h2,h3⟩:=it;obtain⟨ts,hts⟩:∃x,be4 L ⟨n,u,y,t,c,pr⟩=x:=⟨_,rfl⟩
 obtain⟨L2,hL2⟩:∃x,cX4 L ⟨n,u,y,t,c,pr⟩=x:=⟨_,rfl⟩
 simp only[hts,hL2];rw[hts]at htr htw htl;have Hts:=jH hts;have HL2:=jH hL2;clear hts hL2;have Hm2:=jH hm2;have Hit:=jH hit;have Hte:=jH ht';have Htp:=jH hp1;have Hok:=jH hok1;have Hw:=jH hw;have Hw1:=jH hw1;have Htr:=jH htr;have Htw:=jH htw;have Hmay:=jH hmay;have hN':=hN;have hN:N<=1000000:=by omega
 have d1:decide ((32:Int)<=(L.length:Int))=false:=by simp;omega
 have d2:decide ((1099511627776:Int)<n)=false:=by simp;omega
 clear hit ht' hp1 h ht eh hok1 htr htw hmay hm1 hm2 hp hw hw1;simp only[Ord.cells];obtain⟨xv,hS1⟩:=ba4 hS;obtain⟨la,lc,last,hlast,hS2⟩:=bA4 (hS1.s (xkP xB L n::blk xb _ _::hdR _ (hdL p)::R));clear hS hS1;have hS:=hS2;clear hS2;go_enter Tryz.func121,Tryz.ntmps121;go_wp2_with(first|go_at_call 182;refine(Bx7 ⟨1,u,y,t,c,pr⟩ W _ _ hS).mono ?_;clear hS;rw[hm];rintro e w ⟨rfl,hS⟩|(with_reducible apply AG7 hS);rfl;rfl;rfl;rfl;clear hS;intro b3 w hS;refine frS ?_|(with_reducible apply Al7 hS);rfl;rfl;exact zsS;clear hS;intro b6 w hS;refine frS ?_|refine zl1 hS ?_|refine zlN hS ?_|refine zs1 hS ?_;clear hS;intro w hS|refine zsN hS ?_;clear hS;intro w hS);refine rt 5 hS ?_
 iterate 2 (refine qR ?_)
 (refine zq1 ?_);refine zqN ?_;apply Ar7;rfl;(intro w;apply Ag7;rfl;decide +kernel;(focus(simp only[fD,fI,fJ,Act.eval,fE,fF,fG,fH,fK];try rfl)));(intro w hS;exact Ei7 (o:=⟨n,u,y,t,c,pr⟩) Hm2.out Hit.out W w _ hS);(refine frS ?_);clear hS;intro w hS;simp only[jD,List.drop_zero];go_wp2_with(first|go_at_call 120;refine(et4 xb _ n p N W _ _ Hw.out hN u ⟨h0,h1,h2,h3⟩ (av4 (hS.s (blk xb _ _::hdR _ (hdL p)::blk xB _ _::j7 _ L::blk b6 _ _::blk b3 _ _::R)))).mono ?_;clear hS;rw[Hte.out,Htp.out];rintro e w ⟨rfl,hS⟩;(have hS1:=ba4 hS);clear hS;obtain⟨xv2,hS⟩:=hS1|refine zl1 hS ?_|refine zs1 hS ?_;clear hS;intro w hS);have hSk:=aR4 hlast (hS.s (blk xB _ _::j7 _ L::blk b3 _ _::blk xb _ _::hdR _ (hdL p1)::R));clear hS;refine rf3 [0,1,3,7,0,31,63,127,127,127,255,1535,4095] (fun i=>i==5) (fun _=>none) [⟨some 5,none,fun nd=>pxR xB L2 (n+1) ts (nd 5)⟩] [some 5,none,none,none] hSk ?_;clear hSk;intro nd;refine cR ?_;refine zcn ?_;refine cR ?_;refine zc1 ?_;refine zcN ?_;apply AA7;rfl;rfl;rfl;decide +kernel;(focus(simp only[fD,fI,fJ,Act.eval,fE,fF,fG,fH,fK];try rfl));(intro _;rfl);(intro F w hS;exact eT4 (o:=⟨n,u,y,t,c,pr⟩) Hm2.out rfl hL Hmay.out HL2.out Hts.out hS);(refine frS ?_);refine cR ?_;apply EJ7 (v:=nd 5);rfl;kernel_rfl;rfl;rfl;rfl;(intro F w hS;exact ev4 hS (by exact r6));decide;(refine frS ?_);apply EJ7 (v:=nd 5);rfl;kernel_rfl;rfl;rfl;rfl;(intro F w hS;exact ev4 hS (by exact r6));decide;(refine frS ?_);apply EJ7 (v:=nd 5);rfl;kernel_rfl;rfl;rfl;rfl;(intro F w hS;exact ev4 hS (by exact r6));decide;(refine frS ?_)
 iterate 3 (refine cR ?_)
 refine Ad7 ?_;intro w hS;have hS2:St W [pxR xB _ _ _ (nd 5),blk b3 _ _,blk xb _ _,hdR _ (hdL p1),sats R] w:=hS;clear hS;have hS:=hS2.unpack [_,_,_,_];clear hS2;simp only[jK,jN]at hS;generalize nd 5=v5 at *;obtain⟨ta,tc,left,hv5,hS5⟩:=eu4 hS;clear hS;subst hv5;have hS:=av4 (hS5.s (blk xb _ _::hdR _ (hdL p1)::xkP xB L2 (n+1)::row (.slice ta ts.length tc) 8 _ _ _::blk b3 _ _::R));clear hS5;simp only[dT4,Array.getD_eq_getD_getElem?,List.getElem?_toArray,List.getElem?_cons_zero,List.getElem?_cons_succ,Option.getD_some];go_wp2_with(fail)
 go_loopw [11] (fun v wr=>OxR W (fun q=>[xvP xb (.P xB) (n+1) q,xkP xB L2 (n+1),row (.slice ta ts.length tc) 8 251 ts.length (ts.flatMap Trd.cells),blk b3 [.I n,.string u,.bool y,.I t,.I c,.I pr] 166]++R) p1 ts v wr) (fun v _=>ts.length-(intOf v).toNat)
 case atStart=>exact⟨0,rfl,Nat.zero_le _,hS⟩
 case round=>
  clear hS;obtain⟨k,rfl,hk,hS⟩:=hrel;simp only[jK,jN]at hS;by_cases hkn:k=ts.length
  ·subst hkn;rw[List.take_length]at hS;go_wp2_with(first|refine zl1 hS ?_);go_ret2;exact⟨rfl,hS.s _⟩
  ·have hk1:k<ts.length:=by omega
   clear hkn hk;obtain⟨⟨g,rfl⟩,_,_⟩:=St.rowAddr hS.drop.drop (by omega);have hcells:∀{K K':List HP},Take K (row (.S g ts.length tc) 8 251 ts.length (ts.flatMap Trd.cells)) K'->i5 K g (k*8) (Trd.cells ts[k]):=fun hu=>i5.elemM (enc:=Trd.cells) Trd.len hu hk1
   have hq:M6 ((ts.take k).foldl aK4 p1):=Ec7 _ Hok.out fun x hx=>Htr.out x (List.mem_of_mem_take hx)
   have hqw:PsW ((ts.take k).foldl aK4 p1) (N+110):=At7 (HD7 _ Hw1.out fun x hx=>Htw.out x (List.mem_of_mem_take hx)) (by rw[jT];omega);have hstep:(ts.take (k+1)).foldl aK4 p1=aK4 ((ts.take k).foldl aK4 p1) ts[k]:=by rw[List.take_succ_eq_append_getElem hk1,List.foldl_append];rfl
   have hb:=Htr.out _ (jW hk1);have hb2:=Htw.out _ (jW hk1);have Hstep:=jH hstep;have Hq:=jH hq;have Hqw:=jH hqw;clear hstep hq hqw;generalize (ts.take k).foldl aK4 p1=q at hS Hstep Hq Hqw;generalize ts[k]=x at hcells Hstep hb hb2;obtain⟨ub,us,xi,xj,xt,xc,xp,xd⟩:=x;obtain⟨⟨c0,c1⟩,⟨t0,t1⟩,⟨p0,p1'⟩,⟨b0,b1⟩⟩:=hb;simp only at c0 c1 t0 t1 p0 p1' b0 b1 hb2;have m1:=Ci7 c0 c1 b0 b1;have m2:=Ci7 c0 c1 p0 p1';have n1:xc*(xd-xp)<=9223372036854775807:=by omega
   have n2 : -9223372036854775808<=xc*(xd-xp):=by omega
   have n3:xc*xp<=9223372036854775807:=by omega
   have n4 : -9223372036854775808<=xc*xp:=by omega
   simp only[Trd.cells]at hcells;have G1:=jH (show ∀y,s9 (k9 q y)=true from Hq.out);have G2:=jH (show ∀y,s9 (k9 (l8 q ub xt xc) y)=true from Aq7 Hq.out _ _ c0);have G3:=jH (show ∀y,s9 (k9 (l8 (l8 q ub xt xc) ub 0 (xc*(xd-xp))) y)=true from Aq7 (Aq7 Hq.out _ _ c0) _ _ m1.1);have W1:=jH (show PsW q 1000000 from At7 Hqw.out (by omega));have W2:=jH (show PsW (l8 q ub xt xc) 1000000 from At7 (AO7 Hqw.out hb2.1 _ _) (by omega));have W3:=jH (show PsW (l8 (l8 q ub xt xc) ub 0 (xc*(xd-xp))) 1000000 from At7 (AO7 (AO7 Hqw.out hb2.1 _ _) hb2.1 _ _) (by omega));clear hb2;go_wp2_with(fail);refine rt 16 hS ?_
   iterate 5 (refine qR ?_)
   (apply Aj7;rfl;rfl;rfl;decide +kernel;exact hcells (by exact i6) 0 _ rfl;refine frS ?_)
   iterate 4 (refine qR ?_)
   (apply Aj7;rfl;rfl;rfl;decide +kernel;exact hcells (by exact i6) 4 _ rfl;refine frS ?_)
   iterate 4 (refine qR ?_)
   (apply Aj7;rfl;rfl;rfl;decide +kernel;exact hcells (by exact i6) 5 _ rfl;refine frS ?_);clear hS;intro w hS;simp only[jD,List.drop_zero];go_wp2_with(first|go_at_call 185;refine(cY4 xb _ (n+1) _ 1000000 W _ _ W1.out (Nat.le_refl _) _ _ _ (G1.out _) ⟨by omega,by omega⟩ ⟨by omega,by omega⟩ hS).mono ?_;clear hS;rintro e w ⟨rfl,hS⟩);refine rt 23 hS ?_
   iterate 5 (refine qR ?_)
   (apply Aj7;rfl;rfl;rfl;decide +kernel;exact hcells (by exact i6) 0 _ rfl;refine frS ?_)
   iterate 4 (refine qR ?_)
   (apply Aj7;rfl;rfl;rfl;decide +kernel;exact hcells (by exact i6) 5 _ rfl;refine frS ?_)
   iterate 4 (refine qR ?_)
   (apply Aj7;rfl;rfl;rfl;decide +kernel;exact hcells (by exact i6) 7 _ rfl;refine frS ?_)
   iterate 4 (refine qR ?_)
   (apply Aj7;rfl;rfl;rfl;decide +kernel;exact hcells (by exact i6) 6 _ rfl;refine frS ?_)
   iterate 2 (refine qR ?_)
   clear hS;intro w hS;simp only[jD,List.drop_zero];go_wp2_with(first|go_at_call 185;refine(cY4 xb _ (n+1) _ 1000000 W _ _ W2.out (Nat.le_refl _) _ _ _ (G2.out _) ⟨by omega,by omega⟩ ⟨by omega,by omega⟩ hS).mono ?_;clear hS;rintro e w ⟨rfl,hS⟩);refine rt 17 hS ?_
   iterate 5 (refine qR ?_)
   (apply Aj7;rfl;rfl;rfl;decide +kernel;exact hcells (by exact i6) 1 _ rfl;refine frS ?_)
   iterate 4 (refine qR ?_)
   (apply Aj7;rfl;rfl;rfl;decide +kernel;exact hcells (by exact i6) 5 _ rfl;refine frS ?_)
   iterate 4 (refine qR ?_)
   (apply Aj7;rfl;rfl;rfl;decide +kernel;exact hcells (by exact i6) 6 _ rfl;refine frS ?_);refine qR ?_;clear hS;intro w hS;simp only[jD,List.drop_zero];go_wp2_with(first|go_at_call 185;refine(cY4 xb _ (n+1) _ 1000000 W _ _ W3.out (Nat.le_refl _) _ _ _ (G3.out _) ⟨by omega,by omega⟩ ⟨by omega,by omega⟩ hS).mono ?_;clear hS;rintro e w ⟨rfl,hS⟩);go_roundw
   case rel=>exact⟨k+1,rfl,hk1,by rw[Hstep.out];exact hS⟩
   case measure=>simp[intOf];omega
end
end Go.Proofs.YtlmhakmoioogaaaGreat
end
