/-
  The document's vault in terms of the program's purses.
-/
import Derived.Test.YtienbkdjkjbelaaGreatJuTM5
import Derived.Test.YtienbkdjkjbelaaGreatJuTM17
import Derived.Test.YtienbkdjkjbelaaGreatJuTM31
set_option maxHeartbeats 16000000
set_option maxRecDepth 100000
set_option linter.unusedSimpArgs false
set_option linter.unusedVariables false
section
namespace Go.Proofs.YtienbkdjkjbelaaGreat
open Go.RowKit Go.Sl
def xvP(xb:Nat)(vB:Value)(n:Int)(p:Ps):HP:=fun f=>∃v:Value,sats [blk xb [v,vB,.I n] 183,hdR v (hdL p)] f
section
variable{W w:World}{xb:Nat}{vB:Value}{n:Int}{p:Ps}{R:List HP}{N:Nat}
theorem aV4(h:St W (xvP xb vB n p::R) w):∃v,St W (xvL xb v vB n (hdL p) R) w:=by obtain⟨v,h⟩:=St.ex h;exact⟨v,(St.split (St.split h).swap).swap.drop.swap⟩
theorem ao4{v:Value}(h:St W (xvL xb v vB n (hdL p) R) w):St W (xvP xb vB n p::R) w:=by refine St.mkEx v ?_;refine St.join ?_;refine St.swap (St.imp h.swap ?_);intro f hf;exact⟨fun _=>true,hf,trivial⟩
theorem bJ4(hw:PsW p N){k:ByteArray}{x0 x1 x2 x3:Int}(hx:j8 p k=⟨x0,x1,x2,x3⟩)(hS:St W (xvP xb vB n p::R) w):
  Calls Tryz.prog 100 #[.P xb,.string k] w fun e w'=>e=.returned (.agg #[.I x0,.I x1,.I x2,.I x3])/\St W (xvP xb vB n p::R) w':=by
 obtain⟨v,hS⟩:=aV4 hS;refine(gA4 (hdL p) k xb v vB n W w R hS).mono ?_;rw[Qn7 hw,hx];rintro e w' ⟨rfl,hS⟩;exact⟨rfl,ao4 hS⟩
theorem DE7(hw:PsW p N){k:ByteArray}{x0 x1 x2 x3:Int}(hx:j8 p k=⟨x0,x1,x2,x3⟩){L1 R1:List HP}(hS:St W L1 w)(ht:Take L1 (xvP xb vB n p) R1):
  Calls Tryz.prog 100 #[.P xb,.string k] w fun e w'=>e=.returned (.agg #[.I x0,.I x1,.I x2,.I x3])/\St W L1 w':=by
 refine(bJ4 hw hx (hS.take ht)).mono ?_;rintro e w' ⟨rfl,hS⟩;exact⟨rfl,hS.back ht⟩
theorem bK4(hw:PsW p N)(hN:N<=1000000)(k:ByteArray)(i:It)(hS:St W (xvP xb vB n p::R) w):
  Calls Tryz.prog 101 #[.P xb,.string k,.agg i.cells.toArray] w fun e w'=>e=.returned (.tuple #[])/\St W (xvP xb vB n (G9 p k i)::R) w':=by
 obtain⟨v,hS⟩:=aV4 hS;have hl:=hw.len;refine(gB4 (hdL p) k i (by rw[CV7];omega) xb v vB n W w R hS).mono ?_;rw[Qo7 hw];rintro e w' ⟨rfl,v',hS⟩;exact⟨rfl,ao4 hS⟩
theorem HK7{l:List It}{s0 s1 s2 s3:Int}(h:B5 l it0=some ⟨s0,s1,s2,s3⟩)(v:Value)(W w:World)(R:List HP)(hS:St W (row v 4 34 l.length (l.flatMap It.cells)::R) w):
  Calls Tryz.prog 36 #[v] w fun e w'=>e=.returned (.tuple #[.agg #[.I s0,.I s1,.I s2,.I s3],.bool true])/\St W R w':=
 (ep4 l v W w R hS).mono fun e w' ⟨he,hS⟩=>⟨by rw[he,al4,h];rfl,hS.drop⟩
theorem MH7{l:List It}(h:B5 l it0=none)(v:Value)(W w:World)(R:List HP)(hS:St W (row v 4 34 l.length (l.flatMap It.cells)::R) w):
  Calls Tryz.prog 36 #[v] w fun e w'=>e=.returned (.tuple #[.agg #[.I 0,.I 0,.I 0,.I 0],.bool false])/\St W R w':=
 (ep4 l v W w R hS).mono fun e w' ⟨he,hS⟩=>⟨by rw[he,al4,h];rfl,hS.drop⟩
theorem Ot7{x0 x1 x2 x3 y0 y1 y2 y3:Int}(h:J5 ⟨x0,x1,x2,x3⟩ ⟨y0,y1,y2,y3⟩=true)(W w:World)(R:List HP)(hS:St W R w):
  Calls Tryz.prog 133 #[.agg #[.I x0,.I x1,.I x2,.I x3],.agg #[.I y0,.I y1,.I y2,.I y3]] w fun e w'=>e=.returned (.tuple #[.agg #[.I (x0-y0),.I (x1-y1),.I (x2-y2),.I (x3-y3)],.bool true])/\St W R w':=
 (fI4 ⟨x0,x1,x2,x3⟩ ⟨y0,y1,y2,y3⟩ W w R hS).mono fun e w' ⟨he,hS⟩=>⟨by rw[he,bW4,h];rfl,hS⟩
theorem Qp7{x0 x1 x2 x3 y0 y1 y2 y3:Int}(h:J5 ⟨x0,x1,x2,x3⟩ ⟨y0,y1,y2,y3⟩=false)(W w:World)(R:List HP)(hS:St W R w):
  Calls Tryz.prog 133 #[.agg #[.I x0,.I x1,.I x2,.I x3],.agg #[.I y0,.I y1,.I y2,.I y3]] w fun e w'=>e=.returned (.tuple #[.agg #[.I 0,.I 0,.I 0,.I 0],.bool false])/\St W R w':=
 (fI4 ⟨x0,x1,x2,x3⟩ ⟨y0,y1,y2,y3⟩ W w R hS).mono fun e w' ⟨he,hS⟩=>⟨by rw[he,bW4,h];rfl,hS⟩
end
section
variable(xb:Nat)(vB:Value)(n:Int)(p:Ps)(N:Nat)(W w:World)(R:List HP)
theorem cv4(hw:PsW p N)(hN:N<=1000000)(who:ByteArray)(k m:Int)(hx:s6 (j8 p who)=true)(hk:0<=k/\k<=3)(hm:0<=m/\m<=1152921504606846976)(hS:St W (xvP xb vB n p::R) w):
  Calls Tryz.prog 136 #[.P xb,.string who,.I k,.I m] w fun e w'=>e=.returned (.tuple #[])/\St W (xvP xb vB n (l5 p who k m)::R) w':=by
 obtain⟨px,hp⟩:∃x,j8 p who=x:=⟨_,rfl⟩
 rw[hp]at hx;obtain⟨p0,p1,p2,p3⟩:=px;have Hx:=jH hp;have Hw:=jH hw;clear hp hw;obtain⟨a0,a1,a2,a3⟩:=Ag7.1 hx;simp only at a0 a1 a2 a3;clear hx;have hk4:k=0\/k=1\/k=2\/k=3:=by omega
 rcases hk4 with rfl|rfl|rfl|rfl
 ·skip
  by_cases hc:p0+m<1152921504606846976
  ·have hcap:P8 (p0+m)=p0+m:=by unfold P8;rw[if_neg (by omega)]
   have hmin:min (1152921504606846976:Int) (p0+m)=p0+m:=by omega
   have e:l5 p who 0 m=G9 p who ⟨p0+m,p1,p2,p3⟩:=by unfold l5 aj4;rw[Hx.out];simp[aE4,r7,hcap]
   rw[e];clear e hcap;go_enter Tryz.func136,Tryz.ntmps136;go_wp2_with(first|go_at_call 100;refine(bJ4 Hw.out Hx.out hS).mono ?_;clear hS;rintro e w ⟨rfl,hS⟩|go_at_call 101;refine(bK4 Hw.out hN who ⟨p0+m,p1,p2,p3⟩ (hS.s (xvP xb vB n p::blk b8 _ _::R))).mono ?_;clear hS;rintro e w ⟨rfl,hS⟩|(with_reducible apply An7 hS);rfl;rfl;exact zsS;clear hS;intro b8 w hS;refine frS ?_|refine zsN hS ?_;clear hS;intro w hS|refine zlN hS ?_|refine zl1 hS ?_|refine zs1 hS ?_;clear hS;intro w hS);go_end0;exact⟨rfl,hS.s _⟩
  ·have hcap:P8 (p0+m)=1152921504606846976:=by unfold P8;split <;> omega
   have hmin:min (1152921504606846976:Int) (p0+m)=1152921504606846976:=by omega
   have e:l5 p who 0 m=G9 p who ⟨1152921504606846976,p1,p2,p3⟩:=by unfold l5 aj4;rw[Hx.out];simp[aE4,r7,hcap]
   rw[e];clear e hcap;go_enter Tryz.func136,Tryz.ntmps136;go_wp2_with(first|go_at_call 100;refine(bJ4 Hw.out Hx.out hS).mono ?_;clear hS;rintro e w ⟨rfl,hS⟩|go_at_call 101;refine(bK4 Hw.out hN who ⟨1152921504606846976,p1,p2,p3⟩ (hS.s (xvP xb vB n p::blk b8 _ _::R))).mono ?_;clear hS;rintro e w ⟨rfl,hS⟩|(with_reducible apply An7 hS);rfl;rfl;exact zsS;clear hS;intro b8 w hS;refine frS ?_|refine zsN hS ?_;clear hS;intro w hS|refine zlN hS ?_|refine zl1 hS ?_|refine zs1 hS ?_;clear hS;intro w hS);go_end0;exact⟨rfl,hS.s _⟩
 ·skip
  by_cases hc:p1+m<1152921504606846976
  ·have hcap:P8 (p1+m)=p1+m:=by unfold P8;rw[if_neg (by omega)]
   have hmin:min (1152921504606846976:Int) (p1+m)=p1+m:=by omega
   have e:l5 p who 1 m=G9 p who ⟨p0,p1+m,p2,p3⟩:=by unfold l5 aj4;rw[Hx.out];simp[aE4,r7,hcap]
   rw[e];clear e hcap;go_enter Tryz.func136,Tryz.ntmps136;go_wp2_with(first|go_at_call 100;refine(bJ4 Hw.out Hx.out hS).mono ?_;clear hS;rintro e w ⟨rfl,hS⟩|go_at_call 101;refine(bK4 Hw.out hN who ⟨p0,p1+m,p2,p3⟩ (hS.s (xvP xb vB n p::blk b8 _ _::R))).mono ?_;clear hS;rintro e w ⟨rfl,hS⟩|(with_reducible apply An7 hS);rfl;rfl;exact zsS;clear hS;intro b8 w hS;refine frS ?_|refine zsN hS ?_;clear hS;intro w hS|refine zlN hS ?_|refine zl1 hS ?_|refine zs1 hS ?_;clear hS;intro w hS);go_end0;exact⟨rfl,hS.s _⟩
  ·have hcap:P8 (p1+m)=1152921504606846976:=by unfold P8;split <;> omega
   have hmin:min (1152921504606846976:Int) (p1+m)=1152921504606846976:=by omega
   have e:l5 p who 1 m=G9 p who ⟨p0,1152921504606846976,p2,p3⟩:=by unfold l5 aj4;rw[Hx.out];simp[aE4,r7,hcap]
   rw[e];clear e hcap;go_enter Tryz.func136,Tryz.ntmps136;go_wp2_with(first|go_at_call 100;refine(bJ4 Hw.out Hx.out hS).mono ?_;clear hS;rintro e w ⟨rfl,hS⟩|go_at_call 101;refine(bK4 Hw.out hN who ⟨p0,1152921504606846976,p2,p3⟩ (hS.s (xvP xb vB n p::blk b8 _ _::R))).mono ?_;clear hS;rintro e w ⟨rfl,hS⟩|(with_reducible apply An7 hS);rfl;rfl;exact zsS;clear hS;intro b8 w hS;refine frS ?_|refine zsN hS ?_;clear hS;intro w hS|refine zlN hS ?_|refine zl1 hS ?_|refine zs1 hS ?_;clear hS;intro w hS);go_end0;exact⟨rfl,hS.s _⟩
 ·skip
  by_cases hc:p2+m<1152921504606846976
  ·have hcap:P8 (p2+m)=p2+m:=by unfold P8;rw[if_neg (by omega)]
   have hmin:min (1152921504606846976:Int) (p2+m)=p2+m:=by omega
   have e:l5 p who 2 m=G9 p who ⟨p0,p1,p2+m,p3⟩:=by unfold l5 aj4;rw[Hx.out];simp[aE4,r7,hcap]
   rw[e];clear e hcap;go_enter Tryz.func136,Tryz.ntmps136;go_wp2_with(first|go_at_call 100;refine(bJ4 Hw.out Hx.out hS).mono ?_;clear hS;rintro e w ⟨rfl,hS⟩|go_at_call 101;refine(bK4 Hw.out hN who ⟨p0,p1,p2+m,p3⟩ (hS.s (xvP xb vB n p::blk b8 _ _::R))).mono ?_;clear hS;rintro e w ⟨rfl,hS⟩|(with_reducible apply An7 hS);rfl;rfl;exact zsS;clear hS;intro b8 w hS;refine frS ?_|refine zsN hS ?_;clear hS;intro w hS|refine zlN hS ?_|refine zl1 hS ?_|refine zs1 hS ?_;clear hS;intro w hS);go_end0;exact⟨rfl,hS.s _⟩
  ·have hcap:P8 (p2+m)=1152921504606846976:=by unfold P8;split <;> omega
   have hmin:min (1152921504606846976:Int) (p2+m)=1152921504606846976:=by omega
   have e:l5 p who 2 m=G9 p who ⟨p0,p1,1152921504606846976,p3⟩:=by unfold l5 aj4;rw[Hx.out];simp[aE4,r7,hcap]
   rw[e];clear e hcap;go_enter Tryz.func136,Tryz.ntmps136;go_wp2_with(first|go_at_call 100;refine(bJ4 Hw.out Hx.out hS).mono ?_;clear hS;rintro e w ⟨rfl,hS⟩|go_at_call 101;refine(bK4 Hw.out hN who ⟨p0,p1,1152921504606846976,p3⟩ (hS.s (xvP xb vB n p::blk b8 _ _::R))).mono ?_;clear hS;rintro e w ⟨rfl,hS⟩|(with_reducible apply An7 hS);rfl;rfl;exact zsS;clear hS;intro b8 w hS;refine frS ?_|refine zsN hS ?_;clear hS;intro w hS|refine zlN hS ?_|refine zl1 hS ?_|refine zs1 hS ?_;clear hS;intro w hS);go_end0;exact⟨rfl,hS.s _⟩
 ·skip
  by_cases hc:p3+m<1152921504606846976
  ·have hcap:P8 (p3+m)=p3+m:=by unfold P8;rw[if_neg (by omega)]
   have hmin:min (1152921504606846976:Int) (p3+m)=p3+m:=by omega
   have e:l5 p who 3 m=G9 p who ⟨p0,p1,p2,p3+m⟩:=by unfold l5 aj4;rw[Hx.out];simp[aE4,r7,hcap]
   rw[e];clear e hcap;go_enter Tryz.func136,Tryz.ntmps136;go_wp2_with(first|go_at_call 100;refine(bJ4 Hw.out Hx.out hS).mono ?_;clear hS;rintro e w ⟨rfl,hS⟩|go_at_call 101;refine(bK4 Hw.out hN who ⟨p0,p1,p2,p3+m⟩ (hS.s (xvP xb vB n p::blk b8 _ _::R))).mono ?_;clear hS;rintro e w ⟨rfl,hS⟩|(with_reducible apply An7 hS);rfl;rfl;exact zsS;clear hS;intro b8 w hS;refine frS ?_|refine zsN hS ?_;clear hS;intro w hS|refine zlN hS ?_|refine zl1 hS ?_|refine zs1 hS ?_;clear hS;intro w hS);go_end0;exact⟨rfl,hS.s _⟩
  ·have hcap:P8 (p3+m)=1152921504606846976:=by unfold P8;split <;> omega
   have hmin:min (1152921504606846976:Int) (p3+m)=1152921504606846976:=by omega
   have e:l5 p who 3 m=G9 p who ⟨p0,p1,p2,1152921504606846976⟩:=by unfold l5 aj4;rw[Hx.out];simp[aE4,r7,hcap]
   rw[e];clear e hcap;go_enter Tryz.func136,Tryz.ntmps136;go_wp2_with(first|go_at_call 100;refine(bJ4 Hw.out Hx.out hS).mono ?_;clear hS;rintro e w ⟨rfl,hS⟩|go_at_call 101;refine(bK4 Hw.out hN who ⟨p0,p1,p2,1152921504606846976⟩ (hS.s (xvP xb vB n p::blk b8 _ _::R))).mono ?_;clear hS;rintro e w ⟨rfl,hS⟩|(with_reducible apply An7 hS);rfl;rfl;exact zsS;clear hS;intro b8 w hS;refine frS ?_|refine zsN hS ?_;clear hS;intro w hS|refine zlN hS ?_|refine zl1 hS ?_|refine zs1 hS ?_;clear hS;intro w hS);go_end0;exact⟨rfl,hS.s _⟩
end
section
variable(xb:Nat)(vB:Value)(n:Int)(p:Ps)(N:Nat)(W w:World)(R:List HP)
abbrev tB31a:List Nat:=[0,0,3,0,15,31,63,127,127,0,767,2047]
theorem gC4(hw:PsW p N)(hN:N<=1000000)(k:ByteArray)(i:It)(hS:St W (xvP xb vB n p::R) w):
  Calls Tryz.prog 58 #[.P xb,.string k,.agg i.cells.toArray] w fun e w'=>e=.returned (.I (J8 p k i))/\St W (xvP xb vB n (F8 p k i)::R) w':=by
 obtain⟨x0,x1,x2,x3⟩:=i;have Hw:=jH hw;clear hw
 cases hk:C6 k with
 | false=>
  have e1:J8 p k ⟨x0,x1,x2,x3⟩=1:=by simp[J8,hk]
  have e2:F8 p k ⟨x0,x1,x2,x3⟩=p:=by simp[F8,hk]
  rw[e1,e2];clear e1 e2;simp only[It.cells];go_enter Tryz.func58,Tryz.ntmps58;go_wp2_with(first|go_big_skip|go_at_call 99;refine(dc4 k W _ _ hS).mono ?_;clear hS;rw[hk];rintro e w ⟨rfl,hS⟩|refine zbx hS ?_;clear hS;intro b w hS);go_ret;exact⟨rfl,hS.drop⟩
 | true=>
  cases hi:s6 ⟨x0,x1,x2,x3⟩with
  | false=>
   have e1:J8 p k ⟨x0,x1,x2,x3⟩=1:=by simp[J8,hk,hi]
   have e2:F8 p k ⟨x0,x1,x2,x3⟩=p:=by simp[F8,hk,hi]
   rw[e1,e2];clear e1 e2;simp only[It.cells];go_enter Tryz.func58,Tryz.ntmps58;go_wp2_with(first|go_at_call 99;refine(dc4 k W _ _ hS).mono ?_;clear hS;rw[hk];rintro e w ⟨rfl,hS⟩|go_at_call 77;refine(Cn7 _ _ _ _ W _ _ hS).mono ?_;clear hS;rw[hi];rintro e w ⟨rfl,hS⟩|refine zbx hS ?_;clear hS;intro b w hS|refine zlN hS ?_);go_ret;exact⟨rfl,hS.drop⟩
  | true=>
   obtain⟨px,hx⟩:∃x,j8 p k=x:=⟨_,rfl⟩
   obtain⟨p0,p1,p2,p3⟩:=px
   cases ha:B5 [⟨p0,p1,p2,p3⟩,⟨x0,x1,x2,x3⟩] it0 with
   | none=>
    have e1:J8 p k ⟨x0,x1,x2,x3⟩=6:=by simp[J8,hk,hi,hx,ha]
    have e2:F8 p k ⟨x0,x1,x2,x3⟩=p:=by simp[F8,hk,hi,hx,ha]
    rw[e1,e2];have Hx:=jH hx;have Ha:=jH ha;clear ha hx e1 e2;simp only[It.cells];go_enter Tryz.func58,Tryz.ntmps58;go_wp2_with(first|go_at_call 99;refine(dc4 k W _ _ hS).mono ?_;clear hS;rw[hk];rintro e w ⟨rfl,hS⟩|go_at_call 77;refine(Cn7 _ _ _ _ W _ _ hS).mono ?_;clear hS;rw[hi];rintro e w ⟨rfl,hS⟩|refine zbx hS ?_;clear hS;intro b w hS|refine zlN hS ?_);refine rf3 tB31a (fun i=>i==4||i==9) (fun i=>if i==2 then some (.agg #[.I p0,.I p1,.I p2,.I p3])else if i==5 then some (.tuple #[.agg #[.I 0,.I 0,.I 0,.I 0],.bool false])else none) [⟨some 4,some 5,fun nd=>row (nd 4) 4 34 2 ([(⟨p0,p1,p2,p3⟩:It),⟨x0,x1,x2,x3⟩].flatMap It.cells)⟩,⟨some 9,some 10,fun nd=>i8 (nd 9) [.I 0,.I 0,.I 0,.I 0] 34⟩,⟨some 10,none,fun nd=>i8 (nd 9) [.I 0,.I 0,.I 0,.I 0] 34⟩] [none,none] hS ?_;intro nd
    iterate 2 (refine cR ?_)
    (refine zcv ?_ (hs:=by(intro F w hS;(try clear hS0);exact DE7 Hw.out Hx.out hS (by exact A6))));refine zcN ?_;apply Bn7;rfl;rfl;rfl;(focus(simp only[fD,fI,fJ,Act.eval,fE,fF,fG,fH,fK];try rfl));(exact esS);(exact rsS);rfl;rfl;rfl;rfl;rfl;decide;(intro _;rfl);rfl;(intro _;rfl);(refine frS ?_);refine zcv ?_ (hs:=by(intro F w hS;(try clear hS0);exact MH7 Ha.out _ W w _ hS))
    iterate 3 (refine cR ?_)
    (refine zca ?_);refine zct ?_;refine cR ?_;refine Ad7 ?_;clear hS;intro w hS;have hS2:St W [i8 (nd 9) _ _,blk b _ _,xvP xb vB n p,sats R] w:=hS;clear hS;have hS:=hS2.unpack [_,_,_];clear hS2;simp only[jK,jN]at hS;generalize nd 9=v12 at *;have h1:=hS.ptr;clear hS;obtain⟨b2,rfl,hS⟩:=h1;go_wp2_with(fail);go_ret;exact⟨rfl,hS.s _⟩
   | some s=>
    obtain⟨s0,s1,s2,s3⟩:=s;have e1:J8 p k ⟨x0,x1,x2,x3⟩=0:=by simp[J8,hk,hi,hx,ha]
    have e2:F8 p k ⟨x0,x1,x2,x3⟩=G9 p k ⟨s0,s1,s2,s3⟩:=by simp[F8,hk,hi,hx,ha,bl4]
    rw[e1,e2];have Hx:=jH hx;have Ha:=jH ha;clear ha hx e1 e2;simp only[It.cells];go_enter Tryz.func58,Tryz.ntmps58;go_wp2_with(first|go_at_call 99;refine(dc4 k W _ _ hS).mono ?_;clear hS;rw[hk];rintro e w ⟨rfl,hS⟩|go_at_call 77;refine(Cn7 _ _ _ _ W _ _ hS).mono ?_;clear hS;rw[hi];rintro e w ⟨rfl,hS⟩|refine zbx hS ?_;clear hS;intro b w hS|refine zlN hS ?_);refine rf3 tB31a (fun i=>i==4||i==9) (fun i=>if i==2 then some (.agg #[.I p0,.I p1,.I p2,.I p3])else if i==5 then some (.tuple #[.agg #[.I s0,.I s1,.I s2,.I s3],.bool true])else none) [⟨some 4,some 5,fun nd=>row (nd 4) 4 34 2 ([(⟨p0,p1,p2,p3⟩:It),⟨x0,x1,x2,x3⟩].flatMap It.cells)⟩,⟨some 9,some 10,fun nd=>i8 (nd 9) [.I 0,.I 0,.I 0,.I 0] 34⟩,⟨some 10,none,fun nd=>i8 (nd 9) [.I s0,.I s1,.I s2,.I s3] 34⟩] [none,none] hS ?_;intro nd
    iterate 2 (refine cR ?_)
    (refine zcv ?_ (hs:=by(intro F w hS;(try clear hS0);exact DE7 Hw.out Hx.out hS (by exact A6))));refine zcN ?_;apply Bn7;rfl;rfl;rfl;(focus(simp only[fD,fI,fJ,Act.eval,fE,fF,fG,fH,fK];try rfl));(exact esS);(exact rsS);rfl;rfl;rfl;rfl;rfl;decide;(intro _;rfl);rfl;(intro _;rfl);(refine frS ?_);refine zcv ?_ (hs:=by(intro F w hS;(try clear hS0);exact HK7 Ha.out _ W w _ hS))
    iterate 3 (refine cR ?_)
    (refine zca ?_);refine zct ?_;refine cR ?_;refine Ad7 ?_;clear hS;intro w hS;have hS2:St W [i8 (nd 9) _ _,blk b _ _,xvP xb vB n p,sats R] w:=hS;clear hS;have hS:=hS2.unpack [_,_,_];clear hS2;simp only[jK,jN]at hS;generalize nd 9=v12 at *;have h1:=hS.ptr;clear hS;obtain⟨b2,rfl,hS⟩:=h1;go_wp2_with(first|go_at_call 101;refine(bK4 Hw.out hN k ⟨s0,s1,s2,s3⟩ (hS.s (xvP xb vB n p::R))).mono ?_;clear hS;rintro e w ⟨rfl,hS⟩|refine zlN hS ?_);go_ret;exact⟨rfl,hS⟩
abbrev tB31b:List Nat:=[0,0,3,0,15,31,63,63,0,383,1023]
theorem dY4(hw:PsW p N)(hN:N<=1000000)(k:ByteArray)(i:It)(hS:St W (xvP xb vB n p::R) w):
  Calls Tryz.prog 103 #[.P xb,.string k,.agg i.cells.toArray] w fun e w'=>e=.returned (.I (p9 p k i))/\St W (xvP xb vB n (r8 p k i)::R) w':=by
 obtain⟨x0,x1,x2,x3⟩:=i;have Hw:=jH hw;clear hw
 cases hk:C6 k with
 | false=>
  have e1:p9 p k ⟨x0,x1,x2,x3⟩=1:=by simp[p9,hk]
  have e2:r8 p k ⟨x0,x1,x2,x3⟩=p:=by simp[r8,hk]
  rw[e1,e2];clear e1 e2;simp only[It.cells];go_enter Tryz.func103,Tryz.ntmps103;go_wp2_with(first|go_big_skip|go_at_call 99;refine(dc4 k W _ _ hS).mono ?_;clear hS;rw[hk];rintro e w ⟨rfl,hS⟩|refine zbx hS ?_;clear hS;intro b w hS);go_ret;exact⟨rfl,hS.drop⟩
 | true=>
  cases hi:s6 ⟨x0,x1,x2,x3⟩with
  | false=>
   have e1:p9 p k ⟨x0,x1,x2,x3⟩=1:=by simp[p9,hk,hi]
   have e2:r8 p k ⟨x0,x1,x2,x3⟩=p:=by simp[r8,hk,hi]
   rw[e1,e2];clear e1 e2;simp only[It.cells];go_enter Tryz.func103,Tryz.ntmps103;go_wp2_with(first|go_at_call 99;refine(dc4 k W _ _ hS).mono ?_;clear hS;rw[hk];rintro e w ⟨rfl,hS⟩|go_at_call 77;refine(Cn7 _ _ _ _ W _ _ hS).mono ?_;clear hS;rw[hi];rintro e w ⟨rfl,hS⟩|refine zbx hS ?_;clear hS;intro b w hS|refine zlN hS ?_);go_ret;exact⟨rfl,hS.drop⟩
  | true=>
   obtain⟨px,hx⟩:∃x,j8 p k=x:=⟨_,rfl⟩
   obtain⟨p0,p1,p2,p3⟩:=px
   cases ha:J5 ⟨p0,p1,p2,p3⟩ ⟨x0,x1,x2,x3⟩with
   | false=>
    have e1:p9 p k ⟨x0,x1,x2,x3⟩=14:=by simp[p9,hk,hi,hx,ha]
    have e2:r8 p k ⟨x0,x1,x2,x3⟩=p:=by simp[r8,hk,hi,hx,ha]
    rw[e1,e2];have Hx:=jH hx;have Ha:=jH ha;clear ha hx e1 e2;simp only[It.cells];go_enter Tryz.func103,Tryz.ntmps103;go_wp2_with(first|go_at_call 99;refine(dc4 k W _ _ hS).mono ?_;clear hS;rw[hk];rintro e w ⟨rfl,hS⟩|go_at_call 77;refine(Cn7 _ _ _ _ W _ _ hS).mono ?_;clear hS;rw[hi];rintro e w ⟨rfl,hS⟩|refine zbx hS ?_;clear hS;intro b w hS|refine zlN hS ?_);refine rf3 tB31b (fun i=>i==8) (fun i=>if i==2 then some (.agg #[.I p0,.I p1,.I p2,.I p3])else if i==4 then some (.tuple #[.agg #[.I (0),.I (0),.I (0),.I (0)],.bool false])else none) [⟨some 8,some 9,fun nd=>i8 (nd 8) [.I 0,.I 0,.I 0,.I 0] 34⟩,⟨some 9,none,fun nd=>i8 (nd 8) [.I (0),.I (0),.I (0),.I (0)] 34⟩] [none,none] hS ?_;intro nd
    iterate 2 (refine cR ?_)
    (refine zcv ?_ (hs:=by(intro F w hS;(try clear hS0);exact DE7 Hw.out Hx.out hS (by exact A6))));refine zcN ?_;refine zcv ?_ (hs:=by(intro F w hS;(try clear hS0);exact Qp7 Ha.out W w _ hS))
    iterate 3 (refine cR ?_)
    (refine zca ?_);refine zct ?_;refine cR ?_;refine Ad7 ?_;clear hS;intro w hS;have hS2:St W [i8 (nd 8) _ _,blk b _ _,xvP xb vB n p,sats R] w:=hS;clear hS;have hS:=hS2.unpack [_,_,_];clear hS2;simp only[jK,jN]at hS;generalize nd 8=v12 at *;have h1:=hS.ptr;clear hS;obtain⟨b2,rfl,hS⟩:=h1;go_wp2_with(fail);go_ret;exact⟨rfl,hS.s _⟩
   | true=>
    have e1:p9 p k ⟨x0,x1,x2,x3⟩=0:=by simp[p9,hk,hi,hx,ha]
    have e2:r8 p k ⟨x0,x1,x2,x3⟩=G9 p k ⟨p0-x0,p1-x1,p2-x2,p3-x3⟩:=by simp[r8,hk,hi,hx,ha,bl4]
    rw[e1,e2];have Hx:=jH hx;have Ha:=jH ha;clear ha hx e1 e2;simp only[It.cells];go_enter Tryz.func103,Tryz.ntmps103;go_wp2_with(first|go_at_call 99;refine(dc4 k W _ _ hS).mono ?_;clear hS;rw[hk];rintro e w ⟨rfl,hS⟩|go_at_call 77;refine(Cn7 _ _ _ _ W _ _ hS).mono ?_;clear hS;rw[hi];rintro e w ⟨rfl,hS⟩|refine zbx hS ?_;clear hS;intro b w hS|refine zlN hS ?_);refine rf3 tB31b (fun i=>i==8) (fun i=>if i==2 then some (.agg #[.I p0,.I p1,.I p2,.I p3])else if i==4 then some (.tuple #[.agg #[.I (p0-x0),.I (p1-x1),.I (p2-x2),.I (p3-x3)],.bool true])else none) [⟨some 8,some 9,fun nd=>i8 (nd 8) [.I 0,.I 0,.I 0,.I 0] 34⟩,⟨some 9,none,fun nd=>i8 (nd 8) [.I (p0-x0),.I (p1-x1),.I (p2-x2),.I (p3-x3)] 34⟩] [none,none] hS ?_;intro nd
    iterate 2 (refine cR ?_)
    (refine zcv ?_ (hs:=by(intro F w hS;(try clear hS0);exact DE7 Hw.out Hx.out hS (by exact A6))));refine zcN ?_;refine zcv ?_ (hs:=by(intro F w hS;(try clear hS0);exact Ot7 Ha.out W w _ hS))
    iterate 3 (refine cR ?_)
    (refine zca ?_);refine zct ?_;refine cR ?_;refine Ad7 ?_;clear hS;intro w hS;have hS2:St W [i8 (nd 8) _ _,blk b _ _,xvP xb vB n p,sats R] w:=hS;clear hS;have hS:=hS2.unpack [_,_,_];clear hS2;simp only[jK,jN]at hS;generalize nd 8=v12 at *;have h1:=hS.ptr;clear hS;obtain⟨b2,rfl,hS⟩:=h1;go_wp2_with(first|go_at_call 101;refine(bK4 Hw.out hN k ⟨p0-x0,p1-x1,p2-x2,p3-x3⟩ (hS.s (xvP xb vB n p::R))).mono ?_;clear hS;rintro e w ⟨rfl,hS⟩|refine zlN hS ?_);go_ret;exact⟨rfl,hS⟩
end
def xkP(xB:Nat)(L:List Ord)(n:Int):HP:=fun f=>∃(v:Value) (last:Int),last<n/\sats [blk xB [v,.I last] 186,j7 v L] f
section
variable{W w:World}{xB:Nat}{L:List Ord}{n:Int}{R:List HP}
theorem bx4(h:St W (xkP xB L n::R) w):∃a c last,last<n/\St W (blk xB [.slice a L.length c,.I last] 186::j7 (.slice a L.length c) L::R) w:=by obtain⟨v,h⟩:=St.ex h;obtain⟨last,h⟩:=St.ex h;obtain⟨h1,h⟩:=St.and h;have hS:=(St.split (St.split h).swap).swap.drop.swap;obtain⟨a,c,rfl⟩:=hS.drop.rowVal;exact⟨a,c,last,h1,hS⟩
theorem aJ4{v:Value}{last:Int}(hl:last<n)(h:St W (blk xB [v,.I last] 186::j7 v L::R) w):St W (xkP xB L n::R) w:=by refine St.mkEx v (St.mkEx last (St.mkAnd hl ?_));refine St.join ?_;refine St.swap (St.imp h.swap ?_);intro f hf;exact⟨fun _=>true,hf,trivial⟩
end
abbrev xvR(xb xB:Nat)(p:Ps)(L:List Ord)(n:Int)(R:List HP):List HP:=xvP xb (.P xB) n p::xkP xB L n::R
section
variable(xb xB:Nat)(p:Ps)(L:List Ord)(n:Int)(N:Nat)(o:Ord)(W w:World)(R:List HP)
theorem KG7(h:aU4 o=false)(hS:St W (xvR xb xB p L n R) w):
  Calls Tryz.prog 105 #[.P xb,.agg o.cells.toArray] w fun e w'=>e=.returned (.tuple #[.I 0,.I 1])/\St W (xvR xb xB p L n R) w':=by
 obtain⟨i,u,y,t,c,pr⟩:=o;have hm:J7 ⟨1,u,y,t,c,pr⟩=false:=h;clear h;simp only[Ord.cells];obtain⟨xv,hS1⟩:=aV4 hS;obtain⟨la,lc,last,hlast,hS2⟩:=bx4 (hS1.s (xkP xB L n::blk xb _ _::hdR _ (hdL p)::R));clear hS hS1;have hS:=hS2;clear hS2;go_enter Tryz.func105,Tryz.ntmps105;go_wp2_with(first|go_at_call 134;refine(Ba7 ⟨1,u,y,t,c,pr⟩ W _ _ hS).mono ?_;clear hS;rw[hm];rintro e w ⟨rfl,hS⟩|(with_reducible apply Ay7 hS);rfl;rfl;rfl;rfl;clear hS;intro b3 w hS;refine frS ?_|(with_reducible apply An7 hS);rfl;rfl;exact zsS;clear hS;intro b6 w hS;refine frS ?_|refine zl1 hS ?_|refine zlN hS ?_|refine zs1 hS ?_;clear hS;intro w hS|refine zsN hS ?_;clear hS;intro w hS);go_ret2;have hS1:=aJ4 hlast (hS.s (blk xB _ _::j7 _ L::blk xb _ _::hdR _ (hdL p)::R));exact⟨rfl,ao4 (hS1.s (blk xb _ _::hdR _ (hdL p)::xkP xB L n::R))⟩
theorem IN7(h:aU4 o=true)(hf:32<=L.length\/1099511627776<n)(hS:St W (xvR xb xB p L n R) w):
  Calls Tryz.prog 105 #[.P xb,.agg o.cells.toArray] w fun e w'=>e=.returned (.tuple #[.I 0,.I 6])/\St W (xvR xb xB p L n R) w':=by
 obtain⟨i,u,y,t,c,pr⟩:=o;have hm:J7 ⟨1,u,y,t,c,pr⟩=true:=h;clear h;simp only[Ord.cells];obtain⟨xv,hS1⟩:=aV4 hS;obtain⟨la,lc,last,hlast,hS2⟩:=bx4 (hS1.s (xkP xB L n::blk xb _ _::hdR _ (hdL p)::R));clear hS hS1;have hS:=hS2;clear hS2;by_cases hl:32<=L.length
 ·have d1:(32:Int)<=(L.length:Int):=by omega
  clear hf;go_enter Tryz.func105,Tryz.ntmps105;go_wp2_with(first|go_at_call 134;refine(Ba7 ⟨1,u,y,t,c,pr⟩ W _ _ hS).mono ?_;clear hS;rw[hm];rintro e w ⟨rfl,hS⟩|(with_reducible apply Ay7 hS);rfl;rfl;rfl;rfl;clear hS;intro b3 w hS;refine frS ?_|(with_reducible apply An7 hS);rfl;rfl;exact zsS;clear hS;intro b6 w hS;refine frS ?_|refine zl1 hS ?_|refine zlN hS ?_|refine zs1 hS ?_;clear hS;intro w hS|refine zsN hS ?_;clear hS;intro w hS);go_ret2;have hS1:=aJ4 hlast (hS.s (blk xB _ _::j7 _ L::blk xb _ _::hdR _ (hdL p)::R));exact⟨rfl,ao4 (hS1.s (blk xb _ _::hdR _ (hdL p)::xkP xB L n::R))⟩
 ·have d1:decide ((32:Int)<=(L.length:Int))=false:=by simp;omega
  have d2:1099511627776<n:=hf.resolve_left hl;clear hf hl;go_enter Tryz.func105,Tryz.ntmps105;go_wp2_with(first|go_at_call 134;refine(Ba7 ⟨1,u,y,t,c,pr⟩ W _ _ hS).mono ?_;clear hS;rw[hm];rintro e w ⟨rfl,hS⟩|(with_reducible apply Ay7 hS);rfl;rfl;rfl;rfl;clear hS;intro b3 w hS;refine frS ?_|(with_reducible apply An7 hS);rfl;rfl;exact zsS;clear hS;intro b6 w hS;refine frS ?_|refine zl1 hS ?_|refine zlN hS ?_|refine zs1 hS ?_;clear hS;intro w hS|refine zsN hS ?_;clear hS;intro w hS);go_ret2;have hS1:=aJ4 hlast (hS.s (blk xB _ _::j7 _ L::blk xb _ _::hdR _ (hdL p)::R));exact⟨rfl,ao4 (hS1.s (blk xb _ _::hdR _ (hdL p)::xkP xB L n::R))⟩
theorem DF7{o:Ord}{h0 h1 h2 h3:Int}(hm:MayP o)(h:j5 o=⟨h0,h1,h2,h3⟩)(W w:World)(R:List HP)(hS:St W R w):
  Calls Tryz.prog 119 #[.agg o.cells.toArray] w fun e w'=>e=.returned (.agg #[.I h0,.I h1,.I h2,.I h3])/\St W R w':=
 (fa4 o hm W w R hS).mono fun e w' ⟨he,hS⟩=>⟨by rw[he,h];rfl,hS⟩
theorem HL7(hw:PsW p N)(hN:N<=1000000)(h:aU4 o=true)(hL:L.length<32)(hn0:1<=n)(hn:n<=1099511627776)(ht:p9 p o.who (j5 o)=14)(hS:St W (xvR xb xB p L n R) w):
  Calls Tryz.prog 105 #[.P xb,.agg o.cells.toArray] w fun e w'=>e=.returned (.tuple #[.I 0,.I 14])/\St W (xvR xb xB p L n R) w':=by
 obtain⟨i,u,y,t,c,pr⟩:=o;have hm:J7 ⟨1,u,y,t,c,pr⟩=true:=h;have hm1:=Ao7.1 hm;have hm2:MayP ⟨n,u,y,t,c,pr⟩:=⟨hn0,hn,hm1.who0,hm1.who1,hm1.item0,hm1.item1,hm1.cnt0,hm1.cnt1,hm1.price0,hm1.price1⟩
 have ht':p9 p u (j5 ⟨n,u,y,t,c,pr⟩)=14:=ht
 have hp':r8 p u (j5 ⟨n,u,y,t,c,pr⟩)=p:=by
  unfold p9 at ht';unfold r8;split at ht'
  ·rename_i hc
   rw[if_pos hc];split at ht'
   ·cases ht'
   ·rename_i hs;rw[if_neg hs]
  ·cases ht'
 have Hm2:=jH hm2;have Hw:=jH hw;clear h ht hm1 hm2 hw;have d1:decide ((32:Int)<=(L.length:Int))=false:=by simp;omega
 have d2:decide ((1099511627776:Int)<n)=false:=by simp;omega
 simp only[Ord.cells];obtain⟨it,hit⟩:∃x,j5 ⟨n,u,y,t,c,pr⟩=x:=⟨_,rfl⟩
 rw[hit]at ht' hp';obtain⟨h0,h1,h2,h3⟩:=it;have Hit:=jH hit;have Hte:=jH ht';have Htp:=jH hp';clear hit ht' hp';obtain⟨xv,hS1⟩:=aV4 hS;obtain⟨la,lc,last,hlast,hS2⟩:=bx4 (hS1.s (xkP xB L n::blk xb _ _::hdR _ (hdL p)::R));clear hS hS1;have hS:=hS2;clear hS2;go_enter Tryz.func105,Tryz.ntmps105;go_wp2_with(first|go_at_call 134;refine(Ba7 ⟨1,u,y,t,c,pr⟩ W _ _ hS).mono ?_;clear hS;rw[hm];rintro e w ⟨rfl,hS⟩|(with_reducible apply Ay7 hS);rfl;rfl;rfl;rfl;clear hS;intro b3 w hS;refine frS ?_|(with_reducible apply An7 hS);rfl;rfl;exact zsS;clear hS;intro b6 w hS;refine frS ?_|refine zl1 hS ?_|refine zlN hS ?_|refine zs1 hS ?_;clear hS;intro w hS|refine zsN hS ?_;clear hS;intro w hS);refine rt 5 hS ?_
 iterate 2 (refine qR ?_)
 (refine zq1 ?_);refine zqN ?_;apply At7;rfl;(intro w;apply Ah7;rfl;decide +kernel;(focus(simp only[fD,fI,fJ,Act.eval,fE,fF,fG,fH,fK];try rfl)));(intro w hS;exact DF7 (o:=⟨n,u,y,t,c,pr⟩) Hm2.out Hit.out W w _ hS);(refine frS ?_);clear hS;intro w hS;simp only[jD,List.drop_zero];go_wp2_with(first|go_at_call 103;refine(dY4 xb _ n p N W _ _ Hw.out hN u ⟨h0,h1,h2,h3⟩ (ao4 (hS.s (blk xb _ _::hdR _ (hdL p)::blk xB _ _::j7 _ L::blk b6 _ _::blk b3 _ _::R)))).mono ?_;clear hS;rw[Hte.out,Htp.out];rintro e w ⟨rfl,hS⟩);go_ret2;have hS1:=aJ4 hlast (hS.s (blk xB _ _::j7 _ L::xvP xb _ n p::R));exact⟨rfl,hS1.s _⟩
end
end Go.Proofs.YtienbkdjkjbelaaGreat
end
