/-
  The document's vault in terms of the program's purses: Has, set, pays, Put, Take. For every vault.
  The document's vault: Put and Take. For every vault.
  The document's vault: Order. For every vault and order.
-/
import Derived.Test.YtlmhakmoioogaaaGreatEconPlaysM5
import Derived.Test.YtlmhakmoioogaaaGreatEconPlaysM18
import Derived.Test.YtlmhakmoioogaaaGreatEconPlaysM23
set_option maxHeartbeats 16000000
set_option maxRecDepth 100000
set_option linter.unusedSimpArgs false
set_option linter.unusedVariables false
section
namespace Go.Proofs.YtlmhakmoioogaaaGreat
open Go.RowKit Go.Sl
def xvP(xb:Nat)(vB:Value)(n:Int)(p:Ps):HP:=fun f=>∃v:Value,sats [blk xb [v,vB,.int .i64 n] 246,hdR v (hdL p)] f
section
variable{W w:World}{xb:Nat}{vB:Value}{n:Int}{p:Ps}{R:List HP}{N:Nat}
theorem xvOpen(h:St W (xvP xb vB n p::R) w):∃v,St W (xvL xb v vB n (hdL p) R) w:=by
 obtain⟨v,h⟩:=St.ex h
 exact⟨v,(St.split (St.split h).swap).swap.drop.swap⟩
theorem xvShut{v:Value}(h:St W (xvL xb v vB n (hdL p) R) w):St W (xvP xb vB n p::R) w:=by
 refine St.mkEx v ?_
 refine St.join ?_
 refine St.swap (St.imp h.swap ?_)
 intro f hf
 exact⟨fun _=>true,hf,trivial⟩
theorem has8P(hw:PsW p N){k:ByteArray}{x0 x1 x2 x3:Int}(hx:purseA p k=⟨x0,x1,x2,x3⟩)(hS:St W (xvP xb vB n p::R) w):
  Calls Tryz.prog 118 #[.pointer (some ⟨xb,0,none⟩),.string k] w fun e w'=>e=.returned (.agg #[.int .i64 x0,.int .i64 x1,.int .i64 x2,.int .i64 x3])∧St W (xvP xb vB n p::R) w':=by
 obtain⟨v,hS⟩:=xvOpen hS
 refine(has8 (hdL p) k xb v vB n W w R hS).mono ?_
 rw[PL7 hw,hx]
 rintro e w' ⟨rfl,hS⟩
 exact⟨rfl,xvShut hS⟩
theorem DJ7(hw:PsW p N){k:ByteArray}{x0 x1 x2 x3:Int}(hx:purseA p k=⟨x0,x1,x2,x3⟩){L1 R1:List HP}(hS:St W L1 w)(ht:Take L1 (xvP xb vB n p) R1):
  Calls Tryz.prog 118 #[.pointer (some ⟨xb,0,none⟩),.string k] w fun e w'=>e=.returned (.agg #[.int .i64 x0,.int .i64 x1,.int .i64 x2,.int .i64 x3])∧St W L1 w':=by
 refine(has8P hw hx (hS.take ht)).mono ?_
 rintro e w' ⟨rfl,hS⟩
 exact⟨rfl,hS.back ht⟩
theorem set8P(hw:PsW p N)(hN:N≤1000000)(k:ByteArray)(i:It)(hS:St W (xvP xb vB n p::R) w):
  Calls Tryz.prog 119 #[.pointer (some ⟨xb,0,none⟩),.string k,.agg i.cells.toArray] w fun e w'=>e=.returned (.tuple #[])∧St W (xvP xb vB n (layP p k i)::R) w':=by
 obtain⟨v,hS⟩:=xvOpen hS
 have hl:=hw.len
 refine(set8 (hdL p) k i (by rw[Ce7];omega) xb v vB n W w R hS).mono ?_
 rw[PM7 hw]
 rintro e w' ⟨rfl,v',hS⟩
 exact⟨rfl,xvShut hS⟩
theorem HS7{l:List It}{s0 s1 s2 s3:Int}(h:addL l it0=some ⟨s0,s1,s2,s3⟩)(v:Value)(W w:World)(R:List HP)(hS:St W (row v 4 29 l.length (l.flatMap It.cells)::R) w):
  Calls Tryz.prog 117 #[v] w fun e w'=>e=.returned (.tuple #[.agg #[.int .i64 s0,.int .i64 s1,.int .i64 s2,.int .i64 s3],.bool true])∧St W R w':=
 (add8 l v W w R hS).mono fun e w' ⟨he,hS⟩=>⟨by rw[he,addF,h];rfl,hS.drop⟩
theorem MA7{l:List It}(h:addL l it0=none)(v:Value)(W w:World)(R:List HP)(hS:St W (row v 4 29 l.length (l.flatMap It.cells)::R) w):
  Calls Tryz.prog 117 #[v] w fun e w'=>e=.returned (.tuple #[.agg #[.int .i64 0,.int .i64 0,.int .i64 0,.int .i64 0],.bool false])∧St W R w':=
 (add8 l v W w R hS).mono fun e w' ⟨he,hS⟩=>⟨by rw[he,addF,h];rfl,hS.drop⟩
theorem Of7{x0 x1 x2 x3 y0 y1 y2 y3:Int}(h:subOk ⟨x0,x1,x2,x3⟩ ⟨y0,y1,y2,y3⟩=true)(W w:World)(R:List HP)(hS:St W R w):
  Calls Tryz.prog 181 #[.agg #[.int .i64 x0,.int .i64 x1,.int .i64 x2,.int .i64 x3],.agg #[.int .i64 y0,.int .i64 y1,.int .i64 y2,.int .i64 y3]] w fun e w'=>e=.returned (.tuple #[.agg #[.int .i64 (x0-y0),.int .i64 (x1-y1),.int .i64 (x2-y2),.int .i64 (x3-y3)],.bool true])∧St W R w':=
 (sub8 ⟨x0,x1,x2,x3⟩ ⟨y0,y1,y2,y3⟩ W w R hS).mono fun e w' ⟨he,hS⟩=>⟨by rw[he,subF,h];rfl,hS⟩
theorem PN7{x0 x1 x2 x3 y0 y1 y2 y3:Int}(h:subOk ⟨x0,x1,x2,x3⟩ ⟨y0,y1,y2,y3⟩=false)(W w:World)(R:List HP)(hS:St W R w):
  Calls Tryz.prog 181 #[.agg #[.int .i64 x0,.int .i64 x1,.int .i64 x2,.int .i64 x3],.agg #[.int .i64 y0,.int .i64 y1,.int .i64 y2,.int .i64 y3]] w fun e w'=>e=.returned (.tuple #[.agg #[.int .i64 0,.int .i64 0,.int .i64 0,.int .i64 0],.bool false])∧St W R w':=
 (sub8 ⟨x0,x1,x2,x3⟩ ⟨y0,y1,y2,y3⟩ W w R hS).mono fun e w' ⟨he,hS⟩=>⟨by rw[he,subF,h];rfl,hS⟩
end
section
variable(xb:Nat)(vB:Value)(n:Int)(p:Ps)(N:Nat)(W w:World)(R:List HP)
theorem pays8(hw:PsW p N)(hN:N≤1000000)(who:ByteArray)(k m:Int)(hx:isIt (purseA p who)=true)(hk:0≤k∧k≤3)(hm:0≤m∧m≤1152921504606846976)(hS:St W (xvP xb vB n p::R) w):
  Calls Tryz.prog 185 #[.pointer (some ⟨xb,0,none⟩),.string who,.int .i64 k,.int .i64 m] w fun e w'=>e=.returned (.tuple #[])∧St W (xvP xb vB n (giveP p who k m)::R) w':=by
 obtain⟨px,hp⟩:∃x,purseA p who=x:=⟨_,rfl⟩
 rw[hp]at hx
 obtain⟨p0,p1,p2,p3⟩:=px
 have Hx:=Lib.hid hp
 have Hw:=Lib.hid hw
 clear hp hw
 obtain⟨a0,a1,a2,a3⟩:=Ag7.1 hx
 simp only at a0 a1 a2 a3
 clear hx
 have hk4:k=0∨k=1∨k=2∨k=3:=by omega
 rcases hk4 with rfl|rfl|rfl|rfl
 ·skip
  by_cases hc:p0+m<1152921504606846976
  ·have hcap:capI (p0+m)=p0+m:=by unfold capI;rw[if_neg (by omega)]
   have hmin:min (1152921504606846976:Int) (p0+m)=p0+m:=by omega
   have e:giveP p who 0 m=layP p who ⟨p0+m,p1,p2,p3⟩:=by unfold giveP giveI;rw[Hx.out];simp[setK,getK,hcap]
   rw[e]
   clear e hcap
   go_enter Tryz.func185,Tryz.ntmps185
   go_wp2_with(first|(go_at_call 118;refine(has8P Hw.out Hx.out hS).mono ?_;clear hS;rintro e w ⟨rfl,hS⟩)|(go_at_call 119;refine(set8P Hw.out hN who ⟨p0+m,p1,p2,p3⟩ (hS.s (xvP xb vB n p::blk b8 _ _::R))).mono ?_;clear hS;rintro e w ⟨rfl,hS⟩)|((with_reducible apply Aj7 hS);(with_reducible rfl);rfl;(exact zsS);clear hS;intro b8 w hS;(refine frS ?_))|(refine zsN hS ?_;clear hS;intro w hS)|(refine zlN hS ?_)|(refine zl1 hS ?_)|(refine zs1 hS ?_;clear hS;intro w hS))
   go_end0
   exact⟨rfl,hS.s _⟩
  ·have hcap:capI (p0+m)=1152921504606846976:=by unfold capI;split <;> omega
   have hmin:min (1152921504606846976:Int) (p0+m)=1152921504606846976:=by omega
   have e:giveP p who 0 m=layP p who ⟨1152921504606846976,p1,p2,p3⟩:=by unfold giveP giveI;rw[Hx.out];simp[setK,getK,hcap]
   rw[e]
   clear e hcap
   go_enter Tryz.func185,Tryz.ntmps185
   go_wp2_with(first|(go_at_call 118;refine(has8P Hw.out Hx.out hS).mono ?_;clear hS;rintro e w ⟨rfl,hS⟩)|(go_at_call 119;refine(set8P Hw.out hN who ⟨1152921504606846976,p1,p2,p3⟩ (hS.s (xvP xb vB n p::blk b8 _ _::R))).mono ?_;clear hS;rintro e w ⟨rfl,hS⟩)|((with_reducible apply Aj7 hS);(with_reducible rfl);rfl;(exact zsS);clear hS;intro b8 w hS;(refine frS ?_))|(refine zsN hS ?_;clear hS;intro w hS)|(refine zlN hS ?_)|(refine zl1 hS ?_)|(refine zs1 hS ?_;clear hS;intro w hS))
   go_end0
   exact⟨rfl,hS.s _⟩
 ·skip
  by_cases hc:p1+m<1152921504606846976
  ·have hcap:capI (p1+m)=p1+m:=by unfold capI;rw[if_neg (by omega)]
   have hmin:min (1152921504606846976:Int) (p1+m)=p1+m:=by omega
   have e:giveP p who 1 m=layP p who ⟨p0,p1+m,p2,p3⟩:=by unfold giveP giveI;rw[Hx.out];simp[setK,getK,hcap]
   rw[e]
   clear e hcap
   go_enter Tryz.func185,Tryz.ntmps185
   go_wp2_with(first|(go_at_call 118;refine(has8P Hw.out Hx.out hS).mono ?_;clear hS;rintro e w ⟨rfl,hS⟩)|(go_at_call 119;refine(set8P Hw.out hN who ⟨p0,p1+m,p2,p3⟩ (hS.s (xvP xb vB n p::blk b8 _ _::R))).mono ?_;clear hS;rintro e w ⟨rfl,hS⟩)|((with_reducible apply Aj7 hS);(with_reducible rfl);rfl;(exact zsS);clear hS;intro b8 w hS;(refine frS ?_))|(refine zsN hS ?_;clear hS;intro w hS)|(refine zlN hS ?_)|(refine zl1 hS ?_)|(refine zs1 hS ?_;clear hS;intro w hS))
   go_end0
   exact⟨rfl,hS.s _⟩
  ·have hcap:capI (p1+m)=1152921504606846976:=by unfold capI;split <;> omega
   have hmin:min (1152921504606846976:Int) (p1+m)=1152921504606846976:=by omega
   have e:giveP p who 1 m=layP p who ⟨p0,1152921504606846976,p2,p3⟩:=by unfold giveP giveI;rw[Hx.out];simp[setK,getK,hcap]
   rw[e]
   clear e hcap
   go_enter Tryz.func185,Tryz.ntmps185
   go_wp2_with(first|(go_at_call 118;refine(has8P Hw.out Hx.out hS).mono ?_;clear hS;rintro e w ⟨rfl,hS⟩)|(go_at_call 119;refine(set8P Hw.out hN who ⟨p0,1152921504606846976,p2,p3⟩ (hS.s (xvP xb vB n p::blk b8 _ _::R))).mono ?_;clear hS;rintro e w ⟨rfl,hS⟩)|((with_reducible apply Aj7 hS);(with_reducible rfl);rfl;(exact zsS);clear hS;intro b8 w hS;(refine frS ?_))|(refine zsN hS ?_;clear hS;intro w hS)|(refine zlN hS ?_)|(refine zl1 hS ?_)|(refine zs1 hS ?_;clear hS;intro w hS))
   go_end0
   exact⟨rfl,hS.s _⟩
 ·skip
  by_cases hc:p2+m<1152921504606846976
  ·have hcap:capI (p2+m)=p2+m:=by unfold capI;rw[if_neg (by omega)]
   have hmin:min (1152921504606846976:Int) (p2+m)=p2+m:=by omega
   have e:giveP p who 2 m=layP p who ⟨p0,p1,p2+m,p3⟩:=by unfold giveP giveI;rw[Hx.out];simp[setK,getK,hcap]
   rw[e]
   clear e hcap
   go_enter Tryz.func185,Tryz.ntmps185
   go_wp2_with(first|(go_at_call 118;refine(has8P Hw.out Hx.out hS).mono ?_;clear hS;rintro e w ⟨rfl,hS⟩)|(go_at_call 119;refine(set8P Hw.out hN who ⟨p0,p1,p2+m,p3⟩ (hS.s (xvP xb vB n p::blk b8 _ _::R))).mono ?_;clear hS;rintro e w ⟨rfl,hS⟩)|((with_reducible apply Aj7 hS);(with_reducible rfl);rfl;(exact zsS);clear hS;intro b8 w hS;(refine frS ?_))|(refine zsN hS ?_;clear hS;intro w hS)|(refine zlN hS ?_)|(refine zl1 hS ?_)|(refine zs1 hS ?_;clear hS;intro w hS))
   go_end0
   exact⟨rfl,hS.s _⟩
  ·have hcap:capI (p2+m)=1152921504606846976:=by unfold capI;split <;> omega
   have hmin:min (1152921504606846976:Int) (p2+m)=1152921504606846976:=by omega
   have e:giveP p who 2 m=layP p who ⟨p0,p1,1152921504606846976,p3⟩:=by unfold giveP giveI;rw[Hx.out];simp[setK,getK,hcap]
   rw[e]
   clear e hcap
   go_enter Tryz.func185,Tryz.ntmps185
   go_wp2_with(first|(go_at_call 118;refine(has8P Hw.out Hx.out hS).mono ?_;clear hS;rintro e w ⟨rfl,hS⟩)|(go_at_call 119;refine(set8P Hw.out hN who ⟨p0,p1,1152921504606846976,p3⟩ (hS.s (xvP xb vB n p::blk b8 _ _::R))).mono ?_;clear hS;rintro e w ⟨rfl,hS⟩)|((with_reducible apply Aj7 hS);(with_reducible rfl);rfl;(exact zsS);clear hS;intro b8 w hS;(refine frS ?_))|(refine zsN hS ?_;clear hS;intro w hS)|(refine zlN hS ?_)|(refine zl1 hS ?_)|(refine zs1 hS ?_;clear hS;intro w hS))
   go_end0
   exact⟨rfl,hS.s _⟩
 ·skip
  by_cases hc:p3+m<1152921504606846976
  ·have hcap:capI (p3+m)=p3+m:=by unfold capI;rw[if_neg (by omega)]
   have hmin:min (1152921504606846976:Int) (p3+m)=p3+m:=by omega
   have e:giveP p who 3 m=layP p who ⟨p0,p1,p2,p3+m⟩:=by unfold giveP giveI;rw[Hx.out];simp[setK,getK,hcap]
   rw[e]
   clear e hcap
   go_enter Tryz.func185,Tryz.ntmps185
   go_wp2_with(first|(go_at_call 118;refine(has8P Hw.out Hx.out hS).mono ?_;clear hS;rintro e w ⟨rfl,hS⟩)|(go_at_call 119;refine(set8P Hw.out hN who ⟨p0,p1,p2,p3+m⟩ (hS.s (xvP xb vB n p::blk b8 _ _::R))).mono ?_;clear hS;rintro e w ⟨rfl,hS⟩)|((with_reducible apply Aj7 hS);(with_reducible rfl);rfl;(exact zsS);clear hS;intro b8 w hS;(refine frS ?_))|(refine zsN hS ?_;clear hS;intro w hS)|(refine zlN hS ?_)|(refine zl1 hS ?_)|(refine zs1 hS ?_;clear hS;intro w hS))
   go_end0
   exact⟨rfl,hS.s _⟩
  ·have hcap:capI (p3+m)=1152921504606846976:=by unfold capI;split <;> omega
   have hmin:min (1152921504606846976:Int) (p3+m)=1152921504606846976:=by omega
   have e:giveP p who 3 m=layP p who ⟨p0,p1,p2,1152921504606846976⟩:=by unfold giveP giveI;rw[Hx.out];simp[setK,getK,hcap]
   rw[e]
   clear e hcap
   go_enter Tryz.func185,Tryz.ntmps185
   go_wp2_with(first|(go_at_call 118;refine(has8P Hw.out Hx.out hS).mono ?_;clear hS;rintro e w ⟨rfl,hS⟩)|(go_at_call 119;refine(set8P Hw.out hN who ⟨p0,p1,p2,1152921504606846976⟩ (hS.s (xvP xb vB n p::blk b8 _ _::R))).mono ?_;clear hS;rintro e w ⟨rfl,hS⟩)|((with_reducible apply Aj7 hS);(with_reducible rfl);rfl;(exact zsS);clear hS;intro b8 w hS;(refine frS ?_))|(refine zsN hS ?_;clear hS;intro w hS)|(refine zlN hS ?_)|(refine zl1 hS ?_)|(refine zs1 hS ?_;clear hS;intro w hS))
   go_end0
   exact⟨rfl,hS.s _⟩
end
section
variable(xb:Nat)(vB:Value)(n:Int)(p:Ps)(N:Nat)(W w:World)(R:List HP)
theorem put8(hw:PsW p N)(hN:N≤1000000)(k:ByteArray)(i:It)(hS:St W (xvP xb vB n p::R) w):
  Calls Tryz.prog 51 #[.pointer (some ⟨xb,0,none⟩),.string k,.agg i.cells.toArray] w fun e w'=>e=.returned (.int .i64 (putE p k i))∧St W (xvP xb vB n (putP p k i)::R) w':=by
 obtain⟨x0,x1,x2,x3⟩:=i
 have Hw:=Lib.hid hw
 clear hw
 cases hk:whoB k with
 | false=>
  have e1:putE p k ⟨x0,x1,x2,x3⟩=1:=by simp[putE,hk]
  have e2:putP p k ⟨x0,x1,x2,x3⟩=p:=by simp[putP,hk]
  rw[e1,e2]
  clear e1 e2
  simp only[It.cells]
  go_enter Tryz.func51,Tryz.ntmps51
  go_wp2_with(first|go_big_skip|(go_at_call 115;refine(key8 k W _ _ hS).mono ?_;clear hS;rw[hk];rintro e w ⟨rfl,hS⟩)|(refine zbx hS ?_;clear hS;intro b w hS))
  go_ret
  exact⟨rfl,hS.drop⟩
 | true=>
  cases hi:isIt ⟨x0,x1,x2,x3⟩with
  | false=>
   have e1:putE p k ⟨x0,x1,x2,x3⟩=1:=by simp[putE,hk,hi]
   have e2:putP p k ⟨x0,x1,x2,x3⟩=p:=by simp[putP,hk,hi]
   rw[e1,e2]
   clear e1 e2
   simp only[It.cells]
   go_enter Tryz.func51,Tryz.ntmps51
   go_wp2_with(first|(go_at_call 115;refine(key8 k W _ _ hS).mono ?_;clear hS;rw[hk];rintro e w ⟨rfl,hS⟩)|(go_at_call 116;refine(Ck7 _ _ _ _ W _ _ hS).mono ?_;clear hS;rw[hi];rintro e w ⟨rfl,hS⟩)|(refine zbx hS ?_;clear hS;intro b w hS)|(refine zlN hS ?_))
   go_ret
   exact⟨rfl,hS.drop⟩
  | true=>
   obtain⟨px,hx⟩:∃x,purseA p k=x:=⟨_,rfl⟩
   obtain⟨p0,p1,p2,p3⟩:=px
   cases ha:addL [⟨p0,p1,p2,p3⟩,⟨x0,x1,x2,x3⟩] it0 with
   | none=>
    have e1:putE p k ⟨x0,x1,x2,x3⟩=6:=by simp[putE,hk,hi,hx,ha]
    have e2:putP p k ⟨x0,x1,x2,x3⟩=p:=by simp[putP,hk,hi,hx,ha]
    rw[e1,e2]
    have Hx:=Lib.hid hx
    have Ha:=Lib.hid ha
    clear ha hx e1 e2
    simp only[It.cells]
    go_enter Tryz.func51,Tryz.ntmps51
    go_wp2_with(first|(go_at_call 115;refine(key8 k W _ _ hS).mono ?_;clear hS;rw[hk];rintro e w ⟨rfl,hS⟩)|(go_at_call 116;refine(Ck7 _ _ _ _ W _ _ hS).mono ?_;clear hS;rw[hi];rintro e w ⟨rfl,hS⟩)|(refine zbx hS ?_;clear hS;intro b w hS)|(refine zlN hS ?_))
    refine rf3 [0,0,3,0,15,31,63,127,127,0,767,2047] (fun i=>i==4||i==9) (fun i=>if i==2 then some (.agg #[.int .i64 p0,.int .i64 p1,.int .i64 p2,.int .i64 p3])else if i==5 then some (.tuple #[.agg #[.int .i64 0,.int .i64 0,.int .i64 0,.int .i64 0],.bool false])else none) [⟨some 4,some 5,fun nd=>row (nd 4) 4 29 2 ([(⟨p0,p1,p2,p3⟩:It),⟨x0,x1,x2,x3⟩].flatMap It.cells)⟩,⟨some 9,some 10,fun nd=>ptrTo (nd 9) [.int .i64 0,.int .i64 0,.int .i64 0,.int .i64 0] 29⟩,⟨some 10,none,fun nd=>ptrTo (nd 9) [.int .i64 0,.int .i64 0,.int .i64 0,.int .i64 0] 29⟩] [none,none] hS ?_
    intro nd
    iterate 2 (refine cR ?_)
    (refine zcv ?_ (hs:=by(intro F w hS;(try clear hS0);exact DJ7 Hw.out Hx.out hS (by exact takO))))
    (refine zcN ?_)
    (apply Bx7;rfl;(with_reducible rfl);rfl;(focus(simp only[fD,fI,fJ,Act.eval,fE,fF,fG,fH,fK];try rfl));(exact esS);(exact rsS);rfl;rfl;rfl;rfl;rfl;decide;(intro _;rfl);rfl;(intro _;rfl);(refine frS ?_))
    (refine zcv ?_ (hs:=by(intro F w hS;(try clear hS0);exact MA7 Ha.out _ W w _ hS)))
    iterate 3 (refine cR ?_)
    (refine zca ?_)
    (refine zct ?_)
    (refine cR ?_)
    refine Ad7 ?_
    clear hS
    intro w hS
    have hS2:St W [ptrTo (nd 9) _ _,blk b _ _,xvP xb vB n p,sats R] w:=hS
    clear hS
    have hS:=hS2.unpack [_,_,_]
    clear hS2
    simp only[List.cons_append,List.nil_append]at hS
    generalize nd 9=v12 at *
    have h1:=hS.ptr;clear hS;obtain⟨b2,rfl,hS⟩:=h1
    go_wp2_with(fail)
    go_ret
    exact⟨rfl,hS.s _⟩
   | some s=>
    obtain⟨s0,s1,s2,s3⟩:=s
    have e1:putE p k ⟨x0,x1,x2,x3⟩=0:=by simp[putE,hk,hi,hx,ha]
    have e2:putP p k ⟨x0,x1,x2,x3⟩=layP p k ⟨s0,s1,s2,s3⟩:=by simp[putP,hk,hi,hx,ha,subIt]
    rw[e1,e2]
    have Hx:=Lib.hid hx
    have Ha:=Lib.hid ha
    clear ha hx e1 e2
    simp only[It.cells]
    go_enter Tryz.func51,Tryz.ntmps51
    go_wp2_with(first|(go_at_call 115;refine(key8 k W _ _ hS).mono ?_;clear hS;rw[hk];rintro e w ⟨rfl,hS⟩)|(go_at_call 116;refine(Ck7 _ _ _ _ W _ _ hS).mono ?_;clear hS;rw[hi];rintro e w ⟨rfl,hS⟩)|(refine zbx hS ?_;clear hS;intro b w hS)|(refine zlN hS ?_))
    refine rf3 [0,0,3,0,15,31,63,127,127,0,767,2047] (fun i=>i==4||i==9) (fun i=>if i==2 then some (.agg #[.int .i64 p0,.int .i64 p1,.int .i64 p2,.int .i64 p3])else if i==5 then some (.tuple #[.agg #[.int .i64 s0,.int .i64 s1,.int .i64 s2,.int .i64 s3],.bool true])else none) [⟨some 4,some 5,fun nd=>row (nd 4) 4 29 2 ([(⟨p0,p1,p2,p3⟩:It),⟨x0,x1,x2,x3⟩].flatMap It.cells)⟩,⟨some 9,some 10,fun nd=>ptrTo (nd 9) [.int .i64 0,.int .i64 0,.int .i64 0,.int .i64 0] 29⟩,⟨some 10,none,fun nd=>ptrTo (nd 9) [.int .i64 s0,.int .i64 s1,.int .i64 s2,.int .i64 s3] 29⟩] [none,none] hS ?_
    intro nd
    iterate 2 (refine cR ?_)
    (refine zcv ?_ (hs:=by(intro F w hS;(try clear hS0);exact DJ7 Hw.out Hx.out hS (by exact takO))))
    (refine zcN ?_)
    (apply Bx7;rfl;(with_reducible rfl);rfl;(focus(simp only[fD,fI,fJ,Act.eval,fE,fF,fG,fH,fK];try rfl));(exact esS);(exact rsS);rfl;rfl;rfl;rfl;rfl;decide;(intro _;rfl);rfl;(intro _;rfl);(refine frS ?_))
    (refine zcv ?_ (hs:=by(intro F w hS;(try clear hS0);exact HS7 Ha.out _ W w _ hS)))
    iterate 3 (refine cR ?_)
    (refine zca ?_)
    (refine zct ?_)
    (refine cR ?_)
    refine Ad7 ?_
    clear hS
    intro w hS
    have hS2:St W [ptrTo (nd 9) _ _,blk b _ _,xvP xb vB n p,sats R] w:=hS
    clear hS
    have hS:=hS2.unpack [_,_,_]
    clear hS2
    simp only[List.cons_append,List.nil_append]at hS
    generalize nd 9=v12 at *
    have h1:=hS.ptr;clear hS;obtain⟨b2,rfl,hS⟩:=h1
    go_wp2_with(first|(go_at_call 119;refine(set8P Hw.out hN k ⟨s0,s1,s2,s3⟩ (hS.s (xvP xb vB n p::R))).mono ?_;clear hS;rintro e w ⟨rfl,hS⟩)|(refine zlN hS ?_))
    go_ret
    exact⟨rfl,hS⟩
theorem take8(hw:PsW p N)(hN:N≤1000000)(k:ByteArray)(i:It)(hS:St W (xvP xb vB n p::R) w):
  Calls Tryz.prog 120 #[.pointer (some ⟨xb,0,none⟩),.string k,.agg i.cells.toArray] w fun e w'=>e=.returned (.int .i64 (takeE p k i))∧St W (xvP xb vB n (takeP p k i)::R) w':=by
 obtain⟨x0,x1,x2,x3⟩:=i
 have Hw:=Lib.hid hw
 clear hw
 cases hk:whoB k with
 | false=>
  have e1:takeE p k ⟨x0,x1,x2,x3⟩=1:=by simp[takeE,hk]
  have e2:takeP p k ⟨x0,x1,x2,x3⟩=p:=by simp[takeP,hk]
  rw[e1,e2]
  clear e1 e2
  simp only[It.cells]
  go_enter Tryz.func120,Tryz.ntmps120
  go_wp2_with(first|go_big_skip|(go_at_call 115;refine(key8 k W _ _ hS).mono ?_;clear hS;rw[hk];rintro e w ⟨rfl,hS⟩)|(refine zbx hS ?_;clear hS;intro b w hS))
  go_ret
  exact⟨rfl,hS.drop⟩
 | true=>
  cases hi:isIt ⟨x0,x1,x2,x3⟩with
  | false=>
   have e1:takeE p k ⟨x0,x1,x2,x3⟩=1:=by simp[takeE,hk,hi]
   have e2:takeP p k ⟨x0,x1,x2,x3⟩=p:=by simp[takeP,hk,hi]
   rw[e1,e2]
   clear e1 e2
   simp only[It.cells]
   go_enter Tryz.func120,Tryz.ntmps120
   go_wp2_with(first|(go_at_call 115;refine(key8 k W _ _ hS).mono ?_;clear hS;rw[hk];rintro e w ⟨rfl,hS⟩)|(go_at_call 116;refine(Ck7 _ _ _ _ W _ _ hS).mono ?_;clear hS;rw[hi];rintro e w ⟨rfl,hS⟩)|(refine zbx hS ?_;clear hS;intro b w hS)|(refine zlN hS ?_))
   go_ret
   exact⟨rfl,hS.drop⟩
  | true=>
   obtain⟨px,hx⟩:∃x,purseA p k=x:=⟨_,rfl⟩
   obtain⟨p0,p1,p2,p3⟩:=px
   cases ha:subOk ⟨p0,p1,p2,p3⟩ ⟨x0,x1,x2,x3⟩with
   | false=>
    have e1:takeE p k ⟨x0,x1,x2,x3⟩=14:=by simp[takeE,hk,hi,hx,ha]
    have e2:takeP p k ⟨x0,x1,x2,x3⟩=p:=by simp[takeP,hk,hi,hx,ha]
    rw[e1,e2]
    have Hx:=Lib.hid hx
    have Ha:=Lib.hid ha
    clear ha hx e1 e2
    simp only[It.cells]
    go_enter Tryz.func120,Tryz.ntmps120
    go_wp2_with(first|(go_at_call 115;refine(key8 k W _ _ hS).mono ?_;clear hS;rw[hk];rintro e w ⟨rfl,hS⟩)|(go_at_call 116;refine(Ck7 _ _ _ _ W _ _ hS).mono ?_;clear hS;rw[hi];rintro e w ⟨rfl,hS⟩)|(refine zbx hS ?_;clear hS;intro b w hS)|(refine zlN hS ?_))
    refine rf3 [0,0,3,0,15,31,63,63,0,383,1023] (fun i=>i==8) (fun i=>if i==2 then some (.agg #[.int .i64 p0,.int .i64 p1,.int .i64 p2,.int .i64 p3])else if i==4 then some (.tuple #[.agg #[.int .i64 (0),.int .i64 (0),.int .i64 (0),.int .i64 (0)],.bool false])else none) [⟨some 8,some 9,fun nd=>ptrTo (nd 8) [.int .i64 0,.int .i64 0,.int .i64 0,.int .i64 0] 29⟩,⟨some 9,none,fun nd=>ptrTo (nd 8) [.int .i64 (0),.int .i64 (0),.int .i64 (0),.int .i64 (0)] 29⟩] [none,none] hS ?_
    intro nd
    iterate 2 (refine cR ?_)
    (refine zcv ?_ (hs:=by(intro F w hS;(try clear hS0);exact DJ7 Hw.out Hx.out hS (by exact takO))))
    (refine zcN ?_)
    (refine zcv ?_ (hs:=by(intro F w hS;(try clear hS0);exact PN7 Ha.out W w _ hS)))
    iterate 3 (refine cR ?_)
    (refine zca ?_)
    (refine zct ?_)
    (refine cR ?_)
    refine Ad7 ?_
    clear hS
    intro w hS
    have hS2:St W [ptrTo (nd 8) _ _,blk b _ _,xvP xb vB n p,sats R] w:=hS
    clear hS
    have hS:=hS2.unpack [_,_,_]
    clear hS2
    simp only[List.cons_append,List.nil_append]at hS
    generalize nd 8=v12 at *
    have h1:=hS.ptr;clear hS;obtain⟨b2,rfl,hS⟩:=h1
    go_wp2_with(fail)
    go_ret
    exact⟨rfl,hS.s _⟩
   | true=>
    have e1:takeE p k ⟨x0,x1,x2,x3⟩=0:=by simp[takeE,hk,hi,hx,ha]
    have e2:takeP p k ⟨x0,x1,x2,x3⟩=layP p k ⟨p0-x0,p1-x1,p2-x2,p3-x3⟩:=by simp[takeP,hk,hi,hx,ha,subIt]
    rw[e1,e2]
    have Hx:=Lib.hid hx
    have Ha:=Lib.hid ha
    clear ha hx e1 e2
    simp only[It.cells]
    go_enter Tryz.func120,Tryz.ntmps120
    go_wp2_with(first|(go_at_call 115;refine(key8 k W _ _ hS).mono ?_;clear hS;rw[hk];rintro e w ⟨rfl,hS⟩)|(go_at_call 116;refine(Ck7 _ _ _ _ W _ _ hS).mono ?_;clear hS;rw[hi];rintro e w ⟨rfl,hS⟩)|(refine zbx hS ?_;clear hS;intro b w hS)|(refine zlN hS ?_))
    refine rf3 [0,0,3,0,15,31,63,63,0,383,1023] (fun i=>i==8) (fun i=>if i==2 then some (.agg #[.int .i64 p0,.int .i64 p1,.int .i64 p2,.int .i64 p3])else if i==4 then some (.tuple #[.agg #[.int .i64 (p0-x0),.int .i64 (p1-x1),.int .i64 (p2-x2),.int .i64 (p3-x3)],.bool true])else none) [⟨some 8,some 9,fun nd=>ptrTo (nd 8) [.int .i64 0,.int .i64 0,.int .i64 0,.int .i64 0] 29⟩,⟨some 9,none,fun nd=>ptrTo (nd 8) [.int .i64 (p0-x0),.int .i64 (p1-x1),.int .i64 (p2-x2),.int .i64 (p3-x3)] 29⟩] [none,none] hS ?_
    intro nd
    iterate 2 (refine cR ?_)
    (refine zcv ?_ (hs:=by(intro F w hS;(try clear hS0);exact DJ7 Hw.out Hx.out hS (by exact takO))))
    (refine zcN ?_)
    (refine zcv ?_ (hs:=by(intro F w hS;(try clear hS0);exact Of7 Ha.out W w _ hS)))
    iterate 3 (refine cR ?_)
    (refine zca ?_)
    (refine zct ?_)
    (refine cR ?_)
    refine Ad7 ?_
    clear hS
    intro w hS
    have hS2:St W [ptrTo (nd 8) _ _,blk b _ _,xvP xb vB n p,sats R] w:=hS
    clear hS
    have hS:=hS2.unpack [_,_,_]
    clear hS2
    simp only[List.cons_append,List.nil_append]at hS
    generalize nd 8=v12 at *
    have h1:=hS.ptr;clear hS;obtain⟨b2,rfl,hS⟩:=h1
    go_wp2_with(first|(go_at_call 119;refine(set8P Hw.out hN k ⟨p0-x0,p1-x1,p2-x2,p3-x3⟩ (hS.s (xvP xb vB n p::R))).mono ?_;clear hS;rintro e w ⟨rfl,hS⟩)|(refine zlN hS ?_))
    go_ret
    exact⟨rfl,hS⟩
end
def xkP(xB:Nat)(L:List Ord)(n:Int):HP:=fun f=>∃(v:Value) (last:Int),last<n∧sats [blk xB [v,.int .i64 last] 244,pileR v L] f
section
variable{W w:World}{xB:Nat}{L:List Ord}{n:Int}{R:List HP}
theorem xkOpen(h:St W (xkP xB L n::R) w):∃a c last,last<n∧St W (blk xB [.slice a L.length c,.int .i64 last] 244::pileR (.slice a L.length c) L::R) w:=by
 obtain⟨v,h⟩:=St.ex h
 obtain⟨last,h⟩:=St.ex h
 obtain⟨h1,h⟩:=St.and h
 have hS:=(St.split (St.split h).swap).swap.drop.swap
 obtain⟨a,c,rfl⟩:=hS.drop.rowVal
 exact⟨a,c,last,h1,hS⟩
theorem xkShut{v:Value}{last:Int}(hl:last<n)(h:St W (blk xB [v,.int .i64 last] 244::pileR v L::R) w):St W (xkP xB L n::R) w:=by
 refine St.mkEx v (St.mkEx last (St.mkAnd hl ?_))
 refine St.join ?_
 refine St.swap (St.imp h.swap ?_)
 intro f hf
 exact⟨fun _=>true,hf,trivial⟩
end
abbrev xvR(xb xB:Nat)(p:Ps)(L:List Ord)(n:Int)(R:List HP):List HP:=xvP xb (.pointer (some ⟨xB,0,none⟩)) n p::xkP xB L n::R
section
variable(xb xB:Nat)(p:Ps)(L:List Ord)(n:Int)(N:Nat)(o:Ord)(W w:World)(R:List HP)
theorem KY7(h:may1 o=false)(hS:St W (xvR xb xB p L n R) w):
  Calls Tryz.prog 121 #[.pointer (some ⟨xb,0,none⟩),.agg o.cells.toArray] w fun e w'=>e=.returned (.tuple #[.int .i64 0,.int .i64 1])∧St W (xvR xb xB p L n R) w':=by
 obtain⟨i,u,y,t,c,pr⟩:=o
 have hm:mayB ⟨1,u,y,t,c,pr⟩=false:=h
 clear h
 simp only[Ord.cells]
 obtain⟨xv,hS1⟩:=xvOpen hS
 obtain⟨la,lc,last,hlast,hS2⟩:=xkOpen (hS1.s (xkP xB L n::blk xb _ _::hdR _ (hdL p)::R))
 clear hS hS1
 have hS:=hS2
 clear hS2
 go_enter Tryz.func121,Tryz.ntmps121
 go_wp2_with(first|(go_at_call 182;refine(Bi7 ⟨1,u,y,t,c,pr⟩ W _ _ hS).mono ?_;clear hS;rw[hm];rintro e w ⟨rfl,hS⟩)|((with_reducible apply Az7 hS);(with_reducible rfl);rfl;rfl;rfl;clear hS;intro b3 w hS;(refine frS ?_))|((with_reducible apply Aj7 hS);(with_reducible rfl);rfl;(exact zsS);clear hS;intro b6 w hS;(refine frS ?_))|(refine zl1 hS ?_)|(refine zlN hS ?_)|(refine zs1 hS ?_;clear hS;intro w hS)|(refine zsN hS ?_;clear hS;intro w hS))
 go_ret2
 have hS1:=xkShut hlast (hS.s (blk xB _ _::pileR _ L::blk xb _ _::hdR _ (hdL p)::R))
 exact⟨rfl,xvShut (hS1.s (blk xb _ _::hdR _ (hdL p)::xkP xB L n::R))⟩
theorem Ja7(h:may1 o=true)(hf:32≤L.length∨1099511627776<n)(hS:St W (xvR xb xB p L n R) w):
  Calls Tryz.prog 121 #[.pointer (some ⟨xb,0,none⟩),.agg o.cells.toArray] w fun e w'=>e=.returned (.tuple #[.int .i64 0,.int .i64 6])∧St W (xvR xb xB p L n R) w':=by
 obtain⟨i,u,y,t,c,pr⟩:=o
 have hm:mayB ⟨1,u,y,t,c,pr⟩=true:=h
 clear h
 simp only[Ord.cells]
 obtain⟨xv,hS1⟩:=xvOpen hS
 obtain⟨la,lc,last,hlast,hS2⟩:=xkOpen (hS1.s (xkP xB L n::blk xb _ _::hdR _ (hdL p)::R))
 clear hS hS1
 have hS:=hS2
 clear hS2
 by_cases hl:32≤L.length
 ·have d1:(32:Int)≤(L.length:Int):=by omega
  clear hf
  go_enter Tryz.func121,Tryz.ntmps121
  go_wp2_with(first|(go_at_call 182;refine(Bi7 ⟨1,u,y,t,c,pr⟩ W _ _ hS).mono ?_;clear hS;rw[hm];rintro e w ⟨rfl,hS⟩)|((with_reducible apply Az7 hS);(with_reducible rfl);rfl;rfl;rfl;clear hS;intro b3 w hS;(refine frS ?_))|((with_reducible apply Aj7 hS);(with_reducible rfl);rfl;(exact zsS);clear hS;intro b6 w hS;(refine frS ?_))|(refine zl1 hS ?_)|(refine zlN hS ?_)|(refine zs1 hS ?_;clear hS;intro w hS)|(refine zsN hS ?_;clear hS;intro w hS))
  go_ret2
  have hS1:=xkShut hlast (hS.s (blk xB _ _::pileR _ L::blk xb _ _::hdR _ (hdL p)::R))
  exact⟨rfl,xvShut (hS1.s (blk xb _ _::hdR _ (hdL p)::xkP xB L n::R))⟩
 ·have d1:decide ((32:Int)≤(L.length:Int))=false:=by simp;omega
  have d2:1099511627776<n:=hf.resolve_left hl
  clear hf hl
  go_enter Tryz.func121,Tryz.ntmps121
  go_wp2_with(first|(go_at_call 182;refine(Bi7 ⟨1,u,y,t,c,pr⟩ W _ _ hS).mono ?_;clear hS;rw[hm];rintro e w ⟨rfl,hS⟩)|((with_reducible apply Az7 hS);(with_reducible rfl);rfl;rfl;rfl;clear hS;intro b3 w hS;(refine frS ?_))|((with_reducible apply Aj7 hS);(with_reducible rfl);rfl;(exact zsS);clear hS;intro b6 w hS;(refine frS ?_))|(refine zl1 hS ?_)|(refine zlN hS ?_)|(refine zs1 hS ?_;clear hS;intro w hS)|(refine zsN hS ?_;clear hS;intro w hS))
  go_ret2
  have hS1:=xkShut hlast (hS.s (blk xB _ _::pileR _ L::blk xb _ _::hdR _ (hdL p)::R))
  exact⟨rfl,xvShut (hS1.s (blk xb _ _::hdR _ (hdL p)::xkP xB L n::R))⟩
theorem DK7{o:Ord}{h0 h1 h2 h3:Int}(hm:MayP o)(h:holdsF o=⟨h0,h1,h2,h3⟩)(W w:World)(R:List HP)(hS:St W R w):
  Calls Tryz.prog 183 #[.agg o.cells.toArray] w fun e w'=>e=.returned (.agg #[.int .i64 h0,.int .i64 h1,.int .i64 h2,.int .i64 h3])∧St W R w':=
 (holds8 o hm W w R hS).mono fun e w' ⟨he,hS⟩=>⟨by rw[he,h];rfl,hS⟩
theorem HT7(hw:PsW p N)(hN:N≤1000000)(h:may1 o=true)(hL:L.length<32)(hn0:1≤n)(hn:n≤1099511627776)(ht:takeE p o.who (holdsF o)=14)(hS:St W (xvR xb xB p L n R) w):
  Calls Tryz.prog 121 #[.pointer (some ⟨xb,0,none⟩),.agg o.cells.toArray] w fun e w'=>e=.returned (.tuple #[.int .i64 0,.int .i64 14])∧St W (xvR xb xB p L n R) w':=by
 obtain⟨i,u,y,t,c,pr⟩:=o
 have hm:mayB ⟨1,u,y,t,c,pr⟩=true:=h
 have hm1:=Ar7.1 hm
 have hm2:MayP ⟨n,u,y,t,c,pr⟩:=⟨hn0,hn,hm1.who0,hm1.who1,hm1.item0,hm1.item1,hm1.cnt0,hm1.cnt1,hm1.price0,hm1.price1⟩
 have ht':takeE p u (holdsF ⟨n,u,y,t,c,pr⟩)=14:=ht
 have hp':takeP p u (holdsF ⟨n,u,y,t,c,pr⟩)=p:=by
  unfold takeE at ht'
  unfold takeP
  split at ht'
  ·rename_i hc
   rw[if_pos hc]
   split at ht'
   ·cases ht'
   ·rename_i hs;rw[if_neg hs]
  ·cases ht'
 have Hm2:=Lib.hid hm2
 have Hw:=Lib.hid hw
 clear h ht hm1 hm2 hw
 have d1:decide ((32:Int)≤(L.length:Int))=false:=by simp;omega
 have d2:decide ((1099511627776:Int)<n)=false:=by simp;omega
 simp only[Ord.cells]
 obtain⟨it,hit⟩:∃x,holdsF ⟨n,u,y,t,c,pr⟩=x:=⟨_,rfl⟩
 rw[hit]at ht' hp'
 obtain⟨h0,h1,h2,h3⟩:=it
 have Hit:=Lib.hid hit
 have Hte:=Lib.hid ht'
 have Htp:=Lib.hid hp'
 clear hit ht' hp'
 obtain⟨xv,hS1⟩:=xvOpen hS
 obtain⟨la,lc,last,hlast,hS2⟩:=xkOpen (hS1.s (xkP xB L n::blk xb _ _::hdR _ (hdL p)::R))
 clear hS hS1
 have hS:=hS2
 clear hS2
 go_enter Tryz.func121,Tryz.ntmps121
 go_wp2_with(first|(go_at_call 182;refine(Bi7 ⟨1,u,y,t,c,pr⟩ W _ _ hS).mono ?_;clear hS;rw[hm];rintro e w ⟨rfl,hS⟩)|((with_reducible apply Az7 hS);(with_reducible rfl);rfl;rfl;rfl;clear hS;intro b3 w hS;(refine frS ?_))|((with_reducible apply Aj7 hS);(with_reducible rfl);rfl;(exact zsS);clear hS;intro b6 w hS;(refine frS ?_))|(refine zl1 hS ?_)|(refine zlN hS ?_)|(refine zs1 hS ?_;clear hS;intro w hS)|(refine zsN hS ?_;clear hS;intro w hS))
 refine rt 5 hS ?_
 iterate 2 (refine qR ?_)
 (refine zq1 ?_)
 (refine zqN ?_)
 (apply As7;rfl;(intro w;apply Af7;(with_reducible rfl);decide +kernel;(focus(simp only[fD,fI,fJ,Act.eval,fE,fF,fG,fH,fK];try rfl)));(intro w hS;exact DK7 (o:=⟨n,u,y,t,c,pr⟩) Hm2.out Hit.out W w _ hS);(refine frS ?_))
 clear hS
 intro w hS
 simp only[List.drop_succ_cons,List.drop_zero]
 go_wp2_with(first|(go_at_call 120;refine(take8 xb _ n p N W _ _ Hw.out hN u ⟨h0,h1,h2,h3⟩ (xvShut (hS.s (blk xb _ _::hdR _ (hdL p)::blk xB _ _::pileR _ L::blk b6 _ _::blk b3 _ _::R)))).mono ?_;clear hS;rw[Hte.out,Htp.out];rintro e w ⟨rfl,hS⟩))
 go_ret2
 have hS1:=xkShut hlast (hS.s (blk xB _ _::pileR _ L::xvP xb _ n p::R))
 exact⟨rfl,hS1.s _⟩
end
end Go.Proofs.YtlmhakmoioogaaaGreat
end
