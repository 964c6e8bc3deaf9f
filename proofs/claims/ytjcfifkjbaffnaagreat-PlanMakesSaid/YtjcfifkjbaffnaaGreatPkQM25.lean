/-
  The document's way.
-/
import Derived.Test.YtjcfifkjbaffnaaGreatPkQM5
import Derived.Test.YtjcfifkjbaffnaaGreatPkQM24
set_option maxHeartbeats 16000000
set_option maxRecDepth 100000
set_option linter.unusedSimpArgs false
set_option linter.unusedVariables false
section
namespace Go.Proofs.YtjcfifkjbaffnaaGreat
open Go.RowKit Go.Sl
theorem Hm7{zs:List Zo}{v:Value}{V:World}{ver nxt:Int}(hv:d6 Zo.cells 9 V v zs)(hl:zs.length<=16){i:Nat}(hi:i<zs.length)(W w:World)(R:List HP)(hS:St W (Old V::R) w):
  Calls Tryz.prog 47 #[.agg #[.I ver,.I nxt,v],.I i] w fun e w'=>∃r,(r=true↔H6 zs nxt zs[i] i)/\e=.returned (.bool r)/\St W (Old V::R) w':=by
 have Hv:=jH hv;obtain⟨a,cap,rfl,h63,hact⟩:=hv;obtain⟨pb,poff,rfl,hall⟩:=hact i hi;clear hact;obtain⟨D,hD⟩:∃D,D=H6 zs nxt zs[i] i:=⟨_,rfl⟩
 obtain⟨S,hSp⟩:∃S,S=(aE4 nxt zs zs[i]/\∀k (h:k<zs.length),k≠i->zs[k].pend=1->zs[k].new≠zs[i].new):=⟨_,rfl⟩
 obtain⟨M,hM⟩:∃M,M=aF4 zs zs[i] i:=⟨_,rfl⟩
 have hd:D↔al4 zs nxt zs[i] i/\((zs[i].pend=0/\am4 zs[i])\/(zs[i].pend=1/\S)\/(zs[i].pend=2/\M)\/(zs[i].pend=3/\an4 zs[i])):=by rw[hD,hSp,hM];exact Iff.rfl
 have HSp:=jH hSp;have HM:=jH hM;rw[<-hD];clear hD hSp hM;obtain⟨z,hz⟩:∃z,z=zs[i]:=⟨_,rfl⟩
 rw[<-hz]at hall hd;clear hz;obtain⟨z0,z1,z2,z3,z4,z5,z6,z7,z8⟩:=z;simp only[Zo.cells]at hall;unfold al4 am4 an4 at hd;simp only at hd;go_enter Tryz.func47,Tryz.ntmps47;obtain⟨F,hF⟩:∃F,m5 zs z0=F:=⟨_,rfl⟩
 rw[hF]at hd;have HF:=jH hF;clear hF;by_cases c1:z0<1
 ·have e1:decide (z0<1)=true:=decide_eq_true c1;have Hno:=jH (show ¬D from fun h=>by have h9:=(hd.1 h).1;omega);clear hd c1;go_wp2_with(first|go_big_skip|refine zbx hS ?_;clear hS;intro b1 w hS|refine zlN hS ?_ (vs:=[.I z0,.string z1,.string z2,.I z3,.I z4,.I z5,.I z6,.string z7,.I z8]) (hc:=by exact a7.old (by exact b8) hall)|refine zal hS ?_;clear hS;intro b5 w hS|refine zsN hS ?_;clear hS;intro w hS|refine zlN hS ?_|refine zl1 hS ?_|go_at_call 72;refine(Ad7 Hv.out z0 HF.out W _ _ _ (by(focus((repeat(first|exact .head|apply Take.tail));done))) hS).mono ?_;clear hS;rintro e w ⟨rfl,hS⟩|go_at_call 73;refine(Aj7 (ver:=ver) (nxt:=nxt) Hv.out hl hi W _ _ (hS.s (Old V::blk b5 _ _::blk b1 _ _::R))).mono ?_;clear hS;rintro e w ⟨q,hq,rfl,hS⟩;(have Hq:=jH hq;clear hq)|go_at_call 74;refine(Ai7 Hv.out hl hi W _ _ (hS.s (Old V::blk b5 _ _::blk b1 _ _::R))).mono ?_;clear hS;rintro e w ⟨q,hq,rfl,hS⟩;(have Hq:=jH hq;clear hq));go_ret;exact⟨false,⟨fun h=>(by cases h),fun h=>absurd h Hno.out⟩,rfl,hS.s _⟩
 have e1:decide (z0<1)=false:=decide_eq_false c1;by_cases c2:nxt<=z0
 ·have e2:decide (nxt<=z0)=true:=decide_eq_true c2;have Hno:=jH (show ¬D from fun h=>by have h9:=(hd.1 h).1.2.1;omega);clear hd c1 c2;go_wp2_with(first|go_big_skip|refine zbx hS ?_;clear hS;intro b1 w hS|refine zlN hS ?_ (vs:=[.I z0,.string z1,.string z2,.I z3,.I z4,.I z5,.I z6,.string z7,.I z8]) (hc:=by exact a7.old (by exact b8) hall)|refine zal hS ?_;clear hS;intro b5 w hS|refine zsN hS ?_;clear hS;intro w hS|refine zlN hS ?_|refine zl1 hS ?_|go_at_call 72;refine(Ad7 Hv.out z0 HF.out W _ _ _ (by(focus((repeat(first|exact .head|apply Take.tail));done))) hS).mono ?_;clear hS;rintro e w ⟨rfl,hS⟩|go_at_call 73;refine(Aj7 (ver:=ver) (nxt:=nxt) Hv.out hl hi W _ _ (hS.s (Old V::blk b5 _ _::blk b1 _ _::R))).mono ?_;clear hS;rintro e w ⟨q,hq,rfl,hS⟩;(have Hq:=jH hq;clear hq)|go_at_call 74;refine(Ai7 Hv.out hl hi W _ _ (hS.s (Old V::blk b5 _ _::blk b1 _ _::R))).mono ?_;clear hS;rintro e w ⟨q,hq,rfl,hS⟩;(have Hq:=jH hq;clear hq));go_ret;exact⟨false,⟨fun h=>(by cases h),fun h=>absurd h Hno.out⟩,rfl,hS.s _⟩
 have e2:decide (nxt<=z0)=false:=decide_eq_false c2;by_cases c3:F=(i:Int)
 case neg=>
  have e3:(F != (i:Int))=true:=by simpa using c3
  have Hno:=jH (show ¬D from fun h=>c3 (hd.1 h).1.2.2.1);clear hd c1 c2 c3;go_wp2_with(first|go_big_skip|refine zbx hS ?_;clear hS;intro b1 w hS|refine zlN hS ?_ (vs:=[.I z0,.string z1,.string z2,.I z3,.I z4,.I z5,.I z6,.string z7,.I z8]) (hc:=by exact a7.old (by exact b8) hall)|refine zal hS ?_;clear hS;intro b5 w hS|refine zsN hS ?_;clear hS;intro w hS|refine zlN hS ?_|refine zl1 hS ?_|go_at_call 72;refine(Ad7 Hv.out z0 HF.out W _ _ _ (by(focus((repeat(first|exact .head|apply Take.tail));done))) hS).mono ?_;clear hS;rintro e w ⟨rfl,hS⟩|go_at_call 73;refine(Aj7 (ver:=ver) (nxt:=nxt) Hv.out hl hi W _ _ (hS.s (Old V::blk b5 _ _::blk b1 _ _::R))).mono ?_;clear hS;rintro e w ⟨q,hq,rfl,hS⟩;(have Hq:=jH hq;clear hq)|go_at_call 74;refine(Ai7 Hv.out hl hi W _ _ (hS.s (Old V::blk b5 _ _::blk b1 _ _::R))).mono ?_;clear hS;rintro e w ⟨q,hq,rfl,hS⟩;(have Hq:=jH hq;clear hq));go_ret;exact⟨false,⟨fun h=>(by cases h),fun h=>absurd h Hno.out⟩,rfl,hS.s _⟩
 have e3:(F != (i:Int))=false:=by simpa using c3
 by_cases c4:z3<1
 ·have e4:decide (z3<1)=true:=decide_eq_true c4;have Hno:=jH (show ¬D from fun h=>by have h9:=(hd.1 h).1.2.2.2.1;omega);clear hd c1 c2 c3 c4;go_wp2_with(first|go_big_skip|refine zbx hS ?_;clear hS;intro b1 w hS|refine zlN hS ?_ (vs:=[.I z0,.string z1,.string z2,.I z3,.I z4,.I z5,.I z6,.string z7,.I z8]) (hc:=by exact a7.old (by exact b8) hall)|refine zal hS ?_;clear hS;intro b5 w hS|refine zsN hS ?_;clear hS;intro w hS|refine zlN hS ?_|refine zl1 hS ?_|go_at_call 72;refine(Ad7 Hv.out z0 HF.out W _ _ _ (by(focus((repeat(first|exact .head|apply Take.tail));done))) hS).mono ?_;clear hS;rintro e w ⟨rfl,hS⟩|go_at_call 73;refine(Aj7 (ver:=ver) (nxt:=nxt) Hv.out hl hi W _ _ (hS.s (Old V::blk b5 _ _::blk b1 _ _::R))).mono ?_;clear hS;rintro e w ⟨q,hq,rfl,hS⟩;(have Hq:=jH hq;clear hq)|go_at_call 74;refine(Ai7 Hv.out hl hi W _ _ (hS.s (Old V::blk b5 _ _::blk b1 _ _::R))).mono ?_;clear hS;rintro e w ⟨q,hq,rfl,hS⟩;(have Hq:=jH hq;clear hq));go_ret;exact⟨false,⟨fun h=>(by cases h),fun h=>absurd h Hno.out⟩,rfl,hS.s _⟩
 have e4:decide (z3<1)=false:=decide_eq_false c4;by_cases c5:1048576<z3
 ·have e5:decide (1048576<z3)=true:=decide_eq_true c5;have Hno:=jH (show ¬D from fun h=>by have h9:=(hd.1 h).1.2.2.2.2.1;omega);clear hd c1 c2 c3 c4 c5;go_wp2_with(first|go_big_skip|refine zbx hS ?_;clear hS;intro b1 w hS|refine zlN hS ?_ (vs:=[.I z0,.string z1,.string z2,.I z3,.I z4,.I z5,.I z6,.string z7,.I z8]) (hc:=by exact a7.old (by exact b8) hall)|refine zal hS ?_;clear hS;intro b5 w hS|refine zsN hS ?_;clear hS;intro w hS|refine zlN hS ?_|refine zl1 hS ?_|go_at_call 72;refine(Ad7 Hv.out z0 HF.out W _ _ _ (by(focus((repeat(first|exact .head|apply Take.tail));done))) hS).mono ?_;clear hS;rintro e w ⟨rfl,hS⟩|go_at_call 73;refine(Aj7 (ver:=ver) (nxt:=nxt) Hv.out hl hi W _ _ (hS.s (Old V::blk b5 _ _::blk b1 _ _::R))).mono ?_;clear hS;rintro e w ⟨q,hq,rfl,hS⟩;(have Hq:=jH hq;clear hq)|go_at_call 74;refine(Ai7 Hv.out hl hi W _ _ (hS.s (Old V::blk b5 _ _::blk b1 _ _::R))).mono ?_;clear hS;rintro e w ⟨q,hq,rfl,hS⟩;(have Hq:=jH hq;clear hq));go_ret;exact⟨false,⟨fun h=>(by cases h),fun h=>absurd h Hno.out⟩,rfl,hS.s _⟩
 have e5:decide (1048576<z3)=false:=decide_eq_false c5;by_cases c6:z4<1
 ·have e6:decide (z4<1)=true:=decide_eq_true c6;have Hno:=jH (show ¬D from fun h=>by have h9:=(hd.1 h).1.2.2.2.2.2.1;omega);clear hd c1 c2 c3 c4 c5 c6;go_wp2_with(first|go_big_skip|refine zbx hS ?_;clear hS;intro b1 w hS|refine zlN hS ?_ (vs:=[.I z0,.string z1,.string z2,.I z3,.I z4,.I z5,.I z6,.string z7,.I z8]) (hc:=by exact a7.old (by exact b8) hall)|refine zal hS ?_;clear hS;intro b5 w hS|refine zsN hS ?_;clear hS;intro w hS|refine zlN hS ?_|refine zl1 hS ?_|go_at_call 72;refine(Ad7 Hv.out z0 HF.out W _ _ _ (by(focus((repeat(first|exact .head|apply Take.tail));done))) hS).mono ?_;clear hS;rintro e w ⟨rfl,hS⟩|go_at_call 73;refine(Aj7 (ver:=ver) (nxt:=nxt) Hv.out hl hi W _ _ (hS.s (Old V::blk b5 _ _::blk b1 _ _::R))).mono ?_;clear hS;rintro e w ⟨q,hq,rfl,hS⟩;(have Hq:=jH hq;clear hq)|go_at_call 74;refine(Ai7 Hv.out hl hi W _ _ (hS.s (Old V::blk b5 _ _::blk b1 _ _::R))).mono ?_;clear hS;rintro e w ⟨q,hq,rfl,hS⟩;(have Hq:=jH hq;clear hq));go_ret;exact⟨false,⟨fun h=>(by cases h),fun h=>absurd h Hno.out⟩,rfl,hS.s _⟩
 have e6:decide (z4<1)=false:=decide_eq_false c6;by_cases c7:1099511627776<z4
 ·have e7:decide (1099511627776<z4)=true:=decide_eq_true c7;have Hno:=jH (show ¬D from fun h=>by have h9:=(hd.1 h).1.2.2.2.2.2.2;omega);clear hd c1 c2 c3 c4 c5 c6 c7;go_wp2_with(first|go_big_skip|refine zbx hS ?_;clear hS;intro b1 w hS|refine zlN hS ?_ (vs:=[.I z0,.string z1,.string z2,.I z3,.I z4,.I z5,.I z6,.string z7,.I z8]) (hc:=by exact a7.old (by exact b8) hall)|refine zal hS ?_;clear hS;intro b5 w hS|refine zsN hS ?_;clear hS;intro w hS|refine zlN hS ?_|refine zl1 hS ?_|go_at_call 72;refine(Ad7 Hv.out z0 HF.out W _ _ _ (by(focus((repeat(first|exact .head|apply Take.tail));done))) hS).mono ?_;clear hS;rintro e w ⟨rfl,hS⟩|go_at_call 73;refine(Aj7 (ver:=ver) (nxt:=nxt) Hv.out hl hi W _ _ (hS.s (Old V::blk b5 _ _::blk b1 _ _::R))).mono ?_;clear hS;rintro e w ⟨q,hq,rfl,hS⟩;(have Hq:=jH hq;clear hq)|go_at_call 74;refine(Ai7 Hv.out hl hi W _ _ (hS.s (Old V::blk b5 _ _::blk b1 _ _::R))).mono ?_;clear hS;rintro e w ⟨q,hq,rfl,hS⟩;(have Hq:=jH hq;clear hq));go_ret;exact⟨false,⟨fun h=>(by cases h),fun h=>absurd h Hno.out⟩,rfl,hS.s _⟩
 have e7:decide (1099511627776<z4)=false:=decide_eq_false c7;have hd2:D↔((z5=0/\z6=0/\z7.size=0/\z8=0)\/(z5=1/\S)\/(z5=2/\M)\/(z5=3/\1<=z6/\z6<=1048576/\z6≠z3/\z7.size=0/\z8=0)):=by rw[hd];exact⟨fun h=>h.2,fun h=>⟨⟨by omega,by omega,c3,by omega,by omega,by omega,by omega⟩,h⟩⟩
 clear hd c1 c2 c3 c4 c5 c6 c7;have n7:=Ax7 z7;unfold p8 at n7;have n8:z7.toList.isEmpty=(z7.toList==[]):=by cases z7.toList <;> rfl
 rw[n7]at n8;by_cases p0:z5=0
 ·have q0:(z5==0)=true:=by simpa using p0
  have hf:D↔(z6=0/\z7.size=0/\z8=0):=by
   rw[hd2];constructor
   ·rintro(h|h|h|h)
    ·exact h.2
    ·omega
    ·omega
    ·omega
   ·exact fun h=>.inl ⟨p0,h⟩
  clear hd2 p0;have hk0:¬z7.size=0->z7.toList.isEmpty=false:=fun h=>by rw[n8];simpa using h
  have hk1:z7.size=0->z7.toList.isEmpty=true:=fun h=>by rw[n8];simpa using h
  have hk2:¬z7.size=0->(z7.toList==[])=false:=fun h=>by rw[n7];simpa using h
  have hk3:z7.size=0->(z7.toList==[])=true:=fun h=>by rw[n7];simpa using h
  clear n7 n8;by_cases f1:z6=0
  case neg=>
   have g1:(z6==0)=false:=by simpa using f1
   have Hno:=jH (show ¬D from fun h=>f1 (hf.1 h).1);clear hf f1;go_wp2_with(first|go_big_skip|refine zbx hS ?_;clear hS;intro b1 w hS|refine zlN hS ?_ (vs:=[.I z0,.string z1,.string z2,.I z3,.I z4,.I z5,.I z6,.string z7,.I z8]) (hc:=by exact a7.old (by exact b8) hall)|refine zal hS ?_;clear hS;intro b5 w hS|refine zsN hS ?_;clear hS;intro w hS|refine zlN hS ?_|refine zl1 hS ?_|go_at_call 72;refine(Ad7 Hv.out z0 HF.out W _ _ _ (by(focus((repeat(first|exact .head|apply Take.tail));done))) hS).mono ?_;clear hS;rintro e w ⟨rfl,hS⟩|go_at_call 73;refine(Aj7 (ver:=ver) (nxt:=nxt) Hv.out hl hi W _ _ (hS.s (Old V::blk b5 _ _::blk b1 _ _::R))).mono ?_;clear hS;rintro e w ⟨q,hq,rfl,hS⟩;(have Hq:=jH hq;clear hq)|go_at_call 74;refine(Ai7 Hv.out hl hi W _ _ (hS.s (Old V::blk b5 _ _::blk b1 _ _::R))).mono ?_;clear hS;rintro e w ⟨q,hq,rfl,hS⟩;(have Hq:=jH hq;clear hq));go_ret;exact⟨false,⟨fun h=>(by cases h),fun h=>absurd h Hno.out⟩,rfl,hS.s _⟩
  have g1:(z6==0)=true:=by simpa using f1
  by_cases f2:z7.size=0
  case neg=>
   have g2:z7.toList.isEmpty=false:=hk0 f2;have g2':(z7.toList==[])=false:=hk2 f2;have Hno:=jH (show ¬D from fun h=>f2 (hf.1 h).2.1);clear hf f1 f2 hk0 hk1 hk2 hk3;go_wp2_with(first|go_big_skip|refine zbx hS ?_;clear hS;intro b1 w hS|refine zlN hS ?_ (vs:=[.I z0,.string z1,.string z2,.I z3,.I z4,.I z5,.I z6,.string z7,.I z8]) (hc:=by exact a7.old (by exact b8) hall)|refine zal hS ?_;clear hS;intro b5 w hS|refine zsN hS ?_;clear hS;intro w hS|refine zlN hS ?_|refine zl1 hS ?_|go_at_call 72;refine(Ad7 Hv.out z0 HF.out W _ _ _ (by(focus((repeat(first|exact .head|apply Take.tail));done))) hS).mono ?_;clear hS;rintro e w ⟨rfl,hS⟩|go_at_call 73;refine(Aj7 (ver:=ver) (nxt:=nxt) Hv.out hl hi W _ _ (hS.s (Old V::blk b5 _ _::blk b1 _ _::R))).mono ?_;clear hS;rintro e w ⟨q,hq,rfl,hS⟩;(have Hq:=jH hq;clear hq)|go_at_call 74;refine(Ai7 Hv.out hl hi W _ _ (hS.s (Old V::blk b5 _ _::blk b1 _ _::R))).mono ?_;clear hS;rintro e w ⟨q,hq,rfl,hS⟩;(have Hq:=jH hq;clear hq));go_ret;exact⟨false,⟨fun h=>(by cases h),fun h=>absurd h Hno.out⟩,rfl,hS.s _⟩
  have g2:z7.toList.isEmpty=true:=hk1 f2;have g2':(z7.toList==[])=true:=hk3 f2;by_cases f3:z8=0
  case neg=>
   have g3:(z8==0)=false:=by simpa using f3
   have Hno:=jH (show ¬D from fun h=>f3 (hf.1 h).2.2);clear hf f1 f2 f3 hk0 hk1 hk2 hk3;go_wp2_with(first|go_big_skip|refine zbx hS ?_;clear hS;intro b1 w hS|refine zlN hS ?_ (vs:=[.I z0,.string z1,.string z2,.I z3,.I z4,.I z5,.I z6,.string z7,.I z8]) (hc:=by exact a7.old (by exact b8) hall)|refine zal hS ?_;clear hS;intro b5 w hS|refine zsN hS ?_;clear hS;intro w hS|refine zlN hS ?_|refine zl1 hS ?_|go_at_call 72;refine(Ad7 Hv.out z0 HF.out W _ _ _ (by(focus((repeat(first|exact .head|apply Take.tail));done))) hS).mono ?_;clear hS;rintro e w ⟨rfl,hS⟩|go_at_call 73;refine(Aj7 (ver:=ver) (nxt:=nxt) Hv.out hl hi W _ _ (hS.s (Old V::blk b5 _ _::blk b1 _ _::R))).mono ?_;clear hS;rintro e w ⟨q,hq,rfl,hS⟩;(have Hq:=jH hq;clear hq)|go_at_call 74;refine(Ai7 Hv.out hl hi W _ _ (hS.s (Old V::blk b5 _ _::blk b1 _ _::R))).mono ?_;clear hS;rintro e w ⟨q,hq,rfl,hS⟩;(have Hq:=jH hq;clear hq));go_ret;exact⟨false,⟨fun h=>(by cases h),fun h=>absurd h Hno.out⟩,rfl,hS.s _⟩
  have g3:(z8==0)=true:=by simpa using f3
  have Hye:=jH (hf.2 ⟨f1,f2,f3⟩);clear hf f1 f2 f3 hk0 hk1 hk2 hk3;go_wp2_with(first|go_big_skip|refine zbx hS ?_;clear hS;intro b1 w hS|refine zlN hS ?_ (vs:=[.I z0,.string z1,.string z2,.I z3,.I z4,.I z5,.I z6,.string z7,.I z8]) (hc:=by exact a7.old (by exact b8) hall)|refine zal hS ?_;clear hS;intro b5 w hS|refine zsN hS ?_;clear hS;intro w hS|refine zlN hS ?_|refine zl1 hS ?_|go_at_call 72;refine(Ad7 Hv.out z0 HF.out W _ _ _ (by(focus((repeat(first|exact .head|apply Take.tail));done))) hS).mono ?_;clear hS;rintro e w ⟨rfl,hS⟩|go_at_call 73;refine(Aj7 (ver:=ver) (nxt:=nxt) Hv.out hl hi W _ _ (hS.s (Old V::blk b5 _ _::blk b1 _ _::R))).mono ?_;clear hS;rintro e w ⟨q,hq,rfl,hS⟩;(have Hq:=jH hq;clear hq)|go_at_call 74;refine(Ai7 Hv.out hl hi W _ _ (hS.s (Old V::blk b5 _ _::blk b1 _ _::R))).mono ?_;clear hS;rintro e w ⟨q,hq,rfl,hS⟩;(have Hq:=jH hq;clear hq));go_ret;exact⟨true,⟨fun _=>Hye.out,fun _=>rfl⟩,rfl,hS.s _⟩
 have q0:(z5==0)=false:=by simpa using p0
 by_cases p3:z5=3
 ·have q3:(z5==3)=true:=by simpa using p3
  have hf:D↔(1<=z6/\z6<=1048576/\z6≠z3/\z7.size=0/\z8=0):=by
   rw[hd2];constructor
   ·rintro(h|h|h|h)
    ·omega
    ·omega
    ·omega
    ·exact h.2
   ·exact fun h=>.inr (.inr (.inr ⟨p3,h⟩))
  clear hd2 p0 p3;have hk0:¬z7.size=0->z7.toList.isEmpty=false:=fun h=>by rw[n8];simpa using h
  have hk1:z7.size=0->z7.toList.isEmpty=true:=fun h=>by rw[n8];simpa using h
  have hk2:¬z7.size=0->(z7.toList==[])=false:=fun h=>by rw[n7];simpa using h
  have hk3:z7.size=0->(z7.toList==[])=true:=fun h=>by rw[n7];simpa using h
  clear n7 n8;by_cases f1:1<=z6
  case neg=>
   have g1:decide (1<=z6)=false:=decide_eq_false f1;have Hno:=jH (show ¬D from fun h=>f1 (hf.1 h).1);clear hf f1;go_wp2_with(first|go_big_skip|refine zbx hS ?_;clear hS;intro b1 w hS|refine zlN hS ?_ (vs:=[.I z0,.string z1,.string z2,.I z3,.I z4,.I z5,.I z6,.string z7,.I z8]) (hc:=by exact a7.old (by exact b8) hall)|refine zal hS ?_;clear hS;intro b5 w hS|refine zsN hS ?_;clear hS;intro w hS|refine zlN hS ?_|refine zl1 hS ?_|go_at_call 72;refine(Ad7 Hv.out z0 HF.out W _ _ _ (by(focus((repeat(first|exact .head|apply Take.tail));done))) hS).mono ?_;clear hS;rintro e w ⟨rfl,hS⟩|go_at_call 73;refine(Aj7 (ver:=ver) (nxt:=nxt) Hv.out hl hi W _ _ (hS.s (Old V::blk b5 _ _::blk b1 _ _::R))).mono ?_;clear hS;rintro e w ⟨q,hq,rfl,hS⟩;(have Hq:=jH hq;clear hq)|go_at_call 74;refine(Ai7 Hv.out hl hi W _ _ (hS.s (Old V::blk b5 _ _::blk b1 _ _::R))).mono ?_;clear hS;rintro e w ⟨q,hq,rfl,hS⟩;(have Hq:=jH hq;clear hq));go_ret;exact⟨false,⟨fun h=>(by cases h),fun h=>absurd h Hno.out⟩,rfl,hS.s _⟩
  have g1:decide (1<=z6)=true:=decide_eq_true f1;by_cases f4:z6<=1048576
  case neg=>
   have g4:decide (z6<=1048576)=false:=decide_eq_false f4;have Hno:=jH (show ¬D from fun h=>f4 (hf.1 h).2.1);clear hf f1 f4;go_wp2_with(first|go_big_skip|refine zbx hS ?_;clear hS;intro b1 w hS|refine zlN hS ?_ (vs:=[.I z0,.string z1,.string z2,.I z3,.I z4,.I z5,.I z6,.string z7,.I z8]) (hc:=by exact a7.old (by exact b8) hall)|refine zal hS ?_;clear hS;intro b5 w hS|refine zsN hS ?_;clear hS;intro w hS|refine zlN hS ?_|refine zl1 hS ?_|go_at_call 72;refine(Ad7 Hv.out z0 HF.out W _ _ _ (by(focus((repeat(first|exact .head|apply Take.tail));done))) hS).mono ?_;clear hS;rintro e w ⟨rfl,hS⟩|go_at_call 73;refine(Aj7 (ver:=ver) (nxt:=nxt) Hv.out hl hi W _ _ (hS.s (Old V::blk b5 _ _::blk b1 _ _::R))).mono ?_;clear hS;rintro e w ⟨q,hq,rfl,hS⟩;(have Hq:=jH hq;clear hq)|go_at_call 74;refine(Ai7 Hv.out hl hi W _ _ (hS.s (Old V::blk b5 _ _::blk b1 _ _::R))).mono ?_;clear hS;rintro e w ⟨q,hq,rfl,hS⟩;(have Hq:=jH hq;clear hq));go_ret;exact⟨false,⟨fun h=>(by cases h),fun h=>absurd h Hno.out⟩,rfl,hS.s _⟩
  have g4:decide (z6<=1048576)=true:=decide_eq_true f4;by_cases f5:z6=z3
  ·have g5:(z6 != z3)=false:=by simpa using f5
   have Hno:=jH (show ¬D from fun h=>(hf.1 h).2.2.1 f5);clear hf f1 f4 f5;go_wp2_with(first|go_big_skip|refine zbx hS ?_;clear hS;intro b1 w hS|refine zlN hS ?_ (vs:=[.I z0,.string z1,.string z2,.I z3,.I z4,.I z5,.I z6,.string z7,.I z8]) (hc:=by exact a7.old (by exact b8) hall)|refine zal hS ?_;clear hS;intro b5 w hS|refine zsN hS ?_;clear hS;intro w hS|refine zlN hS ?_|refine zl1 hS ?_|go_at_call 72;refine(Ad7 Hv.out z0 HF.out W _ _ _ (by(focus((repeat(first|exact .head|apply Take.tail));done))) hS).mono ?_;clear hS;rintro e w ⟨rfl,hS⟩|go_at_call 73;refine(Aj7 (ver:=ver) (nxt:=nxt) Hv.out hl hi W _ _ (hS.s (Old V::blk b5 _ _::blk b1 _ _::R))).mono ?_;clear hS;rintro e w ⟨q,hq,rfl,hS⟩;(have Hq:=jH hq;clear hq)|go_at_call 74;refine(Ai7 Hv.out hl hi W _ _ (hS.s (Old V::blk b5 _ _::blk b1 _ _::R))).mono ?_;clear hS;rintro e w ⟨q,hq,rfl,hS⟩;(have Hq:=jH hq;clear hq));go_ret;exact⟨false,⟨fun h=>(by cases h),fun h=>absurd h Hno.out⟩,rfl,hS.s _⟩
  have g5:(z6 != z3)=true:=by simpa using f5
  by_cases f2:z7.size=0
  case neg=>
   have g2:z7.toList.isEmpty=false:=hk0 f2;have g2':(z7.toList==[])=false:=hk2 f2;have Hno:=jH (show ¬D from fun h=>f2 (hf.1 h).2.2.2.1);clear hf f1 f2 f4 f5 hk0 hk1 hk2 hk3;go_wp2_with(first|go_big_skip|refine zbx hS ?_;clear hS;intro b1 w hS|refine zlN hS ?_ (vs:=[.I z0,.string z1,.string z2,.I z3,.I z4,.I z5,.I z6,.string z7,.I z8]) (hc:=by exact a7.old (by exact b8) hall)|refine zal hS ?_;clear hS;intro b5 w hS|refine zsN hS ?_;clear hS;intro w hS|refine zlN hS ?_|refine zl1 hS ?_|go_at_call 72;refine(Ad7 Hv.out z0 HF.out W _ _ _ (by(focus((repeat(first|exact .head|apply Take.tail));done))) hS).mono ?_;clear hS;rintro e w ⟨rfl,hS⟩|go_at_call 73;refine(Aj7 (ver:=ver) (nxt:=nxt) Hv.out hl hi W _ _ (hS.s (Old V::blk b5 _ _::blk b1 _ _::R))).mono ?_;clear hS;rintro e w ⟨q,hq,rfl,hS⟩;(have Hq:=jH hq;clear hq)|go_at_call 74;refine(Ai7 Hv.out hl hi W _ _ (hS.s (Old V::blk b5 _ _::blk b1 _ _::R))).mono ?_;clear hS;rintro e w ⟨q,hq,rfl,hS⟩;(have Hq:=jH hq;clear hq));go_ret;exact⟨false,⟨fun h=>(by cases h),fun h=>absurd h Hno.out⟩,rfl,hS.s _⟩
  have g2:z7.toList.isEmpty=true:=hk1 f2;have g2':(z7.toList==[])=true:=hk3 f2;by_cases f3:z8=0
  case neg=>
   have g3:(z8==0)=false:=by simpa using f3
   have Hno:=jH (show ¬D from fun h=>f3 (hf.1 h).2.2.2.2);clear hf f1 f2 f3 f4 f5 hk0 hk1 hk2 hk3;go_wp2_with(first|go_big_skip|refine zbx hS ?_;clear hS;intro b1 w hS|refine zlN hS ?_ (vs:=[.I z0,.string z1,.string z2,.I z3,.I z4,.I z5,.I z6,.string z7,.I z8]) (hc:=by exact a7.old (by exact b8) hall)|refine zal hS ?_;clear hS;intro b5 w hS|refine zsN hS ?_;clear hS;intro w hS|refine zlN hS ?_|refine zl1 hS ?_|go_at_call 72;refine(Ad7 Hv.out z0 HF.out W _ _ _ (by(focus((repeat(first|exact .head|apply Take.tail));done))) hS).mono ?_;clear hS;rintro e w ⟨rfl,hS⟩|go_at_call 73;refine(Aj7 (ver:=ver) (nxt:=nxt) Hv.out hl hi W _ _ (hS.s (Old V::blk b5 _ _::blk b1 _ _::R))).mono ?_;clear hS;rintro e w ⟨q,hq,rfl,hS⟩;(have Hq:=jH hq;clear hq)|go_at_call 74;refine(Ai7 Hv.out hl hi W _ _ (hS.s (Old V::blk b5 _ _::blk b1 _ _::R))).mono ?_;clear hS;rintro e w ⟨q,hq,rfl,hS⟩;(have Hq:=jH hq;clear hq));go_ret;exact⟨false,⟨fun h=>(by cases h),fun h=>absurd h Hno.out⟩,rfl,hS.s _⟩
  have g3:(z8==0)=true:=by simpa using f3
  have Hye:=jH (hf.2 ⟨f1,f4,f5,f2,f3⟩);clear hf f1 f2 f3 f4 f5 hk0 hk1 hk2 hk3;go_wp2_with(first|go_big_skip|refine zbx hS ?_;clear hS;intro b1 w hS|refine zlN hS ?_ (vs:=[.I z0,.string z1,.string z2,.I z3,.I z4,.I z5,.I z6,.string z7,.I z8]) (hc:=by exact a7.old (by exact b8) hall)|refine zal hS ?_;clear hS;intro b5 w hS|refine zsN hS ?_;clear hS;intro w hS|refine zlN hS ?_|refine zl1 hS ?_|go_at_call 72;refine(Ad7 Hv.out z0 HF.out W _ _ _ (by(focus((repeat(first|exact .head|apply Take.tail));done))) hS).mono ?_;clear hS;rintro e w ⟨rfl,hS⟩|go_at_call 73;refine(Aj7 (ver:=ver) (nxt:=nxt) Hv.out hl hi W _ _ (hS.s (Old V::blk b5 _ _::blk b1 _ _::R))).mono ?_;clear hS;rintro e w ⟨q,hq,rfl,hS⟩;(have Hq:=jH hq;clear hq)|go_at_call 74;refine(Ai7 Hv.out hl hi W _ _ (hS.s (Old V::blk b5 _ _::blk b1 _ _::R))).mono ?_;clear hS;rintro e w ⟨q,hq,rfl,hS⟩;(have Hq:=jH hq;clear hq));go_ret;exact⟨true,⟨fun _=>Hye.out,fun _=>rfl⟩,rfl,hS.s _⟩
 have q3:(z5==3)=false:=by simpa using p3
 clear n7 n8;by_cases p1:z5=1
 ·have q1:(z5==1)=true:=by simpa using p1
  have hf:D↔S:=by
   rw[hd2];constructor
   ·rintro(h|h|h|h)
    ·omega
    ·exact h.2
    ·omega
    ·omega
   ·exact fun h=>.inr (.inl ⟨p1,h⟩)
  have Hf:=jH hf;clear hf hd2 p0 p1 p3;go_wp2_with(first|go_big_skip|refine zbx hS ?_;clear hS;intro b1 w hS|refine zlN hS ?_ (vs:=[.I z0,.string z1,.string z2,.I z3,.I z4,.I z5,.I z6,.string z7,.I z8]) (hc:=by exact a7.old (by exact b8) hall)|refine zal hS ?_;clear hS;intro b5 w hS|refine zsN hS ?_;clear hS;intro w hS|refine zlN hS ?_|refine zl1 hS ?_|go_at_call 72;refine(Ad7 Hv.out z0 HF.out W _ _ _ (by(focus((repeat(first|exact .head|apply Take.tail));done))) hS).mono ?_;clear hS;rintro e w ⟨rfl,hS⟩|go_at_call 73;refine(Aj7 (ver:=ver) (nxt:=nxt) Hv.out hl hi W _ _ (hS.s (Old V::blk b5 _ _::blk b1 _ _::R))).mono ?_;clear hS;rintro e w ⟨q,hq,rfl,hS⟩;(have Hq:=jH hq;clear hq)|go_at_call 74;refine(Ai7 Hv.out hl hi W _ _ (hS.s (Old V::blk b5 _ _::blk b1 _ _::R))).mono ?_;clear hS;rintro e w ⟨q,hq,rfl,hS⟩;(have Hq:=jH hq;clear hq));go_ret;exact⟨q,by rw[Hf.out,HSp.out];exact Hq.out,rfl,hS.s _⟩
 have q1:(z5==1)=false:=by simpa using p1
 by_cases p2:z5=2
 ·have q2:(z5==2)=true:=by simpa using p2
  have hf:D↔M:=by
   rw[hd2];constructor
   ·rintro(h|h|h|h)
    ·omega
    ·omega
    ·exact h.2
    ·omega
   ·exact fun h=>.inr (.inr (.inl ⟨p2,h⟩))
  have Hf:=jH hf;clear hf hd2 p0 p1 p2 p3;go_wp2_with(first|go_big_skip|refine zbx hS ?_;clear hS;intro b1 w hS|refine zlN hS ?_ (vs:=[.I z0,.string z1,.string z2,.I z3,.I z4,.I z5,.I z6,.string z7,.I z8]) (hc:=by exact a7.old (by exact b8) hall)|refine zal hS ?_;clear hS;intro b5 w hS|refine zsN hS ?_;clear hS;intro w hS|refine zlN hS ?_|refine zl1 hS ?_|go_at_call 72;refine(Ad7 Hv.out z0 HF.out W _ _ _ (by(focus((repeat(first|exact .head|apply Take.tail));done))) hS).mono ?_;clear hS;rintro e w ⟨rfl,hS⟩|go_at_call 73;refine(Aj7 (ver:=ver) (nxt:=nxt) Hv.out hl hi W _ _ (hS.s (Old V::blk b5 _ _::blk b1 _ _::R))).mono ?_;clear hS;rintro e w ⟨q,hq,rfl,hS⟩;(have Hq:=jH hq;clear hq)|go_at_call 74;refine(Ai7 Hv.out hl hi W _ _ (hS.s (Old V::blk b5 _ _::blk b1 _ _::R))).mono ?_;clear hS;rintro e w ⟨q,hq,rfl,hS⟩;(have Hq:=jH hq;clear hq));go_ret;exact⟨q,by rw[Hf.out,HM.out];exact Hq.out,rfl,hS.s _⟩
 have q2:(z5==2)=false:=by simpa using p2
 have Hno:=jH (show ¬D from fun h=>by
  rcases hd2.1 h with h|h|h|h
  ·exact p0 h.1
  ·exact p1 h.1
  ·exact p2 h.1
  ·exact p3 h.1)
 clear hd2 p0 p1 p2 p3;go_wp2_with(first|go_big_skip|refine zbx hS ?_;clear hS;intro b1 w hS|refine zlN hS ?_ (vs:=[.I z0,.string z1,.string z2,.I z3,.I z4,.I z5,.I z6,.string z7,.I z8]) (hc:=by exact a7.old (by exact b8) hall)|refine zal hS ?_;clear hS;intro b5 w hS|refine zsN hS ?_;clear hS;intro w hS|refine zlN hS ?_|refine zl1 hS ?_|go_at_call 72;refine(Ad7 Hv.out z0 HF.out W _ _ _ (by(focus((repeat(first|exact .head|apply Take.tail));done))) hS).mono ?_;clear hS;rintro e w ⟨rfl,hS⟩|go_at_call 73;refine(Aj7 (ver:=ver) (nxt:=nxt) Hv.out hl hi W _ _ (hS.s (Old V::blk b5 _ _::blk b1 _ _::R))).mono ?_;clear hS;rintro e w ⟨q,hq,rfl,hS⟩;(have Hq:=jH hq;clear hq)|go_at_call 74;refine(Ai7 Hv.out hl hi W _ _ (hS.s (Old V::blk b5 _ _::blk b1 _ _::R))).mono ?_;clear hS;rintro e w ⟨q,hq,rfl,hS⟩;(have Hq:=jH hq;clear hq));go_ret;exact⟨false,⟨fun h=>(by cases h),fun h=>absurd h Hno.out⟩,rfl,hS.s _⟩
def AxR(W:World)(R:List HP)(zs:List Zo)(r:Bool)(v3 v4:Value)(w:World):Prop:=
 ∃(i:Nat) (a:ByteArray),v3=.string a/\v4=.I i/\i<=zs.length/\C8 (zs.drop i) a (decide (i=0))=r/\St W R w
theorem Io7(a:ByteArray):a.toList.isEmpty=p8 a/\(a.toList==[])=p8 a:=by have h:=Ax7 a;exact⟨by rw[<-h];cases a.toList <;> rfl,h⟩
theorem Ip7{zs:List Zo}{v:Value}{r:Bool}(hr:C8 zs ⟨#[]⟩ true=r)(hl:zs.length<=60)(W w:World)(R:List HP)(hS:St W (row v 2 53 zs.length (zs.flatMap spC)::R) w):
  Calls Tryz.prog 48 #[v] w fun e w'=>e=.returned (.bool r)/\St W R w':=by
 obtain⟨va,vc,rfl⟩:=hS.rowVal;go_enter Tryz.func48,Tryz.ntmps48;go_wp2_with(first|go_big_skip)
 go_loopw [3,4] (fun v3 v4 wr=>AxR W (row (.slice va zs.length vc) 2 53 zs.length (zs.flatMap spC)::R) zs r v3 v4 wr) (fun _ v4 _=>zs.length-(intOf v4).toNat)
 case atStart=>exact⟨0,⟨#[]⟩,rfl,rfl,Nat.zero_le _,hr,hS⟩
 case round=>
  clear hS;obtain⟨i,a,rfl,rfl,hi,hF,hS⟩:=hrel;obtain⟨m1,m2⟩:=Io7 a;by_cases hil:i<zs.length
  case neg=>
   have d1:decide (i<zs.length)=false:=decide_eq_false hil;have hie:i=zs.length:=by omega
   rw[hie,List.drop_length,C8]at hF;by_cases h0:zs.length=0
   ·have d2:decide (0<zs.length)=false:=decide_eq_false (by omega);have E1:=jH (show false=r by rw[<-hF];simp[h0]);clear hF h0 hie hi m1 m2;go_wp2_with(first|go_big_skip);go_ret;exact⟨by rw[<-E1.out];first|done|rfl,hS.drop⟩
   ·have d2:decide (0<zs.length)=true:=decide_eq_true (by omega);have E1:=jH (show p8 a=r by rw[<-hF];simp[h0]);clear hF h0 hie hi
    cases hn:p8 a with
    | true=>
     rw[hn]at m1 m2 E1;go_wp2_with(first|go_big_skip);go_ret;exact⟨by rw[<-E1.out];first|done|rfl,hS.drop⟩
    | false=>
     rw[hn]at m1 m2 E1;go_wp2_with(first|go_big_skip);go_ret;exact⟨by rw[<-E1.out];first|done|rfl,hS.drop⟩
  have d1:decide (i<zs.length)=true:=decide_eq_true hil;obtain⟨⟨g,rfl⟩,_,_⟩:=St.rowAddr hS (by omega);have hcell:∀{K K':List HP},Take K (row (.S g zs.length vc) 2 53 zs.length (zs.flatMap spC)) K'->a7 K g (i*2) (spC zs[i]):=fun hu=>a7.elemM (enc:=spC) GU7 hu hil
  rw[List.drop_eq_getElem_cons hil,C8]at hF;have hz0:decide (i+1=0)=false:=decide_eq_false (by omega);generalize zs[i]=z at hcell hF;obtain⟨z0,sf,st,z3,z4,z5,z6,z7,z8⟩:=z;simp only[spC]at hcell hF;clear hi
  cases hsp:spB sf st with
  | false=>
   rw[hsp]at hF;have E1:=jH (show false=r from hF);have Hsp:=jH ((Fm7 sf st).trans hsp);clear hF hsp m1 m2 hz0;go_wp2_with(first|go_big_skip|refine zlN hS ?_ (vs:=[.string sf,.string st]) (hc:=by exact hcell (by exact d7))|refine zl1 hS ?_ (v:=.string sf) (hc:=by exact fun W w hS=>hcell (by exact d7) 0 _ rfl W w hS)|refine zl1 hS ?_ (v:=.string st) (hc:=by exact fun W w hS=>hcell (by exact d7) 1 _ rfl W w hS)|go_at_call 75;refine(AP7 Hsp.out W _ _ hS).mono ?_;clear hS;rintro e w ⟨rfl,hS⟩);go_ret;exact⟨by rw[<-E1.out];first|done|rfl,hS.s _⟩
  | true=>
   rw[hsp]at hF;have Hsp:=jH ((Fm7 sf st).trans hsp);clear hsp;by_cases hsa:sf=a
   case neg=>
    have n1:(sf.toList != a.toList)=true:=by rw[Lib.toList_data,Lib.toList_data];simp only[bne_iff_ne,ne_eq];exact fun h=>hsa (AU7 h)
    have n2:(sf.toList==a.toList)=false:=by simpa[bne]using n1
    rw[decide_eq_false hsa]at hF;have E1:=jH (show false=r from hF);clear hF m1 m2 hz0 hsa;go_wp2_with(first|go_big_skip|refine zlN hS ?_ (vs:=[.string sf,.string st]) (hc:=by exact hcell (by exact d7))|refine zl1 hS ?_ (v:=.string sf) (hc:=by exact fun W w hS=>hcell (by exact d7) 0 _ rfl W w hS)|refine zl1 hS ?_ (v:=.string st) (hc:=by exact fun W w hS=>hcell (by exact d7) 1 _ rfl W w hS)|go_at_call 75;refine(AP7 Hsp.out W _ _ hS).mono ?_;clear hS;rintro e w ⟨rfl,hS⟩);go_ret;exact⟨by rw[<-E1.out];first|done|rfl,hS.s _⟩
   have n1:(sf.toList != a.toList)=false:=by rw[hsa];simp
   have n2:(sf.toList==a.toList)=true:=by rw[hsa];simp
   rw[decide_eq_true hsa]at hF;clear hsa;by_cases h0:i=0
   ·have d3:decide (0<i)=false:=decide_eq_false (by omega);rw[decide_eq_true h0]at hF;have Hnx:=jH (show C8 (zs.drop (i+1)) st (decide (i+1=0))=r by rw[hz0];exact hF);clear hF h0 hz0 m1 m2;go_wp2_with(first|go_big_skip|refine zlN hS ?_ (vs:=[.string sf,.string st]) (hc:=by exact hcell (by exact d7))|refine zl1 hS ?_ (v:=.string sf) (hc:=by exact fun W w hS=>hcell (by exact d7) 0 _ rfl W w hS)|refine zl1 hS ?_ (v:=.string st) (hc:=by exact fun W w hS=>hcell (by exact d7) 1 _ rfl W w hS)|go_at_call 75;refine(AP7 Hsp.out W _ _ hS).mono ?_;clear hS;rintro e w ⟨rfl,hS⟩);go_roundw
    case rel=>exact⟨i+1,st,rfl,rfl,hil,Hnx.out,hS⟩
    case measure=>simp[intOf];omega
   have d3:decide (0<i)=true:=decide_eq_true (by omega);rw[decide_eq_false h0]at hF
   cases hn:p8 a with
   | true=>
    rw[hn]at m1 m2 hF;have E1:=jH (show false=r from hF);clear hF h0 hz0 hn;go_wp2_with(first|go_big_skip|refine zlN hS ?_ (vs:=[.string sf,.string st]) (hc:=by exact hcell (by exact d7))|refine zl1 hS ?_ (v:=.string sf) (hc:=by exact fun W w hS=>hcell (by exact d7) 0 _ rfl W w hS)|refine zl1 hS ?_ (v:=.string st) (hc:=by exact fun W w hS=>hcell (by exact d7) 1 _ rfl W w hS)|go_at_call 75;refine(AP7 Hsp.out W _ _ hS).mono ?_;clear hS;rintro e w ⟨rfl,hS⟩);go_ret;exact⟨by rw[<-E1.out];first|done|rfl,hS.s _⟩
   | false=>
    rw[hn]at m1 m2 hF;have Hnx:=jH (show C8 (zs.drop (i+1)) st (decide (i+1=0))=r by rw[hz0];exact hF);clear hF h0 hz0 hn;go_wp2_with(first|go_big_skip|refine zlN hS ?_ (vs:=[.string sf,.string st]) (hc:=by exact hcell (by exact d7))|refine zl1 hS ?_ (v:=.string sf) (hc:=by exact fun W w hS=>hcell (by exact d7) 0 _ rfl W w hS)|refine zl1 hS ?_ (v:=.string st) (hc:=by exact fun W w hS=>hcell (by exact d7) 1 _ rfl W w hS)|go_at_call 75;refine(AP7 Hsp.out W _ _ hS).mono ?_;clear hS;rintro e w ⟨rfl,hS⟩);go_roundw
    case rel=>exact⟨i+1,st,rfl,rfl,hil,Hnx.out,hS⟩
    case measure=>simp[intOf];omega
end Go.Proofs.YtjcfifkjbaffnaaGreat
end
