/-
  What the planner splits.
-/
import Derived.Test.YtjcfifkjbaffnaaGreatPkQM5
import Derived.Test.YtjcfifkjbaffnaaGreatPkQM16
set_option maxHeartbeats 16000000
set_option maxRecDepth 100000
set_option linter.unusedSimpArgs false
set_option linter.unusedVariables false
section
namespace Go.Proofs.YtjcfifkjbaffnaaGreat
open Go.RowKit Go.Sl
theorem Fp7(l:List Ro)(hot:Int)(s:Pn×Int)(z:Zo):(G7 l hot s z).1.out.length<=s.1.out.length+1/\(-100<=s.2/\s.2<=100 -> -100<=(G7 l hot s z).2/\(G7 l hot s z).2<=100):=by
 unfold G7;split
 ·rename_i h
  unfold az4 at h;simp only[jB,decide_eq_true_eq]at h;refine⟨by simp,fun h2=>?_⟩;show -100<=s.2-1/\s.2-1<=100
  omega
 ·exact⟨by omega,fun h=>h⟩
def SpR(W:World)(E:Pe)(rl:List (Int×Ro))(l:List Ro)(R:List HP)(zs Z:List Zo)(s0:Pn×Int)(v3 v26:Value)(w:World):Prop:=
 ∃(i:Nat) (s:Pn×Int),v26=.I i/\v3=.I s.2/\i<=zs.length/\p9 l E.hot (Z.take i) s0=s /\ -100<=s.2/\s.2<=100/\s.1.out.length<=100+i/\St W (plP E rl s.1::R) w
theorem Hf7{E:Pe}{rl:List (Int×Ro)}{s:Pn}{zs:List Zo}{V:World}{l:List Ro}(hv:d6 Zo.cells 9 V E.zv zs)(hid:∀z∈zs,1<=z.id/\z.id<=1099511627776)(hnd:(zs.map (·.id)).Nodup)(h0:1<=zs.length)(hl:zs.length<=16)(hrl:∀n,(m6 rl n).getD ro0=C5 l n)(ho:s.out.length<=100)(W w:World)(R:List HP)(hS:St W (plP E rl s::Old V::R) w):
  Calls Tryz.prog 17 #[.pointer (some ⟨E.pb,0,none⟩)] w fun e w'=>e=.returned (.tuple #[])/\∃Z:List Zo,Z.Perm zs/\I5 Z/\St W (plP E rl (p9 l E.hot Z (s,16-zs.length-i7 zs 1)).1::Old V::R) w':=by
 have Hv:=jH hv;have Hid2:=jH hid;have Hnd:=jH hnd;have Hrl:=jH hrl;have hpn:i7 zs 1<=16:=Nat.le_trans (Bb7 _ _) hl;clear hv hid hnd hrl;go_enter Tryz.func17,Tryz.ntmps17;go_wp2_with(first|go_big_skip|refine zl1 hS ?_ (hc:=by(focus((repeat(first|exact M8|exact ae4|exact af4|apply a8.there));done)))|go_at_call 38;refine(GZ7 Hv.out (by omega) (by omega) W _ _ (hS.s (Old V::plP E rl s::R))).mono ?_;clear hS;rintro e w ⟨u,rfl,hS⟩;(have hv:=hS.rowVal;obtain⟨ua,uc,rfl⟩:=hv)|go_at_call 39;refine(Ii7 Hid2.out (by omega) (by omega) _ W _ _ hS).mono ?_;clear hS;rintro e w ⟨rfl,Z,hZp,hZs,hS⟩;have HZp:=jH hZp;have HZs:=jH hZs;clear hZp hZs);have hlz:=HZp.out.length_eq
 obtain⟨g,rfl⟩:∃g,ua=some ⟨g,0,none⟩:=by
  have h1:St W (row (.slice ua Z.length uc) 9 55 Z.length (Z.flatMap Zo.cells)::Old V::plP E rl s::R) w:=by rw[<-hlz]at hS;exact hS
  exact(St.rowAddr h1 (by omega)).1
 have hasc:I5 Z:=by
  refine List.pairwise_iff_getElem.2 fun i j hi hj hij=>?_
  have h1:=List.pairwise_iff_getElem.1 HZs.out i j hi hj hij;have h2:(Z.map (·.id)).Nodup:=(HZp.out.map _).nodup_iff.2 Hnd.out;have h3:=List.pairwise_iff_getElem.1 h2 i j (by rw[jM];exact hi) (by rw[jM];exact hj) hij;simp only[List.getElem_map]at h3;omega
 have Hasc:=jH hasc;have Hlz:=jH hlz;clear hasc hlz;go_wp2_with(first|go_big_skip|go_at_call 41;refine(Db7 Hv.out (by omega) 1 W _ _ (hS.s (plP E rl s::Old V::zoR _ Z::R))).mono ?_;clear hS;rintro e w ⟨rfl,hS⟩);have hS1:=hS.s (plP E rl s::zoR (.S g zs.length uc) Z::Old V::R);clear hS
 go_loopw [3,26] (fun v3 v26 wr=>SpR W E rl l (zoR (.S g zs.length uc) Z::Old V::R) zs Z (s,16-zs.length-i7 zs 1) v3 v26 wr) (fun _ v26 _=>zs.length-(intOf v26).toNat)
 case atStart=>exact⟨0,(s,16-zs.length-i7 zs 1),rfl,rfl,Nat.zero_le _,rfl,by show(-100:Int)<=16-zs.length-i7 zs 1;omega,by show 16-(zs.length:Int)-i7 zs 1<=100;omega,by show s.out.length<=_;omega,hS1⟩
 case round=>
  clear hS1;obtain⟨i,q,rfl,rfl,hi,hst,r1,r2,hob,hS⟩:=hrel;by_cases hil:i<zs.length
  ·have d1:decide (i<zs.length)=true:=decide_eq_true hil;have hilZ:i<Z.length:=by rw[Hlz.out];exact hil
   have hnx:=Gt7 l E.hot hilZ (s,16-zs.length-i7 zs 1);rw[hst]at hnx
   have hcx:∀{K K':List HP},Take K (zoR (.S g zs.length uc) Z) K'->a7 K g (i*9) (Zo.cells Z[i]):=fun{K K'} hu=>by
    have h1:Take K (row (.S g Z.length uc) 9 55 Z.length (Z.flatMap Zo.cells)) K':=by rw[<-Hlz.out]at hu;exact hu
    exact a7.elemM (enc:=Zo.cells) Zo.len h1 hilZ
   have hfo:=Fp7 l E.hot q Z[i];generalize Z[i]=z at hnx hcx hfo;obtain⟨z0,z1,z2,z3,z4,z5,z6,z7,z8⟩:=z;simp only[Zo.cells]at hcx;obtain⟨p,room⟩:=q;simp only at r1 r2 hob hS hnx hfo;have hq:=Hrl.out z0;have hqq:F9 false (.agg #[.I 0,.I 0,.string ⟨#[]⟩]) ((m6 rl z0).map kRo)=kRo ((m6 rl z0).getD ro0):=by cases m6 rl z0 <;> rfl
   rw[hq]at hqq;obtain⟨x,hx⟩:∃x,C5 l z0=x:=⟨_,rfl⟩
   have hh:i9 l ⟨z0,z1,z2,z3,z4,z5,z6,z7,z8⟩=x.hits:=by unfold i9;rw[hx]
   have hhr:=AA7 l ⟨z0,z1,z2,z3,z4,z5,z6,z7,z8⟩;have hsc:az4 l E.hot (p,room) ⟨z0,z1,z2,z3,z4,z5,z6,z7,z8⟩=(decide (0<room)&&(B5 z1 z2 x.mid&&(s7 p ⟨z0,z1,z2,z3,z4,z5,z6,z7,z8⟩&&decide (E.hot<x.hits)))):=by unfold az4;rw[hh];simp only;rw[hx]
   have hsf:G7 l E.hot (p,room) ⟨z0,z1,z2,z3,z4,z5,z6,z7,z8⟩=if az4 l E.hot (p,room) ⟨z0,z1,z2,z3,z4,z5,z6,z7,z8⟩=true then(⟨z0::p.nm,p.mv,p.out++[⟨1,z0,0,0,x.mid⟩]⟩,room-1)else(p,room):=by unfold G7;simp only;rw[hx]
   rw[hx]at hqq;rw[hh]at hhr;rw[hsf,hsc]at hnx;obtain⟨x0,x1,x2⟩:=x;simp only at hh hhr hnx hqq;have Hq:=jH hqq;have Hh:=jH hh;have Hst:=jH hst;obtain⟨h1,h2⟩:=hhr;clear hq hqq hh hsc hsf hx hst hi hfo;by_cases c1:0<room
   case neg=>
    have e1:decide (0<room)=false:=decide_eq_false c1;rw[e1]at hnx;have Hno:=jH (show p9 l E.hot (Z.take (i+1)) (s,16-zs.length-i7 zs 1)=(p,room)from hnx);obtain⟨c,hc⟩:∃c,B5 z1 z2 x2=c:=⟨_,rfl⟩
    have Hc:=jH hc;clear hnx hc c1;go_wp2_with(first|go_big_skip|refine zlN hS ?_ (vs:=[.I z0,.string z1,.string z2,.I z3,.I z4,.I z5,.I z6,.string z7,.I z8]) (hc:=by exact hcx (by exact d7))|(fail_if_success (have:=mA5));(refine zal hS ?_;clear hS;have mA5:Nat:=0;intro b5 w hS)|refine zsN hS ?_;clear hS;intro w hS);refine Aa7 (by kernel_rfl) (by kernel_rfl) hS ?_
    repeat(first|go_big_quiet_skip|refine zq1 ?_|refine zq1 ?_ (hc:=by(focus((repeat(first|exact M8|exact ae4|exact af4|apply a8.there));done)))|refine zqn ?_|(apply Av7 (ek:=kI) (ev:=kRo) (k:=z0) (v:=.agg #[.I x0,.I x1,.string x2]));rfl;rfl;rfl;rfl;exact ah4 (by(focus((repeat(first|exact .head|apply Take.tail));done)));exact tIR;exact mI;exact zR0;exact Hq.out;refine frS ?_|(apply AQ7);rfl;rfl;rfl;exact aW4 _ _ _;refine frS ?_|refine qR ?_)
    clear hS;intro w hS;go_wp2_with(first|go_big_skip|refine zlN hS ?_ (vs:=[.string z1,.string z2]) (hc:=by first|exact a7.here rfl|exact a7.there (a7.here rfl))|go_at_call 42;refine(Bj7 Hc.out W _ _ hS).mono ?_;clear hS;rintro e w ⟨f1,t1,f2,t2,rfl,hS⟩|(have:=mA5);(fail_if_success (have:=mA6));(refine zal hS ?_;clear hS;have mA6:Nat:=0;intro bA w hS)|(have:=mA6);refine zal hS ?_;clear hS;intro bB w hS|refine zsN hS ?_;clear hS;intro w hS);refine Aa7 (by kernel_rfl) (by kernel_rfl) hS ?_
    repeat(first|go_big_quiet_skip|refine zqN ?_|apply Ac7;rfl;intro w;apply Ab7;rfl;decide +kernel;(focus(simp only[fD,fI,fJ,Act.eval,fE,fF,fG,fH,fK];try rfl));intro w hS;exact As7 Hf.out (by(focus((repeat(first|exact .head|apply Take.tail));done))) hS;refine frS ?_|apply Ac7;rfl;intro w;apply Ab7;rfl;decide +kernel;(focus(simp only[fD,fI,fJ,Act.eval,fE,fF,fG,fH,fK];try rfl));intro w hS;exact Ah7 Hrl.out Hh.out (by(focus((repeat(first|exact .head|apply Take.tail));done))) hS;refine frS ?_|refine zq1 ?_ (hc:=by(focus((repeat(first|exact M8|exact ae4|exact af4|apply a8.there));done)))|refine zqn ?_|refine qR ?_)
    clear hS;intro w hS;go_wp2_with(first|go_big_skip);go_roundw
    case rel=>exact⟨i+1,(p,room),rfl,rfl,hil,Hno.out,r1,r2,by show p.out.length<=_;omega,hS.s _⟩
    case measure=>simp[intOf];omega
   have e1:decide (0<room)=true:=decide_eq_true c1;rw[e1]at hnx
   cases hc:B5 z1 z2 x2 with
   | false=>
    rw[hc]at hnx;have Hno:=jH (show p9 l E.hot (Z.take (i+1)) (s,16-zs.length-i7 zs 1)=(p,room)from hnx);have Hc:=jH hc;clear hnx hc c1;go_wp2_with(first|go_big_skip|refine zlN hS ?_ (vs:=[.I z0,.string z1,.string z2,.I z3,.I z4,.I z5,.I z6,.string z7,.I z8]) (hc:=by exact hcx (by exact d7))|(fail_if_success (have:=mA5));(refine zal hS ?_;clear hS;have mA5:Nat:=0;intro b5 w hS)|refine zsN hS ?_;clear hS;intro w hS);refine Aa7 (by kernel_rfl) (by kernel_rfl) hS ?_
    repeat(first|go_big_quiet_skip|refine zq1 ?_|refine zq1 ?_ (hc:=by(focus((repeat(first|exact M8|exact ae4|exact af4|apply a8.there));done)))|refine zqn ?_|(apply Av7 (ek:=kI) (ev:=kRo) (k:=z0) (v:=.agg #[.I x0,.I x1,.string x2]));rfl;rfl;rfl;rfl;exact ah4 (by(focus((repeat(first|exact .head|apply Take.tail));done)));exact tIR;exact mI;exact zR0;exact Hq.out;refine frS ?_|(apply AQ7);rfl;rfl;rfl;exact aW4 _ _ _;refine frS ?_|refine qR ?_)
    clear hS;intro w hS;go_wp2_with(first|go_big_skip|refine zlN hS ?_ (vs:=[.string z1,.string z2]) (hc:=by first|exact a7.here rfl|exact a7.there (a7.here rfl))|go_at_call 42;refine(Bj7 Hc.out W _ _ hS).mono ?_;clear hS;rintro e w ⟨f1,t1,f2,t2,rfl,hS⟩|(have:=mA5);(fail_if_success (have:=mA6));(refine zal hS ?_;clear hS;have mA6:Nat:=0;intro bA w hS)|(have:=mA6);refine zal hS ?_;clear hS;intro bB w hS|refine zsN hS ?_;clear hS;intro w hS);refine Aa7 (by kernel_rfl) (by kernel_rfl) hS ?_
    repeat(first|go_big_quiet_skip|refine zqN ?_|apply Ac7;rfl;intro w;apply Ab7;rfl;decide +kernel;(focus(simp only[fD,fI,fJ,Act.eval,fE,fF,fG,fH,fK];try rfl));intro w hS;exact As7 Hf.out (by(focus((repeat(first|exact .head|apply Take.tail));done))) hS;refine frS ?_|apply Ac7;rfl;intro w;apply Ab7;rfl;decide +kernel;(focus(simp only[fD,fI,fJ,Act.eval,fE,fF,fG,fH,fK];try rfl));intro w hS;exact Ah7 Hrl.out Hh.out (by(focus((repeat(first|exact .head|apply Take.tail));done))) hS;refine frS ?_|refine zq1 ?_ (hc:=by(focus((repeat(first|exact M8|exact ae4|exact af4|apply a8.there));done)))|refine zqn ?_|refine qR ?_)
    clear hS;intro w hS;go_wp2_with(first|go_big_skip);go_roundw
    case rel=>exact⟨i+1,(p,room),rfl,rfl,hil,Hno.out,r1,r2,by show p.out.length<=_;omega,hS.s _⟩
    case measure=>simp[intOf];omega
   | true=>
    rw[hc]at hnx;have Hc:=jH hc;clear hc
    cases hf:s7 p ⟨z0,z1,z2,z3,z4,z5,z6,z7,z8⟩with
    | false=>
     rw[hf]at hnx;have Hno:=jH (show p9 l E.hot (Z.take (i+1)) (s,16-zs.length-i7 zs 1)=(p,room)from hnx);have Hf:=jH hf;clear hnx hf c1;go_wp2_with(first|go_big_skip|refine zlN hS ?_ (vs:=[.I z0,.string z1,.string z2,.I z3,.I z4,.I z5,.I z6,.string z7,.I z8]) (hc:=by exact hcx (by exact d7))|(fail_if_success (have:=mA5));(refine zal hS ?_;clear hS;have mA5:Nat:=0;intro b5 w hS)|refine zsN hS ?_;clear hS;intro w hS);refine Aa7 (by kernel_rfl) (by kernel_rfl) hS ?_
     repeat(first|go_big_quiet_skip|refine zq1 ?_|refine zq1 ?_ (hc:=by(focus((repeat(first|exact M8|exact ae4|exact af4|apply a8.there));done)))|refine zqn ?_|(apply Av7 (ek:=kI) (ev:=kRo) (k:=z0) (v:=.agg #[.I x0,.I x1,.string x2]));rfl;rfl;rfl;rfl;exact ah4 (by(focus((repeat(first|exact .head|apply Take.tail));done)));exact tIR;exact mI;exact zR0;exact Hq.out;refine frS ?_|(apply AQ7);rfl;rfl;rfl;exact aW4 _ _ _;refine frS ?_|refine qR ?_)
     clear hS;intro w hS;go_wp2_with(first|go_big_skip|refine zlN hS ?_ (vs:=[.string z1,.string z2]) (hc:=by first|exact a7.here rfl|exact a7.there (a7.here rfl))|go_at_call 42;refine(Bj7 Hc.out W _ _ hS).mono ?_;clear hS;rintro e w ⟨f1,t1,f2,t2,rfl,hS⟩|(have:=mA5);(fail_if_success (have:=mA6));(refine zal hS ?_;clear hS;have mA6:Nat:=0;intro bA w hS)|(have:=mA6);refine zal hS ?_;clear hS;intro bB w hS|refine zsN hS ?_;clear hS;intro w hS);refine Aa7 (by kernel_rfl) (by kernel_rfl) hS ?_
     repeat(first|go_big_quiet_skip|refine zqN ?_|apply Ac7;rfl;intro w;apply Ab7;rfl;decide +kernel;(focus(simp only[fD,fI,fJ,Act.eval,fE,fF,fG,fH,fK];try rfl));intro w hS;exact As7 Hf.out (by(focus((repeat(first|exact .head|apply Take.tail));done))) hS;refine frS ?_|apply Ac7;rfl;intro w;apply Ab7;rfl;decide +kernel;(focus(simp only[fD,fI,fJ,Act.eval,fE,fF,fG,fH,fK];try rfl));intro w hS;exact Ah7 Hrl.out Hh.out (by(focus((repeat(first|exact .head|apply Take.tail));done))) hS;refine frS ?_|refine zq1 ?_ (hc:=by(focus((repeat(first|exact M8|exact ae4|exact af4|apply a8.there));done)))|refine zqn ?_|refine qR ?_)
     clear hS;intro w hS;go_wp2_with(first|go_big_skip);go_roundw
     case rel=>exact⟨i+1,(p,room),rfl,rfl,hil,Hno.out,r1,r2,by show p.out.length<=_;omega,hS.s _⟩
     case measure=>simp[intOf];omega
    | true=>
     rw[hf]at hnx;have Hf:=jH hf;clear hf;by_cases c4:E.hot<x1
     case neg=>
      have e4:decide (E.hot<x1)=false:=decide_eq_false c4;rw[e4]at hnx;have Hno:=jH (show p9 l E.hot (Z.take (i+1)) (s,16-zs.length-i7 zs 1)=(p,room)from hnx);clear hnx c1 c4;go_wp2_with(first|go_big_skip|refine zlN hS ?_ (vs:=[.I z0,.string z1,.string z2,.I z3,.I z4,.I z5,.I z6,.string z7,.I z8]) (hc:=by exact hcx (by exact d7))|(fail_if_success (have:=mA5));(refine zal hS ?_;clear hS;have mA5:Nat:=0;intro b5 w hS)|refine zsN hS ?_;clear hS;intro w hS);refine Aa7 (by kernel_rfl) (by kernel_rfl) hS ?_
      repeat(first|go_big_quiet_skip|refine zq1 ?_|refine zq1 ?_ (hc:=by(focus((repeat(first|exact M8|exact ae4|exact af4|apply a8.there));done)))|refine zqn ?_|(apply Av7 (ek:=kI) (ev:=kRo) (k:=z0) (v:=.agg #[.I x0,.I x1,.string x2]));rfl;rfl;rfl;rfl;exact ah4 (by(focus((repeat(first|exact .head|apply Take.tail));done)));exact tIR;exact mI;exact zR0;exact Hq.out;refine frS ?_|(apply AQ7);rfl;rfl;rfl;exact aW4 _ _ _;refine frS ?_|refine qR ?_)
      clear hS;intro w hS;go_wp2_with(first|go_big_skip|refine zlN hS ?_ (vs:=[.string z1,.string z2]) (hc:=by first|exact a7.here rfl|exact a7.there (a7.here rfl))|go_at_call 42;refine(Bj7 Hc.out W _ _ hS).mono ?_;clear hS;rintro e w ⟨f1,t1,f2,t2,rfl,hS⟩|(have:=mA5);(fail_if_success (have:=mA6));(refine zal hS ?_;clear hS;have mA6:Nat:=0;intro bA w hS)|(have:=mA6);refine zal hS ?_;clear hS;intro bB w hS|refine zsN hS ?_;clear hS;intro w hS);refine Aa7 (by kernel_rfl) (by kernel_rfl) hS ?_
      repeat(first|go_big_quiet_skip|refine zqN ?_|apply Ac7;rfl;intro w;apply Ab7;rfl;decide +kernel;(focus(simp only[fD,fI,fJ,Act.eval,fE,fF,fG,fH,fK];try rfl));intro w hS;exact As7 Hf.out (by(focus((repeat(first|exact .head|apply Take.tail));done))) hS;refine frS ?_|apply Ac7;rfl;intro w;apply Ab7;rfl;decide +kernel;(focus(simp only[fD,fI,fJ,Act.eval,fE,fF,fG,fH,fK];try rfl));intro w hS;exact Ah7 Hrl.out Hh.out (by(focus((repeat(first|exact .head|apply Take.tail));done))) hS;refine frS ?_|refine zq1 ?_ (hc:=by(focus((repeat(first|exact M8|exact ae4|exact af4|apply a8.there));done)))|refine zqn ?_|refine qR ?_)
      clear hS;intro w hS;go_wp2_with(first|go_big_skip);go_roundw
      case rel=>exact⟨i+1,(p,room),rfl,rfl,hil,Hno.out,r1,r2,by show p.out.length<=_;omega,hS.s _⟩
      case measure=>simp[intOf];omega
     have e4:decide (E.hot<x1)=true:=decide_eq_true c4;rw[e4]at hnx;have Hyes:=jH (show p9 l E.hot (Z.take (i+1)) (s,16-zs.length-i7 zs 1)=(⟨z0::p.nm,p.mv,p.out++[⟨1,z0,0,0,x2⟩]⟩,room-1)from hnx);clear hnx c4;go_wp2_with(first|go_big_skip|refine zlN hS ?_ (vs:=[.I z0,.string z1,.string z2,.I z3,.I z4,.I z5,.I z6,.string z7,.I z8]) (hc:=by exact hcx (by exact d7))|(fail_if_success (have:=mA5));(refine zal hS ?_;clear hS;have mA5:Nat:=0;intro b5 w hS)|refine zsN hS ?_;clear hS;intro w hS);refine Aa7 (by kernel_rfl) (by kernel_rfl) hS ?_
     repeat(first|go_big_quiet_skip|refine zq1 ?_|refine zq1 ?_ (hc:=by(focus((repeat(first|exact M8|exact ae4|exact af4|apply a8.there));done)))|refine zqn ?_|(apply Av7 (ek:=kI) (ev:=kRo) (k:=z0) (v:=.agg #[.I x0,.I x1,.string x2]));rfl;rfl;rfl;rfl;exact ah4 (by(focus((repeat(first|exact .head|apply Take.tail));done)));exact tIR;exact mI;exact zR0;exact Hq.out;refine frS ?_|(apply AQ7);rfl;rfl;rfl;exact aW4 _ _ _;refine frS ?_|refine qR ?_)
     clear hS;intro w hS;go_wp2_with(first|go_big_skip|refine zlN hS ?_ (vs:=[.string z1,.string z2]) (hc:=by first|exact a7.here rfl|exact a7.there (a7.here rfl))|go_at_call 42;refine(Bj7 Hc.out W _ _ hS).mono ?_;clear hS;rintro e w ⟨f1,t1,f2,t2,rfl,hS⟩|(have:=mA5);(fail_if_success (have:=mA6));(refine zal hS ?_;clear hS;have mA6:Nat:=0;intro bA w hS)|(have:=mA6);refine zal hS ?_;clear hS;intro bB w hS|refine zsN hS ?_;clear hS;intro w hS);refine Aa7 (by kernel_rfl) (by kernel_rfl) hS ?_
     repeat(first|go_big_quiet_skip|refine zqN ?_|apply Ac7;rfl;intro w;apply Ab7;rfl;decide +kernel;(focus(simp only[fD,fI,fJ,Act.eval,fE,fF,fG,fH,fK];try rfl));intro w hS;exact As7 Hf.out (by(focus((repeat(first|exact .head|apply Take.tail));done))) hS;refine frS ?_|apply Ac7;rfl;intro w;apply Ab7;rfl;decide +kernel;(focus(simp only[fD,fI,fJ,Act.eval,fE,fF,fG,fH,fK];try rfl));intro w hS;exact Ah7 Hrl.out Hh.out (by(focus((repeat(first|exact .head|apply Take.tail));done))) hS;refine frS ?_|refine zq1 ?_ (hc:=by(focus((repeat(first|exact M8|exact ae4|exact af4|apply a8.there));done)))|refine zqn ?_|refine qR ?_)
     clear hS;intro w hS;go_wp2_with(first|go_big_skip|refine zl1 hS ?_|refine zbs hS ?_;clear hS;intro bS w hS|(have hS2:St W (blk bS [.I z0] 3::_) _:=hS);clear hS;have hS:=hS2;clear hS2;go_at_call 45;refine(Dw7 1 z0 0 0 x2 [z0] bS 1 (by simp) (by omega) W _ _ (hS.s (plP E rl p::blk bS [.I z0] 3::zoR _ Z::Old V::R))).mono ?_;clear hS;rintro e w ⟨rfl,hS⟩);have hS9:St W (plP E rl ⟨z0::p.nm,p.mv,p.out++[⟨1,z0,0,0,x2⟩]⟩::_) _:=hS;go_roundw
     case rel=>exact⟨i+1,(⟨z0::p.nm,p.mv,p.out++[⟨1,z0,0,0,x2⟩]⟩,room-1),rfl,rfl,hil,Hyes.out,by show -100<=room-1;omega,by show room-1<=100;omega,by show(p.out++[_]).length<=_;rw[jA,List.length_singleton];omega,hS9.s _⟩
     case measure=>simp[intOf];omega
  ·have d1:decide (i<zs.length)=false:=decide_eq_false hil;have hie:i=Z.length:=by rw[Hlz.out];omega
   rw[hie,List.take_length]at hst;have Hst:=jH hst;clear hst hie hi;go_wp2_with(first|go_big_skip);go_end0;refine⟨rfl,Z,HZp.out,Hasc.out,?_⟩;rw[Hst.out];exact hS.s _
end Go.Proofs.YtjcfifkjbaffnaaGreat
end
