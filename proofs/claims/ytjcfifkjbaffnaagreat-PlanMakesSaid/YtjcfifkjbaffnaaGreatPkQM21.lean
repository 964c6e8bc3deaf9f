/-
  What the planner moves.
-/
import Derived.Test.YtjcfifkjbaffnaaGreatPkQM5
import Derived.Test.YtjcfifkjbaffnaaGreatPkQM20
set_option maxHeartbeats 16000000
set_option maxRecDepth 100000
set_option linter.unusedSimpArgs false
set_option linter.unusedVariables false
section
namespace Go.Proofs.YtjcfifkjbaffnaaGreat
open Go.RowKit Go.Sl
def bpV(zb zoff:Nat):Option Nat->Value
 | none=>.pointer none
 | some j=>.pointer (some ⟨zb,zoff+j*9,none⟩)
def MvO(W:World)(E:Pe)(rl:List (Int×Ro))(l:List Ro)(zs:List Zo)(hs:List Int)(s0:Pn)(R:List HP)(v2:Value)(w:World):Prop:=
 ∃(n:Nat) (s:Pn),v2=.I n/\n<=100/\i7 zs 3<=n/\(∀t,MovI l zs hs (2-n) s t->MovI l zs hs (2-i7 zs 3) s0 t)/\s.out.length+(2-n)<=s0.out.length+2/\St W (plP E rl s::R) w
def MvI(W:World)(R:List HP)(l:List Ro)(zs:List Zo)(c:Zo->Bool)(zb zoff:Nat)(v5 v34:Value)(w:World):Prop:=
 ∃k:Nat,v34=.I k/\k<=zs.length/\v5=bpV zb zoff (s8 l c zs k)/\St W R w
theorem Ik7{E:Pe}{rl:List (Int×Ro)}{s0:Pn}{zs:List Zo}{hs:List Int}{V:World}{l:List Ro}(hv:d6 Zo.cells 9 V E.zv zs)(hh:d6 hC 1 V E.hv hs)(h1:1<=zs.length)(hl:zs.length<=16)(h0:0<hs.length)(hhl:hs.length<=6)(hrl:∀n,(m6 rl n).getD ro0=C5 l n)(ho:s0.out.length<=150)(W w:World)(R:List HP)(hS:St W (plP E rl s0::Old V::R) w):
  Calls Tryz.prog 18 #[.pointer (some ⟨E.pb,0,none⟩)] w fun e w'=>e=.returned (.tuple #[])/\∃t,MovI l zs hs (2-i7 zs 3) s0 t/\t.out.length<=s0.out.length+2/\St W (plP E rl t::Old V::R) w':=by
 have Hv:=jH hv;have Hh:=jH hh;have Hrl:=jH hrl;have hpn:i7 zs 3<=16:=Nat.le_trans (Bb7 _ _) hl;obtain⟨a,cap,hze,_,hact⟩:=hv;obtain⟨zb,zoff,ea,_⟩:=hact 0 (by omega);subst ea
 have Hat:=jH (show ∀i (hi:i<zs.length), ∀j u,(zs[i].cells)[j]? = some u->V.cell? ⟨zb,zoff+i*9+j,none⟩=some u from fun i hi=>by
  obtain⟨b,o,e,h⟩:=hact i hi
  cases e
  exact h)
 have HE:=jH hze;clear hact hze hrl hh;go_enter Tryz.func18,Tryz.ntmps18;go_wp2_with(first|go_big_skip|go_at_call 41;refine(Db7 Hv.out (by omega) 3 W _ _ hS).mono ?_;clear hS;rintro e w ⟨rfl,hS⟩)
 go_loopw [2] (fun v2 wr=>MvO W E rl l zs hs s0 (Old V::R) v2 wr) (fun v2 _=>100-(intOf v2).toNat)
 case atStart=>exact⟨i7 zs 3,s0,rfl,by omega,Nat.le_refl _,fun t h=>h,by omega,hS⟩
 case round=>
  clear hS;obtain⟨n,s,rfl,hn100,hpn2,hmv,hob,hS⟩:=hrel;by_cases hn2:n<2
  case neg=>
   have d1:decide ((n:Int)<2)=false:=by simp;omega
   have hdone:=hmv s (by rw[show 2-n=0 by omega];exact MovI.done s);have Hdone:=jH hdone;have hob2:s.out.length<=s0.out.length+2:=by omega
   clear hmv hdone hob hpn2;go_wp2_with(first|go_big_skip);go_end0;exact⟨rfl,s,Hdone.out,hob2,hS⟩
  have d1:decide ((n:Int)<2)=true:=by simp;omega
  obtain⟨a,hxa,hma⟩:=GA7 (fun h=>f9 l s h zs) h0;obtain⟨b,hxb,hlb⟩:=FB7 (fun h=>f9 l s h zs) h0;obtain⟨la,hla⟩:∃la,la=f9 l s a zs:=⟨_,rfl⟩
  obtain⟨lb,hlb2⟩:∃lb,lb=f9 l s b zs:=⟨_,rfl⟩
  have hxa2:(A8 false (fun h=>f9 l s h zs) hs)[0]? = some (a,la):=by rw[hla];exact hxa
  have hxb2:(A8 true (fun h=>f9 l s h zs) hs)[0]? = some (b,lb):=by rw[hlb2];exact hxb
  have hra:=Bl7 l s a zs;have hrb:=Bl7 l s b zs;rw[<-hla]at hra;rw[<-hlb2]at hrb;have ra1:=hra.1;have rb1:=hrb.1;have ra2:la<=17592186044416:=by omega
  have rb2:lb<=17592186044416:=by omega
  have hc9:∃c,c=ab4 l s a (f9 l s a zs) (f9 l s b zs):=⟨_,rfl⟩
  obtain⟨c,hc⟩:=hc9;have hcz:∀z,c z=(decide (z.own=a)&&(s7 s z&&(decide (0<i9 l z)&&decide (lb+i9 l z<la)))):=fun z=>by rw[hc,hla,hlb2];rfl
  have Hxa:=jH hxa2;have Hxb:=jH hxb2;have Hma:=jH hma;have Hlb:=jH hlb;have Hc:=jH hc;have Hcz:=jH hcz;have Hmv:=jH hmv;clear hxa hxb hma hlb hla hlb2 hxa2 hxb2 hra hrb hc hcz hmv;go_wp2_with(first|go_big_skip)
  refine rf2 [0,1,3,7,15,31,63,0,131,387,899,1923,3971,8067,0,0,49663,131071] (fun i=>i==1||i==4||i==8||i==11||i==14||i==15) [⟨some 1,some 4,fun nd=>M5 (nd 1) false (a,la)⟩,⟨some 4,none,fun nd=>J9 (nd 4) (a,la)⟩,⟨some 8,some 11,fun nd=>M5 (nd 8) true (b,lb)⟩,⟨some 11,none,fun nd=>J9 (nd 11) (b,lb)⟩,⟨some 1,some 8,fun nd=>plP E rl s⟩,⟨some 1,some 8,fun nd=>Old V⟩,⟨some 8,none,fun nd=>plP E rl s⟩,⟨some 8,none,fun nd=>Old V⟩,
   ⟨some 14,some 16,fun nd=>f7 (nd 14) [.I 0,.I 0] 96⟩,⟨some 16,none,fun nd=>f7 (nd 14) [.I a,.I la] 96⟩,⟨some 15,some 17,fun nd=>f7 (nd 15) [.I 0,.I 0] 96⟩,⟨some 17,none,fun nd=>f7 (nd 15) [.I b,.I lb] 96⟩]
   [some 1,some 1] hS ?_
  intro nd
  repeat(first|apply Bz7;rfl;rfl;rfl;decide +kernel;(focus(simp only[fD,fI,fJ,Act.eval,fE,fF,fG,fH,fK];try rfl));intro _;rfl;intro F w hS;exact Cz7 Hv.out Hh.out hl hhl Hrl.out Hxa.out W w _ hS;refine frS ?_|apply Bz7;rfl;rfl;rfl;decide +kernel;(focus(simp only[fD,fI,fJ,Act.eval,fE,fF,fG,fH,fK];try rfl));intro _;rfl;intro F w hS;exact Cz7 Hv.out Hh.out hl hhl Hrl.out Hxb.out W w _ hS;refine frS ?_|apply Hj7 (v:=nd 1);rfl;kernel_rfl;rfl;rfl;rfl;intro F w hS;exact El7 hS;refine frS ?_|apply Hk7 (v:=nd 1) (u:=nd 1);rfl;kernel_rfl;rfl;rfl;rfl;intro F w hS;exact Em7 hS;refine frS ?_|apply IN7 (v:=nd 1);rfl;rfl;rfl;rfl;decide +kernel;intro _;rfl;intro F w hS;exact Ft7 hS;refine frS ?_|apply IM7 (v:=nd 4) (u:=hdS (nd 4));rfl;kernel_rfl;rfl;rfl;rfl;rfl;intro F w hS;exact Fr7 hS;refine frS ?_|apply IO7 (v:=hdS (nd 4)) (vs:=[.I a,.I la]);rfl;kernel_rfl;rfl;rfl;rfl;decide +kernel;kernel_rfl;intro F w hS;exact Fs7 hS;refine frS ?_|apply Hj7 (v:=nd 8);rfl;kernel_rfl;rfl;rfl;rfl;intro F w hS;exact El7 hS;refine frS ?_|apply Hk7 (v:=nd 8) (u:=nd 8);rfl;kernel_rfl;rfl;rfl;rfl;intro F w hS;exact Em7 hS;refine frS ?_|apply IN7 (v:=nd 8);rfl;rfl;rfl;rfl;decide +kernel;intro _;rfl;intro F w hS;exact Ft7 hS;refine frS ?_|apply IM7 (v:=nd 11) (u:=hdS (nd 11));rfl;kernel_rfl;rfl;rfl;rfl;rfl;intro F w hS;exact Fr7 hS;refine frS ?_|apply IO7 (v:=hdS (nd 11)) (vs:=[.I b,.I lb]);rfl;kernel_rfl;rfl;rfl;rfl;decide +kernel;kernel_rfl;intro F w hS;exact Fs7 hS;refine frS ?_|refine zca ?_|refine zct ?_|refine cR ?_)
  refine AC7 ?_;clear hS;intro w hS0;have hS1:St W [J9 (nd 4) (a,la),J9 (nd 11) (b,lb),plP E rl s,Old V,f7 (nd 14) [.I a,.I la] 96,f7 (nd 15) [.I b,.I lb] 96,sats R] w:=hS0;generalize nd 14=v14 at *;generalize nd 15=v15 at *;have hS2:St W (_::_::_::_::_::_::R) w:=hS1.unpack [_,_,_,_,_,_];clear hS0 hS1;have hS3:=hS2.s (f7 v14 [.I a,.I la] 96::f7 v15 [.I b,.I lb] 96::plP E rl s::Old V::R);clear hS2;obtain⟨b3,rfl,hS4⟩:=hS3.ptr;obtain⟨b4,rfl,hS5⟩:=hS4.swap.ptr;clear hS3 hS4;have hS:=hS5.s (blk b3 [.I a,.I la] 96::blk b4 [.I b,.I lb] 96::plP E rl s::Old V::R);clear hS5;go_wp2_with(first|go_big_skip|refine zl1 hS ?_ (hc:=by(focus((repeat(first|exact j9 HE.out|apply a8.there));done))))
  go_loopw [5,34] (fun v5 v34 wr=>MvI W (blk b3 [.I a,.I la] 96::blk b4 [.I b,.I lb] 96::plP E rl s::Old V::R) l zs c zb zoff v5 v34 wr) (fun _ v34 _=>zs.length-(intOf v34).toNat)
  case atStart=>exact⟨0,rfl,Nat.zero_le _,rfl,hS⟩
  case round=>
   clear hS;obtain⟨k,rfl,hk,rfl,hS⟩:=hrel;by_cases hkl:k<zs.length
   ·have d2:decide (k<zs.length)=true:=decide_eq_true hkl;have hnx:=Dm7 l c hkl;have hin:=Bm7 l c (Nat.le_of_lt hkl);have hallz:=Hat.out k hkl;have hhr:=AA7 l zs[k];have hcz:=Hcz.out zs[k];obtain⟨z,hz⟩:∃z,z=zs[k]:=⟨_,rfl⟩
    rw[<-hz]at hnx hallz hhr hcz;obtain⟨z0,z1,z2,z3,z4,z5,z6,z7,z8⟩:=z;simp only[Zo.cells]at hallz;simp only at hcz;obtain⟨x,hxx⟩:∃x,i9 l ⟨z0,z1,z2,z3,z4,z5,z6,z7,z8⟩=x:=⟨_,rfl⟩
    obtain⟨f,hff⟩:∃f,s7 s ⟨z0,z1,z2,z3,z4,z5,z6,z7,z8⟩=f:=⟨_,rfl⟩
    rw[hxx,hff,show decide (z3=a)=(z3==a)by rw[Bool.eq_iff_iff];simp]at hcz;rw[hxx]at hhr;obtain⟨x1,x2⟩:=hhr;have Hx:=jH hxx;have Hf:=jH hff;clear hff hz hk
    cases c1:z3==a with
    | false=>
     have c1':=AK7 c1;rw[c1,Bool.false_and]at hcz;rw[hcz,Bool.false_and,if_neg Bool.false_ne_true]at hnx;have Hnx:=jH hnx;clear hnx hcz hin hxx;go_wp2_with(first|go_big_skip|refine zlN hS ?_ (vs:=[.I z0,.string z1,.string z2,.I z3,.I z4,.I z5,.I z6,.string z7,.I z8]) (hc:=by exact a7.old (by exact b8) hallz)|refine zal hS ?_;clear hS;intro b7 w hS|refine zsN hS ?_;clear hS;intro w hS);refine Aa7 (by kernel_rfl) (by kernel_rfl) hS ?_
     repeat(first|go_big_quiet_skip|refine zqN ?_ (hc:=by exact a7.whole)|apply Ac7;rfl;intro w;apply Ab7;rfl;decide +kernel;(focus(simp only[fD,fI,fJ,Act.eval,fE,fF,fG,fH,fK];try rfl));intro w hS;exact As7 Hf.out (by(focus((repeat(first|exact .head|apply Take.tail));done))) hS;refine frS ?_|apply Ac7;rfl;intro w;apply Ab7;rfl;decide +kernel;(focus(simp only[fD,fI,fJ,Act.eval,fE,fF,fG,fH,fK];try rfl));intro w hS;exact Ah7 Hrl.out Hx.out (by(focus((repeat(first|exact .head|apply Take.tail));done))) hS;refine frS ?_|refine zq1 ?_|refine zqn ?_|refine qR ?_)
     clear hS;intro w hS;go_wp2_with(first|go_big_skip);go_roundw
     case rel=>exact⟨k+1,rfl,hkl,by rw[Hnx.out];first|done|rfl,hS.drop⟩
     case measure=>simp[intOf];omega
    | true=>
     have c1':=AK7 c1;rw[c1,Bool.true_and]at hcz
     cases f with
     | false=>
      rw[Bool.false_and]at hcz;rw[hcz,Bool.false_and,if_neg Bool.false_ne_true]at hnx;have Hnx:=jH hnx;clear hnx hcz hin hxx;go_wp2_with(first|go_big_skip|refine zlN hS ?_ (vs:=[.I z0,.string z1,.string z2,.I z3,.I z4,.I z5,.I z6,.string z7,.I z8]) (hc:=by exact a7.old (by exact b8) hallz)|refine zal hS ?_;clear hS;intro b7 w hS|refine zsN hS ?_;clear hS;intro w hS);refine Aa7 (by kernel_rfl) (by kernel_rfl) hS ?_
      repeat(first|go_big_quiet_skip|refine zqN ?_ (hc:=by exact a7.whole)|apply Ac7;rfl;intro w;apply Ab7;rfl;decide +kernel;(focus(simp only[fD,fI,fJ,Act.eval,fE,fF,fG,fH,fK];try rfl));intro w hS;exact As7 Hf.out (by(focus((repeat(first|exact .head|apply Take.tail));done))) hS;refine frS ?_|apply Ac7;rfl;intro w;apply Ab7;rfl;decide +kernel;(focus(simp only[fD,fI,fJ,Act.eval,fE,fF,fG,fH,fK];try rfl));intro w hS;exact Ah7 Hrl.out Hx.out (by(focus((repeat(first|exact .head|apply Take.tail));done))) hS;refine frS ?_|refine zq1 ?_|refine zqn ?_|refine qR ?_)
      clear hS;intro w hS;go_wp2_with(first|go_big_skip);go_roundw
      case rel=>exact⟨k+1,rfl,hkl,by rw[Hnx.out];first|done|rfl,hS.drop⟩
      case measure=>simp[intOf];omega
     | true=>
      rw[Bool.true_and]at hcz;by_cases c3:0<x
      case neg=>
       have e3:decide (x<=0)=true:=by simp;omega
       rw[decide_eq_false c3,Bool.false_and]at hcz;rw[hcz,Bool.false_and,if_neg Bool.false_ne_true]at hnx;have Hnx:=jH hnx;clear hnx hcz hin hxx c3;go_wp2_with(first|go_big_skip|refine zlN hS ?_ (vs:=[.I z0,.string z1,.string z2,.I z3,.I z4,.I z5,.I z6,.string z7,.I z8]) (hc:=by exact a7.old (by exact b8) hallz)|refine zal hS ?_;clear hS;intro b7 w hS|refine zsN hS ?_;clear hS;intro w hS);refine Aa7 (by kernel_rfl) (by kernel_rfl) hS ?_
       repeat(first|go_big_quiet_skip|refine zqN ?_ (hc:=by exact a7.whole)|apply Ac7;rfl;intro w;apply Ab7;rfl;decide +kernel;(focus(simp only[fD,fI,fJ,Act.eval,fE,fF,fG,fH,fK];try rfl));intro w hS;exact As7 Hf.out (by(focus((repeat(first|exact .head|apply Take.tail));done))) hS;refine frS ?_|apply Ac7;rfl;intro w;apply Ab7;rfl;decide +kernel;(focus(simp only[fD,fI,fJ,Act.eval,fE,fF,fG,fH,fK];try rfl));intro w hS;exact Ah7 Hrl.out Hx.out (by(focus((repeat(first|exact .head|apply Take.tail));done))) hS;refine frS ?_|refine zq1 ?_|refine zqn ?_|refine qR ?_)
       clear hS;intro w hS;go_wp2_with(first|go_big_skip);go_roundw
       case rel=>exact⟨k+1,rfl,hkl,by rw[Hnx.out];first|done|rfl,hS.drop⟩
       case measure=>simp[intOf];omega
      have e3:decide (x<=0)=false:=by simp;omega
      rw[decide_eq_true c3,Bool.true_and]at hcz;by_cases c4:lb+x<la
      case neg=>
       have e4:decide (la<=lb+x)=true:=by simp;omega
       rw[decide_eq_false c4]at hcz;rw[hcz,Bool.false_and,if_neg Bool.false_ne_true]at hnx;have Hnx:=jH hnx;clear hnx hcz hin hxx c3 c4;go_wp2_with(first|go_big_skip|refine zlN hS ?_ (vs:=[.I z0,.string z1,.string z2,.I z3,.I z4,.I z5,.I z6,.string z7,.I z8]) (hc:=by exact a7.old (by exact b8) hallz)|refine zal hS ?_;clear hS;intro b7 w hS|refine zsN hS ?_;clear hS;intro w hS);refine Aa7 (by kernel_rfl) (by kernel_rfl) hS ?_
       repeat(first|go_big_quiet_skip|refine zqN ?_ (hc:=by exact a7.whole)|apply Ac7;rfl;intro w;apply Ab7;rfl;decide +kernel;(focus(simp only[fD,fI,fJ,Act.eval,fE,fF,fG,fH,fK];try rfl));intro w hS;exact As7 Hf.out (by(focus((repeat(first|exact .head|apply Take.tail));done))) hS;refine frS ?_|apply Ac7;rfl;intro w;apply Ab7;rfl;decide +kernel;(focus(simp only[fD,fI,fJ,Act.eval,fE,fF,fG,fH,fK];try rfl));intro w hS;exact Ah7 Hrl.out Hx.out (by(focus((repeat(first|exact .head|apply Take.tail));done))) hS;refine frS ?_|refine zq1 ?_|refine zqn ?_|refine qR ?_)
       clear hS;intro w hS;go_wp2_with(first|go_big_skip);go_roundw
       case rel=>exact⟨k+1,rfl,hkl,by rw[Hnx.out];first|done|rfl,hS.drop⟩
       case measure=>simp[intOf];omega
      have e4:decide (la<=lb+x)=false:=by simp;omega
      rw[decide_eq_true c4]at hcz;rw[hcz,Bool.true_and]at hnx
      cases hbz:s8 l c zs k with
      | none=>
       rw[show bpV zb zoff none=.pointer none from rfl];rw[hbz]at hnx;have Hnx:=jH (show s8 l c zs (k+1)=some k from hnx);clear hnx hcz hin hxx c3 c4 hbz;go_wp2_with(first|go_big_skip|refine zlN hS ?_ (vs:=[.I z0,.string z1,.string z2,.I z3,.I z4,.I z5,.I z6,.string z7,.I z8]) (hc:=by exact a7.old (by exact b8) hallz)|refine zal hS ?_;clear hS;intro b7 w hS|refine zsN hS ?_;clear hS;intro w hS);refine Aa7 (by kernel_rfl) (by kernel_rfl) hS ?_
       repeat(first|go_big_quiet_skip|refine zqN ?_ (hc:=by exact a7.whole)|apply Ac7;rfl;intro w;apply Ab7;rfl;decide +kernel;(focus(simp only[fD,fI,fJ,Act.eval,fE,fF,fG,fH,fK];try rfl));intro w hS;exact As7 Hf.out (by(focus((repeat(first|exact .head|apply Take.tail));done))) hS;refine frS ?_|apply Ac7;rfl;intro w;apply Ab7;rfl;decide +kernel;(focus(simp only[fD,fI,fJ,Act.eval,fE,fF,fG,fH,fK];try rfl));intro w hS;exact Ah7 Hrl.out Hx.out (by(focus((repeat(first|exact .head|apply Take.tail));done))) hS;refine frS ?_|refine zq1 ?_|refine zqn ?_|refine qR ?_)
       clear hS;intro w hS;go_wp2_with(first|go_big_skip);refine Aa7 (by kernel_rfl) (by kernel_rfl) hS ?_
       repeat(first|go_big_quiet_skip|refine zqN ?_ (hc:=by exact a7.whole)|fail|apply Ac7;rfl;intro w;apply Ab7;rfl;decide +kernel;(focus(simp only[fD,fI,fJ,Act.eval,fE,fF,fG,fH,fK];try rfl));intro w hS;exact Ah7 Hrl.out Hx.out (by(focus((repeat(first|exact .head|apply Take.tail));done))) hS;refine frS ?_|refine zq1 ?_|refine zqn ?_|refine qR ?_)
       clear hS;intro w hS;go_wp2_with(first|go_big_skip|refine zl1 hS ?_ (hc:=by(focus((repeat(first|exact j9 HE.out|apply a8.there));done))));go_roundw
       case rel=>exact⟨k+1,rfl,hkl,by rw[Hnx.out];first|done|rfl,hS.drop⟩
       case measure=>simp[intOf];omega
      | some j=>
       rw[show bpV zb zoff (some j)=.pointer (some ⟨zb,zoff+j*9,none⟩)from rfl];rw[hbz]at hnx hin;obtain⟨hjk,hj,_⟩:=hin j rfl;have hally:=Hat.out j hj;have hhy:=AA7 l zs[j];rw[show(some j).bind (zs[·]?)=some zs[j]from jG hj]at hnx;obtain⟨y,hy⟩:∃y,y=zs[j]:=⟨_,rfl⟩
       rw[<-hy]at hnx hally hhy;obtain⟨y0,y1,y2,y3,y4,y5,y6,y7,y8⟩:=y;simp only[Zo.cells]at hally;have hy0:V.cell? ⟨zb,zoff+j*9,none⟩=some (.I y0):=hally 0 _ rfl;obtain⟨xy,hxy⟩:∃xy,i9 l ⟨y0,y1,y2,y3,y4,y5,y6,y7,y8⟩=xy:=⟨_,rfl⟩
       have hb9:aL4 l ⟨z0,z1,z2,z3,z4,z5,z6,z7,z8⟩ (some ⟨y0,y1,y2,y3,y4,y5,y6,y7,y8⟩)=(decide (xy<x)||(decide (x=xy)&&decide (z0<y0))):=by unfold aL4;simp only;rw[hxx,hxy]
       rw[hb9]at hnx;rw[hxy]at hhy;obtain⟨w1,w2⟩:=hhy;have Hy:=jH hxy;clear hxx hxy hy hin hcz c3 c4 hbz hb9;by_cases g1:xy<x
       ·have k1:decide (xy<x)=true:=decide_eq_true g1;rw[k1,Bool.true_or,if_pos rfl]at hnx;have Hnx:=jH hnx;clear hnx g1;go_wp2_with(first|go_big_skip|refine zlN hS ?_ (vs:=[.I z0,.string z1,.string z2,.I z3,.I z4,.I z5,.I z6,.string z7,.I z8]) (hc:=by exact a7.old (by exact b8) hallz)|refine zal hS ?_;clear hS;intro b7 w hS|refine zsN hS ?_;clear hS;intro w hS);refine Aa7 (by kernel_rfl) (by kernel_rfl) hS ?_
        repeat(first|go_big_quiet_skip|refine zqN ?_ (hc:=by exact a7.whole)|apply Ac7;rfl;intro w;apply Ab7;rfl;decide +kernel;(focus(simp only[fD,fI,fJ,Act.eval,fE,fF,fG,fH,fK];try rfl));intro w hS;exact As7 Hf.out (by(focus((repeat(first|exact .head|apply Take.tail));done))) hS;refine frS ?_|apply Ac7;rfl;intro w;apply Ab7;rfl;decide +kernel;(focus(simp only[fD,fI,fJ,Act.eval,fE,fF,fG,fH,fK];try rfl));intro w hS;exact Ah7 Hrl.out Hx.out (by(focus((repeat(first|exact .head|apply Take.tail));done))) hS;refine frS ?_|refine zq1 ?_|refine zqn ?_|refine qR ?_)
        clear hS;intro w hS;go_wp2_with(first|go_big_skip);refine Aa7 (by kernel_rfl) (by kernel_rfl) hS ?_
        repeat(first|go_big_quiet_skip|refine zqN ?_ (hc:=by exact a7.whole)|refine zqN ?_ (vs:=[.I y0,.string y1,.string y2,.I y3,.I y4,.I y5,.I y6,.string y7,.I y8]) (hc:=by exact a7.old (by exact b8) hally)|refine zq1 ?_ (v:=.I y0) (hc:=by exact a8.old (by exact b8) hy0)|apply Ac7;rfl;intro w;apply Ab7;rfl;decide +kernel;(focus(simp only[fD,fI,fJ,Act.eval,fE,fF,fG,fH,fK];try rfl));intro w hS;exact Ah7 Hrl.out Hy.out (by(focus((repeat(first|exact .head|apply Take.tail));done))) hS;refine frS ?_|apply Ac7;rfl;intro w;apply Ab7;rfl;decide +kernel;(focus(simp only[fD,fI,fJ,Act.eval,fE,fF,fG,fH,fK];try rfl));intro w hS;exact Ah7 Hrl.out Hx.out (by(focus((repeat(first|exact .head|apply Take.tail));done))) hS;refine frS ?_|refine zq1 ?_|refine zqn ?_|refine qR ?_)
        clear hS;intro w hS;go_wp2_with(first|go_big_skip|refine zl1 hS ?_ (hc:=by(focus((repeat(first|exact j9 HE.out|apply a8.there));done))));go_roundw
        case rel=>exact⟨k+1,rfl,hkl,by rw[Hnx.out];first|done|rfl,hS.drop⟩
        case measure=>simp[intOf];omega
       have k1:decide (xy<x)=false:=decide_eq_false g1;rw[k1,Bool.false_or]at hnx;by_cases g2:x=xy
       case neg=>
        have k2:(x==xy)=false:=by simpa using g2
        rw[decide_eq_false g2,Bool.false_and,if_neg Bool.false_ne_true]at hnx;have Hnx:=jH hnx;clear hnx g1 g2;go_wp2_with(first|go_big_skip|refine zlN hS ?_ (vs:=[.I z0,.string z1,.string z2,.I z3,.I z4,.I z5,.I z6,.string z7,.I z8]) (hc:=by exact a7.old (by exact b8) hallz)|refine zal hS ?_;clear hS;intro b7 w hS|refine zsN hS ?_;clear hS;intro w hS);refine Aa7 (by kernel_rfl) (by kernel_rfl) hS ?_
        repeat(first|go_big_quiet_skip|refine zqN ?_ (hc:=by exact a7.whole)|apply Ac7;rfl;intro w;apply Ab7;rfl;decide +kernel;(focus(simp only[fD,fI,fJ,Act.eval,fE,fF,fG,fH,fK];try rfl));intro w hS;exact As7 Hf.out (by(focus((repeat(first|exact .head|apply Take.tail));done))) hS;refine frS ?_|apply Ac7;rfl;intro w;apply Ab7;rfl;decide +kernel;(focus(simp only[fD,fI,fJ,Act.eval,fE,fF,fG,fH,fK];try rfl));intro w hS;exact Ah7 Hrl.out Hx.out (by(focus((repeat(first|exact .head|apply Take.tail));done))) hS;refine frS ?_|refine zq1 ?_|refine zqn ?_|refine qR ?_)
        clear hS;intro w hS;go_wp2_with(first|go_big_skip);refine Aa7 (by kernel_rfl) (by kernel_rfl) hS ?_
        repeat(first|go_big_quiet_skip|refine zqN ?_ (hc:=by exact a7.whole)|refine zqN ?_ (vs:=[.I y0,.string y1,.string y2,.I y3,.I y4,.I y5,.I y6,.string y7,.I y8]) (hc:=by exact a7.old (by exact b8) hally)|refine zq1 ?_ (v:=.I y0) (hc:=by exact a8.old (by exact b8) hy0)|apply Ac7;rfl;intro w;apply Ab7;rfl;decide +kernel;(focus(simp only[fD,fI,fJ,Act.eval,fE,fF,fG,fH,fK];try rfl));intro w hS;exact Ah7 Hrl.out Hy.out (by(focus((repeat(first|exact .head|apply Take.tail));done))) hS;refine frS ?_|apply Ac7;rfl;intro w;apply Ab7;rfl;decide +kernel;(focus(simp only[fD,fI,fJ,Act.eval,fE,fF,fG,fH,fK];try rfl));intro w hS;exact Ah7 Hrl.out Hx.out (by(focus((repeat(first|exact .head|apply Take.tail));done))) hS;refine frS ?_|refine zq1 ?_|refine zqn ?_|refine qR ?_)
        clear hS;intro w hS;go_wp2_with(first|go_big_skip);go_roundw
        case rel=>exact⟨k+1,rfl,hkl,by rw[Hnx.out];first|done|rfl,hS.drop⟩
        case measure=>simp[intOf];omega
       have k2:(x==xy)=true:=by simpa using g2
       rw[decide_eq_true g2,Bool.true_and]at hnx;have Hg2:=jH g2;clear g1 g2;by_cases g3:z0<y0
       ·have k3:decide (z0<y0)=true:=decide_eq_true g3;rw[k3,if_pos rfl]at hnx;have Hnx:=jH hnx;clear hnx g3;go_wp2_with(first|go_big_skip|refine zlN hS ?_ (vs:=[.I z0,.string z1,.string z2,.I z3,.I z4,.I z5,.I z6,.string z7,.I z8]) (hc:=by exact a7.old (by exact b8) hallz)|refine zal hS ?_;clear hS;intro b7 w hS|refine zsN hS ?_;clear hS;intro w hS);refine Aa7 (by kernel_rfl) (by kernel_rfl) hS ?_
        repeat(first|go_big_quiet_skip|refine zqN ?_ (hc:=by exact a7.whole)|apply Ac7;rfl;intro w;apply Ab7;rfl;decide +kernel;(focus(simp only[fD,fI,fJ,Act.eval,fE,fF,fG,fH,fK];try rfl));intro w hS;exact As7 Hf.out (by(focus((repeat(first|exact .head|apply Take.tail));done))) hS;refine frS ?_|apply Ac7;rfl;intro w;apply Ab7;rfl;decide +kernel;(focus(simp only[fD,fI,fJ,Act.eval,fE,fF,fG,fH,fK];try rfl));intro w hS;exact Ah7 Hrl.out Hx.out (by(focus((repeat(first|exact .head|apply Take.tail));done))) hS;refine frS ?_|refine zq1 ?_|refine zqn ?_|refine qR ?_)
        clear hS;intro w hS;go_wp2_with(first|go_big_skip);refine Aa7 (by kernel_rfl) (by kernel_rfl) hS ?_
        repeat(first|go_big_quiet_skip|refine zqN ?_ (hc:=by exact a7.whole)|refine zqN ?_ (vs:=[.I y0,.string y1,.string y2,.I y3,.I y4,.I y5,.I y6,.string y7,.I y8]) (hc:=by exact a7.old (by exact b8) hally)|refine zq1 ?_ (v:=.I y0) (hc:=by exact a8.old (by exact b8) hy0)|apply Ac7;rfl;intro w;apply Ab7;rfl;decide +kernel;(focus(simp only[fD,fI,fJ,Act.eval,fE,fF,fG,fH,fK];try rfl));intro w hS;exact Ah7 Hrl.out Hy.out (by(focus((repeat(first|exact .head|apply Take.tail));done))) hS;refine frS ?_|apply Ac7;rfl;intro w;apply Ab7;rfl;decide +kernel;(focus(simp only[fD,fI,fJ,Act.eval,fE,fF,fG,fH,fK];try rfl));intro w hS;exact Ah7 Hrl.out Hx.out (by(focus((repeat(first|exact .head|apply Take.tail));done))) hS;refine frS ?_|refine zq1 ?_|refine zqn ?_|refine qR ?_)
        clear hS;intro w hS;go_wp2_with(first|go_big_skip|refine zl1 hS ?_ (hc:=by(focus((repeat(first|exact j9 HE.out|apply a8.there));done))));go_roundw
        case rel=>exact⟨k+1,rfl,hkl,by rw[Hnx.out];first|done|rfl,hS.drop⟩
        case measure=>simp[intOf];omega
       ·have k3:decide (z0<y0)=false:=decide_eq_false g3;rw[k3,if_neg Bool.false_ne_true]at hnx;have Hnx:=jH hnx;clear hnx g3;go_wp2_with(first|go_big_skip|refine zlN hS ?_ (vs:=[.I z0,.string z1,.string z2,.I z3,.I z4,.I z5,.I z6,.string z7,.I z8]) (hc:=by exact a7.old (by exact b8) hallz)|refine zal hS ?_;clear hS;intro b7 w hS|refine zsN hS ?_;clear hS;intro w hS);refine Aa7 (by kernel_rfl) (by kernel_rfl) hS ?_
        repeat(first|go_big_quiet_skip|refine zqN ?_ (hc:=by exact a7.whole)|apply Ac7;rfl;intro w;apply Ab7;rfl;decide +kernel;(focus(simp only[fD,fI,fJ,Act.eval,fE,fF,fG,fH,fK];try rfl));intro w hS;exact As7 Hf.out (by(focus((repeat(first|exact .head|apply Take.tail));done))) hS;refine frS ?_|apply Ac7;rfl;intro w;apply Ab7;rfl;decide +kernel;(focus(simp only[fD,fI,fJ,Act.eval,fE,fF,fG,fH,fK];try rfl));intro w hS;exact Ah7 Hrl.out Hx.out (by(focus((repeat(first|exact .head|apply Take.tail));done))) hS;refine frS ?_|refine zq1 ?_|refine zqn ?_|refine qR ?_)
        clear hS;intro w hS;go_wp2_with(first|go_big_skip);refine Aa7 (by kernel_rfl) (by kernel_rfl) hS ?_
        repeat(first|go_big_quiet_skip|refine zqN ?_ (hc:=by exact a7.whole)|refine zqN ?_ (vs:=[.I y0,.string y1,.string y2,.I y3,.I y4,.I y5,.I y6,.string y7,.I y8]) (hc:=by exact a7.old (by exact b8) hally)|refine zq1 ?_ (v:=.I y0) (hc:=by exact a8.old (by exact b8) hy0)|apply Ac7;rfl;intro w;apply Ab7;rfl;decide +kernel;(focus(simp only[fD,fI,fJ,Act.eval,fE,fF,fG,fH,fK];try rfl));intro w hS;exact Ah7 Hrl.out Hy.out (by(focus((repeat(first|exact .head|apply Take.tail));done))) hS;refine frS ?_|apply Ac7;rfl;intro w;apply Ab7;rfl;decide +kernel;(focus(simp only[fD,fI,fJ,Act.eval,fE,fF,fG,fH,fK];try rfl));intro w hS;exact Ah7 Hrl.out Hx.out (by(focus((repeat(first|exact .head|apply Take.tail));done))) hS;refine frS ?_|refine zq1 ?_|refine zqn ?_|refine qR ?_)
        clear hS;intro w hS;go_wp2_with(first|go_big_skip);go_roundw
        case rel=>exact⟨k+1,rfl,hkl,by rw[Hnx.out];first|done|rfl,hS.drop⟩
        case measure=>simp[intOf];omega
   ·have d2:decide (k<zs.length)=false:=decide_eq_false hkl;have hke:k=zs.length:=by omega
    rw[hke];have hbi:=Bm7 l c (Nat.le_refl zs.length)
    cases hbz:s8 l c zs zs.length with
    | none=>
     rw[show bpV zb zoff none=.pointer none from rfl]
     have hdone:=Hmv.out s (by
      obtain⟨m,hm⟩:∃m,2-n=m+1:=⟨2-n-1,by omega⟩
      rw[hm];exact MovI.none Hma.out Hlb.out (by rw[<-Hc.out];exact hbz))
     have Hdone:=jH hdone;have hob2:s.out.length<=s0.out.length+2:=by omega
     clear hdone hbz hbi hke hk hob;go_wp2_with(first|go_big_skip);refine bodyPost_ret (results_none rfl _ _ _) rfl ?_;exact⟨rfl,s,Hdone.out,hob2,hS.s _⟩
    | some j=>
     rw[show bpV zb zoff (some j)=.pointer (some ⟨zb,zoff+j*9,none⟩)from rfl];obtain⟨_,hj,_⟩:=hbi j hbz;have hally:=Hat.out j hj
     have hmv2:∀t,MovI l zs hs (2-(n+1)) (J6 s zs[j] b) t->MovI l zs hs (2-i7 zs 3) s0 t:=fun t ht=>Hmv.out t (by
      obtain⟨m,hm⟩:∃m,2-n=m+1:=⟨2-n-1,by omega⟩
      rw[show 2-(n+1)=m by omega]at ht;rw[hm];exact MovI.some Hma.out Hlb.out (by rw[<-Hc.out];exact hbz) hj ht)
     obtain⟨y,hy⟩:∃y,y=zs[j]:=⟨_,rfl⟩
     rw[<-hy]at hally hmv2;obtain⟨y0,y1,y2,y3,y4,y5,y6,y7,y8⟩:=y;simp only[Zo.cells]at hally;have hy0:V.cell? ⟨zb,zoff+j*9,none⟩=some (.I y0):=hally 0 _ rfl;unfold J6 at hmv2;simp only at hmv2;have Hmv2:=jH hmv2;clear hmv2 hy hally hbz hbi hke hk;obtain⟨nl,ov,hnm,hS1⟩:=s6 (hS.s (plP E rl s::blk b3 [.I a,.I la] 96::blk b4 [.I b,.I lb] 96::Old V::R));clear hS;unfold plB at hS1;have hS:=hS1;clear hS1;have Hnm:=jH hnm;clear hnm;go_wp2_with(first|go_big_skip);refine rt 10 hS ?_
     repeat(first|go_big_quiet_skip|refine zq1 ?_|refine zq1 ?_ (v:=.I y0) (hc:=by exact a8.old (by exact b8) hy0)|refine zqn ?_|refine qR ?_)
     clear hS;intro w hS;simp only[jD,List.drop_zero];go_wp2_with(first|go_big_skip|((with_reducible apply Dk7 (ek:=kI) (ev:=kI) (k:=y0) (u:=b) hS);rfl;rfl;rfl;rfl;exact d7;(focus(rfl));exact tII;exact mI;clear hS;intro w hS;try(refine frS ?_)));have hS1:=E7 (E:=E) (rl:=rl) (s:=⟨s.nm,(y0,b)::C7 s.mv y0,s.out⟩) (nl:=nl) (ov:=ov) Hnm.out (R:=blk b4 [.I b,.I lb] 96::Old V::R) (by unfold plB;exact hS.s _);clear hS;have hob9:s.out.length<=1000:=by omega
     refine rf3 [0,0,2,6,14,0,32,126,0,256,768,1792,3840,8191] (fun i=>i==12) (fun i=>if i==13 then some (.tuple #[])else none) [⟨some 12,some 13,fun nd=>I6 (nd 12) 1 1 [.I y0] 3⟩,⟨some 13,none,fun nd=>plP E rl ⟨y0::s.nm,(y0,b)::C7 s.mv y0,s.out++[⟨3,y0,0,b,⟨#[]⟩⟩]⟩⟩]
      [some 13,none,none] hS1 ?_
     intro nd
     repeat(first|refine zc1 ?_|refine zc1 ?_ (v:=.I y0) (hc:=by(intro F;exact a8.old (by first|exact Mem.head|exact Mem.tail Mem.head|exact Mem.tail (Mem.tail Mem.head)|exact Mem.tail (Mem.tail (Mem.tail Mem.head))|exact Mem.tail (Mem.tail (Mem.tail (Mem.tail Mem.head)))) hy0))|apply ay4;rfl;rfl;rfl;(focus(simp only[fD,fI,fJ,Act.eval,fE,fF,fG,fH,fK];try rfl));exact esS;exact rsS;rfl;rfl;rfl;rfl;intro _;rfl;rfl;intro _;rfl;refine frS ?_|refine zcv ?_ (hs:=by(intro F w hS;(try clear hS0);exact Hl7 (s:=⟨s.nm,(y0,b)::C7 s.mv y0,s.out⟩) 3 y0 0 b ⟨#[]⟩ hob9 _ W w _ hS))|refine zcn ?_|refine cR ?_)
     refine AC7 ?_;clear hS1;intro w hS0;have hS1:St W [plP E rl ⟨y0::s.nm,(y0,b)::C7 s.mv y0,s.out++[⟨3,y0,0,b,⟨#[]⟩⟩]⟩,blk b4 _ _,Old V,sats R] w:=hS0;have hS:St W (_::_::_::R) w:=hS1.unpack [_,_,_];clear hS0 hS1;go_wp2_with(first|go_big_skip);have hS9:St W (plP E rl ⟨y0::s.nm,(y0,b)::C7 s.mv y0,s.out++[⟨3,y0,0,b,⟨#[]⟩⟩]⟩::_) _:=hS;go_roundw
     case rel=>exact⟨n+1,_,rfl,by omega,by omega,Hmv2.out,by show(s.out++[_]).length+_<=_;rw[jA,List.length_singleton];omega,hS9.s _⟩
     case measure=>simp[intOf];omega
end Go.Proofs.YtjcfifkjbaffnaaGreat
end
