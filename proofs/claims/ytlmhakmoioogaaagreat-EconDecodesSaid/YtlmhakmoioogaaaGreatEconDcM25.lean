/-
  A reply as bytes, the program's.
-/
import Derived.Test.YtlmhakmoioogaaaGreatEconDcM4
import Derived.Test.YtlmhakmoioogaaaGreatEconDcM12
import Derived.Test.YtlmhakmoioogaaaGreatEconDcM16
import Derived.Test.YtlmhakmoioogaaaGreatEconDcM19
import Derived.Test.YtlmhakmoioogaaaGreatEconDcM20
import Derived.Test.YtlmhakmoioogaaaGreatEconDcM22
import Derived.Test.YtlmhakmoioogaaaGreatEconDcM23
import Derived.Test.YtlmhakmoioogaaaGreatEconDcM24
import Derived.Test.YtlmhakmoioogaaaGreatProg
import Derived.Shelf.Sort.Plain
import Derived.Ground.NamesProg
set_option maxHeartbeats 16000000
set_option maxRecDepth 100000
set_option linter.unusedSimpArgs false
set_option linter.unusedVariables false
section
namespace Go.Proofs.YtlmhakmoioogaaaGreat
open Go.RowKit Go.Sl
structure RpOk(r:Rpl):Prop where
 e0:0<=r.err
 e1:r.err<=19
 i0:0<=r.id
 i1:r.id<=1099511627776
 has:w8 r.has=true
def rpB(r:Rpl):List Int:=l9 [r.err,r.id]++l9 [r.has.x0,r.has.x1,r.has.x2,r.has.x3]
theorem AV7(l:List Int):(l9 l).length<=l.length*9:=by
 induction l with
 | nil=>simp[l9]
 | cons x l ih=>
  have:=Ap7 x;unfold l9 at ih ⊢;rw[List.flatMap_cons,jA,jC];omega
theorem Dx7(r:Rpl):(rpB r).length<=54:=by have h1:=AV7 [r.err,r.id];have h2:=AV7 [r.has.x0,r.has.x1,r.has.x2,r.has.x3];unfold rpB;rw[jA];simp only[jC,List.length_nil]at h1 h2;omega
theorem KN7(r:Rpl):0<(rpB r).length:=by have:=EK7 r.err;unfold rpB l9;rw[List.flatMap_cons,jS,jA];omega
theorem Sp7{e i x0 x1 x2 x3:Int}(h:RpOk ⟨e,i,⟨x0,x1,x2,x3⟩⟩)(W w:World)(R:List HP)(hS:St W R w):
  Calls Tryz.prog 136 #[rV e i x0 x1 x2 x3] w fun x w'=>x=.returned (.bool true)/\St W R w':=by
 have d0:decide (0<=e)=true:=by simpa using h.e0
 have d1:decide (e<=19)=true:=by simpa using h.e1
 have d2:decide (0<=i)=true:=by simpa using h.i0
 have d3:decide (i<=1099511627776)=true:=by simpa using h.i1
 have Hi:=jH h.has;clear h;go_enter Tryz.func136,Tryz.ntmps136;go_wp2_with(first|refine zbx hS ?_;clear hS;intro bO w hS|refine zl1 hS ?_|refine zlN hS ?_ (vs:=[.I x0,.I x1,.I x2,.I x3]) (hc:=by exact d7.here rfl)|go_at_call 126;refine(aJ4 _ _ _ _ W _ _ hS).mono ?_;clear hS;rw[Hi.out];rintro e w ⟨rfl,hS⟩);go_ret;exact⟨rfl,hS.drop⟩
theorem cz4(wb:Nat)(d:List Int)(x y:Int)(b c:Nat)(hd:d.length<=90000000)(hx : -9223372036854775808<=x/\x<=9223372036854775807)(hy : -9223372036854775808<=y/\y<=9223372036854775807)(W w:World)(R:List HP)(hS:St W (wrR wb d::blk b [.I x,.I y] 3::R) w):
  Calls Tryz.prog 65 #[.P wb,.S b 2 c] w fun e w'=>e=.returned (.tuple #[])/\St W (wrR wb (d++l9 [x,y])::blk b [.I x,.I y] 3::R) w':=
 OB7 wb d [x,y] b c hd (by simp) (fun z hz=>by
  rcases List.mem_cons.1 hz with rfl|hz
  ·exact hx
  ·rw[List.mem_singleton.1 hz];exact hy) W w R hS
theorem KO7{e i x0 x1 x2 x3:Int}(h:RpOk ⟨e,i,⟨x0,x1,x2,x3⟩⟩)(W w:World)(R:List HP)(hS:St W R w):
  Calls Tryz.prog 70 #[rV e i x0 x1 x2 x3] w fun x w'=>∃v,x=.returned (.tuple #[v,.I 0])/\St W (byR v (rpB ⟨e,i,⟨x0,x1,x2,x3⟩⟩)::R) w':=by
 have hl:=Dx7 ⟨e,i,⟨x0,x1,x2,x3⟩⟩;have hp:=KN7 ⟨e,i,⟨x0,x1,x2,x3⟩⟩;have he:rpB ⟨e,i,⟨x0,x1,x2,x3⟩⟩=l9 [e,i]++l9 [x0,x1,x2,x3]:=rfl;have hit:=Ai7.1 h.has;obtain⟨⟨a0,a1⟩,⟨b0,b1⟩,⟨c0,c1⟩,⟨f0,f1⟩⟩:=hit;simp only at a0 a1 b0 b1 c0 c1 f0 f1;have e0:=h.e0;have e1:=h.e1;have i0:=h.i0;have i1:=h.i1;simp only at e0 e1 i0 i1
 have hn4:∀x∈[x0,x1,x2,x3], -9223372036854775808<=x/\x<=9223372036854775807:=by
  intro x hx;simp only[List.mem_cons,List.not_mem_nil,or_false]at hx
  rcases hx with rfl|rfl|rfl|rfl <;> constructor <;> omega
 have hd2:(l9 [e,i]).length<=90000000:=by have:=AV7 [e,i];simp only[jC,List.length_nil]at this;omega
 have Hn4:=jH hn4;have He:=jH he;have Hd2:=jH hd2;have Hh:=jH h;rw[he]at hl hp;have Hl:=jH hl;have Hp:=jH hp;clear hn4 h hd2 he hl hp;go_enter Tryz.func70,Tryz.ntmps70;go_wp2_with(first|refine zbx hS ?_;clear hS;intro bO w hS|refine zl1 hS ?_|refine zlN hS ?_|go_at_call 136;refine(Sp7 Hh.out W _ _ hS).mono ?_;clear hS;rintro x w ⟨rfl,hS⟩|refine zal hS ?_;clear hS;intro wb w hS|refine zbs hS ?_;clear hS;intro bS w hS|(fail_if_success (have:=mN));go_at_call 65;refine(cz4 wb [] e i bS 2 (by simp) ⟨by omega,by omega⟩ ⟨by omega,by omega⟩ W _ _ (eo4 (hS.s (blk wb _ _::blk bS _ _::blk bO _ _::R)))).mono ?_;clear hS;rw[jN];rintro x w ⟨rfl,hS⟩;have mN:Nat:=0|(have:=mN);go_at_call 65;refine(cW4 wb (l9 [e,i]) x0 x1 x2 x3 bO 2 4 Hd2.out Hn4.out W _ _ (e8.there (e8.here rfl)) (e8.there (e8.here rfl)) (e8.there (e8.here rfl)) (e8.there (e8.here rfl)) hS).mono ?_;clear hS;rintro x w ⟨rfl,hS⟩|go_at_call 72;refine(en4 wb _ (by have:=Hl.out;omega) Hp.out W _ _ hS).mono ?_;clear hS;rintro x w ⟨v,rfl,hS⟩);go_ret2;refine⟨v,rfl,?_⟩;rw[He.out];exact hS.s _
theorem Qy7{e i x0 x1 x2 x3:Int}(h:RpOk ⟨e,i,⟨x0,x1,x2,x3⟩⟩)(W w:World)(R:List HP)(hS:St W R w):
  Calls Tryz.prog 193 #[rV e i x0 x1 x2 x3] w fun x w'=>x=.returned (.bool true)/\St W R w':=by
 have d0:decide (0<=e)=true:=by simpa using h.e0
 have d1:decide (e<=19)=true:=by simpa using h.e1
 have d2:decide (0<=i)=true:=by simpa using h.i0
 have d3:decide (i<=1099511627776)=true:=by simpa using h.i1
 have Hi:=jH h.has;clear h;go_enter Tryz.func193,Tryz.ntmps193;go_wp2_with(first|refine zbx hS ?_;clear hS;intro bO w hS|refine zl1 hS ?_|refine zlN hS ?_ (vs:=[.I x0,.I x1,.I x2,.I x3]) (hc:=by exact d7.here rfl)|go_at_call 116;refine(HJ7 _ _ _ _ W _ _ hS).mono ?_;clear hS;rw[Hi.out];rintro e w ⟨rfl,hS⟩);go_ret;exact⟨rfl,hS.drop⟩
theorem GX7{x y:Int}(hx : -9223372036854775808<=x/\x<=9223372036854775807)(hy : -9223372036854775808<=y/\y<=9223372036854775807){v:Value}{W w:World}{R:List HP}(hS:St W (R5 v 2 2 [.I x,.I y] 3::R) w):
  Calls Tryz.prog 144 #[v] w fun e w'=>∃v',e=.returned v'/\St W (byR v' (l9 [x,y])::R) w':=by
 obtain⟨b,rfl,hS1⟩:=hS.sl
 exact ca4 [x,y] b 2 (by simp) (fun z hz=>by
  rcases List.mem_cons.1 hz with rfl|hz
  ·exact hx
  ·rw[List.mem_singleton.1 hz];exact hy) W w R hS1
theorem JI7{e i x0 x1 x2 x3:Int}(h:RpOk ⟨e,i,⟨x0,x1,x2,x3⟩⟩)(W w:World)(R:List HP)(hS:St W R w):
  Calls Tryz.prog 143 #[rV e i x0 x1 x2 x3] w fun x w'=>∃v,x=.returned (.tuple #[v,.I 0])/\St W (byR v (rpB ⟨e,i,⟨x0,x1,x2,x3⟩⟩)::R) w':=by
 have e0:=h.e0;have e1:=h.e1;have i0:=h.i0;have i1:=h.i1;simp only at e0 e1 i0 i1;have l1:(l9 [e,i]).length<=18:=AV7 [e,i];have l2:(l9 [x0,x1,x2,x3]).length<=36:=AV7 [x0,x1,x2,x3];have hre : -9223372036854775808<=e/\e<=9223372036854775807:=⟨by omega,by omega⟩
 have hri : -9223372036854775808<=i/\i<=9223372036854775807:=⟨by omega,by omega⟩
 have Hre:=jH hre;have Hri:=jH hri;have Hit:=jH h.has;have Hh:=jH h;have He:=jH (show rpB ⟨e,i,⟨x0,x1,x2,x3⟩⟩=l9 [e,i]++l9 [x0,x1,x2,x3]from rfl);clear h hre hri;go_enter Tryz.func143,Tryz.ntmps143;go_wp2_with(first|refine zbx hS ?_;clear hS;intro bO w hS|refine zlN hS ?_|go_at_call 193;refine(Qy7 Hh.out W _ _ hS).mono ?_;clear hS;rintro x w ⟨rfl,hS⟩);refine rf2 [0,1,0,4,15,31,0,64,255,511,1023,2047] (fun i=>i==4||i==5||i==8||i==9) [⟨some 4,some 5,fun nd=>R5 (nd 4) 2 2 [.I e,.I i] 3⟩,⟨some 5,some 9,fun nd=>byR (nd 5) (l9 [e,i])⟩,⟨some 8,none,fun nd=>byR (nd 8) (l9 [x0,x1,x2,x3])⟩,⟨some 9,none,fun nd=>row (nd 9) 1 5 ((l9 [e,i]).length+(l9 [x0,x1,x2,x3]).length) (u8s (l9 [e,i])++u8s (l9 [x0,x1,x2,x3]))⟩] [none] hS ?_;clear hS;intro nd;refine cR ?_;refine zc1 ?_;refine cR ?_;refine zc1 ?_;apply aI4;rfl;rfl;rfl;(focus(simp only[fD,fI,fJ,Act.eval,fE,fF,fG,fH,fK];try rfl));(exact esS);(exact rsS);rfl;rfl;rfl;rfl;(intro _;rfl);rfl;(intro _;rfl);(refine frS ?_);apply Az7;rfl;rfl;rfl;decide +kernel;(focus(simp only[fD,fI,fJ,Act.eval,fE,fF,fG,fH,fK];try rfl));(intro _;rfl);(intro F w hS;exact GX7 Hre.out Hri.out hS);(refine frS ?_);refine cR ?_;refine zcN ?_ (vs:=[.I x0,.I x1,.I x2,.I x3]) (hc:=by(intro F;exact d7.here rfl));apply Az7;rfl;rfl;rfl;decide +kernel;(focus(simp only[fD,fI,fJ,Act.eval,fE,fF,fG,fH,fK];try rfl));(intro _;rfl);(intro F w hS;exact fQ4 ⟨x0,x1,x2,x3⟩ Hit.out W w _ hS);(refine frS ?_);apply AJ7;rfl;rfl;rfl;(focus((conv=>lhs;whnf);try rfl));(focus((conv=>lhs;whnf);try rfl));(exact esS);(exact rsS);rfl;decide;rfl;(intro F w hS;exact Kp7 (k:=1) (by decide) hS (by exact A9));(focus(rw[AS7,Nat.mul_one]));(focus(exact Be7 _));(focus(unfold maxLen;omega));(focus(omega));(intro _;rfl);(intro _;rfl);(refine frS ?_)
 iterate 2 (refine cR ?_)
 refine Ac7 ?_;intro w hS;have hS2:St W [byR (nd 8) _,row (nd 9) 1 5 _ _,blk bO _ _,sats R] w:=hS;clear hS;have hS:=hS2.unpack [_,_,_];clear hS2;simp only[jK,jN]at hS;generalize nd 9=v9 at *;go_wp2_with fail;go_ret2;refine⟨v9,rfl,?_⟩;have hS1:=hS.drop;rw[<-AC7]at hS1;rw[He.out];exact(AR7 (by rw[jA]) hS1).s _
def eV4(k:Int):List (ByteArray×Vs)->Int
 | []=>0
 | x::l=>eh4 x.2 k+eV4 k l
def dN4(e:Ec)(k:Int):Int:=eV4 k e.vs
def ep4(e:Ec):Prop:=∀x∈e.vs,(∀o∈x.2.L,MayP o)/\x.2.L.length<=32
def ha4(o:Opn)(r:Rpl)(b:Bool)(k:Int):Int:=
 if b=true/\r.err=0 then(if o.kind=1\/o.kind=6 then(if k=o.item then o.cnt else 0)else if o.kind=2 then -(if k=o.item then o.cnt else 0)else 0)else 0
section
variable{e:Ec}{o:Opn}{n:Nat}
theorem Tv7(hm:A8 o=true)(h:o.kind=1\/o.kind=2\/o.kind=6):Kx o.item/\1<=o.cnt/\o.cnt<=1048576/\y5 o.aw=true:=by
 unfold A8 G6 ax4 at hm;simp only[jB]at hm;obtain⟨⟨_,_,_,_,_,hw⟩,hk⟩:=hm
 have hc:K7 o=true:=by
  unfold L8 at hk
  rcases h with h|h|h
  ·rw[if_pos h]at hk;unfold A7 at hk;simp only[jB]at hk;exact hk.1
  ·rw[if_neg (by omega),if_pos h]at hk;unfold ac4 at hk;simp only[jB]at hk;exact hk.2.1
  ·rw[if_neg (by omega),if_neg (by omega),if_neg (by omega),if_neg (by omega),if_neg (by omega),if_pos h]at hk;unfold A7 at hk;simp only[jB]at hk;exact hk.1
 obtain⟨h0,h4,c0,c1⟩:=EB7 hc;exact⟨⟨h0,by omega⟩,c0,c1,hw⟩
end
theorem gz4{W w:World}{R:List HP}{xb:Nat}(h:St W (xeB xb (.slice none 0 0) (.slice none 0 0) (.slice none 0 0) (.slice none 0 0)::R) w):St W (L6 xb ec0::R) w:=by have h1:=h.rowNil (k:=2) (T:=140);have h2:=h1.rowNil (k:=8) (T:=40);have h3:=h2.rowNil (k:=8) (T:=143);have h4:St W (sats []::_) w:=St.shutS [] h3;have h5:=h4.rowNil (k:=2) (T:=137);have h6:St W (xrP (.slice none 0 0) []::w5 []::xsP (.slice none 0 0) []::xtP (.slice none 0 0) []::xmP (.slice none 0 0) []::xeB xb (.slice none 0 0) (.slice none 0 0) (.slice none 0 0) (.slice none 0 0)::R) w:=h5;exact N9 (D:=[]) (d:=ec0) rfl (h6.s _)
abbrev gA4(b:Nat)(s0 s1 s2 s3:Int):HP:=blk b [.I s0,.I s1,.I s2,.I s3] 28
def TlR(W:World)(Lr:List HP)(eb xb sb:Nat)(xs:List Opn)(v:Value)(w:World):Prop:=
 ∃i:Nat,v=.I i/\i<=xs.length/\GOk (eE4 (xs.take i) ec0) (cC4 (xs.take i) ec0) i/\(∀k,Kx k->dN4 (cC4 (xs.take i) ec0) k<=i*1048576) /\
  St W (ecP eb (cC4 (xs.take i) ec0)::L6 xb (eE4 (xs.take i) ec0)::gA4 sb (dN4 (cC4 (xs.take i) ec0) 0) (dN4 (cC4 (xs.take i) ec0) 1) (dN4 (cC4 (xs.take i) ec0) 2) (dN4 (cC4 (xs.take i) ec0) 3)::Lr) w
end Go.Proofs.YtlmhakmoioogaaaGreat
end
section
namespace Go.Proofs.YtlmhakmoioogaaaGreat
open Go.Shelf
def Tryz.sortInts_ren:Go.Shelf.Ren:=⟨fun|189=>134|125=>177|257=>191|128=>224|129=>225|294=>239|295=>240|296=>241|297=>242|298=>243|299=>244|216=>245|300=>246|301=>247|328=>261|329=>252|330=>253|331=>262|332=>263|215=>178|343=>274|n=>n,fun|28=>62|3=>3|46=>195|0=>0|51=>295|53=>194|4=>4|183=>289|182=>288|131=>134|5=>5|9=>9|218=>318|222=>262|228=>332|229=>181|n=>n,fun|n=>n⟩
theorem Tryz.sortInts:Go.Proofs.Lays.n189 Tryz.prog Tryz.sortInts_ren:={
 mixed:=by kernel_rfl
 f125:=Tryz.func177.trans (congrArg some (by kernel_rfl))
 f128:=Tryz.func224.trans (congrArg some (by kernel_rfl))
 f129:=Tryz.func225.trans (congrArg some (by kernel_rfl))
 f189:=Tryz.func134.trans (congrArg some (by kernel_rfl))
 f215:=Tryz.func178.trans (congrArg some (by kernel_rfl))
 f216:=Tryz.func245.trans (congrArg some (by kernel_rfl))
 f257:=Tryz.func191.trans (congrArg some (by kernel_rfl))
 f294:=Tryz.func239.trans (congrArg some (by kernel_rfl))
 f295:=Tryz.func240.trans (congrArg some (by kernel_rfl))
 f296:=Tryz.func241.trans (congrArg some (by kernel_rfl))
 f297:=Tryz.func242.trans (congrArg some (by kernel_rfl))
 f298:=Tryz.func243.trans (congrArg some (by kernel_rfl))
 f299:=Tryz.func244.trans (congrArg some (by kernel_rfl))
 f300:=Tryz.func246.trans (congrArg some (by kernel_rfl))
 f301:=Tryz.func247.trans (congrArg some (by kernel_rfl))
 f328:=Tryz.func261.trans (congrArg some (by kernel_rfl))
 f329:=Tryz.func252.trans (congrArg some (by kernel_rfl))
 f330:=Tryz.func253.trans (congrArg some (by kernel_rfl))
 f331:=Tryz.func262.trans (congrArg some (by kernel_rfl))
 f332:=Tryz.func263.trans (congrArg some (by kernel_rfl))
 f343:=Tryz.func274.trans (congrArg some (by kernel_rfl))
 t0:=Tryz.underlying0
 a0:=Tryz.isAgg0
 z0:=Tryz.sizeOf0
 v0:=Tryz.zeroValue0
 t3:=Tryz.underlying3
 a3:=Tryz.isAgg3
 z3:=Tryz.sizeOf3
 v3:=Tryz.zeroValue3
 t4:=Tryz.underlying4
 a4:=Tryz.isAgg4
 z4:=Tryz.sizeOf4
 v4:=Tryz.zeroValue4
 t5:=Tryz.underlying5
 a5:=Tryz.isAgg5
 z5:=Tryz.sizeOf5
 v5:=Tryz.zeroValue5
 t9:=Tryz.underlying9
 a9:=Tryz.isAgg9
 z9:=Tryz.sizeOf9
 v9:=Tryz.zeroValue9
 t28:=Tryz.underlying62
 a28:=Tryz.isAgg62
 z28:=Tryz.sizeOf62
 v28:=Tryz.zeroValue62
 t46:=Tryz.underlying195
 a46:=Tryz.isAgg195
 z46:=Tryz.sizeOf195
 v46:=Tryz.zeroValue195
 t51:=Tryz.underlying295
 a51:=Tryz.isAgg295
 z51:=Tryz.sizeOf295
 v51:=Tryz.zeroValue295
 t53:=Tryz.underlying194
 a53:=Tryz.isAgg194
 z53:=Tryz.sizeOf194
 v53:=Tryz.zeroValue194
 t131:=Tryz.underlying134
 a131:=Tryz.isAgg134
 z131:=Tryz.sizeOf134
 v131:=Tryz.zeroValue134
 t182:=Tryz.underlying288
 a182:=Tryz.isAgg288
 z182:=Tryz.sizeOf288
 v182:=Tryz.zeroValue288
 t183:=Tryz.underlying289
 a183:=Tryz.isAgg289
 z183:=Tryz.sizeOf289
 v183:=Tryz.zeroValue289
 t218:=Tryz.underlying318
 a218:=Tryz.isAgg318
 z218:=Tryz.sizeOf318
 v218:=Tryz.zeroValue318
 t222:=Tryz.underlying262
 a222:=Tryz.isAgg262
 z222:=Tryz.sizeOf262
 v222:=Tryz.zeroValue262
 t228:=Tryz.underlying332
 a228:=Tryz.isAgg332
 z228:=Tryz.sizeOf332
 v228:=Tryz.zeroValue332
 t229:=Tryz.underlying181
 a229:=Tryz.isAgg181
 z229:=Tryz.sizeOf181
 v229:=Tryz.zeroValue181 }
end Go.Proofs.YtlmhakmoioogaaaGreat
end
section
namespace Go.Proofs.YtlmhakmoioogaaaGreat
open Go.Shelf Go.RowKit Go.Lib Go.Sort Go.Sl
abbrev eZ(z:Int):Value:=.I z
def KzR{ν:Type}(W:World)(ev:ν->Value)(X:List Int->HP)(r b:Nat)(l:List (Int×ν))(L:List HP)(w:World):Prop:=
 ∃(ss:List Int) (todo:List (Int×ν)),(ss++todo.map (·.1)).Perm (l.map (·.1))/\St W (itR eZ ev r b l todo::X ss::L) w
theorem gB4:F5 Tryz.prog 80=some (3,90):=by kernel_rfl
theorem Qz7{ν:Type}{ev:ν->Value}{m lp g b:Nat}{l:List (Int×ν)}{X:List Int->HP}{W w:World}{L:List HP}(hY:cJ4 Tryz.prog eZ l.length lp W X)(hS:St W (X []::blk g [.map (some b)] 80::c8 eZ ev b l::L) w):
  CallsIn Fence.wide m Tryz.prog 135 #[.func (.yield lp) #[] #[],.P g] w fun e w'=>(∃v,e=.returned v)/\∃ss,ss.Perm (l.map (·.1))/\St W (X ss::blk g [.map (some b)] 80::c8 eZ ev b l::L) w':=by
 refine callsIn_of_wp Tryz.func135 rfl trivial ?_ rfl;simp only[Tryz.ntmps135,List.size_toArray,jC,List.length_nil,Nat.reduceAdd,Nat.reduceSub,Array.replicate_succ,Array.replicate_zero,List.push_toArray,List.append_toArray,jN,jK]
 gi_wp2_with (first|((with_reducible apply Ee7 bY4 hS);rfl;rfl;rfl;decide +kernel;exact O8;go_frame)|(gi_at_range;refine Fn7 (ek:=eZ) (ev:=ev) hS rfl rfl rfl gB4 (by exact g8) ?_;clear hS;intro r w hS;go_frame)|gi_in)
 gi_loopw [] (fun wr=>KzR W ev X r b l (blk g [.map (some b)] 80::L) wr) (fun wr=>bV4 r b wr)
 case atStart=>exact⟨[],l,by simp,hS⟩
 case round=>
  clear hS;obtain⟨ss,todo,hp,hS⟩:=hrel;have hm:=BN7 hS
  gi_wp2_with (first|(gi_at_next;refine GN7 (ek:=eZ) (ev:=ev) hS rfl rfl rfl ?_ ?_)|gi_in)
  ·intro h0;subst h0
   gi_wp2
   go_end0;exact⟨⟨_,rfl⟩,ss,by simpa using hp,(cF4 hS).s _⟩
  ·intro y1 yv todo' w2 hp2 hy hS2 hen;have hlen:=hp.length_eq;have hlen2:=hp2.length_eq;simp only[jA,jM,jC]at hlen hlen2;have hp3:(ss++[y1]++todo'.map (·.1)).Perm (l.map (·.1)):=by rw[jS];refine List.Perm.trans ?_ hp;exact List.Perm.append_left ss (show(((y1,yv)::todo').map (fun x=>x.1)).Perm (todo.map (fun x=>x.1))from(hp2.map (fun x=>x.1)).symm)
   clear hS hy hp hp2;have hS:=hS2;clear hS2
   gi_wp2_with (first|((with_reducible apply GQ7 (k:=y1) (pre:=ss) hY hS);rfl;rfl;rfl;rfl;omega;exact g8;clear hS;intro w hS;go_frame)|gi_in)
   go_roundw
   case rel=>exact⟨ss++[y1],todo',hp3,hS.s _⟩
   case measure=>
    have hm2:=BN7 (hS.s (itR eZ ev r b l todo'::X (ss++[y1])::blk g [.map (some b)] 80::L));omega
def apZ(bB:Nat)(ss:List Int):HP:=fun f=>∃v,sep (blk bB [v] 62) (row v 1 3 ss.length (ss.map eZ)) f
theorem eF4{gf:Nat}{lb:Array Value}{S:List Int->Prop}{N:Nat}{W w:World}{R:List HP}(hN:N<=1000000000)(hseq0:bG4 Tryz.prog eZ N gf lb S W R)(eg:∀args w,(callFunc gf args).run Tryz.prog w=.ok (.enter gf args) w)(hS:St W R w):
  Calls Tryz.prog 190 #[.slice none 0 0,.func (.func gf) #[] lb] w fun e w'=>∃v ss,e=.returned v/\S ss/\St W (row v 1 3 ss.length (ss.map eZ)::R) w':=by
 refine(callsIn_wide (n:=5)).1 ?_;refine callsIn_of_wp_marks Tryz.func190 rfl trivial ?_ rfl;simp only[Tryz.ntmps190,List.size_toArray,jC,List.length_nil,Nat.reduceAdd,Nat.reduceSub,Array.replicate_succ,Array.replicate_zero,List.push_toArray,List.append_toArray,jN,jK]
 gi_wp2_with (first|((with_reducible apply Oq7 bY4 hS);rfl;rfl;rfl;rfl;clear hS;intro bB w hS;go_frame)|gi_in)
 have h0:St W (apZ bB []::R) w:=St.mkEx (.slice none 0 0) (St.join (St.swap (hS.rowNil (k:=1) (T:=3))));clear hS;refine ei4 rfl eg hseq0 h0 ?_ ?_
 ·clear hseq0 h0 eg;intro l m pre x L w hlt hS0;obtain⟨v,hS1⟩:=St.ex hS0;have hS:=St.split hS1;clear hS0 hS1;simp only[fA,fB,fC,Nat.reduceAdd]
  gi_wp2_with (first|gi_in)
  refine⟨_,St.join hS,?_⟩;clear hS;intro L2 w2 hS2;have hS:=St.split hS2;clear hS2
  gi_wp2_with (first|((with_reducible apply Ee7 (cT4 _) hS);rfl;rfl;rfl;decide +kernel;exact O8;go_frame)|((with_reducible apply Rp7 (cT4 _) hS);rfl;rfl;(focus(simp only[fD,fI,fJ,Act.eval,fE,fF,fG,fH,fK];try rfl));exact esS;exact rsS;rfl;rfl;rfl;rfl;clear hS;intro bS w hS;go_frame)|((with_reducible apply HI7 hS);rfl;rfl;rfl;rfl;exact esS;exact rsS;rfl;decide;exact g8;exact(Src.mk d7.whole).at hS;rfl;rfl;unfold maxLen;omega;omega;clear hS;intro v w hS;(have hv:=hS.rowVal;obtain⟨va,vc,rfl⟩:=hv);go_frame)|((with_reducible apply Or7 (cT4 _) hS);rfl;rfl;rfl;(focus((conv=>lhs;whnf);try rfl));kernel_rfl;rfl;rfl;exact cq4;simp only[jC,List.length_nil];omega;((simp only[List.set_cons_zero,List.set_cons_succ,C6]);rfl);clear hS;intro w hS;go_frame)|gi_in)
  have e1:(pre++[x]).length=pre.length+1:=by simp
  have e2:(pre++[x]).map eZ=pre.map eZ++[.I x]:=by rw[List.map_append];rfl
  have hS1:=hS.s (blk bB [_] _::row _ 1 _ _ _::L2);have hS2:St W (blk bB [.slice va (pre.length+1) vc] 62::row (.slice va (pre.length+1) vc) 1 3 (pre.length+1) (pre.map eZ++[.I x])::L2) w:=hS1;rw[<-e2]at hS2;rw[<-e1]at hS2;exact St.mkEx _ (St.join hS2)
 ·clear hseq0 h0 eg;intro D ss w hs hS0;obtain⟨v,hS1⟩:=St.ex hS0;have hS:=St.split hS1;clear hS0 hS1;have hK:=hS.get (b:=D) (.tail (.tail .head))
  gi_wp2_with (first|((with_reducible apply Ee7 bY4 hS);rfl;rfl;rfl;decide +kernel;exact O8;go_frame)|gi_in)
  refine⟨by simp,.inl ⟨_,_,rfl,run_takeDeferred hK,?_⟩⟩;have hS2:=(hS.s (ae4 D (.deferred (some []))::row v 1 3 ss.length (ss.map eZ)::R)).putObj (.deferred none);exact⟨_,results_tmp rfl _ _ _,v,ss,rfl,hs,hS2.drop⟩
theorem eq4{gf:Nat}{lb:Array Value}{S:List Int->Prop}{N:Nat}{W w:World}{R:List HP}(hN:N<=1000000000)(hseq:bG4 Tryz.prog eZ N gf lb S W R)(eg:∀args w,(callFunc gf args).run Tryz.prog w=.ok (.enter gf args) w)(hS:St W R w):
  Calls Tryz.prog 133 #[.func (.func gf) #[] lb] w fun e w'=>∃v ss,e=.returned v/\S ss/\St W (row v 1 3 ss.length (ss.map eZ)::R) w':=by
 go_enter Tryz.func133,Tryz.ntmps133;go_wp2_with(go_at_call 190;refine(eF4 hN hseq eg hS).mono ?_;clear hS;rintro e w ⟨v,ss,rfl,hs,hS⟩);go_ret;exact⟨v,ss,rfl,hs,hS⟩
def ag4(l:List Int):List Int:=l.mergeSort fun x y=>decide (x<=y)
theorem Cp7(l:List Int):(ag4 l).Perm l:=List.mergeSort_perm _ _
theorem DO7(l:List Int):(ag4 l).length=l.length:=(Cp7 l).length_eq
theorem OE7(l:List Int)(g cap:Nat)(junk:List Value)(h62:l.length<4611686018427387904)(W w:World)(L:List HP)(hS:St W (blk g (l.map eZ++junk) 3::L) w):
  Calls Tryz.prog 134 #[.S g l.length cap] w fun e w'=>e=.returned (.tuple #[])/\St W (blk g ((ag4 l).map eZ++junk) 3::L) w':=by
 have hgt:=hS.get (b:=g) .head;have hblk:g<w.heap.size:=(Array.getElem?_eq_some_iff.1 hgt).1
 have hH:Holds (Value.int .i64) w g 0 l.toArray:=by
  intro j hj;have hj2:j<l.length:=by simpa using hj
  refine⟨hS.cell .head ?_,hS.free .head⟩;rw[Nat.zero_add,List.getElem?_append_left (by simpa using hj2),List.getElem?_map,jG hj2];simp[hj2]
 have hcon:=Any.slices_Sort_int Tryz.sortInts g 0 cap l w hH hblk h62;change Calls Tryz.prog 134 _ _ _ at hcon;refine hcon.mono ?_;rintro e w' ⟨rfl,n,os,rfl⟩;refine⟨rfl,?_⟩;refine St.grow ?_ os;have hSd:St W (blk g (l.map eZ++junk) 3::L) (Sort.ahead w n):=⟨hS.os,hS.tape,hS.output,hS.sat⟩
 refine hSd.putO (w':=putRow (Value.int .i64) (Sort.ahead w n) g 0 (ag4 l).toArray) (o':=.cells ((ag4 l).map eZ++junk).toArray 3 (0,0)) .head rfl rfl rfl fun k=>?_
 show((Sort.ahead w n).heap.modify g _)[k]? = _
 rw[Array.getElem?_modify];by_cases hk:k=g
 ·subst hk;rw[if_pos rfl,if_pos rfl];have hgt':(Sort.ahead w n).heap[k]? = some (.cells (l.map eZ++junk).toArray 3 (0,0)):=hgt;rw[hgt'];simp only[Option.map_some,Sort.onCells]
  congr 2
  have hsl:=DO7 l;apply Array.ext_getElem?;intro t;unfold Sort.putCells;simp only[Array.getElem?_mapIdx,List.getElem?_toArray,List.size_toArray,Nat.zero_le,true_and,Nat.zero_add,Nat.sub_zero];by_cases ht:t<l.length
  ·have ht2:t<(ag4 l).length:=by omega
   rw[List.getElem?_append_left (by simpa using ht),List.getElem?_append_left (by simpa using ht2),List.getElem?_map,List.getElem?_map,jG ht,jG ht2];simp[ht2]
  ·have h2:(l.map eZ++junk)[t]? = ((ag4 l).map eZ++junk)[t]? := by
    rw[List.getElem?_append_right (by simpa using ht),List.getElem?_append_right (by rw[jM];omega),jM,jM,hsl]
   rw[<-h2];have ht3:¬t<(ag4 l).length:=by omega
   simp[ht3]
 ·rw[if_neg (fun h=>hk h.symm),if_neg hk]
theorem KP7(W w:World)(L:List HP)(hS:St W L w):
  Calls Tryz.prog 239 #[.slice none 0 0,.I 0,.I 0] w fun e w'=>e=.returned (.tuple #[])/\St W L w':=by
 go_enter Tryz.func239,Tryz.ntmps239;go_wp2_with fail
 go_loopw [6] (fun v wr=>v=.I 1/\St W L wr) (fun _ _=>0)
 case atStart=>exact⟨rfl,hS⟩
 case round=>
  clear hS;obtain⟨rfl,hS⟩:=hrel;go_wp2_with fail;go_end0;exact⟨rfl,hS⟩
theorem QA7(n:Int)(W w:World)(L:List HP)(hS:St W L w):
  Calls Tryz.prog 191 #[.slice none 0 0,.I 0,.I 0,.I n] w fun e w'=>e=.returned (.tuple #[])/\St W L w':=by
 go_enter Tryz.func191,Tryz.ntmps191;go_wp2_with fail
 go_loopw [1,2] (fun v1 v2 wr=>v1=.I 0/\v2=.I 0/\St W L wr) (fun _ _ _=>0)
 case atStart=>exact⟨rfl,rfl,hS⟩
 case round=>
  clear hS;obtain⟨rfl,rfl,hS⟩:=hrel;go_wp2_with(first|go_at_call 239;refine(KP7 W _ _ hS).mono ?_;clear hS;rintro e w ⟨rfl,hS⟩);refine bodyPost_ret (results_none rfl _ _ _) rfl ?_;exact⟨rfl,hS⟩
theorem OF7(W w:World)(L:List HP)(hS:St W L w):
  Calls Tryz.prog 134 #[.slice none 0 0] w fun e w'=>e=.returned (.tuple #[])/\St W L w':=by
 have hl:∀w:World,Calls Tryz.prog 177 #[.int .u64 0] w fun e w'=>(∃l:Int,e=.returned (.I l))/\w'=w:=fun w=>
  (Any.bits_Len Tryz.bitsLenW 0 w (by omega) (by omega)).mono fun _ _ ⟨he,hw⟩=>⟨⟨_,he⟩,hw⟩
 go_enter Tryz.func134,Tryz.ntmps134;go_wp2_with(first|go_at_call 177;refine(hl _).mono ?_;rintro e w ⟨⟨l,rfl⟩,rfl⟩|go_at_call 191;refine(QA7 _ W _ _ hS).mono ?_;clear hS;rintro e w ⟨rfl,hS⟩);go_end0;exact⟨rfl,hS⟩
theorem HM7{l l':List Int}(h:l.Perm l'):ag4 l=ag4 l':=by
 have hp:∀m:List Int,(ag4 m).Pairwise fun x y=>decide (x<=y)=true:=fun m=>List.pairwise_mergeSort (fun a b c h1 h2=>by simp only[decide_eq_true_eq]at *;omega) (fun a b=>by simp only[Bool.or_eq_true,decide_eq_true_eq];omega) m
 exact List.Perm.eq_of_pairwise (fun a b _ _ h1 h2=>by simp only[decide_eq_true_eq]at h1 h2;omega) (hp l) (hp l') (((Cp7 l).trans h).trans (Cp7 l').symm)
theorem eG4{gf:Nat}{lb:Array Value}{K:List Int}{W w:World}{R:List HP}(hN:K.length<=1000000000)(hseq:bG4 Tryz.prog eZ K.length gf lb (fun ss=>ss.Perm K) W R)(eg:∀args w,(callFunc gf args).run Tryz.prog w=.ok (.enter gf args) w)(hS:St W R w):
  Calls Tryz.prog 68 #[.func (.func gf) #[] lb] w fun e w'=>∃v,e=.returned v/\St W (row v 1 3 K.length ((ag4 K).map eZ)::R) w':=by
 go_enter Tryz.func68,Tryz.ntmps68;go_wp2_with(go_at_call 133;refine(eq4 hN hseq eg hS).mono ?_;clear hS;rintro e w ⟨v,ss,rfl,hp,hS⟩)
 rcases hS.rowOpen with ⟨rfl,h0,hc,hS1⟩|⟨g,cap,junk,rfl,hn1,hm1,hj,hl,hS1⟩
 ·refine(OF7 W _ _ hS1).mono ?_;clear hS;rintro e w ⟨rfl,hS⟩;go_wp2_with fail;go_ret;obtain rfl:ss=[]:=List.eq_nil_of_length_eq_zero h0;obtain rfl:K=[]:=List.Perm.eq_nil hp.symm;have e:ag4 []=[]:=by unfold ag4;simp
  refine⟨.slice none 0 0,rfl,?_⟩;rw[e];exact hS.rowNil
 ·refine(OE7 ss g cap junk (by rw[hp.length_eq];omega) W _ _ hS1).mono ?_;clear hS hS1;rintro e w ⟨rfl,hS⟩;have hl2:=DO7 ss;have hf:((ag4 ss).map eZ).length=(ss.map eZ).length:=by rw[jM,jM,hl2]
  have hS1:=hS.rowShut (k:=1) (n:=ss.length) (cap:=cap) hn1 hm1 (by rw[jA,hf,<-jA];exact hj) (by rw[hf];exact hl);have hk:K.length=ss.length:=hp.length_eq.symm;have hfin:St W (row (.S g ss.length cap) 1 3 K.length ((ag4 K).map eZ)::R) w:=by rw[hk,<-HM7 hp];exact hS1
  have Hfin:=jH hfin;clear hp hl2 hf hn1 hm1 hj hl hk hfin hS hS1;go_wp2_with fail;go_ret;exact⟨_,rfl,Hfin.out⟩
theorem MY7(mb:Option Nat)(W w:World)(L:List HP)(hS:St W L w):
  Calls Tryz.prog 69 #[.map mb] w fun e w'=>∃g,e=.returned (.func (.func 135) #[] #[.P g])/\St W (blk g [.map mb] 80::L) w':=by
 go_enter Tryz.func69,Tryz.ntmps69;go_wp2_with(refine zbx hS ?_;clear hS;intro b w hS);go_ret;exact⟨b,rfl,hS⟩
theorem JJ7:∀args w,(callFunc 135 args).run Tryz.prog w=.ok (.enter 135 args) w:=enters_of Tryz.func135 (by kernel_rfl) rfl
theorem KQ7{ν:Type}{ev:ν->Value}{g b:Nat}{l:List (Int×ν)}{W:World}{R:List HP}:
  bG4 Tryz.prog eZ (l.map (·.1)).length 135 #[.P g] (fun ss=>ss.Perm (l.map (·.1))) W (blk g [.map (some b)] 80::c8 eZ ev b l::R):=
 fun lp m X w hT hS=>Qz7 (by rw[jM]at hT;exact hT) hS
end Go.Proofs.YtlmhakmoioogaaaGreat
end
section
namespace Go.Proofs.YtlmhakmoioogaaaGreat
open Go.RowKit Go.Sl
def br4(x:Int×Int):Prop:=(1<=x.1/\x.1<=1048576)/\1<=x.2/\x.2<=1099511627776
structure TnOk(t:Tns):Prop where
 w:br4 (t.client,t.seq)
 ak:t.ak.size<=16
 aw:t.aw.size<=16
 tk:t.tk.size<=16
 tw:t.tw.size<=16
 i0:0<=t.item
 i1:t.item<4
 c0:1<=t.cnt
 c1:t.cnt<=1048576
structure EnOk(e:Ec)(n:Nat):Prop where
 ok:EOk e n
 vk:∀x∈e.vs,x.1.size<=16
 sw:∀x∈e.ss,br4 (x.1,x.2.1)
 sr:∀x∈e.ss,RpOk x.2.2
 tw:∀x∈e.ts,TnOk x.2/\x.1=(x.2.client,x.2.seq)
 aw:∀x∈e.ar,br4 x.1
 lv:e.vs.length<=n
 ls:e.ss.length<=n
 lt:e.ts.length<=n
 la:e.ar.length<=n
theorem EnOk.on{e:Ec}{n:Nat}(h:EnOk e n):EnOk e (n+1):=⟨fun x hx=>(h.ok x hx).on,h.vk,h.sw,h.sr,h.tw,h.aw,Nat.le_succ_of_le h.lv,Nat.le_succ_of_le h.ls,Nat.le_succ_of_le h.lt,Nat.le_succ_of_le h.la⟩
theorem z40:(0:Int)<=1099511627776:=by decide
theorem LY7{u:ByteArray}(h:y5 u=true):u.size<=16:=Ds7 h
theorem OG7{o:Opn}(hm:A8 o=true):br4 (o.client,o.seq)/\o.ak.size<=16/\o.aw.size<=16:=by unfold A8 G6 ax4 at hm;simp only[jB,decide_eq_true_eq]at hm;obtain⟨⟨h1,h2,h3,h4,h5,h6⟩,_⟩:=hm;exact⟨⟨⟨h1,h2⟩,h3,h4⟩,LY7 h5,LY7 h6⟩
theorem GY7{o:Opn}(hm:A8 o=true)(hk:o.kind=2):TnOk (dd4 o):=by obtain⟨h1,h2,h3⟩:=OG7 hm;have hc:=Tv7 hm (.inr (.inl hk));unfold A8 L8 at hm;rw[if_neg (by omega),if_pos hk]at hm;unfold ac4 ax4 at hm;simp only[jB,decide_eq_true_eq]at hm;obtain⟨_,⟨h4,h5⟩,_⟩:=hm;exact⟨h1,h2,h3,LY7 h4,LY7 h5,hc.1.1,by have:=hc.1.2;show o.item<4;omega,hc.2.1,hc.2.2.1⟩
def fT4:List (ByteArray×Vs)->Nat
 | []=>0
 | x::l=>x.2.ps.length+fT4 l
structure EnL(e:Ec)(n:Nat):Prop where
 en:EnOk e n
 nd:(e.vs.map (·.1)).Nodup
 ln:fT4 e.vs<=100*n
theorem Sq7{p:Ps}{L:List Ord}{n:Int}{N:Nat}(hw:PsW p N)(hL:∀x∈L,MayP x)(hl:L.length<=32):(I9 p L n).length<=70*p.length+2300:=by
 have h1:=Ap7 ((hdL p).length:Int);have h2:=Ap7 (L.length:Int);have h3:=Ap7 n;have h4:=BY7 af4 (hdL p) fun x hx=>EI7 x (by have hk:x.who∈(hdL p).map Hd.who:=List.mem_map_of_mem hx;rw[GT7]at hk;obtain⟨y,hy,e⟩:=Ju7 hk;rw[<-e];exact Ds7 (hw.who y hy))
 have h5:=BY7 P5 L fun x hx=>EJ7 x (hL x hx).who1
 have h6:=BW7 p;unfold I9;rw[jA,jA,jA,jA];omega
def enK(e:Ec)(k:ByteArray):List Int:=B6 (y7 k)++B6 (I9 (atV e k).ps (atV e k).L (atV e k).n)
theorem EL7{α:Type}(f:α->List Int)(xs:List α)(k:Nat):((xs.take k).flatMap f).length<=(xs.flatMap f).length:=by
 have e:xs.flatMap f=(xs.take k).flatMap f++(xs.drop k).flatMap f:=by rw[<-List.flatMap_append,List.take_append_drop]
 rw[e,jA];omega
theorem QB7{ν:Type}{ev:ν->Value}{m lp g b:Nat}{l:List ((Int×Int)×ν)}{X:List (Int×Int)->HP}{W w:World}{L:List HP}(hY:cJ4 Tryz.prog eWh l.length lp W X)(hS:St W (X []::blk g [.map (some b)] 82::c8 eWh ev b l::L) w):
  CallsIn Fence.wide m Tryz.prog 137 #[.func (.yield lp) #[] #[],.P g] w fun e w'=>(∃v,e=.returned v)/\∃ss,ss.Perm (l.map (·.1))/\St W (X ss::blk g [.map (some b)] 82::c8 eWh ev b l::L) w':=by
 refine callsIn_of_wp Tryz.func137 rfl trivial ?_ rfl;simp only[Tryz.ntmps137,List.size_toArray,jC,List.length_nil,Nat.reduceAdd,Nat.reduceSub,Array.replicate_succ,Array.replicate_zero,List.push_toArray,List.append_toArray,jN,jK]
 gi_wp2_with (first|((with_reducible apply Ee7 bY4 hS);rfl;rfl;rfl;decide +kernel;exact O8;go_frame)|(gi_at_range;refine Fn7 (ek:=eWh) (ev:=ev) hS rfl rfl rfl (show F5 Tryz.prog 82=some (94,4)by kernel_rfl) (by exact g8) ?_;clear hS;intro r w hS;go_frame)|gi_in)
 gi_loopw [] (fun wr=>KyR W ev X r b l (blk g [.map (some b)] 82::L) wr) (fun wr=>bV4 r b wr)
 case atStart=>exact⟨[],l,by simp,hS⟩
 case round=>
  clear hS;obtain⟨ss,todo,hp,hS⟩:=hrel;have hm:=BN7 hS
  gi_wp2_with (first|(gi_at_next;refine GN7 (ek:=eWh) (ev:=ev) hS rfl rfl rfl ?_ ?_)|gi_in)
  ·intro h0;subst h0
   gi_wp2
   go_end0;exact⟨⟨_,rfl⟩,ss,by simpa using hp,(cF4 hS).s _⟩
  ·intro y1 y2 yv todo' w2 hp2 hy hS2 hen;have hlen:=hp.length_eq;have hlen2:=hp2.length_eq;simp only[jA,jM,jC]at hlen hlen2;have hp3:(ss++[(y1,y2)]++todo'.map (·.1)).Perm (l.map (·.1)):=by rw[jS];refine List.Perm.trans ?_ hp;exact List.Perm.append_left ss (show((((y1,y2),yv)::todo').map (fun x=>x.1)).Perm (todo.map (fun x=>x.1))from(hp2.map (fun x=>x.1)).symm)
   clear hS hy hp hp2;have hS:=hS2;clear hS2
   gi_wp2_with (first|((with_reducible apply GP7 bY4 hS);rfl;rfl;exact zsS;clear hS;intro bK w hS;go_frame)|((with_reducible apply KF7 bY4 hS);rfl;rfl;rfl;(focus((conv=>lhs;whnf);try rfl));kernel_rfl;rfl;exact cq4;simp only[jC,List.length_nil];omega;((simp only[List.set_cons_zero,List.set_cons_succ,C6]);rfl);clear hS;intro w hS;go_frame)|((with_reducible apply KE7 bY4 hS);rfl;rfl;rfl;decide +kernel;kernel_rfl;exact x9;go_frame)|((with_reducible apply GQ7 (k:=(y1,y2)) (pre:=ss) hY hS);rfl;rfl;rfl;rfl;omega;exact g8;clear hS;intro w hS;go_frame)|gi_in)
   go_roundw
   case rel=>exact⟨ss++[(y1,y2)],todo',hp3,hS.s _⟩
   case measure=>
    have hm2:=BN7 (hS.s (itR eWh ev r b l todo'::X (ss++[(y1,y2)])::blk g [.map (some b)] 82::L));omega
theorem MZ7(mb:Option Nat)(W w:World)(L:List HP)(hS:St W L w):
  Calls Tryz.prog 71 #[.map mb] w fun e w'=>∃g,e=.returned (.func (.func 137) #[] #[.P g])/\St W (blk g [.map mb] 82::L) w':=by
 go_enter Tryz.func71,Tryz.ntmps71;go_wp2_with(refine zbx hS ?_;clear hS;intro b w hS);go_ret;exact⟨b,rfl,hS⟩
theorem JK7:∀args w,(callFunc 137 args).run Tryz.prog w=.ok (.enter 137 args) w:=enters_of Tryz.func137 (by kernel_rfl) rfl
theorem KR7{ν:Type}{ev:ν->Value}{g b:Nat}{l:List ((Int×Int)×ν)}{W:World}{R:List HP}:
  bG4 Tryz.prog eWh (l.map (·.1)).length 137 #[.P g] (fun ss=>ss.Perm (l.map (·.1))) W (blk g [.map (some b)] 82::c8 eWh ev b l::R):=
 fun lp m X w hT hS=>QB7 (by rw[jM]at hT;exact hT) hS
theorem GZ7(s:ByteArray):B6 (y7 s)=y8 s:=by unfold B6 y8;rw[AF7]
theorem QC7(wb:Nat)(d r:List Int)(a:Option Addr)(c b c2:Nat)(hd:d.length<=30000000)(hr:r.length<=5000000)(W w:World)(R:List HP)(hS:St W (wrR wb d::blk b [.slice a r.length c] 63::byR (.slice a r.length c) r::R) w):
  Calls Tryz.prog 66 #[.P wb,.S b 1 c2] w fun e w'=>e=.returned (.tuple #[])/\St W (wrR wb (d++B6 r)::blk b [.slice a r.length c] 63::byR (.slice a r.length c) r::R) w':=by
 have hsr:Src (byR (.slice a r.length c) r::R) (.slice a r.length c) r.length (u8s r):=St.src (by decide) hS.drop.drop
 have h:=KM7 wb d [(a,c,r)] b 0 c2 hd (by simp) (fun x hx=>by rw[List.mem_singleton.1 hx];exact hr) W w (blk b [.slice a r.length c] 63::byR (.slice a r.length c) r::R) (fun i hi=>by
  obtain rfl:i=0:=by simp at hi;omega
  exact e8.here rfl) (fun x hx=>by rw[List.mem_singleton.1 hx];exact hsr.there) hS
 have e:aD4 [(a,c,r)]=B6 r:=by unfold aD4;simp
 rw[e]at h;exact h
theorem QD7(wb:Nat)(d:List Int)(s:ByteArray)(g9 c9:Nat)(r:List Int)(a:Option Addr)(c b c2:Nat)(hd:d.length<=30000000)(hs:s.size<=100)(hr:r.length<=5000000)(W w:World)(R:List HP)(hS:St W (wrR wb d::blk b [.S g9 s.size c9,.slice a r.length c] 63::sbR g9 s::byR (.slice a r.length c) r::R) w):
  Calls Tryz.prog 66 #[.P wb,.S b 2 c2] w fun e w'=>e=.returned (.tuple #[])/\St W (wrR wb (d++(B6 (y7 s)++B6 r))::blk b [.S g9 s.size c9,.slice a r.length c] 63::sbR g9 s::byR (.slice a r.length c) r::R) w':=by
 have hsr:Src (byR (.slice a r.length c) r::R) (.slice a r.length c) r.length (u8s r):=St.src (by decide) hS.drop.drop.drop;have hss:∀L:List HP,Src (sbR g9 s::L) (rbV (some ⟨g9,0,none⟩,c9,y7 s)) (y7 s).length (u8s (y7 s)):=fun L=>Src.mk d7.sb
 have h:=KM7 wb d [(some ⟨g9,0,none⟩,c9,y7 s),(a,c,r)] b 0 c2 hd (by simp) (fun x hx=>by
  rcases List.mem_cons.1 hx with rfl|hx
  ·show(y7 s).length<=_;rw[AF7];omega
  ·rw[List.mem_singleton.1 hx];exact hr) W w (blk b [.S g9 s.size c9,.slice a r.length c] 63::sbR g9 s::byR (.slice a r.length c) r::R) (fun i hi=>by
  have h2:i=0\/i=1:=by simp at hi;omega
  rcases h2 with rfl|rfl
  ·show e8 _ b 0 (.S g9 (y7 s).length c9)
   rw[AF7];exact e8.here rfl
  ·exact e8.here rfl) (fun x hx=>by
  rcases List.mem_cons.1 hx with rfl|hx
  ·exact(hss _).there
  ·rw[List.mem_singleton.1 hx];exact hsr.there.there) hS
 have e:aD4 [(some ⟨g9,0,none⟩,c9,y7 s),(a,c,r)]=B6 (y7 s)++B6 r:=by unfold aD4;simp
 rw[e]at h;exact h
abbrev sbV(g:Nat)(s:ByteArray)(c:Nat):Value:=.S g s.size c
theorem QE7(wb:Nat)(d:List Int)(s1 s2 s3 s4:ByteArray)(g1 g2 g3 g4 c1 c2 c3 c4 b c:Nat)(hd:d.length<=30000000)(h1:s1.size<=100)(h2:s2.size<=100)(h3:s3.size<=100)(h4:s4.size<=100)(W w:World)(R:List HP)(hS:St W (wrR wb d::blk b [sbV g1 s1 c1,sbV g2 s2 c2,sbV g3 s3 c3,sbV g4 s4 c4] 63::sbR g1 s1::sbR g2 s2::sbR g3 s3::sbR g4 s4::R) w):
  Calls Tryz.prog 66 #[.P wb,.S b 4 c] w fun e w'=>e=.returned (.tuple #[])/\St W (wrR wb (d++(B6 (y7 s1)++(B6 (y7 s2)++(B6 (y7 s3)++B6 (y7 s4)))))::blk b [sbV g1 s1 c1,sbV g2 s2 c2,sbV g3 s3 c3,sbV g4 s4 c4] 63::sbR g1 s1::sbR g2 s2::sbR g3 s3::sbR g4 s4::R) w':=by
 have hss:∀(g c:Nat) (s:ByteArray) (L:List HP),Src (sbR g s::L) (rbV (some ⟨g,0,none⟩,c,y7 s)) (y7 s).length (u8s (y7 s)):=fun g c s L=>Src.mk d7.sb
 have h:=KM7 wb d [(some ⟨g1,0,none⟩,c1,y7 s1),(some ⟨g2,0,none⟩,c2,y7 s2),(some ⟨g3,0,none⟩,c3,y7 s3),(some ⟨g4,0,none⟩,c4,y7 s4)] b 0 c hd (by simp) (fun x hx=>by
  simp only[List.mem_cons,List.not_mem_nil,or_false]at hx
  rcases hx with rfl|rfl|rfl|rfl
  all_goals
   dsimp only;rw[AF7];omega) W w (blk b [sbV g1 s1 c1,sbV g2 s2 c2,sbV g3 s3 c3,sbV g4 s4 c4] 63::sbR g1 s1::sbR g2 s2::sbR g3 s3::sbR g4 s4::R) (fun i hi=>by
  have h2:i=0\/i=1\/i=2\/i=3:=by simp at hi;omega
  rcases h2 with rfl|rfl|rfl|rfl
  ·show e8 _ b 0 (.S g1 (y7 s1).length c1)
   rw[AF7];exact e8.here rfl
  ·show e8 _ b 1 (.S g2 (y7 s2).length c2)
   rw[AF7];exact e8.here rfl
  ·show e8 _ b 2 (.S g3 (y7 s3).length c3)
   rw[AF7];exact e8.here rfl
  ·show e8 _ b 3 (.S g4 (y7 s4).length c4)
   rw[AF7];exact e8.here rfl) (fun x hx=>by
  simp only[List.mem_cons,List.not_mem_nil,or_false]at hx
  rcases hx with rfl|rfl|rfl|rfl
  ·exact(hss _ _ _ _).there
  ·exact(hss _ _ _ _).there.there
  ·exact(hss _ _ _ _).there.there.there
  ·exact(hss _ _ _ _).there.there.there.there) hS
 have e:aD4 [(some ⟨g1,0,none⟩,c1,y7 s1),(some ⟨g2,0,none⟩,c2,y7 s2),(some ⟨g3,0,none⟩,c3,y7 s3),(some ⟨g4,0,none⟩,c4,y7 s4)]=B6 (y7 s1)++(B6 (y7 s2)++(B6 (y7 s3)++B6 (y7 s4))):=by unfold aD4;simp
 rw[e]at h;exact h
end Go.Proofs.YtlmhakmoioogaaaGreat
end
