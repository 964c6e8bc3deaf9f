/-
  The document's Apply.
-/
import Derived.Test.YtienbkdjkjbelaaGreatJoAM5
import Derived.Test.YtienbkdjkjbelaaGreatJoAM28
import Derived.Test.YtienbkdjkjbelaaGreatJoAM29
import Derived.Test.YtienbkdjkjbelaaGreatJoAM33
import Derived.Test.YtienbkdjkjbelaaGreatJoAM36
import Derived.Test.YtienbkdjkjbelaaGreatJoAM38
set_option maxHeartbeats 16000000
set_option maxRecDepth 100000
set_option linter.unusedSimpArgs false
set_option linter.unusedVariables false
section
namespace Go.Proofs.YtienbkdjkjbelaaGreat
open Go.RowKit Go.Sl
section
variable{d:Ec}{xb:Nat}{v1 v2 v3 v4:Value}{D A B:Ev}{V V':Vs}{i:Nat}{kd cl sq:Int}{ak aw tk tw:ByteArray}{it ct pr:Int}{bu:Bool}{id:Int}{W w:World}{R:List HP}{r0 r1 r2 r3 r4 r5:Int}{b:Bool}
theorem ds4(hk:TsK d.ts)(hp:aB4 d ⟨kd,cl,sq,ak,aw,tk,tw,it,ct,pr,bu,id⟩=(⟨r0,r1,⟨r2,r3,r4,r5⟩⟩,b))(hS:St W (xeL xb v1 v2 v3 v4 d R) w):
  Calls Tryz.prog 56 #[.P xb,oV kd cl sq ak aw tk tw it ct pr bu id] w fun e w'=>e=.returned (.tuple #[rV r0 r1 r2 r3 r4 r5,.bool b])/\St W (xeL xb v1 v2 v3 v4 d R) w':=by
 unfold aB4 at hp;dsimp only at hp
 cases hm:A5 ⟨kd,cl,sq,ak,aw,tk,tw,it,ct,pr,bu,id⟩with
 | false=>
  rw[hm,if_pos rfl]at hp
  cases hp
  exact Op7 hm hS
 | true=>
  rw[hm,if_neg (by exact Bool.noConfusion)]at hp;by_cases h6:kd=6
  ·subst h6;rw[if_pos rfl]at hp
   cases hp
   exact Mw7 hm rfl hS
  ·rw[if_neg h6]at hp;by_cases h7:kd=7
   ·subst h7;rw[if_pos rfl]at hp
    cases hp
    exact IP7 hm hk hS
   ·rw[if_neg h7]at hp;exact KI7 hm h6 h7 hp hS
abbrev cQ4(xb:Nat)(v1 v2 v3 v4:Value)(D:Ev)(d:Ec)(R:List HP):List HP:=xeB xb v1 v2 v3 v4::xrP v1 D::w6 D::xsP v2 d.ss::xtP v3 d.ts::xmP v4 d.ar::R
theorem KJ7(hk:TsK d.ts)(hpk:aB4 d ⟨kd,cl,sq,ak,aw,tk,tw,it,ct,pr,bu,id⟩=(⟨r0,r1,⟨r2,r3,r4,r5⟩⟩,true))(hS:St W (cQ4 xb v1 v2 v3 v4 D d R) w):
  Calls Tryz.prog 25 #[.P xb,oV kd cl sq ak aw tk tw it ct pr bu id] w fun e w'=>e=.returned (.tuple #[rV r0 r1 r2 r3 r4 r5,.bool false])/\St W (cQ4 xb v1 v2 v3 v4 D d R) w':=by
 have Hk:=jH hk;have Hpk:=jH hpk;clear hk hpk;go_enter Tryz.func25,Tryz.ntmps25;go_wp2_with(first|refine zbx hS ?_;clear hS;intro bO w hS|(fail_if_success (have:=gA));(refine zal hS ?_;clear hS;have gA:Nat:=0;intro bR w hS)|(have:=gA);(fail_if_success (have:=gB));(refine zal hS ?_;clear hS;have gB:Nat:=0;intro bI w hS)|refine zlN hS ?_|refine zsN hS ?_;clear hS;intro w hS|go_at_call 56;refine(ds4 (d:=d) Hk.out Hpk.out (hS.s (xeB xb v1 v2 v3 v4::xsP v2 d.ss::xtP v3 d.ts::xmP v4 d.ar::xrP v1 D::w6 D::blk bR _ _::blk bO _ _::R))).mono ?_;clear hS;rintro e w ⟨rfl,hS⟩);apply Ac7;rfl;rfl;rfl;rfl;exact hS;decide +kernel;(exact p9);kernel_rfl;exact⟨rfl,hS.s _⟩
theorem Cm7{T:List ((Int×Int)×Tns)}(h6:(kd==6)=false)(h7:(kd==7)=false)(hk:TsK d.ts)(hls:d.ss.length<=1000000)(hAB:A.length+B.length<=900000)(hpk:aB4 d ⟨kd,cl,sq,ak,aw,tk,tw,it,ct,pr,bu,id⟩=(rp0,false))
  (hdo:∀(w:World) (R:List HP),St W (N9 xb v2 v3 v4 D::xtP v3 d.ts::R) w->Calls Tryz.prog 61 #[.P xb,oV kd cl sq ak aw tk tw it ct pr bu id] w fun e w'=>∃vb v,e=.returned (rV r0 r1 r2 r3 r4 r5)/\St W (N9 xb v2 v v4 (A++(ak,(vb,V'))::B)::xtP v T::R) w')
  (hS:St W (cQ4 xb v1 v2 v3 v4 D d R) w):
  Calls Tryz.prog 25 #[.P xb,oV kd cl sq ak aw tk tw it ct pr bu id] w fun e w'=>∃vb v8 v9,e=.returned (.tuple #[rV r0 r1 r2 r3 r4 r5,.bool true])/\St W (N9 xb v8 v9 v4 (clF (A++(ak,(vb,V'))::B))::xsP v8 (plS ltI d.ss cl (sq,⟨r0,r1,⟨r2,r3,r4,r5⟩⟩))::xtP v9 T::xmP v4 d.ar::R) w':=by
 have Hk:=jH hk;have Hpk:=jH hpk;have Hdo:=jH hdo;clear hk hpk hdo;go_enter Tryz.func25,Tryz.ntmps25;go_wp2_with(first|refine zbx hS ?_;clear hS;intro bO w hS|(fail_if_success (have:=gA));(refine zal hS ?_;clear hS;have gA:Nat:=0;intro bR w hS)|(have:=gA);(fail_if_success (have:=gB));(refine zal hS ?_;clear hS;have gB:Nat:=0;intro bI w hS)|refine zl1 hS ?_|refine zlN hS ?_|refine zsN hS ?_;clear hS;intro w hS|go_at_call 56;refine(ds4 (d:=d) Hk.out Hpk.out (hS.s (xeB xb v1 v2 v3 v4::xsP v2 d.ss::xtP v3 d.ts::xmP v4 d.ar::xrP v1 D::w6 D::blk bR _ _::blk bO _ _::R))).mono ?_;clear hS;rintro e w ⟨rfl,hS⟩|go_at_call 61;have hS9:=aG4 (hS.s (xeB xb v1 v2 v3 v4::xrP v1 D::w6 D::xtP v3 d.ts::xsP v2 d.ss::xmP v4 d.ar::blk bI _ _::blk bR _ _::blk bO _ _::R));clear hS;refine(Hdo.out _ _ hS9).mono ?_;clear hS9;rintro e w ⟨vb,v9,rfl,hS⟩|go_at_call 62;have hS9:=bs4 (hS.s (N9 xb v2 v9 v4 (A++(ak,(vb,V'))::B)::xtP v9 T::xsP v2 d.ss::xmP v4 d.ar::blk bI _ _::blk bR _ _::blk bO _ _::R));clear hS;obtain⟨s1,hS8⟩:=hS9;refine(dy4 d.ss hls cl sq ⟨r0,r1,⟨r2,r3,r4,r5⟩⟩ xb s1 v2 v9 v4 W _ _ (hS8.s (xeB xb s1 v2 v9 v4::xsP v2 d.ss::xrP s1 (A++(ak,(vb,V'))::B)::w6 (A++(ak,(vb,V'))::B)::xtP v9 T::xmP v4 d.ar::blk bI _ _::blk bR _ _::blk bO _ _::R))).mono ?_;clear hS8;rintro e w ⟨rfl,hS7⟩;obtain⟨v8,hS⟩:=hS7|go_at_call 63;have hS9:=aG4 (hS.s (xeB xb s1 v8 v9 v4::xrP s1 (A++(ak,(vb,V'))::B)::w6 (A++(ak,(vb,V'))::B)::xsP v8 _::xtP v9 T::xmP v4 d.ar::blk bI _ _::blk bR _ _::blk bO _ _::R));clear hS;refine(dk4 (A++(ak,(vb,V'))::B) (by rw[jA,jC];omega) xb v8 v9 v4 W _ _ hS9).mono ?_;clear hS9;rintro e w ⟨rfl,hS⟩);apply Ac7;rfl;rfl;rfl;rfl;exact hS;decide +kernel;(exact p9);kernel_rfl;exact⟨vb,v8,v9,rfl,hS.s _⟩
theorem KK7(hA:Asc ltB D)(hD:D.length<=900000)(hV:vAt D ak=V)(h1:loA D ak=A)(h2:hiA D ak=B)(hAB:A.length+B.length<=900000)(hok:VOk V.ps V.n i)(hi:i<=5000)(h0:0<=it)(h4:it<4)(c0:0<=ct)(c1:ct<=1048576){q:Ps}(hq:I7 V.ps aw (s9 it ct)=q)(hk:TsK d.ts)(hla:d.ar.length<=1000000)
  (hpk:aB4 d ⟨6,cl,sq,ak,aw,tk,tw,it,ct,pr,bu,id⟩=(rp0,false)) (hS:St W (cQ4 xb v1 v2 v3 v4 D d R) w):
  Calls Tryz.prog 25 #[.P xb,oV 6 cl sq ak aw tk tw it ct pr bu id] w fun e w'=>∃vb v9,e=.returned (.tuple #[rV 0 0 0 0 0 0,.bool true])/\St W (N9 xb v2 v3 v9 (clF (A++(ak,(vb,⟨q,V.L,V.n⟩))::B))::xsP v2 d.ss::xtP v3 d.ts::xmP v9 (d.ar.take (plI ltW d.ar (cl,sq))++((cl,sq),())::d.ar.drop (plI ltW d.ar (cl,sq)))::R) w':=by
 obtain⟨x,hx⟩:∃x,s9 it ct=x:=⟨_,rfl⟩
 obtain⟨x0,x1,x2,x3⟩:=x;rw[hx]at hq;obtain⟨r,hr⟩:∃r,L9 V.ps aw ⟨x0,x1,x2,x3⟩=r:=⟨_,rfl⟩
 have hD2:D.length<=1000000:=by omega
 have Hx:=jH hx;have HA:=jH hA;have HV:=jH hV;have H1:=jH h1;have H2:=jH h2;have Hok:=jH hok;have Hk:=jH hk;have Hpk:=jH hpk;have Hr:=jH hr;have Hq:=jH hq;clear hx hA hV h1 h2 hok hk hpk hr hq;go_enter Tryz.func25,Tryz.ntmps25;go_wp2_with(first|refine zbx hS ?_;clear hS;intro bO w hS|(fail_if_success (have:=gA));(refine zal hS ?_;clear hS;have gA:Nat:=0;intro bR w hS)|(have:=gA);(fail_if_success (have:=gB));(refine zal hS ?_;clear hS;have gB:Nat:=0;intro bI w hS)|(have:=gB);refine zal hS ?_;clear hS;intro bP w hS|refine zl1 hS ?_|refine zlN hS ?_|refine zsN hS ?_;clear hS;intro w hS|go_at_call 56;refine(ds4 (d:=d) Hk.out Hpk.out (hS.s (xeB xb v1 v2 v3 v4::xsP v2 d.ss::xtP v3 d.ts::xmP v4 d.ar::xrP v1 D::w6 D::blk bR _ _::blk bO _ _::R))).mono ?_;clear hS;rintro e w ⟨rfl,hS⟩|go_at_call 35;refine(Da7 Hx.out h0 h4 c0 c1 W _ _ hS).mono ?_;clear hS;rintro e w ⟨rfl,hS⟩);have hS9:=aG4 (hS.s (xeB xb v1 v2 v3 v4::xrP v1 D::w6 D::blk bP _ _::blk bI _ _::blk bR _ _::blk bO _ _::xsP v2 d.ss::xtP v3 d.ts::xmP v4 d.ar::R));clear hS
 refine rf3 [0,0,2,6,15,0,32,96,0,511] (fun i=>i==4) (fun i=>if i==9 then some (.I r)else none)
  [⟨some 4,some 9,fun nd=>P6 (nd 4) xb v2 v3 v4 A ak V B⟩,⟨some 9,none,fun nd=>P6 (nd 4) xb v2 v3 v4 A ak ⟨q,V.L,V.n⟩ B⟩] [some 4,none,none,none,none,none,none,none] hS9 ?_
 clear hS9;intro nd
 iterate 3 (refine cR ?_)
 (refine zc1 ?_);apply AH7;rfl;rfl;rfl;decide +kernel;(focus(simp only[fD,fI,fJ,Act.eval,fE,fF,fG,fH,fK];try rfl));(intro _;rfl);(intro F w hS;exact aX4 HA.out hD2 HV.out H1.out H2.out hS);(refine frS ?_)
 iterate 2 (refine cR ?_)
 (refine zc1 ?_);refine zcN ?_;refine zcv ?_ (hs:=by(intro F w hS;(try clear hS0);exact eD4 Hok.out (by omega) Hr.out Hq.out hS));refine Ad7 ?_;intro w hS;have hS2:St W [P6 _ xb v2 v3 v4 A ak ⟨q,V.L,V.n⟩ B,blk bP _ _,blk bI _ _,blk bR _ _,blk bO _ _,xsP v2 d.ss,xtP v3 d.ts,xmP v4 d.ar,sats R] w:=hS;clear hS;have hS:=hS2.unpack [_,_,_,_,_,_,_,_];clear hS2;simp only[jK,jN]at hS;generalize nd 4=v at *;go_wp2_with(first|refine zl1 hS ?_|refine zlN hS ?_|refine zsN hS ?_;clear hS;intro w hS|go_at_call 59;have hS9:=bH4 (hS.s (P6 v xb v2 v3 v4 A ak ⟨q,V.L,V.n⟩ B::xmP v4 d.ar::xsP v2 d.ss::xtP v3 d.ts::blk bP _ _::blk bI _ _::blk bR _ _::blk bO _ _::R));clear hS;obtain⟨vb,hS8⟩:=hS9;have hS7:=bs4 hS8;clear hS8;obtain⟨s1,hS6⟩:=hS7;refine(fK4 d.ar hla cl sq xb s1 v2 v3 v4 W _ _ (hS6.s (xeB xb s1 v2 v3 v4::xmP v4 d.ar::xrP s1 (A++(ak,(vb,⟨q,V.L,V.n⟩))::B)::w6 (A++(ak,(vb,⟨q,V.L,V.n⟩))::B)::xsP v2 d.ss::xtP v3 d.ts::blk bP _ _::blk bI _ _::blk bR _ _::blk bO _ _::R))).mono ?_;clear hS6;rintro e w ⟨rfl,hS5⟩;obtain⟨v9,hS⟩:=hS5|go_at_call 63;have hS9:=aG4 (hS.s (xeB xb s1 v2 v3 v9::xrP s1 (A++(ak,(vb,⟨q,V.L,V.n⟩))::B)::w6 (A++(ak,(vb,⟨q,V.L,V.n⟩))::B)::xmP v9 _::xsP v2 d.ss::xtP v3 d.ts::blk bP _ _::blk bI _ _::blk bR _ _::blk bO _ _::R));clear hS;refine(dk4 (A++(ak,(vb,⟨q,V.L,V.n⟩))::B) (by rw[jA,jC];omega) xb v2 v3 v9 W _ _ hS9).mono ?_;clear hS9;rintro e w ⟨rfl,hS⟩);apply Ac7;rfl;rfl;rfl;rfl;exact hS;decide +kernel;(exact p9);kernel_rfl;exact⟨vb,v9,rfl,hS.s _⟩
theorem HP7(hD:D.length<=1000000)(hk:TsK d.ts)(hlt:d.ts.length<=1000000){k:Nat}(hfd:fdI d.ts (cl,sq)=k)(hpk:aB4 d ⟨7,cl,sq,ak,aw,tk,tw,it,ct,pr,bu,id⟩=(rp0,false))(hS:St W (cQ4 xb v1 v2 v3 v4 D d R) w):
  Calls Tryz.prog 25 #[.P xb,oV 7 cl sq ak aw tk tw it ct pr bu id] w fun e w'=>∃v9,e=.returned (.tuple #[rV 0 0 0 0 0 0,.bool true])/\St W (N9 xb v2 v9 v4 (clF D)::xsP v2 d.ss::xtP v9 (rmI d.ts k)::xmP v4 d.ar::R) w':=by
 have hki:k<d.ts.length:=by have:=(HO7 (cl,sq) d.ts).2;omega
 obtain⟨a,cap,rfl⟩:=hS.drop.drop.drop.drop.rowVal;obtain⟨⟨g,rfl⟩,_,_⟩:=St.rowAddr hS.drop.drop.drop.drop (by omega);have hk1:k<=cap:=by omega
 have hk2:k+1<=d.ts.length:=by omega
 have Hk:=jH hk;have Hpk:=jH hpk;have Hfd:=jH hfd;clear hk hpk hfd;go_enter Tryz.func25,Tryz.ntmps25;go_wp2_with(first|refine zbx hS ?_;clear hS;intro bO w hS|(fail_if_success (have:=gA));(refine zal hS ?_;clear hS;have gA:Nat:=0;intro bR w hS)|(have:=gA);(fail_if_success (have:=gB));(refine zal hS ?_;clear hS;have gB:Nat:=0;intro bI w hS)|refine zl1 hS ?_|refine zlN hS ?_|refine zsN hS ?_;clear hS;intro w hS|go_at_call 56;refine(ds4 (d:=d) Hk.out Hpk.out (hS.s (xeB xb v1 v2 (.S g d.ts.length cap) v4::xsP v2 d.ss::xtP (.S g d.ts.length cap) d.ts::xmP v4 d.ar::xrP v1 D::w6 D::blk bR _ _::blk bO _ _::R))).mono ?_;clear hS;rintro e w ⟨rfl,hS⟩|go_at_call 60;refine(FA7 d.ts Hk.out cl sq Hfd.out xb v1 v2 (.S g d.ts.length cap) v4 W _ _ (hS.s (xeB xb v1 v2 (.S g d.ts.length cap) v4::xtP (.S g d.ts.length cap) d.ts::xsP v2 d.ss::xmP v4 d.ar::xrP v1 D::w6 D::blk bI _ _::blk bR _ _::blk bO _ _::R))).mono ?_;clear hS;rintro e w ⟨rfl,hS⟩);have hS9:=hS.s (xeB xb v1 v2 (.S g d.ts.length cap) v4::xtP (.S g d.ts.length cap) d.ts::xsP v2 d.ss::xmP v4 d.ar::xrP v1 D::w6 D::blk bI _ _::blk bR _ _::blk bO _ _::R);clear hS;refine rf2 [0,0,0,4,12,28,0,124,254,0,512,1536,3584,0,8192,32256,65534,131071,262143,524287] (fun i=>i==1||i==8||i==16) [⟨some 1,some 8,fun nd=>row (nd 1) 8 97 0 []⟩,⟨some 8,some 16,fun nd=>row (nd 8) 8 97 (0+k) ([]++(d.ts.take k).flatMap tnC)⟩,⟨some 16,none,fun nd=>row (nd 16) 8 97 (0+k+(d.ts.length-(k+1))) ([]++(d.ts.take k).flatMap tnC++(d.ts.drop (k+1)).flatMap tnC)⟩,⟨some 19,none,fun nd=>xeB xb v1 v2 (nd 16) v4⟩] [some 19,none,none,none,none,none,none,none,none] hS9 ?_;clear hS9;intro nd;refine cR ?_;apply Bs7;rfl;rfl;rfl;(focus(simp only[fD,fI,fJ,Act.eval,fE,fF,fG,fH,fK];try rfl));(exact esS);(exact rsS);rfl;rfl;rfl;rfl;rfl;decide;(intro _;rfl);rfl;(intro _;rfl);(refine frS ?_)
 (refine cR ?_);refine zcn ?_;refine cR ?_;refine zc1 ?_;refine cR ?_;refine cR ?_;apply Ag7;rfl;rfl;rfl;(focus((conv=>lhs;whnf);try rfl));(focus((conv=>lhs;whnf);try rfl));(exact esS);(exact rsS);rfl;decide;rfl;(intro F w hS;exact(Src.partM (by exact w8) (B6 d.ts k)).at hS);(focus(rw[Ab7 Ba7,jT,Nat.min_eq_left (by omega)]));(focus(exact CY7 _));(focus(unfold maxLen;omega));(focus(omega));(intro _;rfl);(intro _;rfl);(refine frS ?_);refine cR ?_;refine zcn ?_;refine cR ?_;refine zc1 ?_
 iterate 3 (refine cR ?_)
 (apply Ag7;rfl;rfl;rfl;(focus((conv=>lhs;whnf);try rfl));(focus((conv=>lhs;whnf);try rfl));exact esS;exact rsS;rfl;decide;rfl;intro F w hS;exact(Src.behindM (by exact w8) (fun h=>⟨by omega,by rw[List.drop_eq_nil_of_le (by omega)];rfl⟩) (fun j u h=>D6 Ba7 d.ts (k+1) j u (by omega) h)).at hS;(focus(rw[Ab7 Ba7,List.length_drop]));(focus(exact CY7 _));(focus(unfold maxLen;omega));(focus(omega));intro _;rfl;intro _;rfl;refine frS ?_);refine zcn ?_;refine cR ?_;(apply Jq7;rfl;rfl;rfl;rfl;(focus((conv=>lhs;whnf);try rfl));kernel_rfl;rfl;intro F w hS;exact hS.rowOne (by exact w8);(focus(simp));rfl;rfl;try(refine frS ?_));refine Ad7 ?_;intro w hS;have hS2:St W [row (nd 16) 8 _ _ _,xeB _ _ _ _ _,xtP _ _,xsP _ _,xmP _ _,xrP _ _,w6 _,blk bI _ _,blk bR _ _,blk bO _ _,sats R] w:=hS;clear hS;have hS:=hS2.unpack [_,_,_,_,_,_,_,_,_,_];clear hS2;simp only[jK,jN]at hS;generalize nd 16=v9 at *;have e2:(rmI d.ts k).length=0+k+(d.ts.length-(k+1)):=by unfold rmI;rw[Int.toNat_natCast,jA,jT,List.length_drop,Nat.min_eq_left (by omega)];omega
 have e1:(rmI d.ts k).flatMap tnC=(d.ts.take k).flatMap tnC++(d.ts.drop (k+1)).flatMap tnC:=by unfold rmI;rw[Int.toNat_natCast,List.flatMap_append]
 have hc:∀K:List HP,St W (row v9 8 97 (0+k+(d.ts.length-(k+1))) ((d.ts.take k).flatMap tnC++(d.ts.drop (k+1)).flatMap tnC)::K) w->St W (xtP v9 (rmI d.ts k)::K) w:=by intro K h;unfold xtP;rw[e1,e2];exact h
 have hS9:=hc _ hS;clear hS e1 e2 hc;have hS:=hS9;clear hS9;go_wp2_with(first|refine zlN hS ?_|refine zsN hS ?_;clear hS;intro w hS|go_at_call 63;have hS9:=aG4 (hS.s (xeB xb v1 v2 v9 v4::xrP v1 D::w6 D::xtP v9 (rmI d.ts k)::xsP v2 d.ss::xmP v4 d.ar::blk bI _ _::blk bR _ _::blk bO _ _::R));clear hS;refine(dk4 D hD xb v2 v9 v4 W _ _ hS9).mono ?_;clear hS9;rintro e w ⟨rfl,hS⟩)
 all_goals(apply Ac7;rfl;rfl;rfl;rfl;exact hS;decide +kernel;exact p9;kernel_rfl)
 all_goals exact⟨rfl,v9,hS.s _⟩
end
theorem FD7(D:Ev):(k8 D).length=D.length:=jM _
theorem MB7{D:Ev}(h:Asc ltB (k8 D)):Asc ltB D:=by unfold Asc k8 at h;exact List.pairwise_map.1 h
theorem HQ7(k:ByteArray):∀D:Ev,plI ltB (k8 D) k=plI ltB D k
 | []=>rfl
 | x::D=>by
  have ih:=HQ7 k D;show plI ltB ((x.1,x.2.2)::k8 D) k=_
  rw[plI,plI,ih]
theorem HR7(k:ByteArray):∀D:Ev,plB ltB (k8 D) k=plB ltB D k
 | []=>rfl
 | x::D=>by
  have ih:=HR7 k D;show plB ltB ((x.1,x.2.2)::k8 D) k=_
  rw[plB,plB,ih]
theorem BW7(D:Ev):k8 (clF D)=clV (k8 D):=by unfold clF clV k8;rw[List.filter_map];rfl
theorem BM7(D:Ev)(k:ByteArray)(vb:Nat)(V:Vs):k8 (loA D k++(k,(vb,V))::hiA D k)=plS ltB (k8 D) k V:=by unfold plS;rw[HQ7,HR7];unfold loA hiA k8;rw[List.map_append,List.map_cons,List.map_take,List.map_drop]
theorem MC7(D:Ev)(k:ByteArray):(loA D k).length+(hiA D k).length<=D.length:=by have h:=HK7 ltB k D;unfold loA hiA;rw[jT,List.length_drop];split <;> omega
def aD4(xb:Nat)(d:Ec):HP:=fun f=>∃(v1 v2 v3 v4:Value) (D:Ev),k8 D=d.vs/\sats (cQ4 xb v1 v2 v3 v4 D d []) f
section
variable{W w:World}{R:List HP}{xb:Nat}{d:Ec}{v1 v2 v3 v4:Value}{D:Ev}{k:ByteArray}{V:Vs}
theorem dt4(h:St W (aD4 xb d::R) w):∃v1 v2 v3 v4 D,k8 D=d.vs/\St W (cQ4 xb v1 v2 v3 v4 D d R) w:=by obtain⟨v1,h⟩:=St.ex h;obtain⟨v2,h⟩:=St.ex h;obtain⟨v3,h⟩:=St.ex h;obtain⟨v4,h⟩:=St.ex h;obtain⟨D,h⟩:=St.ex h;obtain⟨hp,h⟩:=St.and h;exact⟨v1,v2,v3,v4,D,hp,h.openS⟩
theorem cm4(hp:k8 D=d.vs)(h:St W (cQ4 xb v1 v2 v3 v4 D d R) w):St W (aD4 xb d::R) w:=
 St.mkEx v1 (St.mkEx v2 (St.mkEx v3 (St.mkEx v4 (St.mkEx D (St.mkAnd hp (St.shutS [_,_,_,_,_,_] h))))))
theorem bp4{d':Ec}(hp:k8 (clF D)=d'.vs)(h:St W (N9 xb v2 v3 v4 (clF D)::xsP v2 d'.ss::xtP v3 d'.ts::xmP v4 d'.ar::R) w):St W (aD4 xb d'::R) w:=by obtain⟨r1,h1⟩:=bs4 h;exact cm4 hp h1
theorem fY4(hn:Asc ltB d.vs)(hp:k8 D=d.vs)(k:ByteArray):vAt D k=atV d k:=by
 have h1:(D.map (·.1)).Nodup:=by rw[<-Bz7,hp];exact BJ7 BA7 hn
 exact(IG7 h1 (hp▸List.Perm.refl _) k).symm
end
structure DOk(d:Ec)(k:ByteArray)(i:Nat):Prop where
 va:Asc ltB d.vs
 sn:(d.ss.map (·.1)).Nodup
 tk:TsK d.ts
 lv:d.vs.length<=900000
 ls:d.ss.length<=1000000
 lt:d.ts.length<=1000000
 la:d.ar.length<=1000000
 ok:VOk (atV d k).ps (atV d k).n i
 may:∀x∈(atV d k).L,MayP x
 l32:(atV d k).L.length<=32
theorem Oq7{d:Ec}{o:Opn}(h:aB4 d o=(rp0,false)):L6 d o=((doV (atV d o.ak) o).1,true,⟨vsD d o,ssD d o (doV (atV d o.ak) o).1,tsD d o (doV (atV d o.ak) o).1,arD d o⟩):=by unfold L6;rw[h];rfl
theorem Or7{d:Ec}{o:Opn}{r:Rpl}(h:aB4 d o=(r,true)):L6 d o=(r,false,d):=by unfold L6;rw[h];rfl
theorem Os7{xb:Nat}{d:Ec}{i:Nat}(hi:i<=5000){kd cl sq:Int}{ak aw tk tw:ByteArray}{it ct pr:Int}{bu:Bool}{id:Int}(hd0:DOk d ak i)(W w:World)(R:List HP)(hS:St W (aD4 xb d::R) w):
  Calls Tryz.prog 25 #[.P xb,oV kd cl sq ak aw tk tw it ct pr bu id] w fun x w'=>
   x=.returned (.tuple #[rV (L6 d ⟨kd,cl,sq,ak,aw,tk,tw,it,ct,pr,bu,id⟩).1.err (L6 d ⟨kd,cl,sq,ak,aw,tk,tw,it,ct,pr,bu,id⟩).1.id (L6 d ⟨kd,cl,sq,ak,aw,tk,tw,it,ct,pr,bu,id⟩).1.has.x0 (L6 d ⟨kd,cl,sq,ak,aw,tk,tw,it,ct,pr,bu,id⟩).1.has.x1 (L6 d ⟨kd,cl,sq,ak,aw,tk,tw,it,ct,pr,bu,id⟩).1.has.x2 (L6 d ⟨kd,cl,sq,ak,aw,tk,tw,it,ct,pr,bu,id⟩).1.has.x3,.bool (L6 d ⟨kd,cl,sq,ak,aw,tk,tw,it,ct,pr,bu,id⟩).2.1]) /\
   St W (aD4 xb (L6 d ⟨kd,cl,sq,ak,aw,tk,tw,it,ct,pr,bu,id⟩).2.2::R) w':=by
 obtain⟨v1,v2,v3,v4,D,hd,hS⟩:=dt4 hS;have hA:Asc ltB D:=MB7 (hd.symm▸hd0.va);have hl:D.length<=900000:=by rw[<-FD7,hd];exact hd0.lv
 have hlh:=MC7 D ak;have hV:atV d ak=vAt D ak:=(fY4 hd0.va hd ak).symm;have hok:=hd0.ok;have hmay:=hd0.may;have hl32:=hd0.l32;rw[hV]at hok hmay hl32
 cases hpk:aB4 d ⟨kd,cl,sq,ak,aw,tk,tw,it,ct,pr,bu,id⟩with
 | mk r b=>
 cases b with
 | true=>
  obtain⟨r0,r1,⟨r2,r3,r4,r5⟩⟩:=r;rw[Or7 hpk];refine(KJ7 hd0.tk hpk hS).mono ?_;rintro x w' ⟨rfl,hS⟩;exact⟨rfl,cm4 hd hS⟩
 | false=>
  have hpe:=hpk;rw[JS7 hd0.sn]at hpe;obtain⟨rfl,hm⟩:=Cq7 hpe;clear hpe;have hap:=Oq7 hpk;unfold vsD at hap;dsimp only at hap;rw[hV]at hap;have hm2:I6 ⟨kd,cl,sq,ak,aw,tk,tw,it,ct,pr,bu,id⟩=true:=by unfold A5 at hm;exact(jB _ _▸hm).2
  have hk:kd=1\/kd=2\/kd=3\/kd=4\/kd=5\/kd=6\/kd=7:=by
   unfold I6 at hm2;dsimp only at hm2
   repeat' split at hm2
   all_goals first|omega|cases hm2
  have hcnt:kd≠7->0<=it/\it<4/\0<=ct/\ct<=1048576:=by
   intro h7;have hc:G8 ⟨kd,cl,sq,ak,aw,tk,tw,it,ct,pr,bu,id⟩=true->0<=it/\it<4/\0<=ct/\ct<=1048576:=fun h=>by have:=CE7 h;simp only at this;omega
   rcases hk with rfl|rfl|rfl|rfl|rfl|rfl|rfl
   ·have hm3:s6 ⟨1,cl,sq,ak,aw,tk,tw,it,ct,pr,bu,id⟩=true:=hm2;unfold s6 at hm3;exact hc (jB _ _▸hm3).1
   ·have hm3:M6 ⟨2,cl,sq,ak,aw,tk,tw,it,ct,pr,bu,id⟩=true:=hm2;unfold M6 at hm3;exact hc (jB _ _▸(jB _ _▸hm3).2).1
   ·have hm3:H5 ⟨3,cl,sq,ak,aw,tk,tw,it,ct,pr,bu,id⟩=true:=hm2;unfold H5 at hm3;simp only[jB]at hm3;exact hc hm3.2.2.2.1
   ·have hm3:F8 ⟨4,cl,sq,ak,aw,tk,tw,it,ct,pr,bu,id⟩=true:=hm2;unfold F8 at hm3;simp only[jB,decide_eq_true_eq]at hm3;omega
   ·have hm3:bM4 ⟨5,cl,sq,ak,aw,tk,tw,it,ct,pr,bu,id⟩=true:=hm2;unfold bM4 at hm3;simp only[jB,decide_eq_true_eq]at hm3;omega
   ·have hm3:s6 ⟨6,cl,sq,ak,aw,tk,tw,it,ct,pr,bu,id⟩=true:=hm2;unfold s6 at hm3;exact hc (jB _ _▸hm3).1
   ·exact absurd rfl h7
  rcases hk with rfl|rfl|rfl|rfl|rfl|rfl|rfl
  ·obtain⟨h0,h4,c0,c1⟩:=hcnt (by decide);refine(Cm7 (A:=loA D ak) (B:=hiA D ak) (V':=⟨I7 (vAt D ak).ps aw (s9 it ct),(vAt D ak).L,(vAt D ak).n⟩) rfl rfl hd0.tk hd0.ls (by omega) hpk (fun w R h=>(fP4 hA (by omega) rfl rfl rfl hok hi h0 h4 c0 c1 rfl rfl h).mono (by rintro e w' ⟨vb,rfl,h⟩;exact⟨vb,v3,rfl,h⟩)) hS).mono ?_;rintro x w' ⟨vb,v8,v9,rfl,hS⟩;rw[hap];refine⟨rfl,?_⟩;refine bp4 (d':=⟨clV (plS ltB d.vs ak ⟨I7 (vAt D ak).ps aw (s9 it ct),(vAt D ak).L,(vAt D ak).n⟩),plS ltI d.ss cl (sq,⟨L9 (vAt D ak).ps aw (s9 it ct),0,it0⟩),d.ts,d.ar⟩) ?_ hS;rw[BW7,BM7,hd]
  ·obtain⟨h0,h4,c0,c1⟩:=hcnt (by decide);by_cases hr:r6 (vAt D ak).ps aw (s9 it ct)=0
   ·have hv:(doV (vAt D ak) ⟨2,cl,sq,ak,aw,tk,tw,it,ct,pr,bu,id⟩).1=rp0:=by
     show(⟨r6 (vAt D ak).ps aw (s9 it ct),0,it0⟩:Rpl)=rp0
     rw[hr]
    have ht:tsD d ⟨2,cl,sq,ak,aw,tk,tw,it,ct,pr,bu,id⟩ rp0=d.ts.take (plI ltW d.ts (cl,sq))++((cl,sq),⟨cl,sq,ak,aw,tk,tw,it,ct⟩)::d.ts.drop (plI ltW d.ts (cl,sq)):=if_pos ⟨rfl,rfl⟩;rw[hv,ht]at hap;refine(Cm7 (A:=loA D ak) (B:=hiA D ak) (V':=⟨t8 (vAt D ak).ps aw (s9 it ct),(vAt D ak).L,(vAt D ak).n⟩) rfl rfl hd0.tk hd0.ls (by omega) hpk (fun w R h=>fc4 hA (by omega) rfl rfl rfl hok hi h0 h4 c0 c1 hr rfl hd0.tk hd0.lt h) hS).mono ?_;rintro x w' ⟨vb,v8,v9,rfl,hS⟩;rw[hap];refine⟨rfl,?_⟩;refine bp4 (d':=⟨clV (plS ltB d.vs ak ⟨t8 (vAt D ak).ps aw (s9 it ct),(vAt D ak).L,(vAt D ak).n⟩),plS ltI d.ss cl (sq,rp0),d.ts.take (plI ltW d.ts (cl,sq))++((cl,sq),⟨cl,sq,ak,aw,tk,tw,it,ct⟩)::d.ts.drop (plI ltW d.ts (cl,sq)),d.ar⟩) ?_ hS;rw[BW7,BM7,hd]
   ·have ht:tsD d ⟨2,cl,sq,ak,aw,tk,tw,it,ct,pr,bu,id⟩ (doV (vAt D ak) ⟨2,cl,sq,ak,aw,tk,tw,it,ct,pr,bu,id⟩).1=d.ts:=(if_neg (fun h=>hr h.2)).trans (if_neg (by show ¬((2:Int)=7);decide));rw[ht]at hap;refine(Cm7 (A:=loA D ak) (B:=hiA D ak) (V':=⟨t8 (vAt D ak).ps aw (s9 it ct),(vAt D ak).L,(vAt D ak).n⟩) rfl rfl hd0.tk hd0.ls (by omega) hpk (fun w R h=>(fb4 hA (by omega) rfl rfl rfl hok hi h0 h4 c0 c1 rfl (by simpa using hr) rfl h).mono (by rintro e w' ⟨vb,rfl,h⟩;exact⟨vb,v3,rfl,h⟩)) hS).mono ?_;rintro x w' ⟨vb,v8,v9,rfl,hS⟩;rw[hap];refine⟨rfl,?_⟩;refine bp4 (d':=⟨clV (plS ltB d.vs ak ⟨t8 (vAt D ak).ps aw (s9 it ct),(vAt D ak).L,(vAt D ak).n⟩),plS ltI d.ss cl (sq,⟨r6 (vAt D ak).ps aw (s9 it ct),0,it0⟩),d.ts,d.ar⟩) ?_ hS;rw[BW7,BM7,hd]
  ·obtain⟨h0,h4,c0,c1⟩:=hcnt (by decide);refine(Cm7 (A:=loA D ak) (B:=hiA D ak) (V':=(B5 (vAt D ak) ⟨0,aw,bu,it,ct,pr⟩).2.2) rfl rfl hd0.tk hd0.ls (by omega) hpk (fun w R h=>(fQ4 hA (by omega) rfl rfl rfl hok hi h0 h4 c0 c1 hmay rfl rfl rfl h).mono (by rintro e w' ⟨vb,rfl,h⟩;exact⟨vb,v3,rfl,h⟩)) hS).mono ?_;rintro x w' ⟨vb,v8,v9,rfl,hS⟩;rw[hap];refine⟨rfl,?_⟩;refine bp4 (d':=⟨clV (plS ltB d.vs ak (B5 (vAt D ak) ⟨0,aw,bu,it,ct,pr⟩).2.2),plS ltI d.ss cl (sq,⟨(B5 (vAt D ak) ⟨0,aw,bu,it,ct,pr⟩).2.1,(B5 (vAt D ak) ⟨0,aw,bu,it,ct,pr⟩).1,it0⟩),d.ts,d.ar⟩) ?_ hS;rw[BW7,BM7,hd]
  ·obtain⟨h0,h4,c0,c1⟩:=hcnt (by decide);refine(Cm7 (A:=loA D ak) (B:=hiA D ak) (V':=(B9 (vAt D ak) aw id).2) rfl rfl hd0.tk hd0.ls (by omega) hpk (fun w R h=>(fR4 hA (by omega) rfl rfl rfl hok hi h0 h4 c0 c1 hmay hl32 rfl rfl h).mono (by rintro e w' ⟨vb,rfl,h⟩;exact⟨vb,v3,rfl,h⟩)) hS).mono ?_;rintro x w' ⟨vb,v8,v9,rfl,hS⟩;rw[hap];refine⟨rfl,?_⟩;refine bp4 (d':=⟨clV (plS ltB d.vs ak (B9 (vAt D ak) aw id).2),plS ltI d.ss cl (sq,⟨(B9 (vAt D ak) aw id).1,0,it0⟩),d.ts,d.ar⟩) ?_ hS;rw[BW7,BM7,hd]
  ·obtain⟨h0,h4,c0,c1⟩:=hcnt (by decide);refine(Cm7 (A:=loA D ak) (B:=hiA D ak) (V':=vAt D ak) rfl rfl hd0.tk hd0.ls (by omega) hpk (fun w R h=>(fS4 hA (by omega) rfl rfl rfl hok hi h0 h4 c0 c1 rfl h).mono (by rintro e w' ⟨vb,rfl,h⟩;exact⟨vb,v3,rfl,h⟩)) hS).mono ?_;rintro x w' ⟨vb,v8,v9,rfl,hS⟩;rw[hap];refine⟨rfl,?_⟩;refine bp4 (d':=⟨clV (plS ltB d.vs ak (vAt D ak)),plS ltI d.ss cl (sq,⟨0,0,j9 (vAt D ak).ps aw⟩),d.ts,d.ar⟩) ?_ hS;rw[BW7,BM7,hd]
  ·obtain⟨h0,h4,c0,c1⟩:=hcnt (by decide);refine(KK7 hA hl rfl rfl rfl (by omega) hok hi h0 h4 c0 c1 rfl hd0.tk hd0.la hpk hS).mono ?_;rintro x w' ⟨vb,v9,rfl,hS⟩;rw[hap];refine⟨rfl,?_⟩;refine bp4 (d':=⟨clV (plS ltB d.vs ak ⟨I7 (vAt D ak).ps aw (s9 it ct),(vAt D ak).L,(vAt D ak).n⟩),d.ss,d.ts,dl4 d.ar (cl,sq) ()⟩) ?_ hS;rw[BW7,BM7,hd]
  ·have hf0:(j8 d.ts (cl,sq)).isNone=false:=by
    have h1:=hpk;unfold aB4 at h1;rw[if_neg (by rw[hm];exact Bool.noConfusion),if_neg (by show ¬((7:Int)=6);decide),if_pos rfl,DN7]at h1;exact congrArg Prod.snd h1
   have hf1:0<=fdI d.ts (cl,sq):=by rw[<-DN7]at hf0;simpa using hf0
   obtain⟨k,hfd⟩:=Int.eq_ofNat_of_zero_le hf1;refine(HP7 (by omega) hd0.tk hd0.lt hfd hpk hS).mono ?_;rintro x w' ⟨v9,rfl,hS⟩;rw[hap];refine⟨rfl,?_⟩;refine bp4 (d':=⟨clV d.vs,d.ss,rmI d.ts (fdI d.ts (cl,sq)),d.ar⟩) ?_ (by rw[hfd];exact hS);rw[BW7,hd]
section
variable{W w:World}{R:List HP}{xb eb:Nat}{d e:Ec}{i:Nat}
theorem JT7:∀{E:Ev} {R:List HP},St W (k9 E::R) w->∀x∈E,(∀o∈x.2.2.L,MayP o)/\x.2.2.L.length<=32
 | [],_,_,_,hx=>by cases hx
 | y::E,R,h,x,hx=>by
  have h1:=bN4 (E:=E) h
  rcases List.mem_cons.1 hx with rfl|hx
  ·obtain⟨mb,bb,h2⟩:=aT4 h1;exact⟨fun o ho=>(By7 h2.drop.drop o ho).1,Cj7 h2.drop.drop⟩
  ·exact JT7 h1.drop x hx
theorem MD7(h:St W (ecP eb e::R) w):∀x∈e.vs,(∀o∈x.2.L,MayP o)/\x.2.L.length<=32:=by obtain⟨m1,m2,m3,m4,E,hp,h⟩:=dL4 h;have h1:St W (k9 E::R) w:=h.s _;intro x hx;obtain⟨y,hy,rfl⟩:=List.mem_map.1 (hp.mem_iff.2 hx);exact JT7 h1 y hy
end
theorem eH4(i:Nat):VOk [] 1 i:=⟨Gv7,LT7 _,by decide,by omega⟩
structure GOk(d e:Ec)(n:Nat):Prop where
 sim:SimE d e
 ok:EOk e n
 lv:d.vs.length<=n
 ls:d.ss.length<=n
 lt:d.ts.length<=n
 la:d.ar.length<=n
theorem gH4:GOk ec0 ec0 0:=⟨gG4,fE4 0,Nat.le_refl _,Nat.le_refl _,Nat.le_refl _,Nat.le_refl _⟩
theorem GOk.dok{d e:Ec}{n:Nat}(h:GOk d e n)(hn:n<=5000)(he:∀x∈e.vs,(∀o∈x.2.L,MayP o)/\x.2.L.length<=32)(k:ByteArray):DOk d k n:=by
 have h1:VOk (atV d k).ps (atV d k).n n/\(∀x∈(atV d k).L,MayP x)/\(atV d k).L.length<=32:=by
  rw[h.sim.at];unfold atV
  cases hg:j8 e.vs k with
  | none=>exact⟨eH4 n,fun x hx=>(by cases hx),Nat.zero_le _⟩
  | some V=>
   have h2:=AN7 hg;exact⟨h.ok _ h2,(he _ h2).1,(he _ h2).2⟩
 have:=h.lv;have:=h.ls;have:=h.lt;have:=h.la;exact⟨h.sim.va,h.sim.sn,h.sim.tk,by omega,by omega,by omega,by omega,h1.1,h1.2.1,h1.2.2⟩
section
variable{κ ν:Type}[DecidableEq κ]
theorem ME7{lt:κ->κ->Bool}(l:List (κ×ν))(k:κ)(v:ν):(plS lt l k v).length<=l.length+1:=by have h:=HK7 lt k l;unfold plS;rw[jA,jC,jT,List.length_drop];split <;> omega
theorem JU7(l:List ((Int×Int)×ν))(k:Int×Int)(v:ν):(dl4 l k v).length<=l.length+1:=by have h:=HK7 ltW k l;unfold dl4;rw[jA,jC,jT,List.length_drop];omega
theorem Qa7{α:Type}(l:List α)(i:Int):(rmI l i).length<=l.length:=by unfold rmI;rw[jA,jT,List.length_drop];omega
end
theorem Qb7(l:List (ByteArray×Vs)):(clV l).length<=l.length:=List.length_filter_le _ _
theorem Ot7(d:Ec)(o:Opn):(L6 d o).2.2.vs.length<=d.vs.length+1/\(L6 d o).2.2.ss.length<=d.ss.length+1/\(L6 d o).2.2.ts.length<=d.ts.length+1/\(L6 d o).2.2.ar.length<=d.ar.length+1:=by
 unfold L6;split
 ·exact⟨Nat.le_succ _,Nat.le_succ _,Nat.le_succ _,Nat.le_succ _⟩
 ·refine⟨?_,?_,?_,?_⟩
  ·show(vsD d o).length<=_
   unfold vsD;refine Nat.le_trans (Qb7 _) ?_;split
   ·omega
   ·exact ME7 _ _ _
  ·show(ssD d o _).length<=_
   unfold ssD;split
   ·omega
   ·exact ME7 _ _ _
  ·show(tsD d o _).length<=_
   unfold tsD;split
   ·exact JU7 _ _ _
   ·split
    ·exact Nat.le_trans (Qa7 _ _) (by omega)
    ·omega
  ·show(arD d o).length<=_
   unfold arD;split
   ·exact JU7 _ _ _
   ·omega
theorem GOk.app{d e:Ec}{n:Nat}(h:GOk d e n)(o:Opn)(hok:EOk (C5 e o).2.2 (n+1)):GOk (L6 d o).2.2 (C5 e o).2.2 (n+1):=by obtain⟨h1,h2,h3,h4⟩:=Ot7 d o;have:=h.lv;have:=h.ls;have:=h.lt;have:=h.la;exact⟨(MA7 h.sim o).2.2,hok,by omega,by omega,by omega,by omega⟩
def aY4(l:List Opn)(d:Ec):Ec:=l.foldl (fun d o=>(L6 d o).2.2) d
theorem GJ7{xs:List Opn}{i:Nat}(h:i<xs.length)(e:Ec):K7 (xs.take (i+1)) e=(C5 (K7 (xs.take i) e) xs[i]).2.2:=by unfold K7;rw[List.take_succ_eq_append_getElem h,List.foldl_append];rfl
theorem IQ7{xs:List Opn}{i:Nat}(h:i<xs.length)(d:Ec):aY4 (xs.take (i+1)) d=(L6 (aY4 (xs.take i) d) xs[i]).2.2:=by unfold aY4;rw[List.take_succ_eq_append_getElem h,List.foldl_append];rfl
def hc4(I:Ec->Nat->Prop):Prop:=∀(e:Ec) (n:Nat) (o:Opn),I e n->(∀x∈e.vs,(∀o∈x.2.L,MayP o)/\x.2.L.length<=32)->(∀x∈(C5 e o).2.2.vs,(∀o∈x.2.L,MayP o)/\x.2.L.length<=32)->EOk (C5 e o).2.2 (n+1)->I (C5 e o).2.2 (n+1)
def GoR(I:Ec->Nat->Prop)(W:World)(Lr:List HP)(eb xb:Nat)(xs:List Opn)(d e:Ec)(n:Nat)(v:Value)(w:World):Prop:=
 ∃i:Nat,v=.I i/\i<=xs.length/\GOk (aY4 (xs.take i) d) (K7 (xs.take i) e) (n+i)/\I (K7 (xs.take i) e) (n+i)/\St W (ecP eb (K7 (xs.take i) e)::aD4 xb (aY4 (xs.take i) d)::Lr) w
section
variable{W w:World}{L R:List HP}{eb xb:Nat}{d e:Ec}{i:Nat}{k u:ByteArray}{x0 x1 x2 x3 cl sq:Int}{b:Bool}
end
theorem FE7{xb:Nat}{d d2:Ec}{i:Nat}(hi:i<=5000){kd cl sq:Int}{ak aw tk tw:ByteArray}{it ct pr:Int}{bu:Bool}{id:Int}(hd0:DOk d ak i){r0 r1 r2 r3 r4 r5:Int}{b:Bool}(h:L6 d ⟨kd,cl,sq,ak,aw,tk,tw,it,ct,pr,bu,id⟩=(⟨r0,r1,⟨r2,r3,r4,r5⟩⟩,b,d2))(W w:World)(R:List HP)(hS:St W (aD4 xb d::R) w):
  Calls Tryz.prog 25 #[.P xb,oV kd cl sq ak aw tk tw it ct pr bu id] w fun x w'=>x=.returned (.tuple #[rV r0 r1 r2 r3 r4 r5,.bool b])/\St W (aD4 xb d2::R) w':=by
 have h1:=Os7 hi (kd:=kd) (cl:=cl) (sq:=sq) (aw:=aw) (tk:=tk) (tw:=tw) (it:=it) (ct:=ct) (pr:=pr) (bu:=bu) (id:=id) hd0 W w R hS;rw[h]at h1;exact h1
theorem FF7{eb:Nat}{e e2:Ec}{i:Nat}(hE:EOk e i)(hi:i<=1000000){kd cl sq:Int}{ak aw tk tw:ByteArray}{it ct pr:Int}{bu:Bool}{id:Int}{r0 r1 r2 r3 r4 r5:Int}{b:Bool}(h:C5 e ⟨kd,cl,sq,ak,aw,tk,tw,it,ct,pr,bu,id⟩=(⟨r0,r1,⟨r2,r3,r4,r5⟩⟩,b,e2))(W w:World)(R:List HP)(hS:St W (ecP eb e::R) w):
  Calls Tryz.prog 27 #[.P eb,oV kd cl sq ak aw tk tw it ct pr bu id] w fun x w'=>EOk e2 (i+1)/\x=.returned (.tuple #[rV r0 r1 r2 r3 r4 r5,.bool b])/\St W (ecP eb e2::R) w':=Od7 hE hi h W w R hS
def TeR(W:World)(R:List HP)(E:Ev)(m1 r:Nat)(v4:Value)(w:World):Prop:=
 ∃done todo:List (ByteArray×Nat),(done++todo).Perm (j6 E)/\St W (fI4 v4 (done.map fun y=>gF4 (vAt E y.1))::itR eS eN r m1 (j6 E) todo::k9 E::R) w
def eI4(k:Int):List (ByteArray×Vs)->Int
 | []=>0
 | x::l=>dY4 x.2 k+eI4 k l
def cz4(e:Ec)(k:Int):Int:=eI4 k e.vs
def aU4(e:Ec):Prop:=∀x∈e.vs,(∀o∈x.2.L,MayP o)/\x.2.L.length<=32
def hp4(o:Opn)(r:Rpl)(b:Bool)(k:Int):Int:=
 if b=true/\r.err=0 then(if o.kind=1\/o.kind=6 then(if k=o.item then o.cnt else 0)else if o.kind=2 then -(if k=o.item then o.cnt else 0)else 0)else 0
section
variable{e:Ec}{o:Opn}{n:Nat}
theorem QR7(hm:A5 o=true)(h:o.kind=1\/o.kind=2\/o.kind=6):Kx o.item/\1<=o.cnt/\o.cnt<=1048576/\B7 o.aw=true:=by
 unfold A5 F6 ap4 at hm;simp only[jB]at hm;obtain⟨⟨_,_,_,_,_,hw⟩,hk⟩:=hm
 have hc:G8 o=true:=by
  unfold I6 at hk
  rcases h with h|h|h
  ·rw[if_pos h]at hk;unfold s6 at hk;simp only[jB]at hk;exact hk.1
  ·rw[if_neg (by omega),if_pos h]at hk;unfold M6 at hk;simp only[jB]at hk;exact hk.2.1
  ·rw[if_neg (by omega),if_neg (by omega),if_neg (by omega),if_neg (by omega),if_neg (by omega),if_pos h]at hk;unfold s6 at hk;simp only[jB]at hk;exact hk.1
 obtain⟨h0,h4,c0,c1⟩:=CE7 hc;exact⟨⟨h0,by omega⟩,c0,c1,hw⟩
end
theorem fZ4{W w:World}{R:List HP}{xb:Nat}(h:St W (xeB xb (.slice none 0 0) (.slice none 0 0) (.slice none 0 0) (.slice none 0 0)::R) w):St W (aD4 xb ec0::R) w:=by have h1:=h.rowNil (k:=2) (T:=144);have h2:=h1.rowNil (k:=8) (T:=97);have h3:=h2.rowNil (k:=8) (T:=141);have h4:St W (sats []::_) w:=St.shutS [] h3;have h5:=h4.rowNil (k:=2) (T:=137);have h6:St W (xrP (.slice none 0 0) []::w6 []::xsP (.slice none 0 0) []::xtP (.slice none 0 0) []::xmP (.slice none 0 0) []::xeB xb (.slice none 0 0) (.slice none 0 0) (.slice none 0 0) (.slice none 0 0)::R) w:=h5;exact cm4 (D:=[]) (d:=ec0) rfl (h6.s _)
abbrev gI4(b:Nat)(s0 s1 s2 s3:Int):HP:=blk b [.I s0,.I s1,.I s2,.I s3] 33
def TlR(W:World)(Lr:List HP)(eb xb sb:Nat)(xs:List Opn)(v:Value)(w:World):Prop:=
 ∃i:Nat,v=.I i/\i<=xs.length/\GOk (aY4 (xs.take i) ec0) (K7 (xs.take i) ec0) i/\(∀k,Kx k->cz4 (K7 (xs.take i) ec0) k<=i*1048576) /\
  St W (ecP eb (K7 (xs.take i) ec0)::aD4 xb (aY4 (xs.take i) ec0)::gI4 sb (cz4 (K7 (xs.take i) ec0) 0) (cz4 (K7 (xs.take i) ec0) 1) (cz4 (K7 (xs.take i) ec0) 2) (cz4 (K7 (xs.take i) ec0) 3)::Lr) w
end Go.Proofs.YtienbkdjkjbelaaGreat
end
