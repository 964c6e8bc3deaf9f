/-
  The document's Apply.
-/
import Derived.Test.YtienbkdjkjbelaaGreatJuTM5
import Derived.Test.YtienbkdjkjbelaaGreatJuTM28
import Derived.Test.YtienbkdjkjbelaaGreatJuTM38
import Derived.Test.YtienbkdjkjbelaaGreatJuTM40
set_option maxHeartbeats 16000000
set_option maxRecDepth 100000
set_option linter.unusedSimpArgs false
set_option linter.unusedVariables false
section
namespace Go.Proofs.YtienbkdjkjbelaaGreat
open Go.RowKit Go.Sl
section
variable{d:Ec}{xb:Nat}{v1 v2 v3 v4:Value}{D A B:Ev}{V V':Vs}{i:Nat}{kd cl sq:Int}{ak aw tk tw:ByteArray}{it ct pr:Int}{bu:Bool}{id:Int}{W w:World}{R:List HP}{r0 r1 r2 r3 r4 r5:Int}{b:Bool}
theorem du4(hk:TsK d.ts)(hp:aK4 d ⟨kd,cl,sq,ak,aw,tk,tw,it,ct,pr,bu,id⟩=(⟨r0,r1,⟨r2,r3,r4,r5⟩⟩,b))(hS:St W (xeL xb v1 v2 v3 v4 d R) w):
  Calls Tryz.prog 56 #[.P xb,oV kd cl sq ak aw tk tw it ct pr bu id] w fun e w'=>e=.returned (.tuple #[rV r0 r1 r2 r3 r4 r5,.bool b])/\St W (xeL xb v1 v2 v3 v4 d R) w':=by
 unfold aK4 at hp;dsimp only at hp
 cases hm:w6 ⟨kd,cl,sq,ak,aw,tk,tw,it,ct,pr,bu,id⟩with
 | false=>
  rw[hm,if_pos rfl]at hp
  cases hp
  exact OE7 hm hS
 | true=>
  rw[hm,if_neg (by exact Bool.noConfusion)]at hp;by_cases h6:kd=6
  ·subst h6;rw[if_pos rfl]at hp
   cases hp
   exact MO7 hm rfl hS
  ·rw[if_neg h6]at hp;by_cases h7:kd=7
   ·subst h7;rw[if_pos rfl]at hp
    cases hp
    exact IS7 hm hk hS
   ·rw[if_neg h7]at hp;exact KO7 hm h6 h7 hp hS
abbrev cz4(xb:Nat)(v1 v2 v3 v4:Value)(D:Ev)(d:Ec)(R:List HP):List HP:=xeB xb v1 v2 v3 v4::xrP v1 D::A7 D::xsP v2 d.ss::xtP v3 d.ts::xmP v4 d.ar::R
theorem KP7(hk:TsK d.ts)(hpk:aK4 d ⟨kd,cl,sq,ak,aw,tk,tw,it,ct,pr,bu,id⟩=(⟨r0,r1,⟨r2,r3,r4,r5⟩⟩,true))(hS:St W (cz4 xb v1 v2 v3 v4 D d R) w):
  Calls Tryz.prog 25 #[.P xb,oV kd cl sq ak aw tk tw it ct pr bu id] w fun e w'=>e=.returned (.tuple #[rV r0 r1 r2 r3 r4 r5,.bool false])/\St W (cz4 xb v1 v2 v3 v4 D d R) w':=by
 have Hk:=jH hk;have Hpk:=jH hpk;clear hk hpk;go_enter Tryz.func25,Tryz.ntmps25;go_wp2_with(first|refine zbx hS ?_;clear hS;intro bO w hS|(fail_if_success (have:=gA));(refine zal hS ?_;clear hS;have gA:Nat:=0;intro bR w hS)|(have:=gA);(fail_if_success (have:=gB));(refine zal hS ?_;clear hS;have gB:Nat:=0;intro bI w hS)|refine zlN hS ?_|refine zsN hS ?_;clear hS;intro w hS|go_at_call 56;refine(du4 (d:=d) Hk.out Hpk.out (hS.s (xeB xb v1 v2 v3 v4::xsP v2 d.ss::xtP v3 d.ts::xmP v4 d.ar::xrP v1 D::A7 D::blk bR _ _::blk bO _ _::R))).mono ?_;clear hS;rintro e w ⟨rfl,hS⟩);apply Ac7;rfl;rfl;rfl;rfl;exact hS;decide +kernel;(exact r6);kernel_rfl;exact⟨rfl,hS.s _⟩
theorem Ce7{T:List ((Int×Int)×Tns)}(h6:(kd==6)=false)(h7:(kd==7)=false)(hk:TsK d.ts)(hls:d.ss.length<=1000000)(hAB:A.length+B.length<=900000)(hpk:aK4 d ⟨kd,cl,sq,ak,aw,tk,tw,it,ct,pr,bu,id⟩=(rp0,false))
  (hdo:∀(w:World) (R:List HP),St W (O5 xb v2 v3 v4 D::xtP v3 d.ts::R) w->Calls Tryz.prog 61 #[.P xb,oV kd cl sq ak aw tk tw it ct pr bu id] w fun e w'=>∃vb v,e=.returned (rV r0 r1 r2 r3 r4 r5)/\St W (O5 xb v2 v v4 (A++(ak,(vb,V'))::B)::xtP v T::R) w')
  (hS:St W (cz4 xb v1 v2 v3 v4 D d R) w):
  Calls Tryz.prog 25 #[.P xb,oV kd cl sq ak aw tk tw it ct pr bu id] w fun e w'=>∃vb v8 v9,e=.returned (.tuple #[rV r0 r1 r2 r3 r4 r5,.bool true])/\St W (O5 xb v8 v9 v4 (clF (A++(ak,(vb,V'))::B))::xsP v8 (plS ltI d.ss cl (sq,⟨r0,r1,⟨r2,r3,r4,r5⟩⟩))::xtP v9 T::xmP v4 d.ar::R) w':=by
 have Hk:=jH hk;have Hpk:=jH hpk;have Hdo:=jH hdo;clear hk hpk hdo;go_enter Tryz.func25,Tryz.ntmps25;go_wp2_with(first|refine zbx hS ?_;clear hS;intro bO w hS|(fail_if_success (have:=gA));(refine zal hS ?_;clear hS;have gA:Nat:=0;intro bR w hS)|(have:=gA);(fail_if_success (have:=gB));(refine zal hS ?_;clear hS;have gB:Nat:=0;intro bI w hS)|refine zl1 hS ?_|refine zlN hS ?_|refine zsN hS ?_;clear hS;intro w hS|go_at_call 56;refine(du4 (d:=d) Hk.out Hpk.out (hS.s (xeB xb v1 v2 v3 v4::xsP v2 d.ss::xtP v3 d.ts::xmP v4 d.ar::xrP v1 D::A7 D::blk bR _ _::blk bO _ _::R))).mono ?_;clear hS;rintro e w ⟨rfl,hS⟩|go_at_call 61;have hS9:=aQ4 (hS.s (xeB xb v1 v2 v3 v4::xrP v1 D::A7 D::xtP v3 d.ts::xsP v2 d.ss::xmP v4 d.ar::blk bI _ _::blk bR _ _::blk bO _ _::R));clear hS;refine(Hdo.out _ _ hS9).mono ?_;clear hS9;rintro e w ⟨vb,v9,rfl,hS⟩|go_at_call 62;have hS9:=bA4 (hS.s (O5 xb v2 v9 v4 (A++(ak,(vb,V'))::B)::xtP v9 T::xsP v2 d.ss::xmP v4 d.ar::blk bI _ _::blk bR _ _::blk bO _ _::R));clear hS;obtain⟨s1,hS8⟩:=hS9;refine(dD4 d.ss hls cl sq ⟨r0,r1,⟨r2,r3,r4,r5⟩⟩ xb s1 v2 v9 v4 W _ _ (hS8.s (xeB xb s1 v2 v9 v4::xsP v2 d.ss::xrP s1 (A++(ak,(vb,V'))::B)::A7 (A++(ak,(vb,V'))::B)::xtP v9 T::xmP v4 d.ar::blk bI _ _::blk bR _ _::blk bO _ _::R))).mono ?_;clear hS8;rintro e w ⟨rfl,hS7⟩;obtain⟨v8,hS⟩:=hS7|go_at_call 63;have hS9:=aQ4 (hS.s (xeB xb s1 v8 v9 v4::xrP s1 (A++(ak,(vb,V'))::B)::A7 (A++(ak,(vb,V'))::B)::xsP v8 _::xtP v9 T::xmP v4 d.ar::blk bI _ _::blk bR _ _::blk bO _ _::R));clear hS;refine(dm4 (A++(ak,(vb,V'))::B) (by rw[jA,jC];omega) xb v8 v9 v4 W _ _ hS9).mono ?_;clear hS9;rintro e w ⟨rfl,hS⟩);apply Ac7;rfl;rfl;rfl;rfl;exact hS;decide +kernel;(exact r6);kernel_rfl;exact⟨vb,v8,v9,rfl,hS.s _⟩
theorem KQ7(hA:Asc ltB D)(hD:D.length<=900000)(hV:vAt D ak=V)(h1:loA D ak=A)(h2:hiA D ak=B)(hAB:A.length+B.length<=900000)(hok:VOk V.ps V.n i)(hi:i<=5000)(h0:0<=it)(h4:it<4)(c0:0<=ct)(c1:ct<=1048576){q:Ps}(hq:F8 V.ps aw (p8 it ct)=q)(hk:TsK d.ts)(hla:d.ar.length<=1000000)
  (hpk:aK4 d ⟨6,cl,sq,ak,aw,tk,tw,it,ct,pr,bu,id⟩=(rp0,false)) (hS:St W (cz4 xb v1 v2 v3 v4 D d R) w):
  Calls Tryz.prog 25 #[.P xb,oV 6 cl sq ak aw tk tw it ct pr bu id] w fun e w'=>∃vb v9,e=.returned (.tuple #[rV 0 0 0 0 0 0,.bool true])/\St W (O5 xb v2 v3 v9 (clF (A++(ak,(vb,⟨q,V.L,V.n⟩))::B))::xsP v2 d.ss::xtP v3 d.ts::xmP v9 (d.ar.take (plI ltW d.ar (cl,sq))++((cl,sq),())::d.ar.drop (plI ltW d.ar (cl,sq)))::R) w':=by
 obtain⟨x,hx⟩:∃x,p8 it ct=x:=⟨_,rfl⟩
 obtain⟨x0,x1,x2,x3⟩:=x;rw[hx]at hq;obtain⟨r,hr⟩:∃r,J8 V.ps aw ⟨x0,x1,x2,x3⟩=r:=⟨_,rfl⟩
 have hD2:D.length<=1000000:=by omega
 have Hx:=jH hx;have HA:=jH hA;have HV:=jH hV;have H1:=jH h1;have H2:=jH h2;have Hok:=jH hok;have Hk:=jH hk;have Hpk:=jH hpk;have Hr:=jH hr;have Hq:=jH hq;clear hx hA hV h1 h2 hok hk hpk hr hq;go_enter Tryz.func25,Tryz.ntmps25;go_wp2_with(first|refine zbx hS ?_;clear hS;intro bO w hS|(fail_if_success (have:=gA));(refine zal hS ?_;clear hS;have gA:Nat:=0;intro bR w hS)|(have:=gA);(fail_if_success (have:=gB));(refine zal hS ?_;clear hS;have gB:Nat:=0;intro bI w hS)|(have:=gB);refine zal hS ?_;clear hS;intro bP w hS|refine zl1 hS ?_|refine zlN hS ?_|refine zsN hS ?_;clear hS;intro w hS|go_at_call 56;refine(du4 (d:=d) Hk.out Hpk.out (hS.s (xeB xb v1 v2 v3 v4::xsP v2 d.ss::xtP v3 d.ts::xmP v4 d.ar::xrP v1 D::A7 D::blk bR _ _::blk bO _ _::R))).mono ?_;clear hS;rintro e w ⟨rfl,hS⟩|go_at_call 35;refine(Cz7 Hx.out h0 h4 c0 c1 W _ _ hS).mono ?_;clear hS;rintro e w ⟨rfl,hS⟩);have hS9:=aQ4 (hS.s (xeB xb v1 v2 v3 v4::xrP v1 D::A7 D::blk bP _ _::blk bI _ _::blk bR _ _::blk bO _ _::xsP v2 d.ss::xtP v3 d.ts::xmP v4 d.ar::R));clear hS
 refine rf3 [0,0,2,6,15,0,32,96,0,511] (fun i=>i==4) (fun i=>if i==9 then some (.I r)else none)
  [⟨some 4,some 9,fun nd=>ab4 (nd 4) xb v2 v3 v4 A ak V B⟩,⟨some 9,none,fun nd=>ab4 (nd 4) xb v2 v3 v4 A ak ⟨q,V.L,V.n⟩ B⟩] [some 4,none,none,none,none,none,none,none] hS9 ?_
 clear hS9;intro nd
 iterate 3 (refine cR ?_)
 (refine zc1 ?_);apply Bb7;rfl;rfl;rfl;decide +kernel;(focus(simp only[fD,fI,fJ,Act.eval,fE,fF,fG,fH,fK];try rfl));(intro _;rfl);(intro F w hS;exact bj4 HA.out hD2 HV.out H1.out H2.out hS);(refine frS ?_)
 iterate 2 (refine cR ?_)
 (refine zc1 ?_);refine zcN ?_;refine zcv ?_ (hs:=by(intro F w hS;(try clear hS0);exact eE4 Hok.out (by omega) Hr.out Hq.out hS));refine Ad7 ?_;intro w hS;have hS2:St W [ab4 _ xb v2 v3 v4 A ak ⟨q,V.L,V.n⟩ B,blk bP _ _,blk bI _ _,blk bR _ _,blk bO _ _,xsP v2 d.ss,xtP v3 d.ts,xmP v4 d.ar,sats R] w:=hS;clear hS;have hS:=hS2.unpack [_,_,_,_,_,_,_,_];clear hS2;simp only[jK,jN]at hS;generalize nd 4=v at *;go_wp2_with(first|refine zl1 hS ?_|refine zlN hS ?_|refine zsN hS ?_;clear hS;intro w hS|go_at_call 59;have hS9:=bS4 (hS.s (ab4 v xb v2 v3 v4 A ak ⟨q,V.L,V.n⟩ B::xmP v4 d.ar::xsP v2 d.ss::xtP v3 d.ts::blk bP _ _::blk bI _ _::blk bR _ _::blk bO _ _::R));clear hS;obtain⟨vb,hS8⟩:=hS9;have hS7:=bA4 hS8;clear hS8;obtain⟨s1,hS6⟩:=hS7;refine(fK4 d.ar hla cl sq xb s1 v2 v3 v4 W _ _ (hS6.s (xeB xb s1 v2 v3 v4::xmP v4 d.ar::xrP s1 (A++(ak,(vb,⟨q,V.L,V.n⟩))::B)::A7 (A++(ak,(vb,⟨q,V.L,V.n⟩))::B)::xsP v2 d.ss::xtP v3 d.ts::blk bP _ _::blk bI _ _::blk bR _ _::blk bO _ _::R))).mono ?_;clear hS6;rintro e w ⟨rfl,hS5⟩;obtain⟨v9,hS⟩:=hS5|go_at_call 63;have hS9:=aQ4 (hS.s (xeB xb s1 v2 v3 v9::xrP s1 (A++(ak,(vb,⟨q,V.L,V.n⟩))::B)::A7 (A++(ak,(vb,⟨q,V.L,V.n⟩))::B)::xmP v9 _::xsP v2 d.ss::xtP v3 d.ts::blk bP _ _::blk bI _ _::blk bR _ _::blk bO _ _::R));clear hS;refine(dm4 (A++(ak,(vb,⟨q,V.L,V.n⟩))::B) (by rw[jA,jC];omega) xb v2 v3 v9 W _ _ hS9).mono ?_;clear hS9;rintro e w ⟨rfl,hS⟩);apply Ac7;rfl;rfl;rfl;rfl;exact hS;decide +kernel;(exact r6);kernel_rfl;exact⟨vb,v9,rfl,hS.s _⟩
theorem HU7(hD:D.length<=1000000)(hk:TsK d.ts)(hlt:d.ts.length<=1000000){k:Nat}(hfd:fdI d.ts (cl,sq)=k)(hpk:aK4 d ⟨7,cl,sq,ak,aw,tk,tw,it,ct,pr,bu,id⟩=(rp0,false))(hS:St W (cz4 xb v1 v2 v3 v4 D d R) w):
  Calls Tryz.prog 25 #[.P xb,oV 7 cl sq ak aw tk tw it ct pr bu id] w fun e w'=>∃v9,e=.returned (.tuple #[rV 0 0 0 0 0 0,.bool true])/\St W (O5 xb v2 v9 v4 (clF D)::xsP v2 d.ss::xtP v9 (rmI d.ts k)::xmP v4 d.ar::R) w':=by
 have hki:k<d.ts.length:=by have:=(HT7 (cl,sq) d.ts).2;omega
 obtain⟨a,cap,rfl⟩:=hS.drop.drop.drop.drop.rowVal;obtain⟨⟨g,rfl⟩,_,_⟩:=St.rowAddr hS.drop.drop.drop.drop (by omega);have hk1:k<=cap:=by omega
 have hk2:k+1<=d.ts.length:=by omega
 have Hk:=jH hk;have Hpk:=jH hpk;have Hfd:=jH hfd;clear hk hpk hfd;go_enter Tryz.func25,Tryz.ntmps25;go_wp2_with(first|refine zbx hS ?_;clear hS;intro bO w hS|(fail_if_success (have:=gA));(refine zal hS ?_;clear hS;have gA:Nat:=0;intro bR w hS)|(have:=gA);(fail_if_success (have:=gB));(refine zal hS ?_;clear hS;have gB:Nat:=0;intro bI w hS)|refine zl1 hS ?_|refine zlN hS ?_|refine zsN hS ?_;clear hS;intro w hS|go_at_call 56;refine(du4 (d:=d) Hk.out Hpk.out (hS.s (xeB xb v1 v2 (.S g d.ts.length cap) v4::xsP v2 d.ss::xtP (.S g d.ts.length cap) d.ts::xmP v4 d.ar::xrP v1 D::A7 D::blk bR _ _::blk bO _ _::R))).mono ?_;clear hS;rintro e w ⟨rfl,hS⟩|go_at_call 60;refine(FB7 d.ts Hk.out cl sq Hfd.out xb v1 v2 (.S g d.ts.length cap) v4 W _ _ (hS.s (xeB xb v1 v2 (.S g d.ts.length cap) v4::xtP (.S g d.ts.length cap) d.ts::xsP v2 d.ss::xmP v4 d.ar::xrP v1 D::A7 D::blk bI _ _::blk bR _ _::blk bO _ _::R))).mono ?_;clear hS;rintro e w ⟨rfl,hS⟩);have hS9:=hS.s (xeB xb v1 v2 (.S g d.ts.length cap) v4::xtP (.S g d.ts.length cap) d.ts::xsP v2 d.ss::xmP v4 d.ar::xrP v1 D::A7 D::blk bI _ _::blk bR _ _::blk bO _ _::R);clear hS;refine rf2 [0,0,0,4,12,28,0,124,254,0,512,1536,3584,0,8192,32256,65534,131071,262143,524287] (fun i=>i==1||i==8||i==16) [⟨some 1,some 8,fun nd=>row (nd 1) 8 97 0 []⟩,⟨some 8,some 16,fun nd=>row (nd 8) 8 97 (0+k) ([]++(d.ts.take k).flatMap tnC)⟩,⟨some 16,none,fun nd=>row (nd 16) 8 97 (0+k+(d.ts.length-(k+1))) ([]++(d.ts.take k).flatMap tnC++(d.ts.drop (k+1)).flatMap tnC)⟩,⟨some 19,none,fun nd=>xeB xb v1 v2 (nd 16) v4⟩] [some 19,none,none,none,none,none,none,none,none] hS9 ?_;clear hS9;intro nd;refine cR ?_;apply Bn7;rfl;rfl;rfl;(focus(simp only[fD,fI,fJ,Act.eval,fE,fF,fG,fH,fK];try rfl));(exact esS);(exact rsS);rfl;rfl;rfl;rfl;rfl;decide;(intro _;rfl);rfl;(intro _;rfl);(refine frS ?_)
 (refine cR ?_);refine zcn ?_;refine cR ?_;refine zc1 ?_;refine cR ?_;refine cR ?_;apply Ai7;rfl;rfl;rfl;(focus((conv=>lhs;whnf);try rfl));(focus((conv=>lhs;whnf);try rfl));(exact esS);(exact rsS);rfl;decide;rfl;(intro F w hS;exact(Src.partM (by exact A6) (C5 d.ts k)).at hS);(focus(rw[Ab7 AT7,jT,Nat.min_eq_left (by omega)]));(focus(exact CX7 _));(focus(unfold maxLen;omega));(focus(omega));(intro _;rfl);(intro _;rfl);(refine frS ?_);refine cR ?_;refine zcn ?_;refine cR ?_;refine zc1 ?_
 iterate 3 (refine cR ?_)
 (apply Ai7;rfl;rfl;rfl;(focus((conv=>lhs;whnf);try rfl));(focus((conv=>lhs;whnf);try rfl));exact esS;exact rsS;rfl;decide;rfl;intro F w hS;exact(Src.behindM (by exact A6) (fun h=>⟨by omega,by rw[List.drop_eq_nil_of_le (by omega)];rfl⟩) (fun j u h=>D9 AT7 d.ts (k+1) j u (by omega) h)).at hS;(focus(rw[Ab7 AT7,List.length_drop]));(focus(exact CX7 _));(focus(unfold maxLen;omega));(focus(omega));intro _;rfl;intro _;rfl;refine frS ?_);refine zcn ?_;refine cR ?_;(apply Jo7;rfl;rfl;rfl;rfl;(focus((conv=>lhs;whnf);try rfl));kernel_rfl;rfl;intro F w hS;exact hS.rowOne (by exact A6);(focus(simp));rfl;rfl;try(refine frS ?_));refine Ad7 ?_;intro w hS;have hS2:St W [row (nd 16) 8 _ _ _,xeB _ _ _ _ _,xtP _ _,xsP _ _,xmP _ _,xrP _ _,A7 _,blk bI _ _,blk bR _ _,blk bO _ _,sats R] w:=hS;clear hS;have hS:=hS2.unpack [_,_,_,_,_,_,_,_,_,_];clear hS2;simp only[jK,jN]at hS;generalize nd 16=v9 at *;have e2:(rmI d.ts k).length=0+k+(d.ts.length-(k+1)):=by unfold rmI;rw[Int.toNat_natCast,jA,jT,List.length_drop,Nat.min_eq_left (by omega)];omega
 have e1:(rmI d.ts k).flatMap tnC=(d.ts.take k).flatMap tnC++(d.ts.drop (k+1)).flatMap tnC:=by unfold rmI;rw[Int.toNat_natCast,List.flatMap_append]
 have hc:∀K:List HP,St W (row v9 8 97 (0+k+(d.ts.length-(k+1))) ((d.ts.take k).flatMap tnC++(d.ts.drop (k+1)).flatMap tnC)::K) w->St W (xtP v9 (rmI d.ts k)::K) w:=by intro K h;unfold xtP;rw[e1,e2];exact h
 have hS9:=hc _ hS;clear hS e1 e2 hc;have hS:=hS9;clear hS9;go_wp2_with(first|refine zlN hS ?_|refine zsN hS ?_;clear hS;intro w hS|go_at_call 63;have hS9:=aQ4 (hS.s (xeB xb v1 v2 v9 v4::xrP v1 D::A7 D::xtP v9 (rmI d.ts k)::xsP v2 d.ss::xmP v4 d.ar::blk bI _ _::blk bR _ _::blk bO _ _::R));clear hS;refine(dm4 D hD xb v2 v9 v4 W _ _ hS9).mono ?_;clear hS9;rintro e w ⟨rfl,hS⟩)
 all_goals(apply Ac7;rfl;rfl;rfl;rfl;exact hS;decide +kernel;exact r6;kernel_rfl)
 all_goals exact⟨rfl,v9,hS.s _⟩
end
theorem FE7(D:Ev):(k9 D).length=D.length:=jM _
theorem MT7{D:Ev}(h:Asc ltB (k9 D)):Asc ltB D:=by unfold Asc k9 at h;exact List.pairwise_map.1 h
theorem HV7(k:ByteArray):∀D:Ev,plI ltB (k9 D) k=plI ltB D k
 | []=>rfl
 | x::D=>by
  have ih:=HV7 k D;show plI ltB ((x.1,x.2.2)::k9 D) k=_
  rw[plI,plI,ih]
theorem HW7(k:ByteArray):∀D:Ev,plB ltB (k9 D) k=plB ltB D k
 | []=>rfl
 | x::D=>by
  have ih:=HW7 k D;show plB ltB ((x.1,x.2.2)::k9 D) k=_
  rw[plB,plB,ih]
theorem BS7(D:Ev):k9 (clF D)=clV (k9 D):=by unfold clF clV k9;rw[List.filter_map];rfl
theorem BJ7(D:Ev)(k:ByteArray)(vb:Nat)(V:Vs):k9 (loA D k++(k,(vb,V))::hiA D k)=plS ltB (k9 D) k V:=by unfold plS;rw[HV7,HW7];unfold loA hiA k9;rw[List.map_append,List.map_cons,List.map_take,List.map_drop]
theorem MU7(D:Ev)(k:ByteArray):(loA D k).length+(hiA D k).length<=D.length:=by have h:=HI7 ltB k D;unfold loA hiA;rw[jT,List.length_drop];split <;> omega
def s8(xb:Nat)(d:Ec):HP:=fun f=>∃(v1 v2 v3 v4:Value) (D:Ev),k9 D=d.vs/\sats (cz4 xb v1 v2 v3 v4 D d []) f
section
variable{W w:World}{R:List HP}{xb:Nat}{d:Ec}{v1 v2 v3 v4:Value}{D:Ev}{k:ByteArray}{V:Vs}
theorem cc4(h:St W (s8 xb d::R) w):∃v1 v2 v3 v4 D,k9 D=d.vs/\St W (cz4 xb v1 v2 v3 v4 D d R) w:=by obtain⟨v1,h⟩:=St.ex h;obtain⟨v2,h⟩:=St.ex h;obtain⟨v3,h⟩:=St.ex h;obtain⟨v4,h⟩:=St.ex h;obtain⟨D,h⟩:=St.ex h;obtain⟨hp,h⟩:=St.and h;exact⟨v1,v2,v3,v4,D,hp,h.openS⟩
theorem bk4(hp:k9 D=d.vs)(h:St W (cz4 xb v1 v2 v3 v4 D d R) w):St W (s8 xb d::R) w:=
 St.mkEx v1 (St.mkEx v2 (St.mkEx v3 (St.mkEx v4 (St.mkEx D (St.mkAnd hp (St.shutS [_,_,_,_,_,_] h))))))
theorem by4{d':Ec}(hp:k9 (clF D)=d'.vs)(h:St W (O5 xb v2 v3 v4 (clF D)::xsP v2 d'.ss::xtP v3 d'.ts::xmP v4 d'.ar::R) w):St W (s8 xb d'::R) w:=by obtain⟨r1,h1⟩:=bA4 h;exact bk4 hp h1
theorem fY4(hn:Asc ltB d.vs)(hp:k9 D=d.vs)(k:ByteArray):vAt D k=atV d k:=by
 have h1:(D.map (·.1)).Nodup:=by rw[<-Bw7,hp];exact BG7 Bx7 hn
 exact(Mt7 h1 (hp▸List.Perm.refl _) k).symm
end
structure DOk(d:Ec)(k:ByteArray)(i:Nat):Prop where
 va:Asc ltB d.vs
 sn:(d.ss.map (·.1)).Nodup
 tk:TsK d.ts
 lv:d.vs.length<=900000
 ls:d.ss.length<=1000000
 lt:d.ts.length<=1000000
 la:d.ar.length<=1000000
 ok:VOk (atV d k).ps (atV d k).n i
 may:∀x∈(atV d k).L,MayP x
 l32:(atV d k).L.length<=32
theorem OF7{d:Ec}{o:Opn}(h:aK4 d o=(rp0,false)):M7 d o=((doV (atV d o.ak) o).1,true,⟨vsD d o,ssD d o (doV (atV d o.ak) o).1,tsD d o (doV (atV d o.ak) o).1,arD d o⟩):=by unfold M7;rw[h];rfl
theorem OG7{d:Ec}{o:Opn}{r:Rpl}(h:aK4 d o=(r,true)):M7 d o=(r,false,d):=by unfold M7;rw[h];rfl
theorem OH7{xb:Nat}{d:Ec}{i:Nat}(hi:i<=5000){kd cl sq:Int}{ak aw tk tw:ByteArray}{it ct pr:Int}{bu:Bool}{id:Int}(hd0:DOk d ak i)(W w:World)(R:List HP)(hS:St W (s8 xb d::R) w):
  Calls Tryz.prog 25 #[.P xb,oV kd cl sq ak aw tk tw it ct pr bu id] w fun x w'=>
   x=.returned (.tuple #[rV (M7 d ⟨kd,cl,sq,ak,aw,tk,tw,it,ct,pr,bu,id⟩).1.err (M7 d ⟨kd,cl,sq,ak,aw,tk,tw,it,ct,pr,bu,id⟩).1.id (M7 d ⟨kd,cl,sq,ak,aw,tk,tw,it,ct,pr,bu,id⟩).1.has.x0 (M7 d ⟨kd,cl,sq,ak,aw,tk,tw,it,ct,pr,bu,id⟩).1.has.x1 (M7 d ⟨kd,cl,sq,ak,aw,tk,tw,it,ct,pr,bu,id⟩).1.has.x2 (M7 d ⟨kd,cl,sq,ak,aw,tk,tw,it,ct,pr,bu,id⟩).1.has.x3,.bool (M7 d ⟨kd,cl,sq,ak,aw,tk,tw,it,ct,pr,bu,id⟩).2.1]) /\
   St W (s8 xb (M7 d ⟨kd,cl,sq,ak,aw,tk,tw,it,ct,pr,bu,id⟩).2.2::R) w':=by
 obtain⟨v1,v2,v3,v4,D,hd,hS⟩:=cc4 hS;have hA:Asc ltB D:=MT7 (hd.symm▸hd0.va);have hl:D.length<=900000:=by rw[<-FE7,hd];exact hd0.lv
 have hlh:=MU7 D ak;have hV:atV d ak=vAt D ak:=(fY4 hd0.va hd ak).symm;have hok:=hd0.ok;have hmay:=hd0.may;have hl32:=hd0.l32;rw[hV]at hok hmay hl32
 cases hpk:aK4 d ⟨kd,cl,sq,ak,aw,tk,tw,it,ct,pr,bu,id⟩with
 | mk r b=>
 cases b with
 | true=>
  obtain⟨r0,r1,⟨r2,r3,r4,r5⟩⟩:=r;rw[OG7 hpk];refine(KP7 hd0.tk hpk hS).mono ?_;rintro x w' ⟨rfl,hS⟩;exact⟨rfl,bk4 hd hS⟩
 | false=>
  have hpe:=hpk;rw[JT7 hd0.sn]at hpe;obtain⟨rfl,hm⟩:=Br7 hpe;clear hpe;have hap:=OF7 hpk;unfold vsD at hap;dsimp only at hap;rw[hV]at hap;have hm2:J6 ⟨kd,cl,sq,ak,aw,tk,tw,it,ct,pr,bu,id⟩=true:=by unfold w6 at hm;exact(jB _ _▸hm).2
  have hk:kd=1\/kd=2\/kd=3\/kd=4\/kd=5\/kd=6\/kd=7:=by
   unfold J6 at hm2;dsimp only at hm2
   repeat' split at hm2
   all_goals first|omega|cases hm2
  have hcnt:kd≠7->0<=it/\it<4/\0<=ct/\ct<=1048576:=by
   intro h7;have hc:H5 ⟨kd,cl,sq,ak,aw,tk,tw,it,ct,pr,bu,id⟩=true->0<=it/\it<4/\0<=ct/\ct<=1048576:=fun h=>by have:=Cx7 h;simp only at this;omega
   rcases hk with rfl|rfl|rfl|rfl|rfl|rfl|rfl
   ·have hm3:s7 ⟨1,cl,sq,ak,aw,tk,tw,it,ct,pr,bu,id⟩=true:=hm2;unfold s7 at hm3;exact hc (jB _ _▸hm3).1
   ·have hm3:M6 ⟨2,cl,sq,ak,aw,tk,tw,it,ct,pr,bu,id⟩=true:=hm2;unfold M6 at hm3;exact hc (jB _ _▸(jB _ _▸hm3).2).1
   ·have hm3:H9 ⟨3,cl,sq,ak,aw,tk,tw,it,ct,pr,bu,id⟩=true:=hm2;unfold H9 at hm3;simp only[jB]at hm3;exact hc hm3.2.2.2.1
   ·have hm3:G6 ⟨4,cl,sq,ak,aw,tk,tw,it,ct,pr,bu,id⟩=true:=hm2;unfold G6 at hm3;simp only[jB,decide_eq_true_eq]at hm3;omega
   ·have hm3:bZ4 ⟨5,cl,sq,ak,aw,tk,tw,it,ct,pr,bu,id⟩=true:=hm2;unfold bZ4 at hm3;simp only[jB,decide_eq_true_eq]at hm3;omega
   ·have hm3:s7 ⟨6,cl,sq,ak,aw,tk,tw,it,ct,pr,bu,id⟩=true:=hm2;unfold s7 at hm3;exact hc (jB _ _▸hm3).1
   ·exact absurd rfl h7
  rcases hk with rfl|rfl|rfl|rfl|rfl|rfl|rfl
  ·obtain⟨h0,h4,c0,c1⟩:=hcnt (by decide);refine(Ce7 (A:=loA D ak) (B:=hiA D ak) (V':=⟨F8 (vAt D ak).ps aw (p8 it ct),(vAt D ak).L,(vAt D ak).n⟩) rfl rfl hd0.tk hd0.ls (by omega) hpk (fun w R h=>(fP4 hA (by omega) rfl rfl rfl hok hi h0 h4 c0 c1 rfl rfl h).mono (by rintro e w' ⟨vb,rfl,h⟩;exact⟨vb,v3,rfl,h⟩)) hS).mono ?_;rintro x w' ⟨vb,v8,v9,rfl,hS⟩;rw[hap];refine⟨rfl,?_⟩;refine by4 (d':=⟨clV (plS ltB d.vs ak ⟨F8 (vAt D ak).ps aw (p8 it ct),(vAt D ak).L,(vAt D ak).n⟩),plS ltI d.ss cl (sq,⟨J8 (vAt D ak).ps aw (p8 it ct),0,it0⟩),d.ts,d.ar⟩) ?_ hS;rw[BS7,BJ7,hd]
  ·obtain⟨h0,h4,c0,c1⟩:=hcnt (by decide);by_cases hr:p9 (vAt D ak).ps aw (p8 it ct)=0
   ·have hv:(doV (vAt D ak) ⟨2,cl,sq,ak,aw,tk,tw,it,ct,pr,bu,id⟩).1=rp0:=by
     show(⟨p9 (vAt D ak).ps aw (p8 it ct),0,it0⟩:Rpl)=rp0
     rw[hr]
    have ht:tsD d ⟨2,cl,sq,ak,aw,tk,tw,it,ct,pr,bu,id⟩ rp0=d.ts.take (plI ltW d.ts (cl,sq))++((cl,sq),⟨cl,sq,ak,aw,tk,tw,it,ct⟩)::d.ts.drop (plI ltW d.ts (cl,sq)):=if_pos ⟨rfl,rfl⟩;rw[hv,ht]at hap;refine(Ce7 (A:=loA D ak) (B:=hiA D ak) (V':=⟨r8 (vAt D ak).ps aw (p8 it ct),(vAt D ak).L,(vAt D ak).n⟩) rfl rfl hd0.tk hd0.ls (by omega) hpk (fun w R h=>ff4 hA (by omega) rfl rfl rfl hok hi h0 h4 c0 c1 hr rfl hd0.tk hd0.lt h) hS).mono ?_;rintro x w' ⟨vb,v8,v9,rfl,hS⟩;rw[hap];refine⟨rfl,?_⟩;refine by4 (d':=⟨clV (plS ltB d.vs ak ⟨r8 (vAt D ak).ps aw (p8 it ct),(vAt D ak).L,(vAt D ak).n⟩),plS ltI d.ss cl (sq,rp0),d.ts.take (plI ltW d.ts (cl,sq))++((cl,sq),⟨cl,sq,ak,aw,tk,tw,it,ct⟩)::d.ts.drop (plI ltW d.ts (cl,sq)),d.ar⟩) ?_ hS;rw[BS7,BJ7,hd]
   ·have ht:tsD d ⟨2,cl,sq,ak,aw,tk,tw,it,ct,pr,bu,id⟩ (doV (vAt D ak) ⟨2,cl,sq,ak,aw,tk,tw,it,ct,pr,bu,id⟩).1=d.ts:=(if_neg (fun h=>hr h.2)).trans (if_neg (by show ¬((2:Int)=7);decide));rw[ht]at hap;refine(Ce7 (A:=loA D ak) (B:=hiA D ak) (V':=⟨r8 (vAt D ak).ps aw (p8 it ct),(vAt D ak).L,(vAt D ak).n⟩) rfl rfl hd0.tk hd0.ls (by omega) hpk (fun w R h=>(fe4 hA (by omega) rfl rfl rfl hok hi h0 h4 c0 c1 rfl (by simpa using hr) rfl h).mono (by rintro e w' ⟨vb,rfl,h⟩;exact⟨vb,v3,rfl,h⟩)) hS).mono ?_;rintro x w' ⟨vb,v8,v9,rfl,hS⟩;rw[hap];refine⟨rfl,?_⟩;refine by4 (d':=⟨clV (plS ltB d.vs ak ⟨r8 (vAt D ak).ps aw (p8 it ct),(vAt D ak).L,(vAt D ak).n⟩),plS ltI d.ss cl (sq,⟨p9 (vAt D ak).ps aw (p8 it ct),0,it0⟩),d.ts,d.ar⟩) ?_ hS;rw[BS7,BJ7,hd]
  ·obtain⟨h0,h4,c0,c1⟩:=hcnt (by decide);refine(Ce7 (A:=loA D ak) (B:=hiA D ak) (V':=(x8 (vAt D ak) ⟨0,aw,bu,it,ct,pr⟩).2.2) rfl rfl hd0.tk hd0.ls (by omega) hpk (fun w R h=>(fQ4 hA (by omega) rfl rfl rfl hok hi h0 h4 c0 c1 hmay rfl rfl rfl h).mono (by rintro e w' ⟨vb,rfl,h⟩;exact⟨vb,v3,rfl,h⟩)) hS).mono ?_;rintro x w' ⟨vb,v8,v9,rfl,hS⟩;rw[hap];refine⟨rfl,?_⟩;refine by4 (d':=⟨clV (plS ltB d.vs ak (x8 (vAt D ak) ⟨0,aw,bu,it,ct,pr⟩).2.2),plS ltI d.ss cl (sq,⟨(x8 (vAt D ak) ⟨0,aw,bu,it,ct,pr⟩).2.1,(x8 (vAt D ak) ⟨0,aw,bu,it,ct,pr⟩).1,it0⟩),d.ts,d.ar⟩) ?_ hS;rw[BS7,BJ7,hd]
  ·obtain⟨h0,h4,c0,c1⟩:=hcnt (by decide);refine(Ce7 (A:=loA D ak) (B:=hiA D ak) (V':=(B8 (vAt D ak) aw id).2) rfl rfl hd0.tk hd0.ls (by omega) hpk (fun w R h=>(fR4 hA (by omega) rfl rfl rfl hok hi h0 h4 c0 c1 hmay hl32 rfl rfl h).mono (by rintro e w' ⟨vb,rfl,h⟩;exact⟨vb,v3,rfl,h⟩)) hS).mono ?_;rintro x w' ⟨vb,v8,v9,rfl,hS⟩;rw[hap];refine⟨rfl,?_⟩;refine by4 (d':=⟨clV (plS ltB d.vs ak (B8 (vAt D ak) aw id).2),plS ltI d.ss cl (sq,⟨(B8 (vAt D ak) aw id).1,0,it0⟩),d.ts,d.ar⟩) ?_ hS;rw[BS7,BJ7,hd]
  ·obtain⟨h0,h4,c0,c1⟩:=hcnt (by decide);refine(Ce7 (A:=loA D ak) (B:=hiA D ak) (V':=vAt D ak) rfl rfl hd0.tk hd0.ls (by omega) hpk (fun w R h=>(fS4 hA (by omega) rfl rfl rfl hok hi h0 h4 c0 c1 rfl h).mono (by rintro e w' ⟨vb,rfl,h⟩;exact⟨vb,v3,rfl,h⟩)) hS).mono ?_;rintro x w' ⟨vb,v8,v9,rfl,hS⟩;rw[hap];refine⟨rfl,?_⟩;refine by4 (d':=⟨clV (plS ltB d.vs ak (vAt D ak)),plS ltI d.ss cl (sq,⟨0,0,j8 (vAt D ak).ps aw⟩),d.ts,d.ar⟩) ?_ hS;rw[BS7,BJ7,hd]
  ·obtain⟨h0,h4,c0,c1⟩:=hcnt (by decide);refine(KQ7 hA hl rfl rfl rfl (by omega) hok hi h0 h4 c0 c1 rfl hd0.tk hd0.la hpk hS).mono ?_;rintro x w' ⟨vb,v9,rfl,hS⟩;rw[hap];refine⟨rfl,?_⟩;refine by4 (d':=⟨clV (plS ltB d.vs ak ⟨F8 (vAt D ak).ps aw (p8 it ct),(vAt D ak).L,(vAt D ak).n⟩),d.ss,d.ts,dn4 d.ar (cl,sq) ()⟩) ?_ hS;rw[BS7,BJ7,hd]
  ·have hf0:(j6 d.ts (cl,sq)).isNone=false:=by
    have h1:=hpk;unfold aK4 at h1;rw[if_neg (by rw[hm];exact Bool.noConfusion),if_neg (by show ¬((7:Int)=6);decide),if_pos rfl,DN7]at h1;exact congrArg Prod.snd h1
   have hf1:0<=fdI d.ts (cl,sq):=by rw[<-DN7]at hf0;simpa using hf0
   obtain⟨k,hfd⟩:=Int.eq_ofNat_of_zero_le hf1;refine(HU7 (by omega) hd0.tk hd0.lt hfd hpk hS).mono ?_;rintro x w' ⟨v9,rfl,hS⟩;rw[hap];refine⟨rfl,?_⟩;refine by4 (d':=⟨clV d.vs,d.ss,rmI d.ts (fdI d.ts (cl,sq)),d.ar⟩) ?_ (by rw[hfd];exact hS);rw[BS7,hd]
section
variable{W w:World}{R:List HP}{xb eb:Nat}{d e:Ec}{i:Nat}
theorem KR7(cl sq:Int){b:Bool}(hb:(j6 d.ar (cl,sq)).isSome=b)(hS:St W (s8 xb d::R) w):
  Calls Tryz.prog 34 #[.P xb,.I cl,.I sq] w fun e w'=>e=.returned (.bool b)/\St W (s8 xb d::R) w':=by
 obtain⟨v1,v2,v3,v4,D,hd,hS⟩:=cc4 hS;refine(DI7 d.ar cl sq hb xb v1 v2 v3 v4 W _ _ (hS.s (xeB xb v1 v2 v3 v4::xmP v4 d.ar::xsP v2 d.ss::xtP v3 d.ts::xrP v1 D::A7 D::R))).mono ?_;rintro e w' ⟨rfl,hS⟩;exact⟨rfl,bk4 hd (hS.s _)⟩
end
theorem eI4(i:Nat):VOk [] 1 i:=⟨EG7,Mf7 _,by decide,by omega⟩
structure GOk(d e:Ec)(n:Nat):Prop where
 sim:SimE d e
 ok:EOk e n
 lv:d.vs.length<=n
 ls:d.ss.length<=n
 lt:d.ts.length<=n
 la:d.ar.length<=n
theorem gF4:GOk ec0 ec0 0:=⟨gE4,fG4 0,Nat.le_refl _,Nat.le_refl _,Nat.le_refl _,Nat.le_refl _⟩
theorem GOk.dok{d e:Ec}{n:Nat}(h:GOk d e n)(hn:n<=5000)(he:∀x∈e.vs,(∀o∈x.2.L,MayP o)/\x.2.L.length<=32)(k:ByteArray):DOk d k n:=by
 have h1:VOk (atV d k).ps (atV d k).n n/\(∀x∈(atV d k).L,MayP x)/\(atV d k).L.length<=32:=by
  rw[h.sim.at];unfold atV
  cases hg:j6 e.vs k with
  | none=>exact⟨eI4 n,fun x hx=>(by cases hx),Nat.zero_le _⟩
  | some V=>
   have h2:=AE7 hg;exact⟨h.ok _ h2,(he _ h2).1,(he _ h2).2⟩
 have:=h.lv;have:=h.ls;have:=h.lt;have:=h.la;exact⟨h.sim.va,h.sim.sn,h.sim.tk,by omega,by omega,by omega,by omega,h1.1,h1.2.1,h1.2.2⟩
section
variable{κ ν:Type}[DecidableEq κ]
theorem MV7{lt:κ->κ->Bool}(l:List (κ×ν))(k:κ)(v:ν):(plS lt l k v).length<=l.length+1:=by have h:=HI7 lt k l;unfold plS;rw[jA,jC,jT,List.length_drop];split <;> omega
theorem JU7(l:List ((Int×Int)×ν))(k:Int×Int)(v:ν):(dn4 l k v).length<=l.length+1:=by have h:=HI7 ltW k l;unfold dn4;rw[jA,jC,jT,List.length_drop];omega
theorem Qx7{α:Type}(l:List α)(i:Int):(rmI l i).length<=l.length:=by unfold rmI;rw[jA,jT,List.length_drop];omega
end
theorem Qy7(l:List (ByteArray×Vs)):(clV l).length<=l.length:=List.length_filter_le _ _
theorem OI7(d:Ec)(o:Opn):(M7 d o).2.2.vs.length<=d.vs.length+1/\(M7 d o).2.2.ss.length<=d.ss.length+1/\(M7 d o).2.2.ts.length<=d.ts.length+1/\(M7 d o).2.2.ar.length<=d.ar.length+1:=by
 unfold M7;split
 ·exact⟨Nat.le_succ _,Nat.le_succ _,Nat.le_succ _,Nat.le_succ _⟩
 ·refine⟨?_,?_,?_,?_⟩
  ·show(vsD d o).length<=_
   unfold vsD;refine Nat.le_trans (Qy7 _) ?_;split
   ·omega
   ·exact MV7 _ _ _
  ·show(ssD d o _).length<=_
   unfold ssD;split
   ·omega
   ·exact MV7 _ _ _
  ·show(tsD d o _).length<=_
   unfold tsD;split
   ·exact JU7 _ _ _
   ·split
    ·exact Nat.le_trans (Qx7 _ _) (by omega)
    ·omega
  ·show(arD d o).length<=_
   unfold arD;split
   ·exact JU7 _ _ _
   ·omega
theorem GOk.app{d e:Ec}{n:Nat}(h:GOk d e n)(o:Opn)(hok:EOk (B6 e o).2.2 (n+1)):GOk (M7 d o).2.2 (B6 e o).2.2 (n+1):=by obtain⟨h1,h2,h3,h4⟩:=OI7 d o;have:=h.lv;have:=h.ls;have:=h.lt;have:=h.la;exact⟨(MS7 h.sim o).2.2,hok,by omega,by omega,by omega,by omega⟩
def D6(l:List Opn)(d:Ec):Ec:=l.foldl (fun d o=>(M7 d o).2.2) d
theorem Ep7{xs:List Opn}{i:Nat}(h:i<xs.length)(e:Ec):l6 (xs.take (i+1)) e=(B6 (l6 (xs.take i) e) xs[i]).2.2:=by unfold l6;rw[List.take_succ_eq_append_getElem h,List.foldl_append];rfl
theorem MW7{xs:List Opn}{i:Nat}(h:i<xs.length)(d:Ec):D6 (xs.take (i+1)) d=(M7 (D6 (xs.take i) d) xs[i]).2.2:=by unfold D6;rw[List.take_succ_eq_append_getElem h,List.foldl_append];rfl
def fZ4(I:Ec->Nat->Prop):Prop:=∀(e:Ec) (n:Nat) (o:Opn),I e n->(∀x∈e.vs,(∀o∈x.2.L,MayP o)/\x.2.L.length<=32)->(∀x∈(B6 e o).2.2.vs,(∀o∈x.2.L,MayP o)/\x.2.L.length<=32)->EOk (B6 e o).2.2 (n+1)->I (B6 e o).2.2 (n+1)
def GoR(I:Ec->Nat->Prop)(W:World)(Lr:List HP)(eb xb:Nat)(xs:List Opn)(d e:Ec)(n:Nat)(v:Value)(w:World):Prop:=
 ∃i:Nat,v=.I i/\i<=xs.length/\GOk (D6 (xs.take i) d) (l6 (xs.take i) e) (n+i)/\I (l6 (xs.take i) e) (n+i)/\St W (ecP eb (l6 (xs.take i) e)::s8 xb (D6 (xs.take i) d)::Lr) w
section
variable{W w:World}{L R:List HP}{eb xb:Nat}{d e:Ec}{i:Nat}{k u:ByteArray}{x0 x1 x2 x3 cl sq:Int}{b:Bool}
theorem gG4(ht:Take L (ecP eb e) R)(hb:(j6 e.ar (cl,sq)).isSome=b)(hS:St W L w):
  Calls Tryz.prog 30 #[.P eb,.I cl,.I sq] w fun x w'=>x=.returned (.bool b)/\St W L w':=by
 refine(HG7 cl sq hb W w R (hS.take ht)).mono ?_;rintro x w' ⟨rfl,hS⟩;exact⟨rfl,hS.back ht⟩
theorem ga4(ht:Take L (s8 xb d) R)(hb:(j6 d.ar (cl,sq)).isSome=b)(hS:St W L w):
  Calls Tryz.prog 34 #[.P xb,.I cl,.I sq] w fun x w'=>x=.returned (.bool b)/\St W L w':=by
 refine(KR7 cl sq hb (hS.take ht)).mono ?_;rintro x w' ⟨rfl,hS⟩;exact⟨rfl,hS.back ht⟩
end
theorem MX7{xb:Nat}{d d2:Ec}{i:Nat}(hi:i<=5000){kd cl sq:Int}{ak aw tk tw:ByteArray}{it ct pr:Int}{bu:Bool}{id:Int}(hd0:DOk d ak i){r0 r1 r2 r3 r4 r5:Int}{b:Bool}(h:M7 d ⟨kd,cl,sq,ak,aw,tk,tw,it,ct,pr,bu,id⟩=(⟨r0,r1,⟨r2,r3,r4,r5⟩⟩,b,d2))(W w:World)(R:List HP)(hS:St W (s8 xb d::R) w):
  Calls Tryz.prog 25 #[.P xb,oV kd cl sq ak aw tk tw it ct pr bu id] w fun x w'=>x=.returned (.tuple #[rV r0 r1 r2 r3 r4 r5,.bool b])/\St W (s8 xb d2::R) w':=by
 have h1:=OH7 hi (kd:=kd) (cl:=cl) (sq:=sq) (aw:=aw) (tk:=tk) (tw:=tw) (it:=it) (ct:=ct) (pr:=pr) (bu:=bu) (id:=id) hd0 W w R hS;rw[h]at h1;exact h1
theorem DO7{eb:Nat}{e e2:Ec}{i:Nat}(hE:EOk e i)(hi:i<=1000000){kd cl sq:Int}{ak aw tk tw:ByteArray}{it ct pr:Int}{bu:Bool}{id:Int}{r0 r1 r2 r3 r4 r5:Int}{b:Bool}(h:B6 e ⟨kd,cl,sq,ak,aw,tk,tw,it,ct,pr,bu,id⟩=(⟨r0,r1,⟨r2,r3,r4,r5⟩⟩,b,e2))(W w:World)(R:List HP)(hS:St W (ecP eb e::R) w):
  Calls Tryz.prog 27 #[.P eb,oV kd cl sq ak aw tk tw it ct pr bu id] w fun x w'=>EOk e2 (i+1)/\x=.returned (.tuple #[rV r0 r1 r2 r3 r4 r5,.bool b])/\St W (ecP eb e2::R) w':=Oo7 hE hi h W w R hS
end Go.Proofs.YtienbkdjkjbelaaGreat
end
