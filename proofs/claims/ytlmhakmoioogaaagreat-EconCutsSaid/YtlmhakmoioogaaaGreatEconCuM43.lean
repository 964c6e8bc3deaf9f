/-
  The document's Apply.
-/
import Derived.Test.YtlmhakmoioogaaaGreatEconCuM5
import Derived.Test.YtlmhakmoioogaaaGreatEconCuM35
import Derived.Test.YtlmhakmoioogaaaGreatEconCuM40
import Derived.Test.YtlmhakmoioogaaaGreatEconCuM42
set_option maxHeartbeats 16000000
set_option maxRecDepth 100000
set_option linter.unusedSimpArgs false
set_option linter.unusedVariables false
section
namespace Go.Proofs.YtlmhakmoioogaaaGreat
open Go.RowKit Go.Sl
section
variable{d:Ec}{xb:Nat}{v1 v2 v3 v4:Value}{D A B:Ev}{V V':Vs}{i:Nat}{kd cl sq:Int}{ak aw tk tw:ByteArray}{it ct pr:Int}{bu:Bool}{id:Int}{W w:World}{R:List HP}{r0 r1 r2 r3 r4 r5:Int}{b:Bool}
theorem dH4(hk:TsK d.ts)(hp:aO4 d ⟨kd,cl,sq,ak,aw,tk,tw,it,ct,pr,bu,id⟩=(⟨r0,r1,⟨r2,r3,r4,r5⟩⟩,b))(hS:St W (xeL xb v1 v2 v3 v4 d R) w):
  Calls Tryz.prog 48 #[.P xb,oV kd cl sq ak aw tk tw it ct pr bu id] w fun e w'=>e=.returned (.tuple #[rV r0 r1 r2 r3 r4 r5,.bool b])/\St W (xeL xb v1 v2 v3 v4 d R) w':=by
 unfold aO4 at hp;dsimp only at hp
 cases hm:w8 ⟨kd,cl,sq,ak,aw,tk,tw,it,ct,pr,bu,id⟩with
 | false=>
  rw[hm,if_pos rfl]at hp
  cases hp
  exact PV7 hm hS
 | true=>
  rw[hm,if_neg (by exact Bool.noConfusion)]at hp;by_cases h6:kd=6
  ·subst h6;rw[if_pos rfl]at hp
   cases hp
   exact Os7 hm rfl hS
  ·rw[if_neg h6]at hp;by_cases h7:kd=7
   ·subst h7;rw[if_pos rfl]at hp
    cases hp
    exact Kn7 hm hk hS
   ·rw[if_neg h7]at hp;exact Mx7 hm h6 h7 hp hS
abbrev bU4(xb:Nat)(v1 v2 v3 v4:Value)(D:Ev)(d:Ec)(R:List HP):List HP:=xeB xb v1 v2 v3 v4::xrP v1 D::l6 D::xsP v2 d.ss::xtP v3 d.ts::xmP v4 d.ar::R
theorem My7(hk:TsK d.ts)(hpk:aO4 d ⟨kd,cl,sq,ak,aw,tk,tw,it,ct,pr,bu,id⟩=(⟨r0,r1,⟨r2,r3,r4,r5⟩⟩,true))(hS:St W (bU4 xb v1 v2 v3 v4 D d R) w):
  Calls Tryz.prog 21 #[.P xb,oV kd cl sq ak aw tk tw it ct pr bu id] w fun e w'=>e=.returned (.tuple #[rV r0 r1 r2 r3 r4 r5,.bool false])/\St W (bU4 xb v1 v2 v3 v4 D d R) w':=by
 have Hk:=jH hk;have Hpk:=jH hpk;clear hk hpk;go_enter Tryz.func21,Tryz.ntmps21;go_wp2_with(first|refine zbx hS ?_;clear hS;intro bO w hS|(fail_if_success (have:=gA));(refine zal hS ?_;clear hS;have gA:Nat:=0;intro bR w hS)|(have:=gA);(fail_if_success (have:=gB));(refine zal hS ?_;clear hS;have gB:Nat:=0;intro bI w hS)|refine zlN hS ?_|refine zsN hS ?_;clear hS;intro w hS|go_at_call 48;refine(dH4 (d:=d) Hk.out Hpk.out (hS.s (xeB xb v1 v2 v3 v4::xsP v2 d.ss::xtP v3 d.ts::xmP v4 d.ar::xrP v1 D::l6 D::blk bR _ _::blk bO _ _::R))).mono ?_;clear hS;rintro e w ⟨rfl,hS⟩);apply Ac7;rfl;rfl;rfl;rfl;exact hS;decide +kernel;(exact n9);kernel_rfl;exact⟨rfl,hS.s _⟩
theorem CF7{T:List ((Int×Int)×Tns)}(h6:(kd==6)=false)(h7:(kd==7)=false)(hk:TsK d.ts)(hls:d.ss.length<=1000000)(hAB:A.length+B.length<=900000)(hpk:aO4 d ⟨kd,cl,sq,ak,aw,tk,tw,it,ct,pr,bu,id⟩=(rp0,false))
  (hdo:∀(w:World) (R:List HP),St W (Q5 xb v2 v3 v4 D::xtP v3 d.ts::R) w->Calls Tryz.prog 54 #[.P xb,oV kd cl sq ak aw tk tw it ct pr bu id] w fun e w'=>∃vb v,e=.returned (rV r0 r1 r2 r3 r4 r5)/\St W (Q5 xb v2 v v4 (A++(ak,(vb,V'))::B)::xtP v T::R) w')
  (hS:St W (bU4 xb v1 v2 v3 v4 D d R) w):
  Calls Tryz.prog 21 #[.P xb,oV kd cl sq ak aw tk tw it ct pr bu id] w fun e w'=>∃vb v8 v9,e=.returned (.tuple #[rV r0 r1 r2 r3 r4 r5,.bool true])/\St W (Q5 xb v8 v9 v4 (clF (A++(ak,(vb,V'))::B))::xsP v8 (plS ltI d.ss cl (sq,⟨r0,r1,⟨r2,r3,r4,r5⟩⟩))::xtP v9 T::xmP v4 d.ar::R) w':=by
 have Hk:=jH hk;have Hpk:=jH hpk;have Hdo:=jH hdo;clear hk hpk hdo;go_enter Tryz.func21,Tryz.ntmps21;go_wp2_with(first|refine zbx hS ?_;clear hS;intro bO w hS|(fail_if_success (have:=gA));(refine zal hS ?_;clear hS;have gA:Nat:=0;intro bR w hS)|(have:=gA);(fail_if_success (have:=gB));(refine zal hS ?_;clear hS;have gB:Nat:=0;intro bI w hS)|refine zl1 hS ?_|refine zlN hS ?_|refine zsN hS ?_;clear hS;intro w hS|go_at_call 48;refine(dH4 (d:=d) Hk.out Hpk.out (hS.s (xeB xb v1 v2 v3 v4::xsP v2 d.ss::xtP v3 d.ts::xmP v4 d.ar::xrP v1 D::l6 D::blk bR _ _::blk bO _ _::R))).mono ?_;clear hS;rintro e w ⟨rfl,hS⟩|go_at_call 54;have hS9:=bk4 (hS.s (xeB xb v1 v2 v3 v4::xrP v1 D::l6 D::xtP v3 d.ts::xsP v2 d.ss::xmP v4 d.ar::blk bI _ _::blk bR _ _::blk bO _ _::R));clear hS;refine(Hdo.out _ _ hS9).mono ?_;clear hS9;rintro e w ⟨vb,v9,rfl,hS⟩|go_at_call 55;have hS9:=bX4 (hS.s (Q5 xb v2 v9 v4 (A++(ak,(vb,V'))::B)::xtP v9 T::xsP v2 d.ss::xmP v4 d.ar::blk bI _ _::blk bR _ _::blk bO _ _::R));clear hS;obtain⟨s1,hS8⟩:=hS9;refine(dl4 d.ss hls cl sq ⟨r0,r1,⟨r2,r3,r4,r5⟩⟩ xb s1 v2 v9 v4 W _ _ (hS8.s (xeB xb s1 v2 v9 v4::xsP v2 d.ss::xrP s1 (A++(ak,(vb,V'))::B)::l6 (A++(ak,(vb,V'))::B)::xtP v9 T::xmP v4 d.ar::blk bI _ _::blk bR _ _::blk bO _ _::R))).mono ?_;clear hS8;rintro e w ⟨rfl,hS7⟩;obtain⟨v8,hS⟩:=hS7|go_at_call 56;have hS9:=bk4 (hS.s (xeB xb s1 v8 v9 v4::xrP s1 (A++(ak,(vb,V'))::B)::l6 (A++(ak,(vb,V'))::B)::xsP v8 _::xtP v9 T::xmP v4 d.ar::blk bI _ _::blk bR _ _::blk bO _ _::R));clear hS;refine(dP4 (A++(ak,(vb,V'))::B) (by rw[jA,jC];omega) xb v8 v9 v4 W _ _ hS9).mono ?_;clear hS9;rintro e w ⟨rfl,hS⟩);apply Ac7;rfl;rfl;rfl;rfl;exact hS;decide +kernel;(exact n9);kernel_rfl;exact⟨vb,v8,v9,rfl,hS.s _⟩
theorem Mz7(hA:Asc ltB D)(hD:D.length<=900000)(hV:vAt D ak=V)(h1:loA D ak=A)(h2:hiA D ak=B)(hAB:A.length+B.length<=900000)(hok:VOk V.ps V.n i)(hi:i<=5000)(h0:0<=it)(h4:it<4)(c0:0<=ct)(c1:ct<=1048576){q:Ps}(hq:F9 V.ps aw (r8 it ct)=q)(hk:TsK d.ts)(hla:d.ar.length<=1000000)
  (hpk:aO4 d ⟨6,cl,sq,ak,aw,tk,tw,it,ct,pr,bu,id⟩=(rp0,false)) (hS:St W (bU4 xb v1 v2 v3 v4 D d R) w):
  Calls Tryz.prog 21 #[.P xb,oV 6 cl sq ak aw tk tw it ct pr bu id] w fun e w'=>∃vb v9,e=.returned (.tuple #[rV 0 0 0 0 0 0,.bool true])/\St W (Q5 xb v2 v3 v9 (clF (A++(ak,(vb,⟨q,V.L,V.n⟩))::B))::xsP v2 d.ss::xtP v3 d.ts::xmP v9 (d.ar.take (plI ltW d.ar (cl,sq))++((cl,sq),())::d.ar.drop (plI ltW d.ar (cl,sq)))::R) w':=by
 obtain⟨x,hx⟩:∃x,r8 it ct=x:=⟨_,rfl⟩
 obtain⟨x0,x1,x2,x3⟩:=x;rw[hx]at hq;obtain⟨r,hr⟩:∃r,K7 V.ps aw ⟨x0,x1,x2,x3⟩=r:=⟨_,rfl⟩
 have hD2:D.length<=1000000:=by omega
 have Hx:=jH hx;have HA:=jH hA;have HV:=jH hV;have H1:=jH h1;have H2:=jH h2;have Hok:=jH hok;have Hk:=jH hk;have Hpk:=jH hpk;have Hr:=jH hr;have Hq:=jH hq;clear hx hA hV h1 h2 hok hk hpk hr hq;go_enter Tryz.func21,Tryz.ntmps21;go_wp2_with(first|refine zbx hS ?_;clear hS;intro bO w hS|(fail_if_success (have:=gA));(refine zal hS ?_;clear hS;have gA:Nat:=0;intro bR w hS)|(have:=gA);(fail_if_success (have:=gB));(refine zal hS ?_;clear hS;have gB:Nat:=0;intro bI w hS)|(have:=gB);refine zal hS ?_;clear hS;intro bP w hS|refine zl1 hS ?_|refine zlN hS ?_|refine zsN hS ?_;clear hS;intro w hS|go_at_call 48;refine(dH4 (d:=d) Hk.out Hpk.out (hS.s (xeB xb v1 v2 v3 v4::xsP v2 d.ss::xtP v3 d.ts::xmP v4 d.ar::xrP v1 D::l6 D::blk bR _ _::blk bO _ _::R))).mono ?_;clear hS;rintro e w ⟨rfl,hS⟩|go_at_call 49;refine(DI7 Hx.out h0 h4 c0 c1 W _ _ hS).mono ?_;clear hS;rintro e w ⟨rfl,hS⟩);have hS9:=bk4 (hS.s (xeB xb v1 v2 v3 v4::xrP v1 D::l6 D::blk bP _ _::blk bI _ _::blk bR _ _::blk bO _ _::xsP v2 d.ss::xtP v3 d.ts::xmP v4 d.ar::R));clear hS
 refine rf3 [0,0,2,6,15,0,32,96,0,511] (fun i=>i==4) (fun i=>if i==9 then some (.I r)else none)
  [⟨some 4,some 9,fun nd=>an4 (nd 4) xb v2 v3 v4 A ak V B⟩,⟨some 9,none,fun nd=>an4 (nd 4) xb v2 v3 v4 A ak ⟨q,V.L,V.n⟩ B⟩] [some 4,none,none,none,none,none,none,none] hS9 ?_
 clear hS9;intro nd
 iterate 3 (refine cR ?_)
 (refine zc1 ?_);apply AA7;rfl;rfl;rfl;decide +kernel;(focus(simp only[fD,fI,fJ,Act.eval,fE,fF,fG,fH,fK];try rfl));(intro _;rfl);(intro F w hS;exact bC4 HA.out hD2 HV.out H1.out H2.out hS);(refine frS ?_)
 iterate 2 (refine cR ?_)
 (refine zc1 ?_);refine zcN ?_;refine zcv ?_ (hs:=by(intro F w hS;(try clear hS0);exact fs4 Hok.out (by omega) Hr.out Hq.out hS));refine Ad7 ?_;intro w hS;have hS2:St W [an4 _ xb v2 v3 v4 A ak ⟨q,V.L,V.n⟩ B,blk bP _ _,blk bI _ _,blk bR _ _,blk bO _ _,xsP v2 d.ss,xtP v3 d.ts,xmP v4 d.ar,sats R] w:=hS;clear hS;have hS:=hS2.unpack [_,_,_,_,_,_,_,_];clear hS2;simp only[jK,jN]at hS;generalize nd 4=v at *;go_wp2_with(first|refine zl1 hS ?_|refine zlN hS ?_|refine zsN hS ?_;clear hS;intro w hS|go_at_call 52;have hS9:=ch4 (hS.s (an4 v xb v2 v3 v4 A ak ⟨q,V.L,V.n⟩ B::xmP v4 d.ar::xsP v2 d.ss::xtP v3 d.ts::blk bP _ _::blk bI _ _::blk bR _ _::blk bO _ _::R));clear hS;obtain⟨vb,hS8⟩:=hS9;have hS7:=bX4 hS8;clear hS8;obtain⟨s1,hS6⟩:=hS7;refine(fq4 d.ar hla cl sq xb s1 v2 v3 v4 W _ _ (hS6.s (xeB xb s1 v2 v3 v4::xmP v4 d.ar::xrP s1 (A++(ak,(vb,⟨q,V.L,V.n⟩))::B)::l6 (A++(ak,(vb,⟨q,V.L,V.n⟩))::B)::xsP v2 d.ss::xtP v3 d.ts::blk bP _ _::blk bI _ _::blk bR _ _::blk bO _ _::R))).mono ?_;clear hS6;rintro e w ⟨rfl,hS5⟩;obtain⟨v9,hS⟩:=hS5|go_at_call 56;have hS9:=bk4 (hS.s (xeB xb s1 v2 v3 v9::xrP s1 (A++(ak,(vb,⟨q,V.L,V.n⟩))::B)::l6 (A++(ak,(vb,⟨q,V.L,V.n⟩))::B)::xmP v9 _::xsP v2 d.ss::xtP v3 d.ts::blk bP _ _::blk bI _ _::blk bR _ _::blk bO _ _::R));clear hS;refine(dP4 (A++(ak,(vb,⟨q,V.L,V.n⟩))::B) (by rw[jA,jC];omega) xb v2 v3 v9 W _ _ hS9).mono ?_;clear hS9;rintro e w ⟨rfl,hS⟩);apply Ac7;rfl;rfl;rfl;rfl;exact hS;decide +kernel;(exact n9);kernel_rfl;exact⟨vb,v9,rfl,hS.s _⟩
theorem Je7(hD:D.length<=1000000)(hk:TsK d.ts)(hlt:d.ts.length<=1000000){k:Nat}(hfd:fdI d.ts (cl,sq)=k)(hpk:aO4 d ⟨7,cl,sq,ak,aw,tk,tw,it,ct,pr,bu,id⟩=(rp0,false))(hS:St W (bU4 xb v1 v2 v3 v4 D d R) w):
  Calls Tryz.prog 21 #[.P xb,oV 7 cl sq ak aw tk tw it ct pr bu id] w fun e w'=>∃v9,e=.returned (.tuple #[rV 0 0 0 0 0 0,.bool true])/\St W (Q5 xb v2 v9 v4 (clF D)::xsP v2 d.ss::xtP v9 (rmI d.ts k)::xmP v4 d.ar::R) w':=by
 have hki:k<d.ts.length:=by have:=(Jd7 (cl,sq) d.ts).2;omega
 obtain⟨a,cap,rfl⟩:=hS.drop.drop.drop.drop.rowVal;obtain⟨⟨g,rfl⟩,_,_⟩:=St.rowAddr hS.drop.drop.drop.drop (by omega);have hk1:k<=cap:=by omega
 have hk2:k+1<=d.ts.length:=by omega
 have Hk:=jH hk;have Hpk:=jH hpk;have Hfd:=jH hfd;clear hk hpk hfd;go_enter Tryz.func21,Tryz.ntmps21;go_wp2_with(first|refine zbx hS ?_;clear hS;intro bO w hS|(fail_if_success (have:=gA));(refine zal hS ?_;clear hS;have gA:Nat:=0;intro bR w hS)|(have:=gA);(fail_if_success (have:=gB));(refine zal hS ?_;clear hS;have gB:Nat:=0;intro bI w hS)|refine zl1 hS ?_|refine zlN hS ?_|refine zsN hS ?_;clear hS;intro w hS|go_at_call 48;refine(dH4 (d:=d) Hk.out Hpk.out (hS.s (xeB xb v1 v2 (.S g d.ts.length cap) v4::xsP v2 d.ss::xtP (.S g d.ts.length cap) d.ts::xmP v4 d.ar::xrP v1 D::l6 D::blk bR _ _::blk bO _ _::R))).mono ?_;clear hS;rintro e w ⟨rfl,hS⟩|go_at_call 53;refine(CM7 d.ts Hk.out cl sq Hfd.out xb v1 v2 (.S g d.ts.length cap) v4 W _ _ (hS.s (xeB xb v1 v2 (.S g d.ts.length cap) v4::xtP (.S g d.ts.length cap) d.ts::xsP v2 d.ss::xmP v4 d.ar::xrP v1 D::l6 D::blk bI _ _::blk bR _ _::blk bO _ _::R))).mono ?_;clear hS;rintro e w ⟨rfl,hS⟩);have hS9:=hS.s (xeB xb v1 v2 (.S g d.ts.length cap) v4::xtP (.S g d.ts.length cap) d.ts::xsP v2 d.ss::xmP v4 d.ar::xrP v1 D::l6 D::blk bI _ _::blk bR _ _::blk bO _ _::R);clear hS;refine rf2 [0,0,0,4,12,28,0,124,254,0,512,1536,3584,0,8192,32256,65534,131071,262143,524287] (fun i=>i==1||i==8||i==16) [⟨some 1,some 8,fun nd=>row (nd 1) 8 40 0 []⟩,⟨some 8,some 16,fun nd=>row (nd 8) 8 40 (0+k) ([]++(d.ts.take k).flatMap tnC)⟩,⟨some 16,none,fun nd=>row (nd 16) 8 40 (0+k+(d.ts.length-(k+1))) ([]++(d.ts.take k).flatMap tnC++(d.ts.drop (k+1)).flatMap tnC)⟩,⟨some 19,none,fun nd=>xeB xb v1 v2 (nd 16) v4⟩] [some 19,none,none,none,none,none,none,none,none] hS9 ?_;clear hS9;intro nd;refine cR ?_;apply Bl7;rfl;rfl;rfl;(focus(simp only[fD,fI,fJ,Act.eval,fE,fF,fG,fH,fK];try rfl));(exact esS);(exact rsS);rfl;rfl;rfl;rfl;rfl;decide;(intro _;rfl);rfl;(intro _;rfl);(refine frS ?_)
 (refine cR ?_);refine zcn ?_;refine cR ?_;refine zc1 ?_;refine cR ?_;refine cR ?_;apply Af7;rfl;rfl;rfl;(focus((conv=>lhs;whnf);try rfl));(focus((conv=>lhs;whnf);try rfl));(exact esS);(exact rsS);rfl;decide;rfl;(intro F w hS;exact(Src.partM (by exact r6) (B5 d.ts k)).at hS);(focus(rw[Ab7 AH7,jT,Nat.min_eq_left (by omega)]));(focus(exact DH7 _));(focus(unfold maxLen;omega));(focus(omega));(intro _;rfl);(intro _;rfl);(refine frS ?_);refine cR ?_;refine zcn ?_;refine cR ?_;refine zc1 ?_
 iterate 3 (refine cR ?_)
 (apply Af7;rfl;rfl;rfl;(focus((conv=>lhs;whnf);try rfl));(focus((conv=>lhs;whnf);try rfl));exact esS;exact rsS;rfl;decide;rfl;intro F w hS;exact(Src.behindM (by exact r6) (fun h=>⟨by omega,by rw[List.drop_eq_nil_of_le (by omega)];rfl⟩) (fun j u h=>B7 AH7 d.ts (k+1) j u (by omega) h)).at hS;(focus(rw[Ab7 AH7,List.length_drop]));(focus(exact DH7 _));(focus(unfold maxLen;omega));(focus(omega));intro _;rfl;intro _;rfl;refine frS ?_);refine zcn ?_;refine cR ?_;(apply EZ7;rfl;rfl;rfl;rfl;(focus((conv=>lhs;whnf);try rfl));kernel_rfl;rfl;intro F w hS;exact hS.rowOne (by exact r6);(focus(simp));rfl;rfl;try(refine frS ?_));refine Ad7 ?_;intro w hS;have hS2:St W [row (nd 16) 8 _ _ _,xeB _ _ _ _ _,xtP _ _,xsP _ _,xmP _ _,xrP _ _,l6 _,blk bI _ _,blk bR _ _,blk bO _ _,sats R] w:=hS;clear hS;have hS:=hS2.unpack [_,_,_,_,_,_,_,_,_,_];clear hS2;simp only[jK,jN]at hS;generalize nd 16=v9 at *;have e2:(rmI d.ts k).length=0+k+(d.ts.length-(k+1)):=by unfold rmI;rw[Int.toNat_natCast,jA,jT,List.length_drop,Nat.min_eq_left (by omega)];omega
 have e1:(rmI d.ts k).flatMap tnC=(d.ts.take k).flatMap tnC++(d.ts.drop (k+1)).flatMap tnC:=by unfold rmI;rw[Int.toNat_natCast,List.flatMap_append]
 have hc:∀K:List HP,St W (row v9 8 40 (0+k+(d.ts.length-(k+1))) ((d.ts.take k).flatMap tnC++(d.ts.drop (k+1)).flatMap tnC)::K) w->St W (xtP v9 (rmI d.ts k)::K) w:=by intro K h;unfold xtP;rw[e1,e2];exact h
 have hS9:=hc _ hS;clear hS e1 e2 hc;have hS:=hS9;clear hS9;go_wp2_with(first|refine zlN hS ?_|refine zsN hS ?_;clear hS;intro w hS|go_at_call 56;have hS9:=bk4 (hS.s (xeB xb v1 v2 v9 v4::xrP v1 D::l6 D::xtP v9 (rmI d.ts k)::xsP v2 d.ss::xmP v4 d.ar::blk bI _ _::blk bR _ _::blk bO _ _::R));clear hS;refine(dP4 D hD xb v2 v9 v4 W _ _ hS9).mono ?_;clear hS9;rintro e w ⟨rfl,hS⟩)
 all_goals(apply Ac7;rfl;rfl;rfl;rfl;exact hS;decide +kernel;exact n9;kernel_rfl)
 all_goals exact⟨rfl,v9,hS.s _⟩
end
theorem BH7(D:Ev):(k8 D).length=D.length:=jM _
theorem Jf7{D:Ev}(h:Asc ltB (k8 D)):Asc ltB D:=by unfold Asc k8 at h;exact List.pairwise_map.1 h
theorem GB7(k:ByteArray):∀D:Ev,plI ltB (k8 D) k=plI ltB D k
 | []=>rfl
 | x::D=>by
  have ih:=GB7 k D;show plI ltB ((x.1,x.2.2)::k8 D) k=_
  rw[plI,plI,ih]
theorem Et7(k:ByteArray):∀D:Ev,plB ltB (k8 D) k=plB ltB D k
 | []=>rfl
 | x::D=>by
  have ih:=Et7 k D;show plB ltB ((x.1,x.2.2)::k8 D) k=_
  rw[plB,plB,ih]
theorem Cp7(D:Ev):k8 (clF D)=clV (k8 D):=by unfold clF clV k8;rw[List.filter_map];rfl
theorem Cd7(D:Ev)(k:ByteArray)(vb:Nat)(V:Vs):k8 (loA D k++(k,(vb,V))::hiA D k)=plS ltB (k8 D) k V:=by unfold plS;rw[GB7,Et7];unfold loA hiA k8;rw[List.map_append,List.map_cons,List.map_take,List.map_drop]
theorem Ow7(D:Ev)(k:ByteArray):(loA D k).length+(hiA D k).length<=D.length:=by have h:=Hc7 ltB k D;unfold loA hiA;rw[jT,List.length_drop];split <;> omega
def xU6(xb:Nat)(d:Ec):HP:=fun f=>∃(v1 v2 v3 v4:Value) (D:Ev),k8 D=d.vs/\sats (bU4 xb v1 v2 v3 v4 D d []) f
section
variable{W w:World}{R:List HP}{xb:Nat}{d:Ec}{v1 v2 v3 v4:Value}{D:Ev}{k:ByteArray}{V:Vs}
theorem aG4(h:St W (xU6 xb d::R) w):∃v1 v2 v3 v4 D,k8 D=d.vs/\St W (bU4 xb v1 v2 v3 v4 D d R) w:=by obtain⟨v1,h⟩:=St.ex h;obtain⟨v2,h⟩:=St.ex h;obtain⟨v3,h⟩:=St.ex h;obtain⟨v4,h⟩:=St.ex h;obtain⟨D,h⟩:=St.ex h;obtain⟨hp,h⟩:=St.and h;exact⟨v1,v2,v3,v4,D,hp,h.openS⟩
theorem J5(hp:k8 D=d.vs)(h:St W (bU4 xb v1 v2 v3 v4 D d R) w):St W (xU6 xb d::R) w:=
 St.mkEx v1 (St.mkEx v2 (St.mkEx v3 (St.mkEx v4 (St.mkEx D (St.mkAnd hp (St.shutS [_,_,_,_,_,_] h))))))
theorem bV4{d':Ec}(hp:k8 (clF D)=d'.vs)(h:St W (Q5 xb v2 v3 v4 (clF D)::xsP v2 d'.ss::xtP v3 d'.ts::xmP v4 d'.ar::R) w):St W (xU6 xb d'::R) w:=by obtain⟨r1,h1⟩:=bX4 h;exact J5 hp h1
theorem fv4(hn:Asc ltB d.vs)(hp:k8 D=d.vs)(k:ByteArray):vAt D k=atV d k:=by
 have h1:(D.map (·.1)).Nodup:=by rw[<-Bz7,hp];exact AV7 Bn7 hn
 exact(HL7 h1 (hp▸List.Perm.refl _) k).symm
end
structure DOk(d:Ec)(k:ByteArray)(i:Nat):Prop where
 va:Asc ltB d.vs
 sn:(d.ss.map (·.1)).Nodup
 tk:TsK d.ts
 lv:d.vs.length<=900000
 ls:d.ss.length<=1000000
 lt:d.ts.length<=1000000
 la:d.ar.length<=1000000
 ok:VOk (atV d k).ps (atV d k).n i
 may:∀x∈(atV d k).L,MayP x
 l32:(atV d k).L.length<=32
theorem PW7{d:Ec}{o:Opn}(h:aO4 d o=(rp0,false)):O8 d o=((doV (atV d o.ak) o).1,true,⟨vsD d o,ssD d o (doV (atV d o.ak) o).1,tsD d o (doV (atV d o.ak) o).1,arD d o⟩):=by unfold O8;rw[h];rfl
theorem PX7{d:Ec}{o:Opn}{r:Rpl}(h:aO4 d o=(r,true)):O8 d o=(r,false,d):=by unfold O8;rw[h];rfl
theorem PY7{xb:Nat}{d:Ec}{i:Nat}(hi:i<=5000){kd cl sq:Int}{ak aw tk tw:ByteArray}{it ct pr:Int}{bu:Bool}{id:Int}(hd0:DOk d ak i)(W w:World)(R:List HP)(hS:St W (xU6 xb d::R) w):
  Calls Tryz.prog 21 #[.P xb,oV kd cl sq ak aw tk tw it ct pr bu id] w fun x w'=>
   x=.returned (.tuple #[rV (O8 d ⟨kd,cl,sq,ak,aw,tk,tw,it,ct,pr,bu,id⟩).1.err (O8 d ⟨kd,cl,sq,ak,aw,tk,tw,it,ct,pr,bu,id⟩).1.id (O8 d ⟨kd,cl,sq,ak,aw,tk,tw,it,ct,pr,bu,id⟩).1.has.x0 (O8 d ⟨kd,cl,sq,ak,aw,tk,tw,it,ct,pr,bu,id⟩).1.has.x1 (O8 d ⟨kd,cl,sq,ak,aw,tk,tw,it,ct,pr,bu,id⟩).1.has.x2 (O8 d ⟨kd,cl,sq,ak,aw,tk,tw,it,ct,pr,bu,id⟩).1.has.x3,.bool (O8 d ⟨kd,cl,sq,ak,aw,tk,tw,it,ct,pr,bu,id⟩).2.1]) /\
   St W (xU6 xb (O8 d ⟨kd,cl,sq,ak,aw,tk,tw,it,ct,pr,bu,id⟩).2.2::R) w':=by
 obtain⟨v1,v2,v3,v4,D,hd,hS⟩:=aG4 hS;have hA:Asc ltB D:=Jf7 (hd.symm▸hd0.va);have hl:D.length<=900000:=by rw[<-BH7,hd];exact hd0.lv
 have hlh:=Ow7 D ak;have hV:atV d ak=vAt D ak:=(fv4 hd0.va hd ak).symm;have hok:=hd0.ok;have hmay:=hd0.may;have hl32:=hd0.l32;rw[hV]at hok hmay hl32
 cases hpk:aO4 d ⟨kd,cl,sq,ak,aw,tk,tw,it,ct,pr,bu,id⟩with
 | mk r b=>
 cases b with
 | true=>
  obtain⟨r0,r1,⟨r2,r3,r4,r5⟩⟩:=r;rw[PX7 hpk];refine(My7 hd0.tk hpk hS).mono ?_;rintro x w' ⟨rfl,hS⟩;exact⟨rfl,J5 hd hS⟩
 | false=>
  have hpe:=hpk;rw[Lv7 hd0.sn]at hpe;obtain⟨rfl,hm⟩:=BQ7 hpe;clear hpe;have hap:=PW7 hpk;unfold vsD at hap;dsimp only at hap;rw[hV]at hap;have hm2:J9 ⟨kd,cl,sq,ak,aw,tk,tw,it,ct,pr,bu,id⟩=true:=by unfold w8 at hm;exact(jB _ _▸hm).2
  have hk:kd=1\/kd=2\/kd=3\/kd=4\/kd=5\/kd=6\/kd=7:=by
   unfold J9 at hm2;dsimp only at hm2
   repeat' split at hm2
   all_goals first|omega|cases hm2
  have hcnt:kd≠7->0<=it/\it<4/\0<=ct/\ct<=1048576:=by
   intro h7;have hc:H8 ⟨kd,cl,sq,ak,aw,tk,tw,it,ct,pr,bu,id⟩=true->0<=it/\it<4/\0<=ct/\ct<=1048576:=fun h=>by have:=Dd7 h;simp only at this;omega
   rcases hk with rfl|rfl|rfl|rfl|rfl|rfl|rfl
   ·have hm3:t8 ⟨1,cl,sq,ak,aw,tk,tw,it,ct,pr,bu,id⟩=true:=hm2;unfold t8 at hm3;exact hc (jB _ _▸hm3).1
   ·have hm3:N7 ⟨2,cl,sq,ak,aw,tk,tw,it,ct,pr,bu,id⟩=true:=hm2;unfold N7 at hm3;exact hc (jB _ _▸(jB _ _▸hm3).2).1
   ·have hm3:I8 ⟨3,cl,sq,ak,aw,tk,tw,it,ct,pr,bu,id⟩=true:=hm2;unfold I8 at hm3;simp only[jB]at hm3;exact hc hm3.2.2.2.1
   ·have hm3:G7 ⟨4,cl,sq,ak,aw,tk,tw,it,ct,pr,bu,id⟩=true:=hm2;unfold G7 at hm3;simp only[jB,decide_eq_true_eq]at hm3;omega
   ·have hm3:co4 ⟨5,cl,sq,ak,aw,tk,tw,it,ct,pr,bu,id⟩=true:=hm2;unfold co4 at hm3;simp only[jB,decide_eq_true_eq]at hm3;omega
   ·have hm3:t8 ⟨6,cl,sq,ak,aw,tk,tw,it,ct,pr,bu,id⟩=true:=hm2;unfold t8 at hm3;exact hc (jB _ _▸hm3).1
   ·exact absurd rfl h7
  rcases hk with rfl|rfl|rfl|rfl|rfl|rfl|rfl
  ·obtain⟨h0,h4,c0,c1⟩:=hcnt (by decide);refine(CF7 (A:=loA D ak) (B:=hiA D ak) (V':=⟨F9 (vAt D ak).ps aw (r8 it ct),(vAt D ak).L,(vAt D ak).n⟩) rfl rfl hd0.tk hd0.ls (by omega) hpk (fun w R h=>(gB4 hA (by omega) rfl rfl rfl hok hi h0 h4 c0 c1 rfl rfl h).mono (by rintro e w' ⟨vb,rfl,h⟩;exact⟨vb,v3,rfl,h⟩)) hS).mono ?_;rintro x w' ⟨vb,v8,v9,rfl,hS⟩;rw[hap];refine⟨rfl,?_⟩;refine bV4 (d':=⟨clV (plS ltB d.vs ak ⟨F9 (vAt D ak).ps aw (r8 it ct),(vAt D ak).L,(vAt D ak).n⟩),plS ltI d.ss cl (sq,⟨K7 (vAt D ak).ps aw (r8 it ct),0,it0⟩),d.ts,d.ar⟩) ?_ hS;rw[Cp7,Cd7,hd]
  ·obtain⟨h0,h4,c0,c1⟩:=hcnt (by decide);by_cases hr:m9 (vAt D ak).ps aw (r8 it ct)=0
   ·have hv:(doV (vAt D ak) ⟨2,cl,sq,ak,aw,tk,tw,it,ct,pr,bu,id⟩).1=rp0:=by
     show(⟨m9 (vAt D ak).ps aw (r8 it ct),0,it0⟩:Rpl)=rp0
     rw[hr]
    have ht:tsD d ⟨2,cl,sq,ak,aw,tk,tw,it,ct,pr,bu,id⟩ rp0=d.ts.take (plI ltW d.ts (cl,sq))++((cl,sq),⟨cl,sq,ak,aw,tk,tw,it,ct⟩)::d.ts.drop (plI ltW d.ts (cl,sq)):=if_pos ⟨rfl,rfl⟩;rw[hv,ht]at hap;refine(CF7 (A:=loA D ak) (B:=hiA D ak) (V':=⟨p9 (vAt D ak).ps aw (r8 it ct),(vAt D ak).L,(vAt D ak).n⟩) rfl rfl hd0.tk hd0.ls (by omega) hpk (fun w R h=>fS4 hA (by omega) rfl rfl rfl hok hi h0 h4 c0 c1 hr rfl hd0.tk hd0.lt h) hS).mono ?_;rintro x w' ⟨vb,v8,v9,rfl,hS⟩;rw[hap];refine⟨rfl,?_⟩;refine bV4 (d':=⟨clV (plS ltB d.vs ak ⟨p9 (vAt D ak).ps aw (r8 it ct),(vAt D ak).L,(vAt D ak).n⟩),plS ltI d.ss cl (sq,rp0),d.ts.take (plI ltW d.ts (cl,sq))++((cl,sq),⟨cl,sq,ak,aw,tk,tw,it,ct⟩)::d.ts.drop (plI ltW d.ts (cl,sq)),d.ar⟩) ?_ hS;rw[Cp7,Cd7,hd]
   ·have ht:tsD d ⟨2,cl,sq,ak,aw,tk,tw,it,ct,pr,bu,id⟩ (doV (vAt D ak) ⟨2,cl,sq,ak,aw,tk,tw,it,ct,pr,bu,id⟩).1=d.ts:=(if_neg (fun h=>hr h.2)).trans (if_neg (by show ¬((2:Int)=7);decide));rw[ht]at hap;refine(CF7 (A:=loA D ak) (B:=hiA D ak) (V':=⟨p9 (vAt D ak).ps aw (r8 it ct),(vAt D ak).L,(vAt D ak).n⟩) rfl rfl hd0.tk hd0.ls (by omega) hpk (fun w R h=>(fR4 hA (by omega) rfl rfl rfl hok hi h0 h4 c0 c1 rfl (by simpa using hr) rfl h).mono (by rintro e w' ⟨vb,rfl,h⟩;exact⟨vb,v3,rfl,h⟩)) hS).mono ?_;rintro x w' ⟨vb,v8,v9,rfl,hS⟩;rw[hap];refine⟨rfl,?_⟩;refine bV4 (d':=⟨clV (plS ltB d.vs ak ⟨p9 (vAt D ak).ps aw (r8 it ct),(vAt D ak).L,(vAt D ak).n⟩),plS ltI d.ss cl (sq,⟨m9 (vAt D ak).ps aw (r8 it ct),0,it0⟩),d.ts,d.ar⟩) ?_ hS;rw[Cp7,Cd7,hd]
  ·obtain⟨h0,h4,c0,c1⟩:=hcnt (by decide);refine(CF7 (A:=loA D ak) (B:=hiA D ak) (V':=(B6 (vAt D ak) ⟨0,aw,bu,it,ct,pr⟩).2.2) rfl rfl hd0.tk hd0.ls (by omega) hpk (fun w R h=>(gC4 hA (by omega) rfl rfl rfl hok hi h0 h4 c0 c1 hmay rfl rfl rfl h).mono (by rintro e w' ⟨vb,rfl,h⟩;exact⟨vb,v3,rfl,h⟩)) hS).mono ?_;rintro x w' ⟨vb,v8,v9,rfl,hS⟩;rw[hap];refine⟨rfl,?_⟩;refine bV4 (d':=⟨clV (plS ltB d.vs ak (B6 (vAt D ak) ⟨0,aw,bu,it,ct,pr⟩).2.2),plS ltI d.ss cl (sq,⟨(B6 (vAt D ak) ⟨0,aw,bu,it,ct,pr⟩).2.1,(B6 (vAt D ak) ⟨0,aw,bu,it,ct,pr⟩).1,it0⟩),d.ts,d.ar⟩) ?_ hS;rw[Cp7,Cd7,hd]
  ·obtain⟨h0,h4,c0,c1⟩:=hcnt (by decide);refine(CF7 (A:=loA D ak) (B:=hiA D ak) (V':=(C7 (vAt D ak) aw id).2) rfl rfl hd0.tk hd0.ls (by omega) hpk (fun w R h=>(gD4 hA (by omega) rfl rfl rfl hok hi h0 h4 c0 c1 hmay hl32 rfl rfl h).mono (by rintro e w' ⟨vb,rfl,h⟩;exact⟨vb,v3,rfl,h⟩)) hS).mono ?_;rintro x w' ⟨vb,v8,v9,rfl,hS⟩;rw[hap];refine⟨rfl,?_⟩;refine bV4 (d':=⟨clV (plS ltB d.vs ak (C7 (vAt D ak) aw id).2),plS ltI d.ss cl (sq,⟨(C7 (vAt D ak) aw id).1,0,it0⟩),d.ts,d.ar⟩) ?_ hS;rw[Cp7,Cd7,hd]
  ·obtain⟨h0,h4,c0,c1⟩:=hcnt (by decide);refine(CF7 (A:=loA D ak) (B:=hiA D ak) (V':=vAt D ak) rfl rfl hd0.tk hd0.ls (by omega) hpk (fun w R h=>(gE4 hA (by omega) rfl rfl rfl hok hi h0 h4 c0 c1 rfl h).mono (by rintro e w' ⟨vb,rfl,h⟩;exact⟨vb,v3,rfl,h⟩)) hS).mono ?_;rintro x w' ⟨vb,v8,v9,rfl,hS⟩;rw[hap];refine⟨rfl,?_⟩;refine bV4 (d':=⟨clV (plS ltB d.vs ak (vAt D ak)),plS ltI d.ss cl (sq,⟨0,0,k9 (vAt D ak).ps aw⟩),d.ts,d.ar⟩) ?_ hS;rw[Cp7,Cd7,hd]
  ·obtain⟨h0,h4,c0,c1⟩:=hcnt (by decide);refine(Mz7 hA hl rfl rfl rfl (by omega) hok hi h0 h4 c0 c1 rfl hd0.tk hd0.la hpk hS).mono ?_;rintro x w' ⟨vb,v9,rfl,hS⟩;rw[hap];refine⟨rfl,?_⟩;refine bV4 (d':=⟨clV (plS ltB d.vs ak ⟨F9 (vAt D ak).ps aw (r8 it ct),(vAt D ak).L,(vAt D ak).n⟩),d.ss,d.ts,cy4 d.ar (cl,sq) ()⟩) ?_ hS;rw[Cp7,Cd7,hd]
  ·have hf0:(i9 d.ts (cl,sq)).isNone=false:=by
    have h1:=hpk;unfold aO4 at h1;rw[if_neg (by rw[hm];exact Bool.noConfusion),if_neg (by show ¬((7:Int)=6);decide),if_pos rfl,Dy7]at h1;exact congrArg Prod.snd h1
   have hf1:0<=fdI d.ts (cl,sq):=by rw[<-Dy7]at hf0;simpa using hf0
   obtain⟨k,hfd⟩:=Int.eq_ofNat_of_zero_le hf1;refine(Je7 (by omega) hd0.tk hd0.lt hfd hpk hS).mono ?_;rintro x w' ⟨v9,rfl,hS⟩;rw[hap];refine⟨rfl,?_⟩;refine bV4 (d':=⟨clV d.vs,d.ss,rmI d.ts (fdI d.ts (cl,sq)),d.ar⟩) ?_ (by rw[hfd];exact hS);rw[Cp7,hd]
section
variable{W w:World}{R:List HP}{xb eb:Nat}{d e:Ec}{i:Nat}
theorem RR7(hk:TsK d.ts){kd cl sq:Int}{ak aw tk tw:ByteArray}{it ct pr:Int}{bu:Bool}{id:Int}{r0 r1 r2 r3 r4 r5:Int}{b:Bool}(hp:aO4 d ⟨kd,cl,sq,ak,aw,tk,tw,it,ct,pr,bu,id⟩=(⟨r0,r1,⟨r2,r3,r4,r5⟩⟩,b))(hS:St W (xU6 xb d::R) w):
  Calls Tryz.prog 48 #[.P xb,oV kd cl sq ak aw tk tw it ct pr bu id] w fun e w'=>e=.returned (.tuple #[rV r0 r1 r2 r3 r4 r5,.bool b])/\St W (xU6 xb d::R) w':=by
 obtain⟨v1,v2,v3,v4,D,hd,hS⟩:=aG4 hS;refine(dH4 (d:=d) hk hp (hS.s (xeB xb v1 v2 v3 v4::xsP v2 d.ss::xtP v3 d.ts::xmP v4 d.ar::xrP v1 D::l6 D::R))).mono ?_;rintro e w' ⟨rfl,hS⟩;exact⟨rfl,J5 hd (hS.s _)⟩
theorem MA7(cl sq:Int){b:Bool}(hb:(i9 d.ar (cl,sq)).isSome=b)(hS:St W (xU6 xb d::R) w):
  Calls Tryz.prog 82 #[.P xb,.I cl,.I sq] w fun e w'=>e=.returned (.bool b)/\St W (xU6 xb d::R) w':=by
 obtain⟨v1,v2,v3,v4,D,hd,hS⟩:=aG4 hS;refine(BS7 d.ar cl sq hb xb v1 v2 v3 v4 W _ _ (hS.s (xeB xb v1 v2 v3 v4::xmP v4 d.ar::xsP v2 d.ss::xtP v3 d.ts::xrP v1 D::l6 D::R))).mono ?_;rintro e w' ⟨rfl,hS⟩;exact⟨rfl,J5 hd (hS.s _)⟩
theorem gL4(hA0:Asc ltB d.vs)(k u:ByteArray)(hok:VOk (atV d k).ps (atV d k).n i){x0 x1 x2 x3:Int}(hx:k9 (atV d k).ps u=⟨x0,x1,x2,x3⟩)(hS:St W (xU6 xb d::R) w):
  Calls Tryz.prog 84 #[.P xb,.agg #[.string k,.string u]] w fun e w'=>e=.returned (.agg #[.I x0,.I x1,.I x2,.I x3])/\St W (xU6 xb d::R) w':=by
 obtain⟨v1,v2,v3,v4,D,hd,hS⟩:=aG4 hS;have hA:Asc ltB D:=Jf7 (hd.symm▸hA0);have hV:atV d k=vAt D k:=(fv4 hA0 hd k).symm;rw[hV]at hok hx;clear hV;have Hd:=jH hd;obtain⟨p,hp⟩:∃p,plI ltB D k=p:=⟨_,rfl⟩
 have Hp:=jH hp
 cases hb:plB ltB D k with
 | false=>
  rw[Lu7 hA hb]at hx
  cases hx
  have Hb:=jH hb;clear hb hp hd hok hA0 hA;go_enter Tryz.func84,Tryz.ntmps84;go_wp2_with(first|refine zbx hS ?_;clear hS;intro bO w hS|refine zal hS ?_;clear hS;intro bR w hS|refine zl1 hS ?_|refine zsN hS ?_;clear hS;intro w hS|go_at_call 80;refine(Co7 Hp.out Hb.out xb v1 v2 v3 v4 W _ _ (hS.s (xeB xb v1 v2 v3 v4::xrP v1 D::blk bR _ _::blk bO _ _::l6 D::xsP v2 d.ss::xtP v3 d.ts::xmP v4 d.ar::R))).mono ?_;clear hS;rintro e w ⟨rfl,hS⟩);apply As7;rfl;rfl;rfl;exact hS;decide +kernel;(exact n9);kernel_rfl;exact⟨rfl,J5 Hd.out (hS.s _)⟩
 | true=>
  obtain⟨hpl,vb,V,hxx,hv,hD⟩:=Lt7 hA hb;rw[hv]at hok hx;obtain⟨a,cap,rfl⟩:=hS.drop.rowVal;obtain⟨⟨g,rfl⟩,_,_⟩:=St.rowAddr hS.drop (by omega);have hc:∀{K K':List HP},Take K (xrP (.S g D.length cap) D) K'->i8 K g (plI ltB D k*2+1) (.P vb):=fun hu=>i5.elemM (enc:=rwC) AE7 hu hpl 1 _ (by rw[hxx];rfl)
  rw[hp]at hc hpl;have h1:=hS.s (l6 D::xeB xb (.S g D.length cap) v2 v3 v4::xrP (.S g D.length cap) D::xsP v2 d.ss::xtP v3 d.ts::xmP v4 d.ar::R);clear hS;obtain⟨A,hA1⟩:∃A,loA D k=A:=⟨_,rfl⟩
  obtain⟨B,hB1⟩:∃B,hiA D k=B:=⟨_,rfl⟩
  rw[hA1,hB1]at hD;have hback:∀w' K,St W (dvP vb V::l6 (A++B)::K) w'->St W (l6 D::K) w':=by intro w' K h;have h3:=cw4 (x:=(k,(vb,V))) h;rw[<-hD]at h3;exact h3
  have h2:St W (dvP vb V::l6 (A++B)::xeB xb (.S g D.length cap) v2 v3 v4::xrP (.S g D.length cap) D::xsP v2 d.ss::xtP v3 d.ts::xmP v4 d.ar::R) w:=by
   have h4:St W (l6 (A++(k,(vb,V))::B)::xeB xb (.S g D.length cap) v2 v3 v4::xrP (.S g D.length cap) D::xsP v2 d.ss::xtP v3 d.ts::xmP v4 d.ar::R) w:=by rw[<-hD];exact h1
   exact cv4 h4
  obtain⟨xB,hS⟩:=da4 h2;have Hb:=jH hb;have Hback:=jH hback;have Hx:=jH hx;have Hok:=jH hok;clear h1 h2 hback hD hA1 hB1 hxx hv hb hp hd hx hok hA0 hA;go_enter Tryz.func84,Tryz.ntmps84;go_wp2_with(first|refine zbx hS ?_;clear hS;intro bO w hS|refine zal hS ?_;clear hS;intro bR w hS|refine zl1 hS ?_|go_at_call 80;refine(Co7 Hp.out Hb.out xb _ v2 v3 v4 W _ _ (hS.s (xeB xb (.S g D.length cap) v2 v3 v4::xrP (.S g D.length cap) D::xvP vb _ V.n V.ps::xkP xB V.L V.n::blk bR _ _::blk bO _ _::l6 (A++B)::xsP v2 d.ss::xtP v3 d.ts::xmP v4 d.ar::R))).mono ?_;clear hS;rintro e w ⟨rfl,hS⟩);have hS1:=hS.s (xvP vb (.P xB) V.n V.ps::xkP xB V.L V.n::xeB xb (.S g D.length cap) v2 v3 v4::xrP (.S g D.length cap) D::blk bR _ _::blk bO _ _::l6 (A++B)::xsP v2 d.ss::xtP v3 d.ts::xmP v4 d.ar::R);clear hS;refine rt 11 hS1 ?_
  repeat(first|refine zq1 ?_|refine zqn ?_|apply Aj7;rfl;rfl;rfl;decide +kernel;exact hc (by exact i6);refine frS ?_|apply Ar7;rfl;intro w;apply Ag7;rfl;decide +kernel;(focus(simp only[fD,fI,fJ,Act.eval,fE,fF,fG,fH,fK];try rfl));intro w hS;exact bR4 Hok.out.w Hx.out hS;refine frS ?_|refine qR ?_)
  clear hS1;intro w hS;simp only[jD,List.drop_zero];go_wp2_with(first|refine zsN hS ?_;clear hS;intro w hS);apply As7;rfl;rfl;rfl;exact hS;decide +kernel;(exact n9);kernel_rfl;have h1:=bB4 (V:=V) (hS.s (xvP vb (.P xB) V.n V.ps::xkP xB V.L V.n::l6 (A++B)::xeB xb (.S g D.length cap) v2 v3 v4::xrP (.S g D.length cap) D::xsP v2 d.ss::xtP v3 d.ts::xmP v4 d.ar::R));have h2:=Hback.out _ _ h1;exact⟨rfl,J5 Hd.out (h2.s _)⟩
theorem RS7{kd cl sq:Int}{ak aw tk tw:ByteArray}{it ct pr:Int}{bu:Bool}{id:Int}{r0 r1 r2 r3 r4 r5:Int}{b:Bool}(hp:D7 e ⟨kd,cl,sq,ak,aw,tk,tw,it,ct,pr,bu,id⟩=(⟨r0,r1,⟨r2,r3,r4,r5⟩⟩,b))(hS:St W (ecP eb e::R) w):
  Calls Tryz.prog 33 #[.P eb,oV kd cl sq ak aw tk tw it ct pr bu id] w fun x w'=>x=.returned (.tuple #[rV r0 r1 r2 r3 r4 r5,.bool b])/\St W (ecP eb e::R) w':=by
 obtain⟨m1,m2,m3,m4,E,h1,hn,hS⟩:=N9 hS;refine(Bi7 (vs:=e.vs) hp W _ _ hS).mono ?_;rintro x w' ⟨rfl,hS⟩;exact⟨rfl,K9 h1 (B9 hS)⟩
theorem Lw7:∀{E:Ev} {R:List HP},St W (j8 E::R) w->∀x∈E,(∀o∈x.2.2.L,MayP o)/\x.2.2.L.length<=32
 | [],_,_,_,hx=>by cases hx
 | y::E,R,h,x,hx=>by
  have h1:=bW4 (E:=E) h
  rcases List.mem_cons.1 hx with rfl|hx
  ·obtain⟨mb,bb,h2⟩:=aY4 h1;exact⟨fun o ho=>(By7 h2.drop.drop o ho).1,Cb7 h2.drop.drop⟩
  ·exact Lw7 h1.drop x hx
theorem EU7(h:St W (ecP eb e::R) w):∀x∈e.vs,(∀o∈x.2.L,MayP o)/\x.2.L.length<=32:=by obtain⟨m1,m2,m3,m4,E,hp,h⟩:=dM4 h;have h1:St W (j8 E::R) w:=h.s _;intro x hx;obtain⟨y,hy,rfl⟩:=List.mem_map.1 (hp.mem_iff.2 hx);exact Lw7 h1 y hy
end
theorem fw4(i:Nat):VOk [] 1 i:=⟨Fr7,NL7 _,by decide,by omega⟩
structure GOk(d e:Ec)(n:Nat):Prop where
 sim:SimE d e
 ok:EOk e n
 lv:d.vs.length<=n
 ls:d.ss.length<=n
 lt:d.ts.length<=n
 la:d.ar.length<=n
theorem hz4:GOk ec0 ec0 0:=⟨hy4,fP4 0,Nat.le_refl _,Nat.le_refl _,Nat.le_refl _,Nat.le_refl _⟩
theorem GOk.dok{d e:Ec}{n:Nat}(h:GOk d e n)(hn:n<=5000)(he:∀x∈e.vs,(∀o∈x.2.L,MayP o)/\x.2.L.length<=32)(k:ByteArray):DOk d k n:=by
 have h1:VOk (atV d k).ps (atV d k).n n/\(∀x∈(atV d k).L,MayP x)/\(atV d k).L.length<=32:=by
  rw[h.sim.at];unfold atV
  cases hg:i9 e.vs k with
  | none=>exact⟨fw4 n,fun x hx=>(by cases hx),Nat.zero_le _⟩
  | some V=>
   have h2:=AI7 hg;exact⟨h.ok _ h2,(he _ h2).1,(he _ h2).2⟩
 have:=h.lv;have:=h.ls;have:=h.lt;have:=h.la;exact⟨h.sim.va,h.sim.sn,h.sim.tk,by omega,by omega,by omega,by omega,h1.1,h1.2.1,h1.2.2⟩
section
variable{κ ν:Type}[DecidableEq κ]
theorem Kp7{lt:κ->κ->Bool}(l:List (κ×ν))(k:κ)(v:ν):(plS lt l k v).length<=l.length+1:=by have h:=Hc7 lt k l;unfold plS;rw[jA,jC,jT,List.length_drop];split <;> omega
theorem Lx7(l:List ((Int×Int)×ν))(k:Int×Int)(v:ν):(cy4 l k v).length<=l.length+1:=by have h:=Hc7 ltW k l;unfold cy4;rw[jA,jC,jT,List.length_drop];omega
theorem RT7{α:Type}(l:List α)(i:Int):(rmI l i).length<=l.length:=by unfold rmI;rw[jA,jT,List.length_drop];omega
end
theorem RU7(l:List (ByteArray×Vs)):(clV l).length<=l.length:=List.length_filter_le _ _
theorem PZ7(d:Ec)(o:Opn):(O8 d o).2.2.vs.length<=d.vs.length+1/\(O8 d o).2.2.ss.length<=d.ss.length+1/\(O8 d o).2.2.ts.length<=d.ts.length+1/\(O8 d o).2.2.ar.length<=d.ar.length+1:=by
 unfold O8;split
 ·exact⟨Nat.le_succ _,Nat.le_succ _,Nat.le_succ _,Nat.le_succ _⟩
 ·refine⟨?_,?_,?_,?_⟩
  ·show(vsD d o).length<=_
   unfold vsD;refine Nat.le_trans (RU7 _) ?_;split
   ·omega
   ·exact Kp7 _ _ _
  ·show(ssD d o _).length<=_
   unfold ssD;split
   ·omega
   ·exact Kp7 _ _ _
  ·show(tsD d o _).length<=_
   unfold tsD;split
   ·exact Lx7 _ _ _
   ·split
    ·exact Nat.le_trans (RT7 _ _) (by omega)
    ·omega
  ·show(arD d o).length<=_
   unfold arD;split
   ·exact Lx7 _ _ _
   ·omega
theorem GOk.app{d e:Ec}{n:Nat}(h:GOk d e n)(o:Opn)(hok:EOk (G8 e o).2.2 (n+1)):GOk (O8 d o).2.2 (G8 e o).2.2 (n+1):=by obtain⟨h1,h2,h3,h4⟩:=PZ7 d o;have:=h.lv;have:=h.ls;have:=h.lt;have:=h.la;exact⟨(Ko7 h.sim o).2.2,hok,by omega,by omega,by omega,by omega⟩
end Go.Proofs.YtlmhakmoioogaaaGreat
end
