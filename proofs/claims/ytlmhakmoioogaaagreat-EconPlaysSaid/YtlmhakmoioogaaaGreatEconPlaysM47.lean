/-
  The document's Apply: what is known already; a request of a client; what arrives; what is done. For every economy.
  The document's economy as one resource: Apply, At, Peek, Arrived. For every economy, every request.
-/
import Derived.Test.YtlmhakmoioogaaaGreatEconPlaysM5
import Derived.Test.YtlmhakmoioogaaaGreatEconPlaysM44
import Derived.Test.YtlmhakmoioogaaaGreatEconPlaysM46
set_option maxHeartbeats 16000000
set_option maxRecDepth 100000
set_option linter.unusedSimpArgs false
set_option linter.unusedVariables false
section
namespace Go.Proofs.YtlmhakmoioogaaaGreat
open Go.RowKit Go.Sl
section
variable{d:Ec}{xb:Nat}{v1 v2 v3 v4:Value}{D A B:Ev}{V V':Vs}{i:Nat}{kd cl sq:Int}{ak aw tk tw:ByteArray}{it ct pr:Int}{bu:Bool}{id:Int}{W w:World}{R:List HP}{r0 r1 r2 r3 r4 r5:Int}{b:Bool}
theorem peek8(hk:TsK d.ts)(hp:peekD d ⟨kd,cl,sq,ak,aw,tk,tw,it,ct,pr,bu,id⟩=(⟨r0,r1,⟨r2,r3,r4,r5⟩⟩,b))(hS:St W (xeL xb v1 v2 v3 v4 d R) w):
  Calls Tryz.prog 48 #[.pointer (some ⟨xb,0,none⟩),oV kd cl sq ak aw tk tw it ct pr bu id] w fun e w'=>e=.returned (.tuple #[rV r0 r1 r2 r3 r4 r5,.bool b])∧St W (xeL xb v1 v2 v3 v4 d R) w':=by
 unfold peekD at hp
 dsimp only at hp
 cases hm:mayO ⟨kd,cl,sq,ak,aw,tk,tw,it,ct,pr,bu,id⟩with
 | false=>
  rw[hm,if_pos rfl]at hp
  cases hp
  exact OB7 hm hS
 | true=>
  rw[hm,if_neg (by exact Bool.noConfusion)]at hp
  by_cases h6:kd=6
  ·subst h6
   rw[if_pos rfl]at hp
   cases hp
   exact Nc7 hm rfl hS
  ·rw[if_neg h6]at hp
   by_cases h7:kd=7
   ·subst h7
    rw[if_pos rfl]at hp
    cases hp
    exact Js7 hm hk hS
   ·rw[if_neg h7]at hp
    exact Ll7 hm h6 h7 hp hS
abbrev xecR(xb:Nat)(v1 v2 v3 v4:Value)(D:Ev)(d:Ec)(R:List HP):List HP:=xeB xb v1 v2 v3 v4::xrP v1 D::dvaP D::xsP v2 d.ss::xtP v3 d.ts::xmP v4 d.ar::R
theorem Lm7(hk:TsK d.ts)(hpk:peekD d ⟨kd,cl,sq,ak,aw,tk,tw,it,ct,pr,bu,id⟩=(⟨r0,r1,⟨r2,r3,r4,r5⟩⟩,true))(hS:St W (xecR xb v1 v2 v3 v4 D d R) w):
  Calls Tryz.prog 21 #[.pointer (some ⟨xb,0,none⟩),oV kd cl sq ak aw tk tw it ct pr bu id] w fun e w'=>e=.returned (.tuple #[rV r0 r1 r2 r3 r4 r5,.bool false])∧St W (xecR xb v1 v2 v3 v4 D d R) w':=by
 have Hk:=Lib.hid hk
 have Hpk:=Lib.hid hpk
 clear hk hpk
 go_enter Tryz.func21,Tryz.ntmps21
 go_wp2_with(first|(refine zbx hS ?_;clear hS;intro bO w hS)|((fail_if_success (have:=gA));(refine zal hS ?_;clear hS;have gA:Nat:=0;intro bR w hS))|((have:=gA);(fail_if_success (have:=gB));(refine zal hS ?_;clear hS;have gB:Nat:=0;intro bI w hS))|(refine zlN hS ?_)|(refine zsN hS ?_;clear hS;intro w hS)|(go_at_call 48;refine(peek8 (d:=d) Hk.out Hpk.out (hS.s (xeB xb v1 v2 v3 v4::xsP v2 d.ss::xtP v3 d.ts::xmP v4 d.ar::xrP v1 D::dvaP D::blk bR _ _::blk bO _ _::R))).mono ?_;clear hS;rintro e w ⟨rfl,hS⟩))
 (apply Ac7;rfl;rfl;rfl;rfl;exact hS;decide +kernel;(exact cesS);kernel_rfl)
 exact⟨rfl,hS.s _⟩
theorem Cs7{T:List ((Int×Int)×Tns)}(h6:(kd==6)=false)(h7:(kd==7)=false)(hk:TsK d.ts)(hls:d.ss.length≤1000000)(hAB:A.length+B.length≤900000)(hpk:peekD d ⟨kd,cl,sq,ak,aw,tk,tw,it,ct,pr,bu,id⟩=(rp0,false))
  (hdo:∀(w:World) (R:List HP),St W (xevP xb v2 v3 v4 D::xtP v3 d.ts::R) w→Calls Tryz.prog 54 #[.pointer (some ⟨xb,0,none⟩),oV kd cl sq ak aw tk tw it ct pr bu id] w fun e w'=>∃vb v,e=.returned (rV r0 r1 r2 r3 r4 r5)∧St W (xevP xb v2 v v4 (A++(ak,(vb,V'))::B)::xtP v T::R) w')
  (hS:St W (xecR xb v1 v2 v3 v4 D d R) w):
  Calls Tryz.prog 21 #[.pointer (some ⟨xb,0,none⟩),oV kd cl sq ak aw tk tw it ct pr bu id] w fun e w'=>∃vb v8 v9,e=.returned (.tuple #[rV r0 r1 r2 r3 r4 r5,.bool true])∧St W (xevP xb v8 v9 v4 (clF (A++(ak,(vb,V'))::B))::xsP v8 (plS ltI d.ss cl (sq,⟨r0,r1,⟨r2,r3,r4,r5⟩⟩))::xtP v9 T::xmP v4 d.ar::R) w':=by
 have Hk:=Lib.hid hk
 have Hpk:=Lib.hid hpk
 have Hdo:=Lib.hid hdo
 clear hk hpk hdo
 go_enter Tryz.func21,Tryz.ntmps21
 go_wp2_with(first|(refine zbx hS ?_;clear hS;intro bO w hS)|((fail_if_success (have:=gA));(refine zal hS ?_;clear hS;have gA:Nat:=0;intro bR w hS))|((have:=gA);(fail_if_success (have:=gB));(refine zal hS ?_;clear hS;have gB:Nat:=0;intro bI w hS))|(refine zl1 hS ?_)|(refine zlN hS ?_)|(refine zsN hS ?_;clear hS;intro w hS)|(go_at_call 48;refine(peek8 (d:=d) Hk.out Hpk.out (hS.s (xeB xb v1 v2 v3 v4::xsP v2 d.ss::xtP v3 d.ts::xmP v4 d.ar::xrP v1 D::dvaP D::blk bR _ _::blk bO _ _::R))).mono ?_;clear hS;rintro e w ⟨rfl,hS⟩)|(go_at_call 54;have hS9:=xevShut (hS.s (xeB xb v1 v2 v3 v4::xrP v1 D::dvaP D::xtP v3 d.ts::xsP v2 d.ss::xmP v4 d.ar::blk bI _ _::blk bR _ _::blk bO _ _::R));clear hS;refine(Hdo.out _ _ hS9).mono ?_;clear hS9;rintro e w ⟨vb,v9,rfl,hS⟩)|(go_at_call 55;have hS9:=xevOpen (hS.s (xevP xb v2 v9 v4 (A++(ak,(vb,V'))::B)::xtP v9 T::xsP v2 d.ss::xmP v4 d.ar::blk bI _ _::blk bR _ _::blk bO _ _::R));clear hS;obtain⟨s1,hS8⟩:=hS9;refine(remember8 d.ss hls cl sq ⟨r0,r1,⟨r2,r3,r4,r5⟩⟩ xb s1 v2 v9 v4 W _ _ (hS8.s (xeB xb s1 v2 v9 v4::xsP v2 d.ss::xrP s1 (A++(ak,(vb,V'))::B)::dvaP (A++(ak,(vb,V'))::B)::xtP v9 T::xmP v4 d.ar::blk bI _ _::blk bR _ _::blk bO _ _::R))).mono ?_;clear hS8;rintro e w ⟨rfl,hS7⟩;obtain⟨v8,hS⟩:=hS7)|(go_at_call 56;have hS9:=xevShut (hS.s (xeB xb s1 v8 v9 v4::xrP s1 (A++(ak,(vb,V'))::B)::dvaP (A++(ak,(vb,V'))::B)::xsP v8 _::xtP v9 T::xmP v4 d.ar::blk bI _ _::blk bR _ _::blk bO _ _::R));clear hS;refine(clean8 (A++(ak,(vb,V'))::B) (by rw[List.length_append,List.length_cons];omega) xb v8 v9 v4 W _ _ hS9).mono ?_;clear hS9;rintro e w ⟨rfl,hS⟩))
 (apply Ac7;rfl;rfl;rfl;rfl;exact hS;decide +kernel;(exact cesS);kernel_rfl)
 exact⟨vb,v8,v9,rfl,hS.s _⟩
theorem Ln7(hA:Asc ltB D)(hD:D.length≤900000)(hV:vAt D ak=V)(h1:loA D ak=A)(h2:hiA D ak=B)(hAB:A.length+B.length≤900000)(hok:VOk V.ps V.n i)(hi:i≤5000)(h0:0≤it)(h4:it<4)(c0:0≤ct)(c1:ct≤1048576){q:Ps}(hq:putP V.ps aw (oneI it ct)=q)(hk:TsK d.ts)(hla:d.ar.length≤1000000)
  (hpk:peekD d ⟨6,cl,sq,ak,aw,tk,tw,it,ct,pr,bu,id⟩=(rp0,false)) (hS:St W (xecR xb v1 v2 v3 v4 D d R) w):
  Calls Tryz.prog 21 #[.pointer (some ⟨xb,0,none⟩),oV 6 cl sq ak aw tk tw it ct pr bu id] w fun e w'=>∃vb v9,e=.returned (.tuple #[rV 0 0 0 0 0 0,.bool true])∧St W (xevP xb v2 v3 v9 (clF (A++(ak,(vb,⟨q,V.L,V.n⟩))::B))::xsP v2 d.ss::xtP v3 d.ts::xmP v9 (d.ar.take (plI ltW d.ar (cl,sq))++((cl,sq),())::d.ar.drop (plI ltW d.ar (cl,sq)))::R) w':=by
 obtain⟨x,hx⟩:∃x,oneI it ct=x:=⟨_,rfl⟩
 obtain⟨x0,x1,x2,x3⟩:=x
 rw[hx]at hq
 obtain⟨r,hr⟩:∃r,putE V.ps aw ⟨x0,x1,x2,x3⟩=r:=⟨_,rfl⟩
 have hD2:D.length≤1000000:=by omega
 have Hx:=Lib.hid hx
 have HA:=Lib.hid hA
 have HV:=Lib.hid hV
 have H1:=Lib.hid h1
 have H2:=Lib.hid h2
 have Hok:=Lib.hid hok
 have Hk:=Lib.hid hk
 have Hpk:=Lib.hid hpk
 have Hr:=Lib.hid hr
 have Hq:=Lib.hid hq
 clear hx hA hV h1 h2 hok hk hpk hr hq
 go_enter Tryz.func21,Tryz.ntmps21
 go_wp2_with(first|(refine zbx hS ?_;clear hS;intro bO w hS)|((fail_if_success (have:=gA));(refine zal hS ?_;clear hS;have gA:Nat:=0;intro bR w hS))|((have:=gA);(fail_if_success (have:=gB));(refine zal hS ?_;clear hS;have gB:Nat:=0;intro bI w hS))|((have:=gB);(refine zal hS ?_;clear hS;intro bP w hS))|(refine zl1 hS ?_)|(refine zlN hS ?_)|(refine zsN hS ?_;clear hS;intro w hS)|(go_at_call 48;refine(peek8 (d:=d) Hk.out Hpk.out (hS.s (xeB xb v1 v2 v3 v4::xsP v2 d.ss::xtP v3 d.ts::xmP v4 d.ar::xrP v1 D::dvaP D::blk bR _ _::blk bO _ _::R))).mono ?_;clear hS;rintro e w ⟨rfl,hS⟩)|(go_at_call 49;refine(Dl7 Hx.out h0 h4 c0 c1 W _ _ hS).mono ?_;clear hS;rintro e w ⟨rfl,hS⟩))
 have hS9:=xevShut (hS.s (xeB xb v1 v2 v3 v4::xrP v1 D::dvaP D::blk bP _ _::blk bI _ _::blk bR _ _::blk bO _ _::xsP v2 d.ss::xtP v3 d.ts::xmP v4 d.ar::R))
 clear hS
 refine rf3 [0,0,2,6,15,0,32,96,0,511] (fun i=>i==4) (fun i=>if i==9 then some (.int .i64 r)else none)
  [⟨some 4,some 9,fun nd=>xatR (nd 4) xb v2 v3 v4 A ak V B⟩,⟨some 9,none,fun nd=>xatR (nd 4) xb v2 v3 v4 A ak ⟨q,V.L,V.n⟩ B⟩] [some 4,none,none,none,none,none,none,none] hS9 ?_
 clear hS9
 intro nd
 iterate 3 (refine cR ?_)
 (refine zc1 ?_)
 (apply AC7;rfl;rfl;(with_reducible rfl);decide +kernel;(focus(simp only[fD,fI,fJ,Act.eval,fE,fF,fG,fH,fK];try rfl));(intro _;rfl);(intro F w hS;exact vault8F HA.out hD2 HV.out H1.out H2.out hS);(refine frS ?_))
 iterate 2 (refine cR ?_)
 (refine zc1 ?_)
 (refine zcN ?_)
 (refine zcv ?_ (hs:=by(intro F w hS;(try clear hS0);exact put8F Hok.out (by omega) Hr.out Hq.out hS)))
 refine Ad7 ?_
 intro w hS
 have hS2:St W [xatR _ xb v2 v3 v4 A ak ⟨q,V.L,V.n⟩ B,blk bP _ _,blk bI _ _,blk bR _ _,blk bO _ _,xsP v2 d.ss,xtP v3 d.ts,xmP v4 d.ar,sats R] w:=hS
 clear hS
 have hS:=hS2.unpack [_,_,_,_,_,_,_,_]
 clear hS2
 simp only[List.cons_append,List.nil_append]at hS
 generalize nd 4=v at *
 go_wp2_with(first|(refine zl1 hS ?_)|(refine zlN hS ?_)|(refine zsN hS ?_;clear hS;intro w hS)|(go_at_call 52;have hS9:=xatEnd (hS.s (xatR v xb v2 v3 v4 A ak ⟨q,V.L,V.n⟩ B::xmP v4 d.ar::xsP v2 d.ss::xtP v3 d.ts::blk bP _ _::blk bI _ _::blk bR _ _::blk bO _ _::R));clear hS;obtain⟨vb,hS8⟩:=hS9;have hS7:=xevOpen hS8;clear hS8;obtain⟨s1,hS6⟩:=hS7;refine(came8 d.ar hla cl sq xb s1 v2 v3 v4 W _ _ (hS6.s (xeB xb s1 v2 v3 v4::xmP v4 d.ar::xrP s1 (A++(ak,(vb,⟨q,V.L,V.n⟩))::B)::dvaP (A++(ak,(vb,⟨q,V.L,V.n⟩))::B)::xsP v2 d.ss::xtP v3 d.ts::blk bP _ _::blk bI _ _::blk bR _ _::blk bO _ _::R))).mono ?_;clear hS6;rintro e w ⟨rfl,hS5⟩;obtain⟨v9,hS⟩:=hS5)|(go_at_call 56;have hS9:=xevShut (hS.s (xeB xb s1 v2 v3 v9::xrP s1 (A++(ak,(vb,⟨q,V.L,V.n⟩))::B)::dvaP (A++(ak,(vb,⟨q,V.L,V.n⟩))::B)::xmP v9 _::xsP v2 d.ss::xtP v3 d.ts::blk bP _ _::blk bI _ _::blk bR _ _::blk bO _ _::R));clear hS;refine(clean8 (A++(ak,(vb,⟨q,V.L,V.n⟩))::B) (by rw[List.length_append,List.length_cons];omega) xb v2 v3 v9 W _ _ hS9).mono ?_;clear hS9;rintro e w ⟨rfl,hS⟩))
 (apply Ac7;rfl;rfl;rfl;rfl;exact hS;decide +kernel;(exact cesS);kernel_rfl)
 exact⟨vb,v9,rfl,hS.s _⟩
theorem Iq7(hD:D.length≤1000000)(hk:TsK d.ts)(hlt:d.ts.length≤1000000){k:Nat}(hfd:fdI d.ts (cl,sq)=k)(hpk:peekD d ⟨7,cl,sq,ak,aw,tk,tw,it,ct,pr,bu,id⟩=(rp0,false))(hS:St W (xecR xb v1 v2 v3 v4 D d R) w):
  Calls Tryz.prog 21 #[.pointer (some ⟨xb,0,none⟩),oV 7 cl sq ak aw tk tw it ct pr bu id] w fun e w'=>∃v9,e=.returned (.tuple #[rV 0 0 0 0 0 0,.bool true])∧St W (xevP xb v2 v9 v4 (clF D)::xsP v2 d.ss::xtP v9 (rmI d.ts k)::xmP v4 d.ar::R) w':=by
 have hki:k<d.ts.length:=by have:=(Ip7 (cl,sq) d.ts).2;omega
 obtain⟨a,cap,rfl⟩:=hS.drop.drop.drop.drop.rowVal
 obtain⟨⟨g,rfl⟩,hcap,hcn⟩:=St.rowAddr hS.drop.drop.drop.drop (by omega)
 have hk1:k≤cap:=by omega
 have hk2:k+1≤d.ts.length:=by omega
 have Hk:=Lib.hid hk
 have Hpk:=Lib.hid hpk
 have Hfd:=Lib.hid hfd
 clear hk hpk hfd
 go_enter Tryz.func21,Tryz.ntmps21
 go_wp2_with(first|(refine zbx hS ?_;clear hS;intro bO w hS)|((fail_if_success (have:=gA));(refine zal hS ?_;clear hS;have gA:Nat:=0;intro bR w hS))|((have:=gA);(fail_if_success (have:=gB));(refine zal hS ?_;clear hS;have gB:Nat:=0;intro bI w hS))|(refine zl1 hS ?_)|(refine zlN hS ?_)|(refine zsN hS ?_;clear hS;intro w hS)|(go_at_call 48;refine(peek8 (d:=d) Hk.out Hpk.out (hS.s (xeB xb v1 v2 (.slice (some ⟨g,0,none⟩) d.ts.length cap) v4::xsP v2 d.ss::xtP (.slice (some ⟨g,0,none⟩) d.ts.length cap) d.ts::xmP v4 d.ar::xrP v1 D::dvaP D::blk bR _ _::blk bO _ _::R))).mono ?_;clear hS;rintro e w ⟨rfl,hS⟩)|(go_at_call 53;refine(FR7 d.ts Hk.out cl sq Hfd.out xb v1 v2 (.slice (some ⟨g,0,none⟩) d.ts.length cap) v4 W _ _ (hS.s (xeB xb v1 v2 (.slice (some ⟨g,0,none⟩) d.ts.length cap) v4::xtP (.slice (some ⟨g,0,none⟩) d.ts.length cap) d.ts::xsP v2 d.ss::xmP v4 d.ar::xrP v1 D::dvaP D::blk bI _ _::blk bR _ _::blk bO _ _::R))).mono ?_;clear hS;rintro e w ⟨rfl,hS⟩))
 have hS9:=hS.s (xeB xb v1 v2 (.slice (some ⟨g,0,none⟩) d.ts.length cap) v4::xtP (.slice (some ⟨g,0,none⟩) d.ts.length cap) d.ts::xsP v2 d.ss::xmP v4 d.ar::xrP v1 D::dvaP D::blk bI _ _::blk bR _ _::blk bO _ _::R)
 clear hS
 refine rf2 [0,0,0,4,12,28,0,124,254,0,512,1536,3584,0,8192,32256,65534,131071,262143,524287] (fun i=>i==1||i==8||i==16) [⟨some 1,some 8,fun nd=>row (nd 1) 8 40 0 []⟩,⟨some 8,some 16,fun nd=>row (nd 8) 8 40 (0+k) ([]++(d.ts.take k).flatMap tnC)⟩,⟨some 16,none,fun nd=>row (nd 16) 8 40 (0+k+(d.ts.length-(k+1))) ([]++(d.ts.take k).flatMap tnC++(d.ts.drop (k+1)).flatMap tnC)⟩,⟨some 19,none,fun nd=>xeB xb v1 v2 (nd 16) v4⟩] [some 19,none,none,none,none,none,none,none,none] hS9 ?_
 clear hS9
 intro nd
 (refine cR ?_)
 (apply Bx7;rfl;(with_reducible rfl);rfl;(focus(simp only[fD,fI,fJ,Act.eval,fE,fF,fG,fH,fK];try rfl));(exact esS);(exact rsS);rfl;rfl;rfl;rfl;rfl;decide;(intro _;rfl);rfl;(intro _;rfl);(refine frS ?_))
 (refine cR ?_)
 (refine zcn ?_)
 (refine cR ?_)
 (refine zc1 ?_)
 (refine cR ?_)
 (refine cR ?_)
 (apply Ai7;rfl;(with_reducible rfl);rfl;(focus((conv=>lhs;whnf);try rfl));(focus((conv=>lhs;whnf);try rfl));(exact esS);(exact rsS);rfl;decide;rfl;(intro F w hS;exact(Src.partM (by exact takO) (flat_take' d.ts k)).at hS);(focus(rw[Ab7 AV7,List.length_take,Nat.min_eq_left (by omega)]));(focus(exact Dk7 _));(focus(unfold maxLen;omega));(focus(omega));(intro _;rfl);(intro _;rfl);(refine frS ?_))
 (refine cR ?_)
 (refine zcn ?_)
 (refine cR ?_)
 (refine zc1 ?_)
 iterate 3 (refine cR ?_)
 (apply Ai7;rfl;(with_reducible rfl);rfl;(focus((conv=>lhs;whnf);try rfl));(focus((conv=>lhs;whnf);try rfl));(exact esS);(exact rsS);rfl;decide;rfl;(intro F w hS;exact(Src.behindM (by exact takO) (fun h=>⟨by omega,by rw[List.drop_eq_nil_of_le (by omega)];rfl⟩) (fun j u h=>flat_drop' AV7 d.ts (k+1) j u (by omega) h)).at hS);(focus(rw[Ab7 AV7,List.length_drop]));(focus(exact Dk7 _));(focus(unfold maxLen;omega));(focus(omega));(intro _;rfl);(intro _;rfl);(refine frS ?_))
 (refine zcn ?_)
 (refine cR ?_)
 (apply JL7;rfl;(with_reducible rfl);rfl;rfl;(focus((conv=>lhs;whnf);try rfl));kernel_rfl;rfl;(intro F w hS;exact hS.rowOne (by exact takO));(focus(simp));rfl;rfl;try(refine frS ?_))
 refine Ad7 ?_
 intro w hS
 have hS2:St W [row (nd 16) 8 _ _ _,xeB _ _ _ _ _,xtP _ _,xsP _ _,xmP _ _,xrP _ _,dvaP _,blk bI _ _,blk bR _ _,blk bO _ _,sats R] w:=hS
 clear hS
 have hS:=hS2.unpack [_,_,_,_,_,_,_,_,_,_]
 clear hS2
 simp only[List.cons_append,List.nil_append]at hS
 generalize nd 16=v9 at *
 have e2:(rmI d.ts k).length=0+k+(d.ts.length-(k+1)):=by unfold rmI;rw[Int.toNat_natCast,List.length_append,List.length_take,List.length_drop,Nat.min_eq_left (by omega)];omega
 have e1:(rmI d.ts k).flatMap tnC=(d.ts.take k).flatMap tnC++(d.ts.drop (k+1)).flatMap tnC:=by unfold rmI;rw[Int.toNat_natCast,List.flatMap_append]
 have hc:∀K:List HP,St W (row v9 8 40 (0+k+(d.ts.length-(k+1))) ((d.ts.take k).flatMap tnC++(d.ts.drop (k+1)).flatMap tnC)::K) w→St W (xtP v9 (rmI d.ts k)::K) w:=by
  intro K h
  unfold xtP
  rw[e1,e2]
  exact h
 have hS9:=hc _ hS
 clear hS e1 e2 hc
 have hS:=hS9
 clear hS9
 go_wp2_with(first|(refine zlN hS ?_)|(refine zsN hS ?_;clear hS;intro w hS)|(go_at_call 56;have hS9:=xevShut (hS.s (xeB xb v1 v2 v9 v4::xrP v1 D::dvaP D::xtP v9 (rmI d.ts k)::xsP v2 d.ss::xmP v4 d.ar::blk bI _ _::blk bR _ _::blk bO _ _::R));clear hS;refine(clean8 D hD xb v2 v9 v4 W _ _ hS9).mono ?_;clear hS9;rintro e w ⟨rfl,hS⟩))
 all_goals(apply Ac7;rfl;rfl;rfl;rfl;exact hS;decide +kernel;(exact cesS);kernel_rfl)
 all_goals exact⟨rfl,v9,hS.s _⟩
end
theorem CM7(D:Ev):(stripE D).length=D.length:=List.length_map _
theorem Ir7{D:Ev}(h:Asc ltB (stripE D)):Asc ltB D:=by
 unfold Asc stripE at h
 exact List.pairwise_map.1 h
theorem Is7(k:ByteArray):∀D:Ev,plI ltB (stripE D) k=plI ltB D k
 | []=>rfl
 | x::D=>by
  have ih:=Is7 k D
  show plI ltB ((x.1,x.2.2)::stripE D) k=_
  rw[plI,plI,ih]
theorem It7(k:ByteArray):∀D:Ev,plB ltB (stripE D) k=plB ltB D k
 | []=>rfl
 | x::D=>by
  have ih:=It7 k D
  show plB ltB ((x.1,x.2.2)::stripE D) k=_
  rw[plB,plB,ih]
theorem Cb7(D:Ev):stripE (clF D)=clV (stripE D):=by
 unfold clF clV stripE
 rw[List.filter_map]
 rfl
theorem BR7(D:Ev)(k:ByteArray)(vb:Nat)(V:Vs):stripE (loA D k++(k,(vb,V))::hiA D k)=plS ltB (stripE D) k V:=by
 unfold plS
 rw[Is7,It7]
 unfold loA hiA stripE
 rw[List.map_append,List.map_cons,List.map_take,List.map_drop]
theorem Ng7(D:Ev)(k:ByteArray):(loA D k).length+(hiA D k).length≤D.length:=by
 have h:=Im7 ltB k D
 unfold loA hiA
 rw[List.length_take,List.length_drop]
 split <;> omega
def xecP(xb:Nat)(d:Ec):HP:=fun f=>∃(v1 v2 v3 v4:Value) (D:Ev),stripE D=d.vs∧sats (xecR xb v1 v2 v3 v4 D d []) f
section
variable{W w:World}{R:List HP}{xb:Nat}{d:Ec}{v1 v2 v3 v4:Value}{D:Ev}{k:ByteArray}{V:Vs}
theorem xecOpen(h:St W (xecP xb d::R) w):∃v1 v2 v3 v4 D,stripE D=d.vs∧St W (xecR xb v1 v2 v3 v4 D d R) w:=by
 obtain⟨v1,h⟩:=St.ex h
 obtain⟨v2,h⟩:=St.ex h
 obtain⟨v3,h⟩:=St.ex h
 obtain⟨v4,h⟩:=St.ex h
 obtain⟨D,h⟩:=St.ex h
 obtain⟨hp,h⟩:=St.and h
 exact⟨v1,v2,v3,v4,D,hp,h.openS⟩
theorem xecShut(hp:stripE D=d.vs)(h:St W (xecR xb v1 v2 v3 v4 D d R) w):St W (xecP xb d::R) w:=
 St.mkEx v1 (St.mkEx v2 (St.mkEx v3 (St.mkEx v4 (St.mkEx D (St.mkAnd hp (St.shutS [_,_,_,_,_,_] h))))))
theorem xclose{d':Ec}(hp:stripE (clF D)=d'.vs)(h:St W (xevP xb v2 v3 v4 (clF D)::xsP v2 d'.ss::xtP v3 d'.ts::xmP v4 d'.ar::R) w):St W (xecP xb d'::R) w:=by
 obtain⟨r1,h1⟩:=xevOpen h
 exact xecShut hp h1
theorem vAt_d(hn:Asc ltB d.vs)(hp:stripE D=d.vs)(k:ByteArray):vAt D k=atV d k:=by
 have h1:(D.map (·.1)).Nodup:=by rw[←Bk7,hp];exact BO7 BE7 hn
 exact(GW7 h1 (hp▸List.Perm.refl _) k).symm
end
structure DOk(d:Ec)(k:ByteArray)(i:Nat):Prop where
 va:Asc ltB d.vs
 sn:(d.ss.map (·.1)).Nodup
 tk:TsK d.ts
 lv:d.vs.length≤900000
 ls:d.ss.length≤1000000
 lt:d.ts.length≤1000000
 la:d.ar.length≤1000000
 ok:VOk (atV d k).ps (atV d k).n i
 may:∀x∈(atV d k).L,MayP x
 l32:(atV d k).L.length≤32
theorem OC7{d:Ec}{o:Opn}(h:peekD d o=(rp0,false)):appD d o=((doV (atV d o.ak) o).1,true,⟨vsD d o,ssD d o (doV (atV d o.ak) o).1,tsD d o (doV (atV d o.ak) o).1,arD d o⟩):=by
 unfold appD
 rw[h]
 rfl
theorem OD7{d:Ec}{o:Opn}{r:Rpl}(h:peekD d o=(r,true)):appD d o=(r,false,d):=by
 unfold appD
 rw[h]
 rfl
theorem OE7{xb:Nat}{d:Ec}{i:Nat}(hi:i≤5000){kd cl sq:Int}{ak aw tk tw:ByteArray}{it ct pr:Int}{bu:Bool}{id:Int}(hd0:DOk d ak i)(W w:World)(R:List HP)(hS:St W (xecP xb d::R) w):
  Calls Tryz.prog 21 #[.pointer (some ⟨xb,0,none⟩),oV kd cl sq ak aw tk tw it ct pr bu id] w fun x w'=>
   x=.returned (.tuple #[rV (appD d ⟨kd,cl,sq,ak,aw,tk,tw,it,ct,pr,bu,id⟩).1.err (appD d ⟨kd,cl,sq,ak,aw,tk,tw,it,ct,pr,bu,id⟩).1.id (appD d ⟨kd,cl,sq,ak,aw,tk,tw,it,ct,pr,bu,id⟩).1.has.x0 (appD d ⟨kd,cl,sq,ak,aw,tk,tw,it,ct,pr,bu,id⟩).1.has.x1 (appD d ⟨kd,cl,sq,ak,aw,tk,tw,it,ct,pr,bu,id⟩).1.has.x2 (appD d ⟨kd,cl,sq,ak,aw,tk,tw,it,ct,pr,bu,id⟩).1.has.x3,.bool (appD d ⟨kd,cl,sq,ak,aw,tk,tw,it,ct,pr,bu,id⟩).2.1]) ∧
   St W (xecP xb (appD d ⟨kd,cl,sq,ak,aw,tk,tw,it,ct,pr,bu,id⟩).2.2::R) w':=by
 obtain⟨v1,v2,v3,v4,D,hd,hS⟩:=xecOpen hS
 have hA:Asc ltB D:=Ir7 (hd.symm▸hd0.va)
 have hl:D.length≤900000:=by rw[←CM7,hd];exact hd0.lv
 have hlh:=Ng7 D ak
 have hV:atV d ak=vAt D ak:=(vAt_d hd0.va hd ak).symm
 have hok:=hd0.ok
 have hmay:=hd0.may
 have hl32:=hd0.l32
 rw[hV]at hok hmay hl32
 cases hpk:peekD d ⟨kd,cl,sq,ak,aw,tk,tw,it,ct,pr,bu,id⟩with
 | mk r b=>
 cases b with
 | true=>
  obtain⟨r0,r1,⟨r2,r3,r4,r5⟩⟩:=r
  rw[OD7 hpk]
  refine(Lm7 hd0.tk hpk hS).mono ?_
  rintro x w' ⟨rfl,hS⟩
  exact⟨rfl,xecShut hd hS⟩
 | false=>
  have hpe:=hpk
  rw[Kw7 hd0.sn]at hpe
  obtain⟨rfl,hm⟩:=BB7 hpe
  clear hpe
  have hap:=OC7 hpk
  unfold vsD at hap
  dsimp only at hap
  rw[hV]at hap
  have hm2:kindB ⟨kd,cl,sq,ak,aw,tk,tw,it,ct,pr,bu,id⟩=true:=by
   unfold mayO at hm
   exact(Bool.and_eq_true _ _▸hm).2
  have hk:kd=1∨kd=2∨kd=3∨kd=4∨kd=5∨kd=6∨kd=7:=by
   unfold kindB at hm2
   dsimp only at hm2
   repeat' split at hm2
   all_goals first|omega|cases hm2
  have hcnt:kd≠7→0≤it∧it<4∧0≤ct∧ct≤1048576:=by
   intro h7
   have hc:cntB ⟨kd,cl,sq,ak,aw,tk,tw,it,ct,pr,bu,id⟩=true→0≤it∧it<4∧0≤ct∧ct≤1048576:=fun h=>by
    have:=CL7 h
    simp only at this
    omega
   rcases hk with rfl|rfl|rfl|rfl|rfl|rfl|rfl
   ·have hm3:countsB ⟨1,cl,sq,ak,aw,tk,tw,it,ct,pr,bu,id⟩=true:=hm2
    unfold countsB at hm3
    exact hc (Bool.and_eq_true _ _▸hm3).1
   ·have hm3:sendsB ⟨2,cl,sq,ak,aw,tk,tw,it,ct,pr,bu,id⟩=true:=hm2
    unfold sendsB at hm3
    exact hc (Bool.and_eq_true _ _▸(Bool.and_eq_true _ _▸hm3).2).1
   ·have hm3:ordersB ⟨3,cl,sq,ak,aw,tk,tw,it,ct,pr,bu,id⟩=true:=hm2
    unfold ordersB at hm3
    simp only[Bool.and_eq_true]at hm3
    exact hc hm3.2.2.2.1
   ·have hm3:cancelsB ⟨4,cl,sq,ak,aw,tk,tw,it,ct,pr,bu,id⟩=true:=hm2
    unfold cancelsB at hm3
    simp only[Bool.and_eq_true,decide_eq_true_eq]at hm3
    omega
   ·have hm3:bareB ⟨5,cl,sq,ak,aw,tk,tw,it,ct,pr,bu,id⟩=true:=hm2
    unfold bareB at hm3
    simp only[Bool.and_eq_true,decide_eq_true_eq]at hm3
    omega
   ·have hm3:countsB ⟨6,cl,sq,ak,aw,tk,tw,it,ct,pr,bu,id⟩=true:=hm2
    unfold countsB at hm3
    exact hc (Bool.and_eq_true _ _▸hm3).1
   ·exact absurd rfl h7
  rcases hk with rfl|rfl|rfl|rfl|rfl|rfl|rfl
  ·obtain⟨h0,h4,c0,c1⟩:=hcnt (by decide)
   refine(Cs7 (A:=loA D ak) (B:=hiA D ak) (V':=⟨putP (vAt D ak).ps aw (oneI it ct),(vAt D ak).L,(vAt D ak).n⟩) rfl rfl hd0.tk hd0.ls (by omega) hpk (fun w R h=>(does1 hA (by omega) rfl rfl rfl hok hi h0 h4 c0 c1 rfl rfl h).mono (by rintro e w' ⟨vb,rfl,h⟩;exact⟨vb,v3,rfl,h⟩)) hS).mono ?_
   rintro x w' ⟨vb,v8,v9,rfl,hS⟩
   rw[hap]
   refine⟨rfl,?_⟩
   refine xclose (d':=⟨clV (plS ltB d.vs ak ⟨putP (vAt D ak).ps aw (oneI it ct),(vAt D ak).L,(vAt D ak).n⟩),plS ltI d.ss cl (sq,⟨putE (vAt D ak).ps aw (oneI it ct),0,it0⟩),d.ts,d.ar⟩) ?_ hS
   rw[Cb7,BR7,hd]
  ·obtain⟨h0,h4,c0,c1⟩:=hcnt (by decide)
   by_cases hr:takeE (vAt D ak).ps aw (oneI it ct)=0
   ·have hv:(doV (vAt D ak) ⟨2,cl,sq,ak,aw,tk,tw,it,ct,pr,bu,id⟩).1=rp0:=by
     show(⟨takeE (vAt D ak).ps aw (oneI it ct),0,it0⟩:Rpl)=rp0
     rw[hr]
    have ht:tsD d ⟨2,cl,sq,ak,aw,tk,tw,it,ct,pr,bu,id⟩ rp0=d.ts.take (plI ltW d.ts (cl,sq))++((cl,sq),⟨cl,sq,ak,aw,tk,tw,it,ct⟩)::d.ts.drop (plI ltW d.ts (cl,sq)):=if_pos ⟨rfl,rfl⟩
    rw[hv,ht]at hap
    refine(Cs7 (A:=loA D ak) (B:=hiA D ak) (V':=⟨takeP (vAt D ak).ps aw (oneI it ct),(vAt D ak).L,(vAt D ak).n⟩) rfl rfl hd0.tk hd0.ls (by omega) hpk (fun w R h=>does2y hA (by omega) rfl rfl rfl hok hi h0 h4 c0 c1 hr rfl hd0.tk hd0.lt h) hS).mono ?_
    rintro x w' ⟨vb,v8,v9,rfl,hS⟩
    rw[hap]
    refine⟨rfl,?_⟩
    refine xclose (d':=⟨clV (plS ltB d.vs ak ⟨takeP (vAt D ak).ps aw (oneI it ct),(vAt D ak).L,(vAt D ak).n⟩),plS ltI d.ss cl (sq,rp0),d.ts.take (plI ltW d.ts (cl,sq))++((cl,sq),⟨cl,sq,ak,aw,tk,tw,it,ct⟩)::d.ts.drop (plI ltW d.ts (cl,sq)),d.ar⟩) ?_ hS
    rw[Cb7,BR7,hd]
   ·have ht:tsD d ⟨2,cl,sq,ak,aw,tk,tw,it,ct,pr,bu,id⟩ (doV (vAt D ak) ⟨2,cl,sq,ak,aw,tk,tw,it,ct,pr,bu,id⟩).1=d.ts:=(if_neg (fun h=>hr h.2)).trans (if_neg (by show ¬((2:Int)=7);decide))
    rw[ht]at hap
    refine(Cs7 (A:=loA D ak) (B:=hiA D ak) (V':=⟨takeP (vAt D ak).ps aw (oneI it ct),(vAt D ak).L,(vAt D ak).n⟩) rfl rfl hd0.tk hd0.ls (by omega) hpk (fun w R h=>(does2n hA (by omega) rfl rfl rfl hok hi h0 h4 c0 c1 rfl (by simpa using hr) rfl h).mono (by rintro e w' ⟨vb,rfl,h⟩;exact⟨vb,v3,rfl,h⟩)) hS).mono ?_
    rintro x w' ⟨vb,v8,v9,rfl,hS⟩
    rw[hap]
    refine⟨rfl,?_⟩
    refine xclose (d':=⟨clV (plS ltB d.vs ak ⟨takeP (vAt D ak).ps aw (oneI it ct),(vAt D ak).L,(vAt D ak).n⟩),plS ltI d.ss cl (sq,⟨takeE (vAt D ak).ps aw (oneI it ct),0,it0⟩),d.ts,d.ar⟩) ?_ hS
    rw[Cb7,BR7,hd]
  ·obtain⟨h0,h4,c0,c1⟩:=hcnt (by decide)
   refine(Cs7 (A:=loA D ak) (B:=hiA D ak) (V':=(ordV (vAt D ak) ⟨0,aw,bu,it,ct,pr⟩).2.2) rfl rfl hd0.tk hd0.ls (by omega) hpk (fun w R h=>(does3 hA (by omega) rfl rfl rfl hok hi h0 h4 c0 c1 hmay rfl rfl rfl h).mono (by rintro e w' ⟨vb,rfl,h⟩;exact⟨vb,v3,rfl,h⟩)) hS).mono ?_
   rintro x w' ⟨vb,v8,v9,rfl,hS⟩
   rw[hap]
   refine⟨rfl,?_⟩
   refine xclose (d':=⟨clV (plS ltB d.vs ak (ordV (vAt D ak) ⟨0,aw,bu,it,ct,pr⟩).2.2),plS ltI d.ss cl (sq,⟨(ordV (vAt D ak) ⟨0,aw,bu,it,ct,pr⟩).2.1,(ordV (vAt D ak) ⟨0,aw,bu,it,ct,pr⟩).1,it0⟩),d.ts,d.ar⟩) ?_ hS
   rw[Cb7,BR7,hd]
  ·obtain⟨h0,h4,c0,c1⟩:=hcnt (by decide)
   refine(Cs7 (A:=loA D ak) (B:=hiA D ak) (V':=(canV (vAt D ak) aw id).2) rfl rfl hd0.tk hd0.ls (by omega) hpk (fun w R h=>(does4 hA (by omega) rfl rfl rfl hok hi h0 h4 c0 c1 hmay hl32 rfl rfl h).mono (by rintro e w' ⟨vb,rfl,h⟩;exact⟨vb,v3,rfl,h⟩)) hS).mono ?_
   rintro x w' ⟨vb,v8,v9,rfl,hS⟩
   rw[hap]
   refine⟨rfl,?_⟩
   refine xclose (d':=⟨clV (plS ltB d.vs ak (canV (vAt D ak) aw id).2),plS ltI d.ss cl (sq,⟨(canV (vAt D ak) aw id).1,0,it0⟩),d.ts,d.ar⟩) ?_ hS
   rw[Cb7,BR7,hd]
  ·obtain⟨h0,h4,c0,c1⟩:=hcnt (by decide)
   refine(Cs7 (A:=loA D ak) (B:=hiA D ak) (V':=vAt D ak) rfl rfl hd0.tk hd0.ls (by omega) hpk (fun w R h=>(does5 hA (by omega) rfl rfl rfl hok hi h0 h4 c0 c1 rfl h).mono (by rintro e w' ⟨vb,rfl,h⟩;exact⟨vb,v3,rfl,h⟩)) hS).mono ?_
   rintro x w' ⟨vb,v8,v9,rfl,hS⟩
   rw[hap]
   refine⟨rfl,?_⟩
   refine xclose (d':=⟨clV (plS ltB d.vs ak (vAt D ak)),plS ltI d.ss cl (sq,⟨0,0,purseA (vAt D ak).ps aw⟩),d.ts,d.ar⟩) ?_ hS
   rw[Cb7,BR7,hd]
  ·obtain⟨h0,h4,c0,c1⟩:=hcnt (by decide)
   refine(Ln7 hA hl rfl rfl rfl (by omega) hok hi h0 h4 c0 c1 rfl hd0.tk hd0.la hpk hS).mono ?_
   rintro x w' ⟨vb,v9,rfl,hS⟩
   rw[hap]
   refine⟨rfl,?_⟩
   refine xclose (d':=⟨clV (plS ltB d.vs ak ⟨putP (vAt D ak).ps aw (oneI it ct),(vAt D ak).L,(vAt D ak).n⟩),d.ss,d.ts,insW d.ar (cl,sq) ()⟩) ?_ hS
   rw[Cb7,BR7,hd]
  ·have hf0:(getL d.ts (cl,sq)).isNone=false:=by
    have h1:=hpk
    unfold peekD at h1
    rw[if_neg (by rw[hm];exact Bool.noConfusion),if_neg (by show ¬((7:Int)=6);decide),if_pos rfl,DY7]at h1
    exact congrArg Prod.snd h1
   have hf1:0≤fdI d.ts (cl,sq):=by
    rw[←DY7]at hf0
    simpa using hf0
   obtain⟨k,hfd⟩:=Int.eq_ofNat_of_zero_le hf1
   refine(Iq7 (by omega) hd0.tk hd0.lt hfd hpk hS).mono ?_
   rintro x w' ⟨v9,rfl,hS⟩
   rw[hap]
   refine⟨rfl,?_⟩
   refine xclose (d':=⟨clV d.vs,d.ss,rmI d.ts (fdI d.ts (cl,sq)),d.ar⟩) ?_ (by rw[hfd];exact hS)
   rw[Cb7,hd]
end Go.Proofs.YtlmhakmoioogaaaGreat
end
