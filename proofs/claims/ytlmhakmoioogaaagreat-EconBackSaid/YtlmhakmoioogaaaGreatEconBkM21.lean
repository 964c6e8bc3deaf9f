/-
  The document's Apply.
-/
import Derived.Test.YtlmhakmoioogaaaGreatEconBkM20
import Derived.Shelf.Sort.Plain
set_option maxHeartbeats 16000000
set_option maxRecDepth 100000
set_option linter.unusedSimpArgs false
set_option linter.unusedVariables false
section
namespace Go.Proofs.YtlmhakmoioogaaaGreat
open Go.RowKit Go.Sl
section
variable{d:Ec}{xb:Nat}{v1 v2 v3 v4:Value}{D A B:Ev}{V V':Vs}{i:Nat}{kd cl sq:Int}{ak aw tk tw:ByteArray}{it ct pr:Int}{bu:Bool}{id:Int}{W w:World}{R:List HP}{r0 r1 r2 r3 r4 r5:Int}{b:Bool}
theorem dQ4(hk:TsK d.ts)(hp:aP4 d ⟨kd,cl,sq,ak,aw,tk,tw,it,ct,pr,bu,id⟩=(⟨r0,r1,⟨r2,r3,r4,r5⟩⟩,b))(hS:St W (xeL xb v1 v2 v3 v4 d R) w):
  Calls Tryz.prog 48 #[.P xb,oV kd cl sq ak aw tk tw it ct pr bu id] w fun e w'=>e=.returned (.tuple #[rV r0 r1 r2 r3 r4 r5,.bool b])/\St W (xeL xb v1 v2 v3 v4 d R) w':=by
 unfold aP4 at hp;dsimp only at hp
 cases hm:C5 ⟨kd,cl,sq,ak,aw,tk,tw,it,ct,pr,bu,id⟩with
 | false=>
  rw[hm,if_pos rfl]at hp
  cases hp
  exact RQ7 hm hS
 | true=>
  rw[hm,if_neg (by exact Bool.noConfusion)]at hp;by_cases h6:kd=6
  ·subst h6;rw[if_pos rfl]at hp
   cases hp
   exact PB7 hm rfl hS
  ·rw[if_neg h6]at hp;by_cases h7:kd=7
   ·subst h7;rw[if_pos rfl]at hp
    cases hp
    exact KT7 hm hk hS
   ·rw[if_neg h7]at hp;exact No7 hm h6 h7 hp hS
abbrev dg4(xb:Nat)(v1 v2 v3 v4:Value)(D:Ev)(d:Ec)(R:List HP):List HP:=xeB xb v1 v2 v3 v4::xrP v1 D::w8 D::xsP v2 d.ss::xtP v3 d.ts::xmP v4 d.ar::R
theorem Np7(hk:TsK d.ts)(hpk:aP4 d ⟨kd,cl,sq,ak,aw,tk,tw,it,ct,pr,bu,id⟩=(⟨r0,r1,⟨r2,r3,r4,r5⟩⟩,true))(hS:St W (dg4 xb v1 v2 v3 v4 D d R) w):
  Calls Tryz.prog 21 #[.P xb,oV kd cl sq ak aw tk tw it ct pr bu id] w fun e w'=>e=.returned (.tuple #[rV r0 r1 r2 r3 r4 r5,.bool false])/\St W (dg4 xb v1 v2 v3 v4 D d R) w':=by
 have Hk:=jH hk;have Hpk:=jH hpk;clear hk hpk;go_enter Tryz.func21,Tryz.ntmps21;go_wp2_with(first|refine zbx hS ?_;clear hS;intro bO w hS|(fail_if_success (have:=gA));(refine zal hS ?_;clear hS;have gA:Nat:=0;intro bR w hS)|(have:=gA);(fail_if_success (have:=gB));(refine zal hS ?_;clear hS;have gB:Nat:=0;intro bI w hS)|refine zlN hS ?_|refine zsN hS ?_;clear hS;intro w hS|go_at_call 48;refine(dQ4 (d:=d) Hk.out Hpk.out (hS.s (xeB xb v1 v2 v3 v4::xsP v2 d.ss::xtP v3 d.ts::xmP v4 d.ar::xrP v1 D::w8 D::blk bR _ _::blk bO _ _::R))).mono ?_;clear hS;rintro e w ⟨rfl,hS⟩);apply Ac7;rfl;rfl;rfl;rfl;exact hS;decide +kernel;(exact x9);kernel_rfl;exact⟨rfl,hS.s _⟩
theorem CO7{T:List ((Int×Int)×Tns)}(h6:(kd==6)=false)(h7:(kd==7)=false)(hk:TsK d.ts)(hls:d.ss.length<=1000000)(hAB:A.length+B.length<=900000)(hpk:aP4 d ⟨kd,cl,sq,ak,aw,tk,tw,it,ct,pr,bu,id⟩=(rp0,false))
  (hdo:∀(w:World) (R:List HP),St W (aa4 xb v2 v3 v4 D::xtP v3 d.ts::R) w->Calls Tryz.prog 54 #[.P xb,oV kd cl sq ak aw tk tw it ct pr bu id] w fun e w'=>∃vb v,e=.returned (rV r0 r1 r2 r3 r4 r5)/\St W (aa4 xb v2 v v4 (A++(ak,(vb,V'))::B)::xtP v T::R) w')
  (hS:St W (dg4 xb v1 v2 v3 v4 D d R) w):
  Calls Tryz.prog 21 #[.P xb,oV kd cl sq ak aw tk tw it ct pr bu id] w fun e w'=>∃vb v8 v9,e=.returned (.tuple #[rV r0 r1 r2 r3 r4 r5,.bool true])/\St W (aa4 xb v8 v9 v4 (clF (A++(ak,(vb,V'))::B))::xsP v8 (plS ltI d.ss cl (sq,⟨r0,r1,⟨r2,r3,r4,r5⟩⟩))::xtP v9 T::xmP v4 d.ar::R) w':=by
 have Hk:=jH hk;have Hpk:=jH hpk;have Hdo:=jH hdo;clear hk hpk hdo;go_enter Tryz.func21,Tryz.ntmps21;go_wp2_with(first|refine zbx hS ?_;clear hS;intro bO w hS|(fail_if_success (have:=gA));(refine zal hS ?_;clear hS;have gA:Nat:=0;intro bR w hS)|(have:=gA);(fail_if_success (have:=gB));(refine zal hS ?_;clear hS;have gB:Nat:=0;intro bI w hS)|refine zl1 hS ?_|refine zlN hS ?_|refine zsN hS ?_;clear hS;intro w hS|go_at_call 48;refine(dQ4 (d:=d) Hk.out Hpk.out (hS.s (xeB xb v1 v2 v3 v4::xsP v2 d.ss::xtP v3 d.ts::xmP v4 d.ar::xrP v1 D::w8 D::blk bR _ _::blk bO _ _::R))).mono ?_;clear hS;rintro e w ⟨rfl,hS⟩|go_at_call 54;have hS9:=bl4 (hS.s (xeB xb v1 v2 v3 v4::xrP v1 D::w8 D::xtP v3 d.ts::xsP v2 d.ss::xmP v4 d.ar::blk bI _ _::blk bR _ _::blk bO _ _::R));clear hS;refine(Hdo.out _ _ hS9).mono ?_;clear hS9;rintro e w ⟨vb,v9,rfl,hS⟩|go_at_call 55;have hS9:=cc4 (hS.s (aa4 xb v2 v9 v4 (A++(ak,(vb,V'))::B)::xtP v9 T::xsP v2 d.ss::xmP v4 d.ar::blk bI _ _::blk bR _ _::blk bO _ _::R));clear hS;obtain⟨s1,hS8⟩:=hS9;refine(eq4 d.ss hls cl sq ⟨r0,r1,⟨r2,r3,r4,r5⟩⟩ xb s1 v2 v9 v4 W _ _ (hS8.s (xeB xb s1 v2 v9 v4::xsP v2 d.ss::xrP s1 (A++(ak,(vb,V'))::B)::w8 (A++(ak,(vb,V'))::B)::xtP v9 T::xmP v4 d.ar::blk bI _ _::blk bR _ _::blk bO _ _::R))).mono ?_;clear hS8;rintro e w ⟨rfl,hS7⟩;obtain⟨v8,hS⟩:=hS7|go_at_call 56;have hS9:=bl4 (hS.s (xeB xb s1 v8 v9 v4::xrP s1 (A++(ak,(vb,V'))::B)::w8 (A++(ak,(vb,V'))::B)::xsP v8 _::xtP v9 T::xmP v4 d.ar::blk bI _ _::blk bR _ _::blk bO _ _::R));clear hS;refine(dX4 (A++(ak,(vb,V'))::B) (by rw[jA,jC];omega) xb v8 v9 v4 W _ _ hS9).mono ?_;clear hS9;rintro e w ⟨rfl,hS⟩);apply Ac7;rfl;rfl;rfl;rfl;exact hS;decide +kernel;(exact x9);kernel_rfl;exact⟨vb,v8,v9,rfl,hS.s _⟩
theorem Nq7(hA:Asc ltB D)(hD:D.length<=900000)(hV:vAt D ak=V)(h1:loA D ak=A)(h2:hiA D ak=B)(hAB:A.length+B.length<=900000)(hok:VOk V.ps V.n i)(hi:i<=5000)(h0:0<=it)(h4:it<4)(c0:0<=ct)(c1:ct<=1048576){q:Ps}(hq:M5 V.ps aw (B5 it ct)=q)(hk:TsK d.ts)(hla:d.ar.length<=1000000)
  (hpk:aP4 d ⟨6,cl,sq,ak,aw,tk,tw,it,ct,pr,bu,id⟩=(rp0,false)) (hS:St W (dg4 xb v1 v2 v3 v4 D d R) w):
  Calls Tryz.prog 21 #[.P xb,oV 6 cl sq ak aw tk tw it ct pr bu id] w fun e w'=>∃vb v9,e=.returned (.tuple #[rV 0 0 0 0 0 0,.bool true])/\St W (aa4 xb v2 v3 v9 (clF (A++(ak,(vb,⟨q,V.L,V.n⟩))::B))::xsP v2 d.ss::xtP v3 d.ts::xmP v9 (d.ar.take (plI ltW d.ar (cl,sq))++((cl,sq),())::d.ar.drop (plI ltW d.ar (cl,sq)))::R) w':=by
 obtain⟨x,hx⟩:∃x,B5 it ct=x:=⟨_,rfl⟩
 obtain⟨x0,x1,x2,x3⟩:=x;rw[hx]at hq;obtain⟨r,hr⟩:∃r,Q5 V.ps aw ⟨x0,x1,x2,x3⟩=r:=⟨_,rfl⟩
 have hD2:D.length<=1000000:=by omega
 have Hx:=jH hx;have HA:=jH hA;have HV:=jH hV;have H1:=jH h1;have H2:=jH h2;have Hok:=jH hok;have Hk:=jH hk;have Hpk:=jH hpk;have Hr:=jH hr;have Hq:=jH hq;clear hx hA hV h1 h2 hok hk hpk hr hq;go_enter Tryz.func21,Tryz.ntmps21;go_wp2_with(first|refine zbx hS ?_;clear hS;intro bO w hS|(fail_if_success (have:=gA));(refine zal hS ?_;clear hS;have gA:Nat:=0;intro bR w hS)|(have:=gA);(fail_if_success (have:=gB));(refine zal hS ?_;clear hS;have gB:Nat:=0;intro bI w hS)|(have:=gB);refine zal hS ?_;clear hS;intro bP w hS|refine zl1 hS ?_|refine zlN hS ?_|refine zsN hS ?_;clear hS;intro w hS|go_at_call 48;refine(dQ4 (d:=d) Hk.out Hpk.out (hS.s (xeB xb v1 v2 v3 v4::xsP v2 d.ss::xtP v3 d.ts::xmP v4 d.ar::xrP v1 D::w8 D::blk bR _ _::blk bO _ _::R))).mono ?_;clear hS;rintro e w ⟨rfl,hS⟩|go_at_call 49;refine(DR7 Hx.out h0 h4 c0 c1 W _ _ hS).mono ?_;clear hS;rintro e w ⟨rfl,hS⟩);have hS9:=bl4 (hS.s (xeB xb v1 v2 v3 v4::xrP v1 D::w8 D::blk bP _ _::blk bI _ _::blk bR _ _::blk bO _ _::xsP v2 d.ss::xtP v3 d.ts::xmP v4 d.ar::R));clear hS
 refine rf3 [0,0,2,6,15,0,32,96,0,511] (fun i=>i==4) (fun i=>if i==9 then some (.I r)else none)
  [⟨some 4,some 9,fun nd=>am4 (nd 4) xb v2 v3 v4 A ak V B⟩,⟨some 9,none,fun nd=>am4 (nd 4) xb v2 v3 v4 A ak ⟨q,V.L,V.n⟩ B⟩] [some 4,none,none,none,none,none,none,none] hS9 ?_
 clear hS9;intro nd
 iterate 3 (refine cR ?_)
 (refine zc1 ?_);apply AP7;rfl;rfl;rfl;decide +kernel;(focus(simp only[fD,fI,fJ,Act.eval,fE,fF,fG,fH,fK];try rfl));(intro _;rfl);(intro F w hS;exact bG4 HA.out hD2 HV.out H1.out H2.out hS);(refine frS ?_)
 iterate 2 (refine cR ?_)
 (refine zc1 ?_);refine zcN ?_;refine zcv ?_ (hs:=by(intro F w hS;(try clear hS0);exact fv4 Hok.out (by omega) Hr.out Hq.out hS));refine Ad7 ?_;intro w hS;have hS2:St W [am4 _ xb v2 v3 v4 A ak ⟨q,V.L,V.n⟩ B,blk bP _ _,blk bI _ _,blk bR _ _,blk bO _ _,xsP v2 d.ss,xtP v3 d.ts,xmP v4 d.ar,sats R] w:=hS;clear hS;have hS:=hS2.unpack [_,_,_,_,_,_,_,_];clear hS2;simp only[jK,jN]at hS;generalize nd 4=v at *;go_wp2_with(first|refine zl1 hS ?_|refine zlN hS ?_|refine zsN hS ?_;clear hS;intro w hS|go_at_call 52;have hS9:=cp4 (hS.s (am4 v xb v2 v3 v4 A ak ⟨q,V.L,V.n⟩ B::xmP v4 d.ar::xsP v2 d.ss::xtP v3 d.ts::blk bP _ _::blk bI _ _::blk bR _ _::blk bO _ _::R));clear hS;obtain⟨vb,hS8⟩:=hS9;have hS7:=cc4 hS8;clear hS8;obtain⟨s1,hS6⟩:=hS7;refine(gE4 d.ar hla cl sq xb s1 v2 v3 v4 W _ _ (hS6.s (xeB xb s1 v2 v3 v4::xmP v4 d.ar::xrP s1 (A++(ak,(vb,⟨q,V.L,V.n⟩))::B)::w8 (A++(ak,(vb,⟨q,V.L,V.n⟩))::B)::xsP v2 d.ss::xtP v3 d.ts::blk bP _ _::blk bI _ _::blk bR _ _::blk bO _ _::R))).mono ?_;clear hS6;rintro e w ⟨rfl,hS5⟩;obtain⟨v9,hS⟩:=hS5|go_at_call 56;have hS9:=bl4 (hS.s (xeB xb s1 v2 v3 v9::xrP s1 (A++(ak,(vb,⟨q,V.L,V.n⟩))::B)::w8 (A++(ak,(vb,⟨q,V.L,V.n⟩))::B)::xmP v9 _::xsP v2 d.ss::xtP v3 d.ts::blk bP _ _::blk bI _ _::blk bR _ _::blk bO _ _::R));clear hS;refine(dX4 (A++(ak,(vb,⟨q,V.L,V.n⟩))::B) (by rw[jA,jC];omega) xb v2 v3 v9 W _ _ hS9).mono ?_;clear hS9;rintro e w ⟨rfl,hS⟩);apply Ac7;rfl;rfl;rfl;rfl;exact hS;decide +kernel;(exact x9);kernel_rfl;exact⟨vb,v9,rfl,hS.s _⟩
theorem JL7(hD:D.length<=1000000)(hk:TsK d.ts)(hlt:d.ts.length<=1000000){k:Nat}(hfd:fdI d.ts (cl,sq)=k)(hpk:aP4 d ⟨7,cl,sq,ak,aw,tk,tw,it,ct,pr,bu,id⟩=(rp0,false))(hS:St W (dg4 xb v1 v2 v3 v4 D d R) w):
  Calls Tryz.prog 21 #[.P xb,oV 7 cl sq ak aw tk tw it ct pr bu id] w fun e w'=>∃v9,e=.returned (.tuple #[rV 0 0 0 0 0 0,.bool true])/\St W (aa4 xb v2 v9 v4 (clF D)::xsP v2 d.ss::xtP v9 (rmI d.ts k)::xmP v4 d.ar::R) w':=by
 have hki:k<d.ts.length:=by have:=(JK7 (cl,sq) d.ts).2;omega
 obtain⟨a,cap,rfl⟩:=hS.drop.drop.drop.drop.rowVal;obtain⟨⟨g,rfl⟩,_,_⟩:=St.rowAddr hS.drop.drop.drop.drop (by omega);have hk1:k<=cap:=by omega
 have hk2:k+1<=d.ts.length:=by omega
 have Hk:=jH hk;have Hpk:=jH hpk;have Hfd:=jH hfd;clear hk hpk hfd;go_enter Tryz.func21,Tryz.ntmps21;go_wp2_with(first|refine zbx hS ?_;clear hS;intro bO w hS|(fail_if_success (have:=gA));(refine zal hS ?_;clear hS;have gA:Nat:=0;intro bR w hS)|(have:=gA);(fail_if_success (have:=gB));(refine zal hS ?_;clear hS;have gB:Nat:=0;intro bI w hS)|refine zl1 hS ?_|refine zlN hS ?_|refine zsN hS ?_;clear hS;intro w hS|go_at_call 48;refine(dQ4 (d:=d) Hk.out Hpk.out (hS.s (xeB xb v1 v2 (.S g d.ts.length cap) v4::xsP v2 d.ss::xtP (.S g d.ts.length cap) d.ts::xmP v4 d.ar::xrP v1 D::w8 D::blk bR _ _::blk bO _ _::R))).mono ?_;clear hS;rintro e w ⟨rfl,hS⟩|go_at_call 53;refine(GT7 d.ts Hk.out cl sq Hfd.out xb v1 v2 (.S g d.ts.length cap) v4 W _ _ (hS.s (xeB xb v1 v2 (.S g d.ts.length cap) v4::xtP (.S g d.ts.length cap) d.ts::xsP v2 d.ss::xmP v4 d.ar::xrP v1 D::w8 D::blk bI _ _::blk bR _ _::blk bO _ _::R))).mono ?_;clear hS;rintro e w ⟨rfl,hS⟩);have hS9:=hS.s (xeB xb v1 v2 (.S g d.ts.length cap) v4::xtP (.S g d.ts.length cap) d.ts::xsP v2 d.ss::xmP v4 d.ar::xrP v1 D::w8 D::blk bI _ _::blk bR _ _::blk bO _ _::R);clear hS;refine rf2 [0,0,0,4,12,28,0,124,254,0,512,1536,3584,0,8192,32256,65534,131071,262143,524287] (fun i=>i==1||i==8||i==16) [⟨some 1,some 8,fun nd=>row (nd 1) 8 40 0 []⟩,⟨some 8,some 16,fun nd=>row (nd 8) 8 40 (0+k) ([]++(d.ts.take k).flatMap tnC)⟩,⟨some 16,none,fun nd=>row (nd 16) 8 40 (0+k+(d.ts.length-(k+1))) ([]++(d.ts.take k).flatMap tnC++(d.ts.drop (k+1)).flatMap tnC)⟩,⟨some 19,none,fun nd=>xeB xb v1 v2 (nd 16) v4⟩] [some 19,none,none,none,none,none,none,none,none] hS9 ?_;clear hS9;intro nd;refine cR ?_;apply BO7;rfl;rfl;rfl;(focus(simp only[fD,fI,fJ,Act.eval,fE,fF,fG,fH,fK];try rfl));(exact esS);(exact rsS);rfl;rfl;rfl;rfl;rfl;decide;(intro _;rfl);rfl;(intro _;rfl);(refine frS ?_)
 (refine cR ?_);refine zcn ?_;refine cR ?_;refine zc1 ?_;refine cR ?_;refine cR ?_;apply Ai7;rfl;rfl;rfl;(focus((conv=>lhs;whnf);try rfl));(focus((conv=>lhs;whnf);try rfl));(exact esS);(exact rsS);rfl;decide;rfl;(intro F w hS;exact(Src.partM (by exact D5) (F5 d.ts k)).at hS);(focus(rw[Ab7 Bh7,jT,Nat.min_eq_left (by omega)]));(focus(exact DQ7 _));(focus(unfold maxLen;omega));(focus(omega));(intro _;rfl);(intro _;rfl);(refine frS ?_);refine cR ?_;refine zcn ?_;refine cR ?_;refine zc1 ?_
 iterate 3 (refine cR ?_)
 (apply Ai7;rfl;rfl;rfl;(focus((conv=>lhs;whnf);try rfl));(focus((conv=>lhs;whnf);try rfl));exact esS;exact rsS;rfl;decide;rfl;intro F w hS;exact(Src.behindM (by exact D5) (fun h=>⟨by omega,by rw[List.drop_eq_nil_of_le (by omega)];rfl⟩) (fun j u h=>H9 Bh7 d.ts (k+1) j u (by omega) h)).at hS;(focus(rw[Ab7 Bh7,List.length_drop]));(focus(exact DQ7 _));(focus(unfold maxLen;omega));(focus(omega));intro _;rfl;intro _;rfl;refine frS ?_);refine zcn ?_;refine cR ?_;(apply Lr7;rfl;rfl;rfl;rfl;(focus((conv=>lhs;whnf);try rfl));kernel_rfl;rfl;intro F w hS;exact hS.rowOne (by exact D5);(focus(simp));rfl;rfl;try(refine frS ?_));refine Ad7 ?_;intro w hS;have hS2:St W [row (nd 16) 8 _ _ _,xeB _ _ _ _ _,xtP _ _,xsP _ _,xmP _ _,xrP _ _,w8 _,blk bI _ _,blk bR _ _,blk bO _ _,sats R] w:=hS;clear hS;have hS:=hS2.unpack [_,_,_,_,_,_,_,_,_,_];clear hS2;simp only[jK,jN]at hS;generalize nd 16=v9 at *;have e2:(rmI d.ts k).length=0+k+(d.ts.length-(k+1)):=by unfold rmI;rw[Int.toNat_natCast,jA,jT,List.length_drop,Nat.min_eq_left (by omega)];omega
 have e1:(rmI d.ts k).flatMap tnC=(d.ts.take k).flatMap tnC++(d.ts.drop (k+1)).flatMap tnC:=by unfold rmI;rw[Int.toNat_natCast,List.flatMap_append]
 have hc:∀K:List HP,St W (row v9 8 40 (0+k+(d.ts.length-(k+1))) ((d.ts.take k).flatMap tnC++(d.ts.drop (k+1)).flatMap tnC)::K) w->St W (xtP v9 (rmI d.ts k)::K) w:=by intro K h;unfold xtP;rw[e1,e2];exact h
 have hS9:=hc _ hS;clear hS e1 e2 hc;have hS:=hS9;clear hS9;go_wp2_with(first|refine zlN hS ?_|refine zsN hS ?_;clear hS;intro w hS|go_at_call 56;have hS9:=bl4 (hS.s (xeB xb v1 v2 v9 v4::xrP v1 D::w8 D::xtP v9 (rmI d.ts k)::xsP v2 d.ss::xmP v4 d.ar::blk bI _ _::blk bR _ _::blk bO _ _::R));clear hS;refine(dX4 D hD xb v2 v9 v4 W _ _ hS9).mono ?_;clear hS9;rintro e w ⟨rfl,hS⟩)
 all_goals(apply Ac7;rfl;rfl;rfl;rfl;exact hS;decide +kernel;exact x9;kernel_rfl)
 all_goals exact⟨rfl,v9,hS.s _⟩
end
theorem Dm7(D:Ev):(r6 D).length=D.length:=jM _
theorem JM7{D:Ev}(h:Asc ltB (r6 D)):Asc ltB D:=by unfold Asc r6 at h;exact List.pairwise_map.1 h
theorem JN7(k:ByteArray):∀D:Ev,plI ltB (r6 D) k=plI ltB D k
 | []=>rfl
 | x::D=>by
  have ih:=JN7 k D;show plI ltB ((x.1,x.2.2)::r6 D) k=_
  rw[plI,plI,ih]
theorem JO7(k:ByteArray):∀D:Ev,plB ltB (r6 D) k=plB ltB D k
 | []=>rfl
 | x::D=>by
  have ih:=JO7 k D;show plB ltB ((x.1,x.2.2)::r6 D) k=_
  rw[plB,plB,ih]
theorem Cw7(D:Ev):r6 (clF D)=clV (r6 D):=by unfold clF clV r6;rw[List.filter_map];rfl
theorem Cl7(D:Ev)(k:ByteArray)(vb:Nat)(V:Vs):r6 (loA D k++(k,(vb,V))::hiA D k)=plS ltB (r6 D) k V:=by unfold plS;rw[JN7,JO7];unfold loA hiA r6;rw[List.map_append,List.map_cons,List.map_take,List.map_drop]
theorem PF7(D:Ev)(k:ByteArray):(loA D k).length+(hiA D k).length<=D.length:=by have h:=JH7 ltB k D;unfold loA hiA;rw[jT,List.length_drop];split <;> omega
def Q6(xb:Nat)(d:Ec):HP:=fun f=>∃(v1 v2 v3 v4:Value) (D:Ev),r6 D=d.vs/\sats (dg4 xb v1 v2 v3 v4 D d []) f
section
variable{W w:World}{R:List HP}{xb:Nat}{d:Ec}{v1 v2 v3 v4:Value}{D:Ev}{k:ByteArray}{V:Vs}
theorem bm4(h:St W (Q6 xb d::R) w):∃v1 v2 v3 v4 D,r6 D=d.vs/\St W (dg4 xb v1 v2 v3 v4 D d R) w:=by obtain⟨v1,h⟩:=St.ex h;obtain⟨v2,h⟩:=St.ex h;obtain⟨v3,h⟩:=St.ex h;obtain⟨v4,h⟩:=St.ex h;obtain⟨D,h⟩:=St.ex h;obtain⟨hp,h⟩:=St.and h;exact⟨v1,v2,v3,v4,D,hp,h.openS⟩
theorem aw4(hp:r6 D=d.vs)(h:St W (dg4 xb v1 v2 v3 v4 D d R) w):St W (Q6 xb d::R) w:=
 St.mkEx v1 (St.mkEx v2 (St.mkEx v3 (St.mkEx v4 (St.mkEx D (St.mkAnd hp (St.shutS [_,_,_,_,_,_] h))))))
theorem bZ4{d':Ec}(hp:r6 (clF D)=d'.vs)(h:St W (aa4 xb v2 v3 v4 (clF D)::xsP v2 d'.ss::xtP v3 d'.ts::xmP v4 d'.ar::R) w):St W (Q6 xb d'::R) w:=by obtain⟨r1,h1⟩:=cc4 h;exact aw4 hp h1
theorem fy4(hn:Asc ltB d.vs)(hp:r6 D=d.vs)(k:ByteArray):vAt D k=atV d k:=by
 have h1:(D.map (·.1)).Nodup:=by rw[<-BA7,hp];exact AW7 Bp7 hn
 exact(Ip7 h1 (hp▸List.Perm.refl _) k).symm
end
structure DOk(d:Ec)(k:ByteArray)(i:Nat):Prop where
 va:Asc ltB d.vs
 sn:(d.ss.map (·.1)).Nodup
 tk:TsK d.ts
 lv:d.vs.length<=900000
 ls:d.ss.length<=1000000
 lt:d.ts.length<=1000000
 la:d.ar.length<=1000000
 ok:VOk (atV d k).ps (atV d k).n i
 may:∀x∈(atV d k).L,MayP x
 l32:(atV d k).L.length<=32
theorem RR7{d:Ec}{o:Opn}(h:aP4 d o=(rp0,false)):T8 d o=((doV (atV d o.ak) o).1,true,⟨vsD d o,ssD d o (doV (atV d o.ak) o).1,tsD d o (doV (atV d o.ak) o).1,arD d o⟩):=by unfold T8;rw[h];rfl
theorem RS7{d:Ec}{o:Opn}{r:Rpl}(h:aP4 d o=(r,true)):T8 d o=(r,false,d):=by unfold T8;rw[h];rfl
theorem RT7{xb:Nat}{d:Ec}{i:Nat}(hi:i<=5000){kd cl sq:Int}{ak aw tk tw:ByteArray}{it ct pr:Int}{bu:Bool}{id:Int}(hd0:DOk d ak i)(W w:World)(R:List HP)(hS:St W (Q6 xb d::R) w):
  Calls Tryz.prog 21 #[.P xb,oV kd cl sq ak aw tk tw it ct pr bu id] w fun x w'=>
   x=.returned (.tuple #[rV (T8 d ⟨kd,cl,sq,ak,aw,tk,tw,it,ct,pr,bu,id⟩).1.err (T8 d ⟨kd,cl,sq,ak,aw,tk,tw,it,ct,pr,bu,id⟩).1.id (T8 d ⟨kd,cl,sq,ak,aw,tk,tw,it,ct,pr,bu,id⟩).1.has.x0 (T8 d ⟨kd,cl,sq,ak,aw,tk,tw,it,ct,pr,bu,id⟩).1.has.x1 (T8 d ⟨kd,cl,sq,ak,aw,tk,tw,it,ct,pr,bu,id⟩).1.has.x2 (T8 d ⟨kd,cl,sq,ak,aw,tk,tw,it,ct,pr,bu,id⟩).1.has.x3,.bool (T8 d ⟨kd,cl,sq,ak,aw,tk,tw,it,ct,pr,bu,id⟩).2.1]) /\
   St W (Q6 xb (T8 d ⟨kd,cl,sq,ak,aw,tk,tw,it,ct,pr,bu,id⟩).2.2::R) w':=by
 obtain⟨v1,v2,v3,v4,D,hd,hS⟩:=bm4 hS;have hA:Asc ltB D:=JM7 (hd.symm▸hd0.va);have hl:D.length<=900000:=by rw[<-Dm7,hd];exact hd0.lv
 have hlh:=PF7 D ak;have hV:atV d ak=vAt D ak:=(fy4 hd0.va hd ak).symm;have hok:=hd0.ok;have hmay:=hd0.may;have hl32:=hd0.l32;rw[hV]at hok hmay hl32
 cases hpk:aP4 d ⟨kd,cl,sq,ak,aw,tk,tw,it,ct,pr,bu,id⟩with
 | mk r b=>
 cases b with
 | true=>
  obtain⟨r0,r1,⟨r2,r3,r4,r5⟩⟩:=r;rw[RS7 hpk];refine(Np7 hd0.tk hpk hS).mono ?_;rintro x w' ⟨rfl,hS⟩;exact⟨rfl,aw4 hd hS⟩
 | false=>
  have hpe:=hpk;rw[Mm7 hd0.sn]at hpe;obtain⟨rfl,hm⟩:=BC7 hpe;clear hpe;have hap:=RR7 hpk;unfold vsD at hap;dsimp only at hap;rw[hV]at hap;have hm2:M7 ⟨kd,cl,sq,ak,aw,tk,tw,it,ct,pr,bu,id⟩=true:=by unfold C5 at hm;exact(jB _ _▸hm).2
  have hk:kd=1\/kd=2\/kd=3\/kd=4\/kd=5\/kd=6\/kd=7:=by
   unfold M7 at hm2;dsimp only at hm2
   repeat' split at hm2
   all_goals first|omega|cases hm2
  have hcnt:kd≠7->0<=it/\it<4/\0<=ct/\ct<=1048576:=by
   intro h7;have hc:N6 ⟨kd,cl,sq,ak,aw,tk,tw,it,ct,pr,bu,id⟩=true->0<=it/\it<4/\0<=ct/\ct<=1048576:=fun h=>by have:=Dl7 h;simp only at this;omega
   rcases hk with rfl|rfl|rfl|rfl|rfl|rfl|rfl
   ·have hm3:B9 ⟨1,cl,sq,ak,aw,tk,tw,it,ct,pr,bu,id⟩=true:=hm2;unfold B9 at hm3;exact hc (jB _ _▸hm3).1
   ·have hm3:R6 ⟨2,cl,sq,ak,aw,tk,tw,it,ct,pr,bu,id⟩=true:=hm2;unfold R6 at hm3;exact hc (jB _ _▸(jB _ _▸hm3).2).1
   ·have hm3:N9 ⟨3,cl,sq,ak,aw,tk,tw,it,ct,pr,bu,id⟩=true:=hm2;unfold N9 at hm3;simp only[jB]at hm3;exact hc hm3.2.2.2.1
   ·have hm3:M6 ⟨4,cl,sq,ak,aw,tk,tw,it,ct,pr,bu,id⟩=true:=hm2;unfold M6 at hm3;simp only[jB,decide_eq_true_eq]at hm3;omega
   ·have hm3:ch4 ⟨5,cl,sq,ak,aw,tk,tw,it,ct,pr,bu,id⟩=true:=hm2;unfold ch4 at hm3;simp only[jB,decide_eq_true_eq]at hm3;omega
   ·have hm3:B9 ⟨6,cl,sq,ak,aw,tk,tw,it,ct,pr,bu,id⟩=true:=hm2;unfold B9 at hm3;exact hc (jB _ _▸hm3).1
   ·exact absurd rfl h7
  rcases hk with rfl|rfl|rfl|rfl|rfl|rfl|rfl
  ·obtain⟨h0,h4,c0,c1⟩:=hcnt (by decide);refine(CO7 (A:=loA D ak) (B:=hiA D ak) (V':=⟨M5 (vAt D ak).ps aw (B5 it ct),(vAt D ak).L,(vAt D ak).n⟩) rfl rfl hd0.tk hd0.ls (by omega) hpk (fun w R h=>(gJ4 hA (by omega) rfl rfl rfl hok hi h0 h4 c0 c1 rfl rfl h).mono (by rintro e w' ⟨vb,rfl,h⟩;exact⟨vb,v3,rfl,h⟩)) hS).mono ?_;rintro x w' ⟨vb,v8,v9,rfl,hS⟩;rw[hap];refine⟨rfl,?_⟩;refine bZ4 (d':=⟨clV (plS ltB d.vs ak ⟨M5 (vAt D ak).ps aw (B5 it ct),(vAt D ak).L,(vAt D ak).n⟩),plS ltI d.ss cl (sq,⟨Q5 (vAt D ak).ps aw (B5 it ct),0,it0⟩),d.ts,d.ar⟩) ?_ hS;rw[Cw7,Cl7,hd]
  ·obtain⟨h0,h4,c0,c1⟩:=hcnt (by decide);by_cases hr:A5 (vAt D ak).ps aw (B5 it ct)=0
   ·have hv:(doV (vAt D ak) ⟨2,cl,sq,ak,aw,tk,tw,it,ct,pr,bu,id⟩).1=rp0:=by
     show(⟨A5 (vAt D ak).ps aw (B5 it ct),0,it0⟩:Rpl)=rp0
     rw[hr]
    have ht:tsD d ⟨2,cl,sq,ak,aw,tk,tw,it,ct,pr,bu,id⟩ rp0=d.ts.take (plI ltW d.ts (cl,sq))++((cl,sq),⟨cl,sq,ak,aw,tk,tw,it,ct⟩)::d.ts.drop (plI ltW d.ts (cl,sq)):=if_pos ⟨rfl,rfl⟩;rw[hv,ht]at hap;refine(CO7 (A:=loA D ak) (B:=hiA D ak) (V':=⟨A8 (vAt D ak).ps aw (B5 it ct),(vAt D ak).L,(vAt D ak).n⟩) rfl rfl hd0.tk hd0.ls (by omega) hpk (fun w R h=>fY4 hA (by omega) rfl rfl rfl hok hi h0 h4 c0 c1 hr rfl hd0.tk hd0.lt h) hS).mono ?_;rintro x w' ⟨vb,v8,v9,rfl,hS⟩;rw[hap];refine⟨rfl,?_⟩;refine bZ4 (d':=⟨clV (plS ltB d.vs ak ⟨A8 (vAt D ak).ps aw (B5 it ct),(vAt D ak).L,(vAt D ak).n⟩),plS ltI d.ss cl (sq,rp0),d.ts.take (plI ltW d.ts (cl,sq))++((cl,sq),⟨cl,sq,ak,aw,tk,tw,it,ct⟩)::d.ts.drop (plI ltW d.ts (cl,sq)),d.ar⟩) ?_ hS;rw[Cw7,Cl7,hd]
   ·have ht:tsD d ⟨2,cl,sq,ak,aw,tk,tw,it,ct,pr,bu,id⟩ (doV (vAt D ak) ⟨2,cl,sq,ak,aw,tk,tw,it,ct,pr,bu,id⟩).1=d.ts:=(if_neg (fun h=>hr h.2)).trans (if_neg (by show ¬((2:Int)=7);decide));rw[ht]at hap;refine(CO7 (A:=loA D ak) (B:=hiA D ak) (V':=⟨A8 (vAt D ak).ps aw (B5 it ct),(vAt D ak).L,(vAt D ak).n⟩) rfl rfl hd0.tk hd0.ls (by omega) hpk (fun w R h=>(fX4 hA (by omega) rfl rfl rfl hok hi h0 h4 c0 c1 rfl (by simpa using hr) rfl h).mono (by rintro e w' ⟨vb,rfl,h⟩;exact⟨vb,v3,rfl,h⟩)) hS).mono ?_;rintro x w' ⟨vb,v8,v9,rfl,hS⟩;rw[hap];refine⟨rfl,?_⟩;refine bZ4 (d':=⟨clV (plS ltB d.vs ak ⟨A8 (vAt D ak).ps aw (B5 it ct),(vAt D ak).L,(vAt D ak).n⟩),plS ltI d.ss cl (sq,⟨A5 (vAt D ak).ps aw (B5 it ct),0,it0⟩),d.ts,d.ar⟩) ?_ hS;rw[Cw7,Cl7,hd]
  ·obtain⟨h0,h4,c0,c1⟩:=hcnt (by decide);refine(CO7 (A:=loA D ak) (B:=hiA D ak) (V':=(E6 (vAt D ak) ⟨0,aw,bu,it,ct,pr⟩).2.2) rfl rfl hd0.tk hd0.ls (by omega) hpk (fun w R h=>(gK4 hA (by omega) rfl rfl rfl hok hi h0 h4 c0 c1 hmay rfl rfl rfl h).mono (by rintro e w' ⟨vb,rfl,h⟩;exact⟨vb,v3,rfl,h⟩)) hS).mono ?_;rintro x w' ⟨vb,v8,v9,rfl,hS⟩;rw[hap];refine⟨rfl,?_⟩;refine bZ4 (d':=⟨clV (plS ltB d.vs ak (E6 (vAt D ak) ⟨0,aw,bu,it,ct,pr⟩).2.2),plS ltI d.ss cl (sq,⟨(E6 (vAt D ak) ⟨0,aw,bu,it,ct,pr⟩).2.1,(E6 (vAt D ak) ⟨0,aw,bu,it,ct,pr⟩).1,it0⟩),d.ts,d.ar⟩) ?_ hS;rw[Cw7,Cl7,hd]
  ·obtain⟨h0,h4,c0,c1⟩:=hcnt (by decide);refine(CO7 (A:=loA D ak) (B:=hiA D ak) (V':=(F6 (vAt D ak) aw id).2) rfl rfl hd0.tk hd0.ls (by omega) hpk (fun w R h=>(gL4 hA (by omega) rfl rfl rfl hok hi h0 h4 c0 c1 hmay hl32 rfl rfl h).mono (by rintro e w' ⟨vb,rfl,h⟩;exact⟨vb,v3,rfl,h⟩)) hS).mono ?_;rintro x w' ⟨vb,v8,v9,rfl,hS⟩;rw[hap];refine⟨rfl,?_⟩;refine bZ4 (d':=⟨clV (plS ltB d.vs ak (F6 (vAt D ak) aw id).2),plS ltI d.ss cl (sq,⟨(F6 (vAt D ak) aw id).1,0,it0⟩),d.ts,d.ar⟩) ?_ hS;rw[Cw7,Cl7,hd]
  ·obtain⟨h0,h4,c0,c1⟩:=hcnt (by decide);refine(CO7 (A:=loA D ak) (B:=hiA D ak) (V':=vAt D ak) rfl rfl hd0.tk hd0.ls (by omega) hpk (fun w R h=>(gM4 hA (by omega) rfl rfl rfl hok hi h0 h4 c0 c1 rfl h).mono (by rintro e w' ⟨vb,rfl,h⟩;exact⟨vb,v3,rfl,h⟩)) hS).mono ?_;rintro x w' ⟨vb,v8,v9,rfl,hS⟩;rw[hap];refine⟨rfl,?_⟩;refine bZ4 (d':=⟨clV (plS ltB d.vs ak (vAt D ak)),plS ltI d.ss cl (sq,⟨0,0,m5 (vAt D ak).ps aw⟩),d.ts,d.ar⟩) ?_ hS;rw[Cw7,Cl7,hd]
  ·obtain⟨h0,h4,c0,c1⟩:=hcnt (by decide);refine(Nq7 hA hl rfl rfl rfl (by omega) hok hi h0 h4 c0 c1 rfl hd0.tk hd0.la hpk hS).mono ?_;rintro x w' ⟨vb,v9,rfl,hS⟩;rw[hap];refine⟨rfl,?_⟩;refine bZ4 (d':=⟨clV (plS ltB d.vs ak ⟨M5 (vAt D ak).ps aw (B5 it ct),(vAt D ak).L,(vAt D ak).n⟩),d.ss,d.ts,dY4 d.ar (cl,sq) ()⟩) ?_ hS;rw[Cw7,Cl7,hd]
  ·have hf0:(m7 d.ts (cl,sq)).isNone=false:=by
    have h1:=hpk;unfold aP4 at h1;rw[if_neg (by rw[hm];exact Bool.noConfusion),if_neg (by show ¬((7:Int)=6);decide),if_pos rfl,EM7]at h1;exact congrArg Prod.snd h1
   have hf1:0<=fdI d.ts (cl,sq):=by rw[<-EM7]at hf0;simpa using hf0
   obtain⟨k,hfd⟩:=Int.eq_ofNat_of_zero_le hf1;refine(JL7 (by omega) hd0.tk hd0.lt hfd hpk hS).mono ?_;rintro x w' ⟨v9,rfl,hS⟩;rw[hap];refine⟨rfl,?_⟩;refine bZ4 (d':=⟨clV d.vs,d.ss,rmI d.ts (fdI d.ts (cl,sq)),d.ar⟩) ?_ (by rw[hfd];exact hS);rw[Cw7,hd]
section
variable{W w:World}{R:List HP}{xb eb:Nat}{d e:Ec}{i:Nat}
theorem Ug7(hk:TsK d.ts){kd cl sq:Int}{ak aw tk tw:ByteArray}{it ct pr:Int}{bu:Bool}{id:Int}{r0 r1 r2 r3 r4 r5:Int}{b:Bool}(hp:aP4 d ⟨kd,cl,sq,ak,aw,tk,tw,it,ct,pr,bu,id⟩=(⟨r0,r1,⟨r2,r3,r4,r5⟩⟩,b))(hS:St W (Q6 xb d::R) w):
  Calls Tryz.prog 48 #[.P xb,oV kd cl sq ak aw tk tw it ct pr bu id] w fun e w'=>e=.returned (.tuple #[rV r0 r1 r2 r3 r4 r5,.bool b])/\St W (Q6 xb d::R) w':=by
 obtain⟨v1,v2,v3,v4,D,hd,hS⟩:=bm4 hS;refine(dQ4 (d:=d) hk hp (hS.s (xeB xb v1 v2 v3 v4::xsP v2 d.ss::xtP v3 d.ts::xmP v4 d.ar::xrP v1 D::w8 D::R))).mono ?_;rintro e w' ⟨rfl,hS⟩;exact⟨rfl,aw4 hd (hS.s _)⟩
theorem Nr7(cl sq:Int){b:Bool}(hb:(m7 d.ar (cl,sq)).isSome=b)(hS:St W (Q6 xb d::R) w):
  Calls Tryz.prog 82 #[.P xb,.I cl,.I sq] w fun e w'=>e=.returned (.bool b)/\St W (Q6 xb d::R) w':=by
 obtain⟨v1,v2,v3,v4,D,hd,hS⟩:=bm4 hS;refine(EH7 d.ar cl sq hb xb v1 v2 v3 v4 W _ _ (hS.s (xeB xb v1 v2 v3 v4::xmP v4 d.ar::xsP v2 d.ss::xtP v3 d.ts::xrP v1 D::w8 D::R))).mono ?_;rintro e w' ⟨rfl,hS⟩;exact⟨rfl,aw4 hd (hS.s _)⟩
theorem gT4(hA0:Asc ltB d.vs)(k u:ByteArray)(hok:VOk (atV d k).ps (atV d k).n i){x0 x1 x2 x3:Int}(hx:m5 (atV d k).ps u=⟨x0,x1,x2,x3⟩)(hS:St W (Q6 xb d::R) w):
  Calls Tryz.prog 84 #[.P xb,.agg #[.string k,.string u]] w fun e w'=>e=.returned (.agg #[.I x0,.I x1,.I x2,.I x3])/\St W (Q6 xb d::R) w':=by
 obtain⟨v1,v2,v3,v4,D,hd,hS⟩:=bm4 hS;have hA:Asc ltB D:=JM7 (hd.symm▸hA0);have hV:atV d k=vAt D k:=(fy4 hA0 hd k).symm;rw[hV]at hok hx;clear hV;have Hd:=jH hd;obtain⟨p,hp⟩:∃p,plI ltB D k=p:=⟨_,rfl⟩
 have Hp:=jH hp
 cases hb:plB ltB D k with
 | false=>
  rw[Ml7 hA hb]at hx
  cases hx
  have Hb:=jH hb;clear hb hp hd hok hA0 hA;go_enter Tryz.func84,Tryz.ntmps84;go_wp2_with(first|refine zbx hS ?_;clear hS;intro bO w hS|refine zal hS ?_;clear hS;intro bR w hS|refine zl1 hS ?_|refine zsN hS ?_;clear hS;intro w hS|go_at_call 80;refine(EF7 Hp.out Hb.out xb v1 v2 v3 v4 W _ _ (hS.s (xeB xb v1 v2 v3 v4::xrP v1 D::blk bR _ _::blk bO _ _::w8 D::xsP v2 d.ss::xtP v3 d.ts::xmP v4 d.ar::R))).mono ?_;clear hS;rintro e w ⟨rfl,hS⟩);apply Au7;rfl;rfl;rfl;exact hS;decide +kernel;(exact x9);kernel_rfl;exact⟨rfl,aw4 Hd.out (hS.s _)⟩
 | true=>
  obtain⟨hpl,vb,V,hxx,hv,hD⟩:=Mk7 hA hb;rw[hv]at hok hx;obtain⟨a,cap,rfl⟩:=hS.drop.rowVal;obtain⟨⟨g,rfl⟩,_,_⟩:=St.rowAddr hS.drop (by omega);have hc:∀{K K':List HP},Take K (xrP (.S g D.length cap) D) K'->i9 K g (plI ltB D k*2+1) (.P vb):=fun hu=>i8.elemM (enc:=rwC) Bm7 hu hpl 1 _ (by rw[hxx];rfl)
  rw[hp]at hc hpl;have h1:=hS.s (w8 D::xeB xb (.S g D.length cap) v2 v3 v4::xrP (.S g D.length cap) D::xsP v2 d.ss::xtP v3 d.ts::xmP v4 d.ar::R);clear hS;obtain⟨A,hA1⟩:∃A,loA D k=A:=⟨_,rfl⟩
  obtain⟨B,hB1⟩:∃B,hiA D k=B:=⟨_,rfl⟩
  rw[hA1,hB1]at hD;have hback:∀w' K,St W (dvP vb V::w8 (A++B)::K) w'->St W (w8 D::K) w':=by intro w' K h;have h3:=cC4 (x:=(k,(vb,V))) h;rw[<-hD]at h3;exact h3
  have h2:St W (dvP vb V::w8 (A++B)::xeB xb (.S g D.length cap) v2 v3 v4::xrP (.S g D.length cap) D::xsP v2 d.ss::xtP v3 d.ts::xmP v4 d.ar::R) w:=by
   have h4:St W (w8 (A++(k,(vb,V))::B)::xeB xb (.S g D.length cap) v2 v3 v4::xrP (.S g D.length cap) D::xsP v2 d.ss::xtP v3 d.ts::xmP v4 d.ar::R) w:=by rw[<-hD];exact h1
   exact cB4 h4
  obtain⟨xB,hS⟩:=de4 h2;have Hb:=jH hb;have Hback:=jH hback;have Hx:=jH hx;have Hok:=jH hok;clear h1 h2 hback hD hA1 hB1 hxx hv hb hp hd hx hok hA0 hA;go_enter Tryz.func84,Tryz.ntmps84;go_wp2_with(first|refine zbx hS ?_;clear hS;intro bO w hS|refine zal hS ?_;clear hS;intro bR w hS|refine zl1 hS ?_|go_at_call 80;refine(EF7 Hp.out Hb.out xb _ v2 v3 v4 W _ _ (hS.s (xeB xb (.S g D.length cap) v2 v3 v4::xrP (.S g D.length cap) D::xvP vb _ V.n V.ps::xkP xB V.L V.n::blk bR _ _::blk bO _ _::w8 (A++B)::xsP v2 d.ss::xtP v3 d.ts::xmP v4 d.ar::R))).mono ?_;clear hS;rintro e w ⟨rfl,hS⟩);have hS1:=hS.s (xvP vb (.P xB) V.n V.ps::xkP xB V.L V.n::xeB xb (.S g D.length cap) v2 v3 v4::xrP (.S g D.length cap) D::blk bR _ _::blk bO _ _::w8 (A++B)::xsP v2 d.ss::xtP v3 d.ts::xmP v4 d.ar::R);clear hS;refine rt 11 hS1 ?_
  repeat(first|refine zq1 ?_|refine zqn ?_|apply As7;rfl;rfl;rfl;decide +kernel;exact hc (by exact j5);refine frS ?_|apply At7;rfl;intro w;apply Ag7;rfl;decide +kernel;(focus(simp only[fD,fI,fJ,Act.eval,fE,fF,fG,fH,fK];try rfl));intro w hS;exact bV4 Hok.out.w Hx.out hS;refine frS ?_|refine qR ?_)
  clear hS1;intro w hS;simp only[jD,List.drop_zero];go_wp2_with(first|refine zsN hS ?_;clear hS;intro w hS);apply Au7;rfl;rfl;rfl;exact hS;decide +kernel;(exact x9);kernel_rfl;have h1:=bF4 (V:=V) (hS.s (xvP vb (.P xB) V.n V.ps::xkP xB V.L V.n::w8 (A++B)::xeB xb (.S g D.length cap) v2 v3 v4::xrP (.S g D.length cap) D::xsP v2 d.ss::xtP v3 d.ts::xmP v4 d.ar::R));have h2:=Hback.out _ _ h1;exact⟨rfl,aw4 Hd.out (h2.s _)⟩
theorem Uh7{kd cl sq:Int}{ak aw tk tw:ByteArray}{it ct pr:Int}{bu:Bool}{id:Int}{r0 r1 r2 r3 r4 r5:Int}{b:Bool}(hp:G9 e ⟨kd,cl,sq,ak,aw,tk,tw,it,ct,pr,bu,id⟩=(⟨r0,r1,⟨r2,r3,r4,r5⟩⟩,b))(hS:St W (ecP eb e::R) w):
  Calls Tryz.prog 33 #[.P eb,oV kd cl sq ak aw tk tw it ct pr bu id] w fun x w'=>x=.returned (.tuple #[rV r0 r1 r2 r3 r4 r5,.bool b])/\St W (ecP eb e::R) w':=by
 obtain⟨m1,m2,m3,m4,E,h1,hn,hS⟩:=av4 hS;refine(Bk7 (vs:=e.vs) hp W _ _ hS).mono ?_;rintro x w' ⟨rfl,hS⟩;exact⟨rfl,S8 h1 (G6 hS)⟩
theorem Mn7:∀{E:Ev} {R:List HP},St W (m9 E::R) w->∀x∈E,(∀o∈x.2.2.L,MayP o)/\x.2.2.L.length<=32
 | [],_,_,_,hx=>by cases hx
 | y::E,R,h,x,hx=>by
  have h1:=bE4 (E:=E) h
  rcases List.mem_cons.1 hx with rfl|hx
  ·obtain⟨mb,bb,h2⟩:=aF4 h1;exact⟨fun o ho=>(Bn7 h2.drop.drop o ho).1,Cd7 h2.drop.drop⟩
  ·exact Mn7 h1.drop x hx
theorem DS7(h:St W (ecP eb e::R) w):∀x∈e.vs,(∀o∈x.2.L,MayP o)/\x.2.L.length<=32:=by obtain⟨m1,m2,m3,m4,E,hp,h⟩:=cN4 h;have h1:St W (m9 E::R) w:=h.s _;intro x hx;obtain⟨y,hy,rfl⟩:=List.mem_map.1 (hp.mem_iff.2 hx);exact Mn7 h1 y hy
end
theorem fz4(i:Nat):VOk [] 1 i:=⟨Ek7,Ky7 _,by decide,by omega⟩
structure GOk(d e:Ec)(n:Nat):Prop where
 sim:SimE d e
 ok:EOk e n
 lv:d.vs.length<=n
 ls:d.ss.length<=n
 lt:d.ts.length<=n
 la:d.ar.length<=n
theorem hI4:GOk ec0 ec0 0:=⟨hH4,fV4 0,Nat.le_refl _,Nat.le_refl _,Nat.le_refl _,Nat.le_refl _⟩
theorem GOk.dok{d e:Ec}{n:Nat}(h:GOk d e n)(hn:n<=5000)(he:∀x∈e.vs,(∀o∈x.2.L,MayP o)/\x.2.L.length<=32)(k:ByteArray):DOk d k n:=by
 have h1:VOk (atV d k).ps (atV d k).n n/\(∀x∈(atV d k).L,MayP x)/\(atV d k).L.length<=32:=by
  rw[h.sim.at];unfold atV
  cases hg:m7 e.vs k with
  | none=>exact⟨fz4 n,fun x hx=>(by cases hx),Nat.zero_le _⟩
  | some V=>
   have h2:=AI7 hg;exact⟨h.ok _ h2,(he _ h2).1,(he _ h2).2⟩
 have:=h.lv;have:=h.ls;have:=h.lt;have:=h.la;exact⟨h.sim.va,h.sim.sn,h.sim.tk,by omega,by omega,by omega,by omega,h1.1,h1.2.1,h1.2.2⟩
section
variable{κ ν:Type}[DecidableEq κ]
theorem PG7{lt:κ->κ->Bool}(l:List (κ×ν))(k:κ)(v:ν):(plS lt l k v).length<=l.length+1:=by have h:=JH7 lt k l;unfold plS;rw[jA,jC,jT,List.length_drop];split <;> omega
theorem Mo7(l:List ((Int×Int)×ν))(k:Int×Int)(v:ν):(dY4 l k v).length<=l.length+1:=by have h:=JH7 ltW k l;unfold dY4;rw[jA,jC,jT,List.length_drop];omega
theorem Ui7{α:Type}(l:List α)(i:Int):(rmI l i).length<=l.length:=by unfold rmI;rw[jA,jT,List.length_drop];omega
end
theorem Uj7(l:List (ByteArray×Vs)):(clV l).length<=l.length:=List.length_filter_le _ _
theorem RU7(d:Ec)(o:Opn):(T8 d o).2.2.vs.length<=d.vs.length+1/\(T8 d o).2.2.ss.length<=d.ss.length+1/\(T8 d o).2.2.ts.length<=d.ts.length+1/\(T8 d o).2.2.ar.length<=d.ar.length+1:=by
 unfold T8;split
 ·exact⟨Nat.le_succ _,Nat.le_succ _,Nat.le_succ _,Nat.le_succ _⟩
 ·refine⟨?_,?_,?_,?_⟩
  ·show(vsD d o).length<=_
   unfold vsD;refine Nat.le_trans (Uj7 _) ?_;split
   ·omega
   ·exact PG7 _ _ _
  ·show(ssD d o _).length<=_
   unfold ssD;split
   ·omega
   ·exact PG7 _ _ _
  ·show(tsD d o _).length<=_
   unfold tsD;split
   ·exact Mo7 _ _ _
   ·split
    ·exact Nat.le_trans (Ui7 _ _) (by omega)
    ·omega
  ·show(arD d o).length<=_
   unfold arD;split
   ·exact Mo7 _ _ _
   ·omega
theorem GOk.app{d e:Ec}{n:Nat}(h:GOk d e n)(o:Opn)(hok:EOk (M8 e o).2.2 (n+1)):GOk (T8 d o).2.2 (M8 e o).2.2 (n+1):=by obtain⟨h1,h2,h3,h4⟩:=RU7 d o;have:=h.lv;have:=h.ls;have:=h.lt;have:=h.la;exact⟨(KU7 h.sim o).2.2,hok,by omega,by omega,by omega,by omega⟩
def cP4(l:List Opn)(d:Ec):Ec:=l.foldl (fun d o=>(T8 d o).2.2) d
theorem Uk7{xs:List Opn}{i:Nat}(h:i<xs.length)(e:Ec):br4 (xs.take (i+1)) e=(M8 (br4 (xs.take i) e) xs[i]).2.2:=by unfold br4;rw[List.take_succ_eq_append_getElem h,List.foldl_append];rfl
theorem Ul7{xs:List Opn}{i:Nat}(h:i<xs.length)(d:Ec):cP4 (xs.take (i+1)) d=(T8 (cP4 (xs.take i) d) xs[i]).2.2:=by unfold cP4;rw[List.take_succ_eq_append_getElem h,List.foldl_append];rfl
theorem Um7(e:Ec)(o:Opn):(M8 e o).2.1=!(G9 e o).2:=by
 unfold M8;by_cases h:(G9 e o).2=true
 ·rw[if_pos h,h];rfl
 ·rw[if_neg h];have:(G9 e o).2=false:=by simpa using h
  rw[this];rfl
theorem GOk.vok{d e:Ec}{n:Nat}(h:GOk d e n)(k:ByteArray):VOk (atV d k).ps (atV d k).n n:=by
 rw[h.sim.at];unfold atV
 cases hg:m7 e.vs k with
 | none=>exact fz4 n
 | some V=>exact h.ok _ (AI7 hg)
def em4(I:Ec->Nat->Prop):Prop:=∀(e:Ec) (n:Nat) (o:Opn),I e n->(∀x∈e.vs,(∀o∈x.2.L,MayP o)/\x.2.L.length<=32)->(∀x∈(M8 e o).2.2.vs,(∀o∈x.2.L,MayP o)/\x.2.L.length<=32)->EOk (M8 e o).2.2 (n+1)->I (M8 e o).2.2 (n+1)
def GoR(I:Ec->Nat->Prop)(W:World)(Lr:List HP)(eb xb:Nat)(xs:List Opn)(d e:Ec)(n:Nat)(v:Value)(w:World):Prop:=
 ∃i:Nat,v=.I i/\i<=xs.length/\GOk (cP4 (xs.take i) d) (br4 (xs.take i) e) (n+i)/\I (br4 (xs.take i) e) (n+i)/\St W (ecP eb (br4 (xs.take i) e)::Q6 xb (cP4 (xs.take i) d)::Lr) w
section
variable{W w:World}{L R:List HP}{eb xb:Nat}{d e:Ec}{i:Nat}{k u:ByteArray}{x0 x1 x2 x3 cl sq:Int}{b:Bool}
theorem atA(ht:Take L (ecP eb e) R)(hx:m5 (atV e k).ps u=⟨x0,x1,x2,x3⟩)(hS:St W L w):
  Calls Tryz.prog 18 #[.P eb,.agg #[.string k,.string u]] w fun x w'=>x=.returned (.agg #[.I x0,.I x1,.I x2,.I x3])/\St W L w':=by
 refine(Mi7 k u hx W w R (hS.take ht)).mono ?_;rintro x w' ⟨rfl,hS⟩;exact⟨rfl,hS.back ht⟩
theorem hJ4(ht:Take L (Q6 xb d) R)(hA:Asc ltB d.vs)(hok:VOk (atV d k).ps (atV d k).n i)(hx:m5 (atV d k).ps u=⟨x0,x1,x2,x3⟩)(hS:St W L w):
  Calls Tryz.prog 84 #[.P xb,.agg #[.string k,.string u]] w fun x w'=>x=.returned (.agg #[.I x0,.I x1,.I x2,.I x3])/\St W L w':=by
 refine(gT4 hA k u hok hx (hS.take ht)).mono ?_;rintro x w' ⟨rfl,hS⟩;exact⟨rfl,hS.back ht⟩
theorem hK4(ht:Take L (ecP eb e) R)(hb:(m7 e.ar (cl,sq)).isSome=b)(hS:St W L w):
  Calls Tryz.prog 19 #[.P eb,.I cl,.I sq] w fun x w'=>x=.returned (.bool b)/\St W L w':=by
 refine(JG7 cl sq hb W w R (hS.take ht)).mono ?_;rintro x w' ⟨rfl,hS⟩;exact⟨rfl,hS.back ht⟩
theorem gU4(ht:Take L (Q6 xb d) R)(hb:(m7 d.ar (cl,sq)).isSome=b)(hS:St W L w):
  Calls Tryz.prog 82 #[.P xb,.I cl,.I sq] w fun x w'=>x=.returned (.bool b)/\St W L w':=by
 refine(Nr7 cl sq hb (hS.take ht)).mono ?_;rintro x w' ⟨rfl,hS⟩;exact⟨rfl,hS.back ht⟩
end
theorem PH7{xb:Nat}{d d2:Ec}{i:Nat}(hi:i<=5000){kd cl sq:Int}{ak aw tk tw:ByteArray}{it ct pr:Int}{bu:Bool}{id:Int}(hd0:DOk d ak i){r0 r1 r2 r3 r4 r5:Int}{b:Bool}(h:T8 d ⟨kd,cl,sq,ak,aw,tk,tw,it,ct,pr,bu,id⟩=(⟨r0,r1,⟨r2,r3,r4,r5⟩⟩,b,d2))(W w:World)(R:List HP)(hS:St W (Q6 xb d::R) w):
  Calls Tryz.prog 21 #[.P xb,oV kd cl sq ak aw tk tw it ct pr bu id] w fun x w'=>x=.returned (.tuple #[rV r0 r1 r2 r3 r4 r5,.bool b])/\St W (Q6 xb d2::R) w':=by
 have h1:=RT7 hi (kd:=kd) (cl:=cl) (sq:=sq) (aw:=aw) (tk:=tk) (tw:=tw) (it:=it) (ct:=ct) (pr:=pr) (bu:=bu) (id:=id) hd0 W w R hS;rw[h]at h1;exact h1
theorem PI7{eb:Nat}{e e2:Ec}{i:Nat}(hE:EOk e i)(hi:i<=1000000){kd cl sq:Int}{ak aw tk tw:ByteArray}{it ct pr:Int}{bu:Bool}{id:Int}{r0 r1 r2 r3 r4 r5:Int}{b:Bool}(h:M8 e ⟨kd,cl,sq,ak,aw,tk,tw,it,ct,pr,bu,id⟩=(⟨r0,r1,⟨r2,r3,r4,r5⟩⟩,b,e2))(W w:World)(R:List HP)(hS:St W (ecP eb e::R) w):
  Calls Tryz.prog 16 #[.P eb,oV kd cl sq ak aw tk tw it ct pr bu id] w fun x w'=>EOk e2 (i+1)/\x=.returned (.tuple #[rV r0 r1 r2 r3 r4 r5,.bool b])/\St W (ecP eb e2::R) w':=Iq7 hE hi h W w R hS
theorem JP7(xs:List Opn)(hlen:xs.length<=150)(v:Value)(V:World)(hv:bU4 Opn.cells 12 V v xs){d e:Ec}{n:Nat}(hn:n<=4000)(h:GOk d e n){I:Ec->Nat->Prop}(hI:em4 I)(hi0:I e n)(eb xb:Nat)(W w:World)(Lr:List HP)(hS:St W (ecP eb e::Q6 xb d::Old V::Lr) w):
  Calls Tryz.prog 32 #[.P eb,.P xb,v] w fun r w'=>r=.returned (.bool true)/\GOk (cP4 xs d) (br4 xs e) (n+xs.length)/\I (br4 xs e) (n+xs.length)/\St W (ecP eb (br4 xs e)::Q6 xb (cP4 xs d)::Old V::Lr) w':=by
 obtain⟨a,cap,rfl,h63,hact⟩:=hv.opn;have Ha:=jH hact;have HG0:=jH h;have HI:=jH hI;have HI0:=jH hi0;clear hact hv h hI hi0;go_enter Tryz.func32,Tryz.ntmps32;go_wp2_with(fail)
 go_loopw [7] (fun v wr=>GoR I W (Old V::Lr) eb xb xs d e n v wr) (fun v _=>xs.length-(intOf v).toNat)
 case atStart=>exact⟨0,rfl,Nat.zero_le _,HG0.out,HI0.out,hS⟩
 case round=>
  clear hS;obtain⟨i,rfl,hi,hG,hi1,hS⟩:=hrel;by_cases hend:i=xs.length
  ·subst hend;have d3:decide ((xs.length:Int)<(xs.length:Int))=false:=by simp
   rw[List.take_length]at hS hG hi1;have HG:=jH hG;have HI1:=jH hi1;clear hG hi1;go_wp2_with(fail);go_ret;exact⟨rfl,HG.out,HI1.out,hS⟩
  have hil:i<xs.length:=by omega
  have dil:decide ((i:Int)<(xs.length:Int))=true:=by simp;omega
  have hi6:n+i<=4150:=by omega
  clear hend hi;obtain⟨pb,poff,rfl,hA⟩:=Ha.out i hil;have hall:=hA.all;have hcl:=hA.client;have hsq:=hA.seq
  have hpl:∀(j:Nat) (v:Value),([.string xs[i].ak,.string xs[i].aw]:List Value)[j]? = some v->V.cell? ⟨pb,poff+i*12+3+j,none⟩=some v:=by
   intro j v hj
   match j,hj with
   | 0,hj=>cases hj;exact hA.ak
   | 1,hj=>cases hj;exact hA.aw
   | j+2,hj=>simp at hj
  clear hA;have hs1:=Uk7 hil e;have hs2:=Ul7 hil d;obtain⟨e1,he⟩:∃z,br4 (xs.take i) e=z:=⟨_,rfl⟩
  obtain⟨d1,hd⟩:∃z,cP4 (xs.take i) d=z:=⟨_,rfl⟩
  rw[he]at hG hS hs1 hi1;rw[hd]at hG hS hs2;clear he hd;generalize xs[i]=x at hall hcl hsq hpl hs1 hs2;obtain⟨kd,cl,sq,ak,aw,tk,tw,it,ct,pr,bu,id⟩:=x;simp only[Opn.cells]at hall hcl hsq hpl;obtain⟨⟨⟨p0,p1,⟨p2,p3,p4,p5⟩⟩,pk⟩,hp⟩:∃z,G9 e1 ⟨kd,cl,sq,ak,aw,tk,tw,it,ct,pr,bu,id⟩=z:=⟨_,rfl⟩
  obtain⟨⟨⟨r0,r1,⟨r2,r3,r4,r5⟩⟩,rb,e2⟩,h1⟩:∃z,M8 e1 ⟨kd,cl,sq,ak,aw,tk,tw,it,ct,pr,bu,id⟩=z:=⟨_,rfl⟩
  have hrb:rb=!pk:=by have:=Um7 e1 ⟨kd,cl,sq,ak,aw,tk,tw,it,ct,pr,bu,id⟩;rw[h1,hp]at this;exact this
  have hq:aP4 d1 ⟨kd,cl,sq,ak,aw,tk,tw,it,ct,pr,bu,id⟩=(⟨p0,p1,⟨p2,p3,p4,p5⟩⟩,pk):=by rw[hG.sim.peek,hp]
  obtain⟨d2,hd2⟩:∃z,(T8 d1 ⟨kd,cl,sq,ak,aw,tk,tw,it,ct,pr,bu,id⟩).2.2=z:=⟨_,rfl⟩
  have h2:T8 d1 ⟨kd,cl,sq,ak,aw,tk,tw,it,ct,pr,bu,id⟩=(⟨r0,r1,⟨r2,r3,r4,r5⟩⟩,rb,d2):=by obtain⟨g1,g2,_⟩:=KU7 hG.sim ⟨kd,cl,sq,ak,aw,tk,tw,it,ct,pr,bu,id⟩;rw[h1]at g1 g2;exact Prod.ext g1 (Prod.ext g2 hd2)
  have hgn:=hG.app ⟨kd,cl,sq,ak,aw,tk,tw,it,ct,pr,bu,id⟩;have hin:=HI.out e1 (n+i) ⟨kd,cl,sq,ak,aw,tk,tw,it,ct,pr,bu,id⟩ hi1;rw[h1]at hs1 hgn hin;rw[h2]at hs2 hgn;dsimp only at hs1 hs2 hgn hin;have hsim2:SimE d2 e2:=by have:=(KU7 hG.sim ⟨kd,cl,sq,ak,aw,tk,tw,it,ct,pr,bu,id⟩).2.2;rw[h1,h2]at this;exact this
  obtain⟨⟨z0,z1,z2,z3⟩,hz⟩:∃z,m5 (atV e2 ak).ps aw=z:=⟨_,rfl⟩
  have hz2:m5 (atV d2 ak).ps aw=⟨z0,z1,z2,z3⟩:=by rw[hsim2.at];exact hz
  obtain⟨y,hy⟩:∃y,(m7 e2.ar (cl,sq)).isSome=y:=⟨_,rfl⟩
  have hy2:(m7 d2.ar (cl,sq)).isSome=y:=by rw[AJ7 hsim2.an hsim2.a];exact hy
  have Htk:=jH hG.sim.tk;have HG:=jH hG;have Hp:=jH hp;have Hq:=jH hq;have H1:=jH h1;have H2:=jH h2;have G2:=jH hgn;have HIn:=jH hin;have S1:=jH hs1;have S2:=jH hs2;have Hz:=jH hz;have Hz2:=jH hz2;have Hy:=jH hy;have Hy2:=jH hy2;clear hi1 hin hG hp hq h1 h2 hgn hs1 hs2 hz hz2 hy hy2 hd2 hsim2;have heq:((z0==z0)&&((z1==z1)&&((z2==z2)&&(z3==z3))))=true:=by simp
  have hep:Rpl.eqB ⟨p0,p1,⟨p2,p3,p4,p5⟩⟩ ⟨p0,p1,⟨p2,p3,p4,p5⟩⟩=true:=by unfold Rpl.eqB;simp
  have her:Rpl.eqB ⟨r0,r1,⟨r2,r3,r4,r5⟩⟩ ⟨r0,r1,⟨r2,r3,r4,r5⟩⟩=true:=by unfold Rpl.eqB;simp
  subst hrb
  cases pk
  all_goals cases y
  all_goals
   go_wp2_with(first|refine zlN hS ?_ (vs:=[.I kd,.I cl,.I sq,.string ak,.string aw,.string tk,.string tw,.I it,.I ct,.I pr,.bool bu,.I id]) (hc:=by exact i8.old (by exact eX4) hall)|(fail_if_success (have:=gA));(refine zal hS ?_;clear hS;have gA:Nat:=0;intro bA w hS)|(have:=gA);(fail_if_success (have:=gB));(refine zal hS ?_;clear hS;have gB:Nat:=0;intro bB w hS)|(have:=gB);(fail_if_success (have:=gC));(refine zal hS ?_;clear hS;have gC:Nat:=0;intro bC w hS)|(have:=gC);refine zal hS ?_;clear hS;intro bD w hS|refine zsN hS ?_;clear hS;intro w hS|go_at_call 33;refine(Uh7 Hp.out (hS.s (ecP eb e1::Q6 xb d1::Old V::Lr))).mono ?_;clear hS;rintro ex w ⟨rfl,hS⟩|go_at_call 48;refine(Ug7 Htk.out Hq.out (hS.s (Q6 xb d1::ecP eb e1::blk bA _ _::Old V::Lr))).mono ?_;clear hS;rintro ex w ⟨rfl,hS⟩|go_at_call 16;have hS9:=hS.s (ecP eb e1::Q6 xb d1::blk bB _ _::blk bA _ _::Old V::Lr);clear hS;have hdk:=HG.out.dok (by omega) (DS7 hS9) ak;have Hdk:=jH hdk;clear hdk;have heE:=DS7 hS9;have HeE:=jH heE;clear heE;refine(PI7 HG.out.ok (by omega) H1.out W _ _ hS9).mono ?_;clear hS9;rintro ex w ⟨hok2,rfl,hS⟩;have Hok2:=jH hok2;clear hok2|go_at_call 21;refine(PH7 (by omega) Hdk.out H2.out W _ _ (hS.s (Q6 xb d1::ecP eb e2::blk bC _ _::blk bB _ _::blk bA _ _::Old V::Lr))).mono ?_;clear hS;rintro ex w ⟨rfl,hS⟩);have hg2:=G2.out Hok2.out;have HG2:=jH hg2;have HA2:=jH hg2.sim.va;have HV2:=jH (hg2.vok ak);clear hg2;have hS1:=hS.s (ecP eb e2::Q6 xb d2::blk bA _ _::blk bB _ _::blk bC _ _::blk bD _ _::Old V::Lr);have HI2:=jH (HIn.out HeE.out (DS7 hS1) Hok2.out);clear hS;refine Aa7 (by kernel_rfl) (by kernel_rfl) hS1 ?_
   repeat(first|refine zqN ?_|refine zqN ?_ (vs:=[.string ak,.string aw]) (hc:=by exact i8.old (by exact eX4) hpl)|refine zq1 ?_ (hc:=by first|exact i9.old (by exact eX4) hcl|exact i9.old (by exact eX4) hsq)|(apply LM7);rfl;rfl;rfl;rfl;kernel_rfl;exact Ir7 hep;simp only[Bool.not_true];refine frS ?_|(apply LM7);rfl;rfl;rfl;rfl;kernel_rfl;exact Ir7 her;simp only[Bool.not_true];refine frS ?_|(apply LM7);rfl;rfl;rfl;rfl;kernel_rfl;exact eqI _ _ _ _ _ _ _ _;rw[heq];simp only[Bool.not_true];refine frS ?_|apply At7;rfl;intro w;apply Ag7;rfl;decide +kernel;(focus(simp only[fD,fI,fJ,Act.eval,fE,fF,fG,fH,fK];try rfl));intro w hS;exact atA .head Hz.out hS;refine frS ?_|apply At7;rfl;intro w;apply Ag7;rfl;decide +kernel;(focus(simp only[fD,fI,fJ,Act.eval,fE,fF,fG,fH,fK];try rfl));intro w hS;exact hJ4 (.tail .head) HA2.out HV2.out Hz2.out hS;refine frS ?_|apply At7;rfl;intro w;apply Ag7;rfl;decide +kernel;(focus(simp only[fD,fI,fJ,Act.eval,fE,fF,fG,fH,fK];try rfl));intro w hS;exact hK4 .head Hy.out hS;refine frS ?_|apply At7;rfl;intro w;apply Ag7;rfl;decide +kernel;(focus(simp only[fD,fI,fJ,Act.eval,fE,fF,fG,fH,fK];try rfl));intro w hS;exact gU4 (.tail .head) Hy2.out hS;refine frS ?_|refine qR ?_)
   clear hS1;intro w hS;go_wp2_with(fail);go_roundw
   case rel=>exact⟨i+1,rfl,hil,by rw[S1.out,S2.out];exact HG2.out,by rw[S1.out];exact HI2.out,by rw[S1.out,S2.out];exact hS.s _⟩
   case measure=>simp[intOf];try omega
def TeR(W:World)(R:List HP)(E:Ev)(m1 r:Nat)(v4:Value)(w:World):Prop:=
 ∃done todo:List (ByteArray×Nat),(done++todo).Perm (j6 E)/\St W (cx4 v4 (done.map fun y=>al4 (vAt E y.1))::itR eS eN r m1 (j6 E) todo::m9 E::R) w
theorem RV7{eb:Nat}{e:Ec}{i:Nat}(hE:EOk e i)(hi:i<=1000000)(hl:e.vs.length<=1000000)(hv:∀x∈e.vs,G5 (co4 x.2) it0=some (al4 x.2)){t0 t1 t2 t3:Int}(ht:∀l:List It,l.Perm (e.vs.map fun x=>al4 x.2)->G5 l it0=some ⟨t0,t1,t2,t3⟩)(W w:World)(R:List HP)(hS:St W (ecP eb e::R) w):
  Calls Tryz.prog 22 #[.P eb] w fun x w'=>x=.returned (.tuple #[.agg #[.I t0,.I t1,.I t2,.I t3],.bool true])/\St W (ecP eb e::R) w':=by
 obtain⟨m1,m2,m3,m4,E,hp,hn,hS0⟩:=av4 hS;have hS1:=G6 hS0;clear hS hS0;have hEl:(j6 E).length<=1000000:=by have h1:=hp.length_eq;unfold r6 at h1;unfold j6;rw[jM]at h1 ⊢;omega
 have hm:∀(y:ByteArray×Nat) (todo':List (ByteArray×Nat)) {done todo:List (ByteArray×Nat)},(done++todo).Perm (j6 E)->todo.Perm (y::todo')->∃V,E.Perm ((y.1,(y.2,V))::j9 E y.1)/\vAt E y.1=V/\PsW V.ps (100*i)/\G5 (co4 ⟨V.ps,V.L,V.n⟩) it0=some ⟨I7 V 0,I7 V 1,I7 V 2,I7 V 3⟩:=by intro y todo' done todo h1 h2;have h3:y∈j6 E:=h1.mem_iff.1 (List.mem_append_right _ (h2.mem_iff.2 (List.mem_cons_self ..)));obtain⟨x,hx,rfl⟩:=List.mem_map.1 h3;have h4:m7 E x.1=some x.2:=Br7 hn hx;have h5:(x.1,x.2.2)∈e.vs:=hp.mem_iff.1 (List.mem_map.2 ⟨x,hx,rfl⟩);refine⟨x.2.2,BB7 hn h4,?_,(hE _ h5).w,hv _ h5⟩;unfold vAt;rw[h4];rfl
 have hend:∀done:List (ByteArray×Nat),done.Perm (j6 E)->G5 (done.map fun y=>al4 (vAt E y.1)) it0=some ⟨t0,t1,t2,t3⟩:=by
  intro done h1;refine ht _ ((h1.map _).trans ?_);refine List.Perm.trans ?_ (hp.map _);unfold j6 r6;rw[List.map_map,List.map_map];refine List.Perm.of_eq (List.map_congr_left fun x hx=>?_);show al4 (vAt E x.1)=al4 x.2.2
  unfold vAt;rw[Br7 (v:=x.2) hn hx];rfl
 have Hend:=jH hend;have Hp:=jH hp;clear hend hp hv ht hE;have hS:=hS1;clear hS1;go_enter Tryz.func22,Tryz.ntmps22;go_wp2_with(first|(fail_if_success (have:=gA));(refine zal hS ?_;clear hS;have gA:Nat:=0;intro b0 w hS)|refine zl1 hS ?_|(with_reducible apply NW7 (ek:=eS) (ev:=eN) hS);rfl;rfl;rfl;exact mV;exact j5;clear hS;intro r w hS;refine frS ?_);have hS1:=hS.rowNil (k:=4) (T:=29);clear hS;have hS:=hS1;clear hS1
 go_loopw [4] (fun v4 wr=>TeR W (blk eb [.map (some m1),.map (some m2),.map (some m3),.map (some m4)] 84::blk b0 [.I 0,.I 0,.I 0,.I 0] 29::d8 eI eSs m2 e.ss::d8 eW eTn m3 e.ts::d8 eW eU m4 e.ar::R) E m1 r v4 wr) (fun _ wr=>cH4 r m1 wr)
 case atStart=>
  refine⟨[],j6 E,List.Perm.refl _,?_⟩;have h0:St W (cx4 (.slice none 0 0) ([]:List It)::_) _:=hS;show St W (cx4 (.slice none 0 0) ([]:List It)::_) _
  exact h0.s _
 case round=>
  clear hS;obtain⟨done,todo,hdt,hS⟩:=hrel;have hm1:=BF7 hS.drop;have hdl:done.length<=1000000:=by have:=hdt.length_eq;rw[jA]at this;omega
  by_cases ht:todo=[]
  ·have hall:=Hend.out done (by rw[ht,List.append_nil]at hdt;exact hdt);have Hall:=jH hall;clear hall hdt hm1 hm;generalize (done.map fun y=>al4 (vAt E y.1))=acc at hS Hall;go_wp2_with(first|(with_reducible apply NY7 (ek:=eS) (ev:=eN) hS);rfl;rfl;rfl;exact j5;exact ht;refine frS ?_|go_at_call 58;refine(HU7 Hall.out _ W _ _ hS).mono ?_;clear hS;rintro ex w ⟨rfl,hS⟩|refine zsN hS ?_;clear hS;intro w hS);apply Ac7;rfl;rfl;rfl;rfl;exact hS;decide +kernel;(exact x9);kernel_rfl;have h1:=ef4 (hS.s (itR eS eN r m1 (j6 E) todo::m9 E::blk eb _ _::d8 eI eSs m2 e.ss::d8 eW eTn m3 e.ts::d8 eW eU m4 e.ar::R));exact⟨rfl,S8 Hp.out (h1.s _)⟩
  ·have hm':∀(y:ByteArray×Nat) (todo':List (ByteArray×Nat)),todo.Perm (y::todo')->∃V,E.Perm ((y.1,(y.2,V))::j9 E y.1)/\vAt E y.1=V/\PsW V.ps (100*i)/\G5 (co4 ⟨V.ps,V.L,V.n⟩) it0=some ⟨I7 V 0,I7 V 1,I7 V 2,I7 V 3⟩:=fun y todo' h=>hm y todo' hdt h
   have hnx:∀(y:ByteArray×Nat) (todo':List (ByteArray×Nat)),todo.Perm (y::todo')->(done++[y]++todo').Perm (j6 E):=fun y todo' h=>by rw[jS];exact(List.Perm.append_left done h.symm).trans hdt
   have Hm:=jH hm';have Hnx:=jH hnx;have Hm1:=jH hm1;clear hm hm' hnx hdt hm1;obtain⟨accj,hacc⟩:∃l,(done.map fun y=>al4 (vAt E y.1))=l:=⟨_,rfl⟩
   have hal:accj.length<=1000000:=by rw[<-hacc,jM];exact hdl
   rw[hacc]at hS;have Hacc:=jH hacc;clear hacc;go_wp2_with(first|(with_reducible apply NZ7 (ek:=eS) (ev:=eN) hS);rfl;rfl;rfl;exact j5;exact ht;clear hS;intro y todo' hy1 hy2 w hS;obtain⟨yk,yb⟩:=y;have Hy:=jH hy1;clear hy1 hy2;refine frS ?_|(with_reducible apply NX7 (ek:=eS) (ev:=eN) hS);rfl;rfl;rfl;exact j5;clear hS;intro hS;refine frS ?_|go_at_call 57;obtain⟨V,hp,hv,hw,hadd⟩:=Hm.out (yk,yb) todo' Hy.out;have h1:=bE4 (aY4 hp (hS.s (m9 E::itR eS eN r m1 (j6 E) todo'::cx4 _ accj::blk eb _ _::blk b0 _ _::d8 eI eSs m2 e.ss::d8 eW eTn m3 e.ts::d8 eW eU m4 e.ar::R)));obtain⟨mb,bb,h2⟩:=aF4 h1;clear hS h1;refine(KE7 yb mb bb V.ps V.L V.n hw (by omega) hadd W _ _ h2).mono ?_;clear h2;rintro ex w ⟨rfl,h3⟩;have hS:=aY4 hp.symm (cb4 (x:=(yk,(yb,V))) (ah4 h3));have Hv:=jH hv;clear h3 hp hv hw hadd|(have:=gA);refine zal hS ?_;clear hS;intro bt w hS|refine zsN hS ?_;clear hS;intro w hS|refine zlN hS ?_|refine zbs hS ?_;clear hS;intro bS w hS|refine zap hS ?_ (h63:=by unfold maxLen;omega) (hb:=by omega);clear hS;intro v w hS);go_roundw
   case rel=>
    refine⟨done++[(yk,yb)],todo',Hnx.out _ _ Hy.out,?_⟩;rw[List.map_append,Hacc.out];show St W (cx4 _ (accj++[al4 (vAt E yk)])::_) w
    rw[Hv.out];unfold cx4;rw[DA7,jA,List.length_singleton];have h0:St W (row v 4 29 (accj.length+1) (accj.flatMap It.cells++It.cells (al4 V))::_) w:=hS;exact h0.s _
   case measure=>
    have h3:=BF7 (hS.take (by exact j5));have h4:=Hy.out.length_eq;rw[jC]at h4;have h5:=Hm1.out;omega
def R8(k:Int):List (ByteArray×Vs)->Int
 | []=>0
 | x::l=>I7 x.2 k+R8 k l
def T9(e:Ec)(k:Int):Int:=R8 k e.vs
theorem Fr7{l l':List (ByteArray×Vs)}(h:l.Perm l')(k:Int):R8 k l=R8 k l':=by
 induction h with
 | nil=>rfl
 | cons x _ ih=>rw[R8,R8,ih]
 | swap x y l=>rw[R8,R8,R8,R8];omega
 | trans _ _ h1 h2=>rw[h1,h2]
theorem KV7(k:Int):I7 vs0 k=0:=rfl
theorem PJ7{l:List (ByteArray×Vs)}(hn:(l.map (·.1)).Nodup)(u:ByteArray)(k:Int):R8 k l=I7 ((m7 l u).getD vs0) k+R8 k (j9 l u):=by
 cases hg:m7 l u with
 | none=>rw[BN7 (BY7 hg)];show _=I7 vs0 k+_;rw[KV7];omega
 | some V=>rw[Fr7 (BB7 hn hg) k];rfl
theorem RW7{e:Ec}(hn:(e.vs.map (·.1)).Nodup)(u:ByteArray)(V:Vs)(k:Int):R8 k (bL4 e u V).vs=T9 e k-I7 (atV e u) k+I7 V k:=by
 have h:=PJ7 hn u k;unfold T9;rw[h];unfold atV;show R8 k (if C6 V=true then j9 e.vs u else(u,V)::j9 e.vs u)=_
 split
 ·rename_i hv
  rw[In7 hv,KV7];omega
 ·show I7 V k+R8 k (j9 e.vs u)=_
  omega
def aQ4(e:Ec):Prop:=∀x∈e.vs,(∀o∈x.2.L,MayP o)/\x.2.L.length<=32
theorem eU4{p:Ps}{n:Int}{i:Nat}(h:VOk p n i):PsK p:=⟨h.w.nd,h.ok⟩
theorem Vl7{V:Vs}(hp:PsK V.ps)(hL:∀x∈V.L,MayP x)(k:Int):0<=I7 V k:=by have h1:=hp.pos k;have h2:=FP7 hL k;unfold I7;omega
theorem Mp7{k:Int}:∀{l:List (ByteArray×Vs)},(∀x∈l,0<=I7 x.2 k)->0<=R8 k l
 | [],_=>Int.le_refl _
 | x::l,h=>by
  have h1:=h x (List.mem_cons_self ..);have h2:=Mp7 fun y hy=>h y (List.mem_cons_of_mem x hy)
  rw[R8];omega
theorem FY7{k:Int}:∀{l:List (ByteArray×Vs)},(∀x∈l,0<=I7 x.2 k)->∀x∈l,I7 x.2 k<=R8 k l
 | [],_,_,hx=>by cases hx
 | y::l,h,x,hx=>by
  have h1:=h y (List.mem_cons_self ..);have h2:=Mp7 fun y hy=>h y (List.mem_cons_of_mem _ hy)
  rw[R8]
  rcases List.mem_cons.1 hx with rfl|hx
  ·omega
  ·have:=FY7 (fun y hy=>h y (List.mem_cons_of_mem _ hy)) x hx;omega
theorem EOk.nn{e:Ec}{n:Nat}(h:EOk e n)(he:aQ4 e)(k:Int):∀x∈e.vs,0<=I7 x.2 k:=fun x hx=>Vl7 (eU4 (h x hx)) (he x hx).1 k
def cQ4(o:Opn)(r:Rpl)(b:Bool)(k:Int):Int:=
 if b=true/\r.err=0 then(if o.kind=1\/o.kind=6 then(if k=o.item then o.cnt else 0)else if o.kind=2 then -(if k=o.item then o.cnt else 0)else 0)else 0
theorem EN7{it ct k:Int}(hi:Kx it)(hk:Kx k):A7 (B5 it ct) k=if k=it then ct else 0:=by unfold B5;rw[Ih7 it0 hi hk,BR7]
section
variable{e:Ec}{o:Opn}{n:Nat}
theorem HH7(hm:C5 o=true)(h:o.kind=1\/o.kind=2\/o.kind=6):Kx o.item/\1<=o.cnt/\o.cnt<=1048576/\C8 o.aw=true:=by
 unfold C5 K6 ax4 at hm;simp only[jB]at hm;obtain⟨⟨_,_,_,_,_,hw⟩,hk⟩:=hm
 have hc:N6 o=true:=by
  unfold M7 at hk
  rcases h with h|h|h
  ·rw[if_pos h]at hk;unfold B9 at hk;simp only[jB]at hk;exact hk.1
  ·rw[if_neg (by omega),if_pos h]at hk;unfold R6 at hk;simp only[jB]at hk;exact hk.2.1
  ·rw[if_neg (by omega),if_neg (by omega),if_neg (by omega),if_neg (by omega),if_neg (by omega),if_pos h]at hk;unfold B9 at hk;simp only[jB]at hk;exact hk.1
 obtain⟨h0,h4,c0,c1⟩:=Dl7 hc;exact⟨⟨h0,by omega⟩,c0,c1,hw⟩
theorem Vm7{it ct:Int}(hi:Kx it)(h0:0<=ct)(h1:ct<=1048576):x8 (B5 it ct)=true:=KC7 fun k hk=>by rw[EN7 hi hk];split <;> omega
theorem Un7{p:Ps}{u:ByteArray}{it ct:Int}(hp:PsK p)(hu:C8 u=true)(hi:Kx it)(h0:0<=ct)(h1:ct<=1048576)(hb:∀k,Kx k->O5 k p<=1000000000000):Q5 p u (B5 it ct)=0:=by
 have h3:=Vm7 hi h0 h1;have h4:=hp.ok u
 have h2:(G5 [m5 p u,B5 it ct] it0).isSome=true:=by
  rw[FQ7 [m5 p u,B5 it ct] (s:=it0) (t:=S7 (m5 p u) (B5 it ct)) (fun i hi=>by
   rcases List.mem_cons.1 hi with rfl|hi
   ·exact h4
   ·rw[List.mem_singleton.1 hi];exact h3) Ii7 (fun k hk=>by
    rw[Dz7,BR7];simp[ak4]) (fun k hk=>by
    rw[Dz7,EN7 hi hk];have:=hp.le u k;have:=hb k hk;split <;> omega)]
  rfl
 unfold Q5;rw[if_pos ⟨hu,h3⟩,if_pos h2]
theorem Uo7(hn:(e.vs.map (·.1)).Nodup)(hE:EOk e n)(he:aQ4 e)(he2:aQ4 (M8 e o).2.2)(hb:∀k,Kx k->T9 e k<=500000000){k:Int}(hk:Kx k):
  T9 (M8 e o).2.2 k=T9 e k+cQ4 o (M8 e o).1 (M8 e o).2.1 k:=by
 cases hp:G9 e o with
 | mk r b=>
 cases b with
 | true=>
  rw[CU7 hp];unfold cQ4;rw[if_neg (by simp)];show T9 e k=T9 e k+0
  omega
 | false=>
  obtain⟨rfl,hm⟩:=BC7 hp;rw[CV7 hp]at he2 ⊢;dsimp only at he2 ⊢;obtain⟨V,hV⟩:∃V,atV e o.ak=V:=⟨_,rfl⟩
  rw[hV]at he2 ⊢
  have hVf:PsK V.ps/\(∀x∈V.L,MayP x)/\∀k,Kx k->I7 V k<=500000000:=by
   rw[<-hV];unfold atV
   cases hg:m7 e.vs o.ak with
   | none=>exact⟨⟨List.nodup_nil,Ek7⟩,fun x hx=>(by cases hx),fun k _=>by show I7 vs0 k<=_;rw[KV7];omega⟩
   | some U=>
    have hu:=AI7 hg;exact⟨eU4 (hE _ hu),(he _ hu).1,fun k hk=>Int.le_trans (FY7 (hE.nn he k) _ hu) (hb k hk)⟩
  obtain⟨hpk,hmay,hvb⟩:=hVf;have hset:T9 ⟨(bL4 e o.ak (doV V o).2).vs,doS e o (doV V o).1,doT e o (doV V o).1,doA e o⟩ k=T9 e k-I7 V k+I7 (doV V o).2 k:=by have:=RW7 hn o.ak (doV V o).2 k;rw[hV]at this;exact this
  rw[hset]
  have hL2:∀x∈(doV V o).2.L,MayP x:=by
   by_cases hz:C6 (doV V o).2=true
   ·rw[In7 hz];exact fun x hx=>(by cases hx)
   ·refine(he2 (o.ak,(doV V o).2) ?_).1;show _∈(if C6 (doV V o).2=true then j9 e.vs o.ak else(o.ak,(doV V o).2)::j9 e.vs o.ak)
    rw[if_neg hz];exact List.mem_cons_self ..
  have hwl:∀k,Kx k->O5 k V.ps<=500000000:=fun k hk=>by have h1:=hvb k hk;have h2:=FP7 hmay k;unfold I7 at h1;omega
  have hgoal:I7 (doV V o).2 k=I7 V k+cQ4 o (doV V o).1 true k:=by
   by_cases h1:o.kind=1
   ·obtain⟨hi,c0,c1,hw⟩:=HH7 hm (.inl h1);have e1:doV V o=(⟨Q5 V.ps o.aw (B5 o.item o.cnt),0,it0⟩, { V with ps:=M5 V.ps o.aw (B5 o.item o.cnt) }):=by unfold doV;rw[if_pos h1]
    rw[e1];have h2:=(Jr7 (V:=V) (k:=o.aw) (i:=B5 o.item o.cnt) hpk k).1;dsimp only at h2 ⊢;rw[h2,EN7 hi hk];unfold cQ4;simp[h1]
   by_cases h2:o.kind=2
   ·obtain⟨hi,c0,c1,hw⟩:=HH7 hm (.inr (.inl h2));have e1:doV V o=(⟨A5 V.ps o.aw (B5 o.item o.cnt),0,it0⟩, { V with ps:=A8 V.ps o.aw (B5 o.item o.cnt) }):=by unfold doV;rw[if_neg h1,if_pos h2]
    rw[e1];have h3:=(Nc7 (V:=V) (k:=o.aw) (i:=B5 o.item o.cnt) hpk k).1;dsimp only at h3 ⊢;rw[h3,EN7 hi hk];unfold cQ4;simp[h2];split <;> omega
   by_cases h3:o.kind=3
   ·have e1:doV V o=(⟨(E6 V (aV4 o)).2.1,(E6 V (aV4 o)).1,it0⟩,(E6 V (aV4 o)).2.2):=by unfold doV;rw[if_neg h1,if_neg h2,if_pos h3]
    rw[e1]at hL2 ⊢;have h4:=Na7 (o:=aV4 o) hpk hmay hL2 (fun k hk=>by have:=hvb k hk;omega) hk;dsimp only at h4 ⊢;rw[h4];unfold cQ4;simp[h3]
   by_cases h4:o.kind=4
   ·have e1:doV V o=(⟨(F6 V o.aw o.id).1,0,it0⟩,(F6 V o.aw o.id).2):=by unfold doV;rw[if_neg h1,if_neg h2,if_neg h3,if_pos h4]
    rw[e1];have h5:=Nb7 (V:=V) (who:=o.aw) (id:=o.id) hpk hmay (fun k hk=>by have:=hvb k hk;omega) hk;dsimp only at h5 ⊢;rw[h5];unfold cQ4;simp[h4]
   by_cases h6:o.kind=6
   ·obtain⟨hi,c0,c1,hw⟩:=HH7 hm (.inr (.inr h6));have e1:doV V o=(rp0, { V with ps:=M5 V.ps o.aw (B5 o.item o.cnt) }):=by unfold doV;rw[if_neg h1,if_neg h2,if_neg h3,if_neg h4,if_neg (by omega),if_pos h6]
    rw[e1];have h7:=(Jr7 (V:=V) (k:=o.aw) (i:=B5 o.item o.cnt) hpk k).1;rw[if_pos (Un7 hpk hw hi (by omega) c1 (fun k hk=>by have:=hwl k hk;omega)),EN7 hi hk]at h7;dsimp only at h7 ⊢;rw[h7];unfold cQ4;simp[h6]
   ·have e1:(doV V o).2=V:=by
     unfold doV;rw[if_neg h1,if_neg h2,if_neg h3,if_neg h4]
     repeat' split
     all_goals first|rfl|exact absurd ‹_› h6
    rw[e1];unfold cQ4;rw[if_neg (show ¬(o.kind=1\/o.kind=6)by omega),if_neg h2];split <;> omega
  rw[hgoal];omega
theorem Up7(hm:C5 o=true)(r:Rpl)(b:Bool)(k:Int):cQ4 o r b k<=1048576:=by
 unfold cQ4;split
 ·split
  ·rename_i h
   have:=HH7 hm (by omega);split <;> omega
  ·split
   ·rename_i h
    have:=HH7 hm (.inr (.inl h));split <;> omega
   ·omega
 ·omega
theorem Vn7(r:Rpl)(k:Int):cQ4 o r (M8 e o).2.1 k<=1048576:=by
 cases hp:G9 e o with
 | mk r2 c=>
 cases c with
 | true=>
  rw[CU7 hp];unfold cQ4;rw[if_neg (by simp)];omega
 | false=>exact Up7 (BC7 hp).2 _ _ _
end
theorem Vo7{e:Ec}{n:Nat}(hE:EOk e n)(he:aQ4 e)(hb:∀k,Kx k->T9 e k<=500000000):∀x∈e.vs,G5 (co4 x.2) it0=some (al4 x.2):=fun x hx=>
 Tz7 (eU4 (hE x hx)) (he x hx).1 fun k hk=>by have h1:=FY7 (hE.nn he k) x hx;have h2:=hb k hk;unfold T9 at h2;omega
theorem Mq7{k:Int}(hk:Kx k):∀l:List (ByteArray×Vs),ak4 k (l.map fun x=>al4 x.2)=R8 k l
 | []=>rfl
 | x::l=>by
  have ih:=Mq7 hk l;show A7 (al4 x.2) k+ak4 k (l.map fun x=>al4 x.2)=_
  rw[ih,FR7 _ hk];rfl
theorem JQ7(f:Int->Int){k:Int}(hk:Kx k):A7 ⟨f 0,f 1,f 2,f 3⟩ k=f k:=by
 obtain⟨h0,h3⟩:=hk;have h:k=0\/k=1\/k=2\/k=3:=by omega
 rcases h with rfl|rfl|rfl|rfl <;> rfl
theorem Vp7{e:Ec}{n:Nat}(hE:EOk e n)(he:aQ4 e)(hb:∀k,Kx k->T9 e k<=500000000):∀l:List It,l.Perm (e.vs.map fun x=>al4 x.2)->G5 l it0=some ⟨T9 e 0,T9 e 1,T9 e 2,T9 e 3⟩:=fun l hl=>by
 refine FQ7 l ?_ Ii7 (fun k hk=>?_) (fun k hk=>?_)
 ·intro i hi;obtain⟨x,hx,rfl⟩:=List.mem_map.1 (hl.mem_iff.1 hi);refine KC7 fun k hk=>?_
  have h1:=FY7 (hE.nn he k) x hx;have h2:=hb k hk;have h3:=hE.nn he k x hx;unfold T9 at h2;rw[FR7 _ hk];omega
 ·rw[JQ7 (T9 e) hk,BR7,Js7 hl,Mq7 hk];show T9 e k=0+T9 e k
  omega
 ·rw[JQ7 (T9 e) hk];have:=hb k hk;omega
theorem hL4{W w:World}{R:List HP}{xb:Nat}(h:St W (xeB xb (.slice none 0 0) (.slice none 0 0) (.slice none 0 0) (.slice none 0 0)::R) w):St W (Q6 xb ec0::R) w:=by have h1:=h.rowNil (k:=2) (T:=140);have h2:=h1.rowNil (k:=8) (T:=40);have h3:=h2.rowNil (k:=8) (T:=143);have h4:St W (sats []::_) w:=St.shutS [] h3;have h5:=h4.rowNil (k:=2) (T:=137);have h6:St W (xrP (.slice none 0 0) []::w8 []::xsP (.slice none 0 0) []::xtP (.slice none 0 0) []::xmP (.slice none 0 0) []::xeB xb (.slice none 0 0) (.slice none 0 0) (.slice none 0 0) (.slice none 0 0)::R) w:=h5;exact aw4 (D:=[]) (d:=ec0) rfl (h6.s _)
abbrev hM4(b:Nat)(s0 s1 s2 s3:Int):HP:=blk b [.I s0,.I s1,.I s2,.I s3] 28
def TlR(W:World)(Lr:List HP)(eb xb sb:Nat)(xs:List Opn)(v:Value)(w:World):Prop:=
 ∃i:Nat,v=.I i/\i<=xs.length/\GOk (cP4 (xs.take i) ec0) (br4 (xs.take i) ec0) i/\(∀k,Kx k->T9 (br4 (xs.take i) ec0) k<=i*1048576) /\
  St W (ecP eb (br4 (xs.take i) ec0)::Q6 xb (cP4 (xs.take i) ec0)::hM4 sb (T9 (br4 (xs.take i) ec0) 0) (T9 (br4 (xs.take i) ec0) 1) (T9 (br4 (xs.take i) ec0) 2) (T9 (br4 (xs.take i) ec0) 3)::Lr) w
end Go.Proofs.YtlmhakmoioogaaaGreat
end
section
namespace Go.Proofs.YtlmhakmoioogaaaGreat
open Go.Shelf
def Tryz.sortInts_ren:Go.Shelf.Ren:=⟨fun|189=>134|125=>177|257=>191|128=>224|129=>225|294=>239|295=>240|296=>241|297=>242|298=>243|299=>244|216=>245|300=>246|301=>247|328=>261|329=>252|330=>253|331=>262|332=>263|215=>178|343=>274|n=>n,fun|28=>62|3=>3|46=>195|0=>0|51=>295|53=>194|4=>4|183=>289|182=>288|131=>134|5=>5|9=>9|218=>318|222=>262|228=>332|229=>181|n=>n,fun|n=>n⟩
theorem Tryz.sortInts:Go.Proofs.Lays.n189 Tryz.prog Tryz.sortInts_ren:={
 mixed:=by kernel_rfl
 f125:=Tryz.func177.trans (congrArg some (by kernel_rfl))
 f128:=Tryz.func224.trans (congrArg some (by kernel_rfl))
 f129:=Tryz.func225.trans (congrArg some (by kernel_rfl))
 f189:=Tryz.func134.trans (congrArg some (by kernel_rfl))
 f215:=Tryz.func178.trans (congrArg some (by kernel_rfl))
 f216:=Tryz.func245.trans (congrArg some (by kernel_rfl))
 f257:=Tryz.func191.trans (congrArg some (by kernel_rfl))
 f294:=Tryz.func239.trans (congrArg some (by kernel_rfl))
 f295:=Tryz.func240.trans (congrArg some (by kernel_rfl))
 f296:=Tryz.func241.trans (congrArg some (by kernel_rfl))
 f297:=Tryz.func242.trans (congrArg some (by kernel_rfl))
 f298:=Tryz.func243.trans (congrArg some (by kernel_rfl))
 f299:=Tryz.func244.trans (congrArg some (by kernel_rfl))
 f300:=Tryz.func246.trans (congrArg some (by kernel_rfl))
 f301:=Tryz.func247.trans (congrArg some (by kernel_rfl))
 f328:=Tryz.func261.trans (congrArg some (by kernel_rfl))
 f329:=Tryz.func252.trans (congrArg some (by kernel_rfl))
 f330:=Tryz.func253.trans (congrArg some (by kernel_rfl))
 f331:=Tryz.func262.trans (congrArg some (by kernel_rfl))
 f332:=Tryz.func263.trans (congrArg some (by kernel_rfl))
 f343:=Tryz.func274.trans (congrArg some (by kernel_rfl))
 t0:=Tryz.underlying0
 a0:=Tryz.isAgg0
 z0:=Tryz.sizeOf0
 v0:=Tryz.zeroValue0
 t3:=Tryz.underlying3
 a3:=Tryz.isAgg3
 z3:=Tryz.sizeOf3
 v3:=Tryz.zeroValue3
 t4:=Tryz.underlying4
 a4:=Tryz.isAgg4
 z4:=Tryz.sizeOf4
 v4:=Tryz.zeroValue4
 t5:=Tryz.underlying5
 a5:=Tryz.isAgg5
 z5:=Tryz.sizeOf5
 v5:=Tryz.zeroValue5
 t9:=Tryz.underlying9
 a9:=Tryz.isAgg9
 z9:=Tryz.sizeOf9
 v9:=Tryz.zeroValue9
 t28:=Tryz.underlying62
 a28:=Tryz.isAgg62
 z28:=Tryz.sizeOf62
 v28:=Tryz.zeroValue62
 t46:=Tryz.underlying195
 a46:=Tryz.isAgg195
 z46:=Tryz.sizeOf195
 v46:=Tryz.zeroValue195
 t51:=Tryz.underlying295
 a51:=Tryz.isAgg295
 z51:=Tryz.sizeOf295
 v51:=Tryz.zeroValue295
 t53:=Tryz.underlying194
 a53:=Tryz.isAgg194
 z53:=Tryz.sizeOf194
 v53:=Tryz.zeroValue194
 t131:=Tryz.underlying134
 a131:=Tryz.isAgg134
 z131:=Tryz.sizeOf134
 v131:=Tryz.zeroValue134
 t182:=Tryz.underlying288
 a182:=Tryz.isAgg288
 z182:=Tryz.sizeOf288
 v182:=Tryz.zeroValue288
 t183:=Tryz.underlying289
 a183:=Tryz.isAgg289
 z183:=Tryz.sizeOf289
 v183:=Tryz.zeroValue289
 t218:=Tryz.underlying318
 a218:=Tryz.isAgg318
 z218:=Tryz.sizeOf318
 v218:=Tryz.zeroValue318
 t222:=Tryz.underlying262
 a222:=Tryz.isAgg262
 z222:=Tryz.sizeOf262
 v222:=Tryz.zeroValue262
 t228:=Tryz.underlying332
 a228:=Tryz.isAgg332
 z228:=Tryz.sizeOf332
 v228:=Tryz.zeroValue332
 t229:=Tryz.underlying181
 a229:=Tryz.isAgg181
 z229:=Tryz.sizeOf181
 v229:=Tryz.zeroValue181 }
end Go.Proofs.YtlmhakmoioogaaaGreat
end
