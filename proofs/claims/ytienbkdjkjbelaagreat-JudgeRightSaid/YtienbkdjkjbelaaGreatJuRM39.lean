/-
  The document's economy.
-/
import Derived.Test.YtienbkdjkjbelaaGreatJuRM5
import Derived.Test.YtienbkdjkjbelaaGreatJuRM24
import Derived.Test.YtienbkdjkjbelaaGreatJuRM35
import Derived.Test.YtienbkdjkjbelaaGreatJuRM38
set_option maxHeartbeats 16000000
set_option maxRecDepth 100000
set_option linter.unusedSimpArgs false
set_option linter.unusedVariables false
section
namespace Go.Proofs.YtienbkdjkjbelaaGreat
open Go.RowKit Go.Sl
theorem CF7{it ct x0 x1 x2 x3:Int}(h:r9 it ct=⟨x0,x1,x2,x3⟩)(h0:0<=it)(h4:it<4)(c0:0<=ct)(c1:ct<=1048576)(W w:World)(R:List HP)(hS:St W R w):
  Calls Tryz.prog 35 #[.I it,.I ct] w fun e w'=>e=.returned (.tuple #[.agg #[.I x0,.I x1,.I x2,.I x3],.bool true])/\St W R w':=by
 have d1:decide (ct<0)=false:=by simp;omega
 have d2:decide (1152921504606846976<ct)=false:=by simp;omega
 go_enter Tryz.func35,Tryz.ntmps35;have hk:it=0\/it=1\/it=2\/it=3:=by omega
 clear h0 h4
 rcases hk with rfl|rfl|rfl|rfl
 all_goals
  simp only[r9,ap4,it0,It.mk.injEq,Int.reduceEq,if_true,if_false]at h;obtain⟨rfl,rfl,rfl,rfl⟩:=h;go_wp2_with(first|(fail_if_success (have:=gA));(refine zal hS ?_;clear hS;have gA:Nat:=0;intro b1 w hS)|(have:=gA);refine zal hS ?_;clear hS;intro b2 w hS|refine zlN hS ?_|refine zsN hS ?_;clear hS;intro w hS|refine zs1 hS ?_;clear hS;intro w hS);apply Ac7;rfl;rfl;rfl;rfl;exact hS;decide +kernel;(exact m8);kernel_rfl;exact⟨rfl,hS.drop.drop⟩
section
variable{W w:World}{R:List HP}{xb:Nat}{v2 v3 v4:Value}{D A B:Ev}{V:Vs}{i:Nat}{cl sq:Int}{ak aw tk tw:ByteArray}{it ct pr:Int}{bu:Bool}{id:Int}
theorem eU4(hA:Asc ltB D)(hD:D.length<=1000000)(hV:vAt D ak=V)(h1:loA D ak=A)(h2:hiA D ak=B)(hok:VOk V.ps V.n i)(hi:i<=5000)(h0:0<=it)(h4:it<4)(c0:0<=ct)(c1:ct<=1048576){r:Int}{q:Ps}(hr:J8 V.ps aw (r9 it ct)=r)(hq:G8 V.ps aw (r9 it ct)=q)(hS:St W (L9 xb v2 v3 v4 D::R) w):
  Calls Tryz.prog 61 #[.P xb,oV 1 cl sq ak aw tk tw it ct pr bu id] w fun e w'=>∃vb,e=.returned (rV r 0 0 0 0 0)/\St W (L9 xb v2 v3 v4 (A++(ak,(vb,⟨q,V.L,V.n⟩))::B)::R) w':=by
 obtain⟨x,hx⟩:∃x,r9 it ct=x:=⟨_,rfl⟩
 obtain⟨x0,x1,x2,x3⟩:=x;rw[hx]at hr hq;have Hx:=jH hx;have HA:=jH hA;have HV:=jH hV;have H1:=jH h1;have H2:=jH h2;have Hok:=jH hok;clear hx hA hV h1 h2 hok;go_enter Tryz.func61,Tryz.ntmps61;have Hr:=jH hr;have Hq:=jH hq;clear hr hq;go_wp2_with(first|refine zbx hS ?_;clear hS;intro bO w hS|(fail_if_success (have:=gA));(refine zal hS ?_;clear hS;have gA:Nat:=0;intro bR w hS)|(have:=gA);(fail_if_success (have:=gB));(refine zal hS ?_;clear hS;have gB:Nat:=0;intro bI w hS)|(have:=gB);refine zal hS ?_;clear hS;intro bP w hS|refine zl1 hS ?_|refine zlN hS ?_|refine zsN hS ?_;clear hS;intro w hS|refine zs1 hS ?_;clear hS;intro w hS|go_at_call 57;refine(aF4 HA.out hD HV.out H1.out H2.out (hS.s (L9 xb v2 v3 v4 D::blk bR _ _::blk bO _ _::R))).mono ?_;clear hS;rintro e w ⟨v,rfl,hS⟩|go_at_call 35;refine(CF7 Hx.out h0 h4 c0 c1 W _ _ hS).mono ?_;clear hS;rintro e w ⟨rfl,hS⟩|go_at_call 58;refine(dG4 Hok.out (by omega) Hr.out Hq.out (hS.s (M8 v xb v2 v3 v4 A ak V B::blk bP _ _::blk bI _ _::blk bR _ _::blk bO _ _::R))).mono ?_;clear hS;rintro e w ⟨rfl,hS⟩);apply Am7;rfl;rfl;rfl;exact hS;decide +kernel;(exact m8);kernel_rfl;obtain⟨vb,h1⟩:=bj4 (hS.s (M8 v xb v2 v3 v4 A ak ⟨q,V.L,V.n⟩ B::R));exact⟨vb,rfl,h1⟩
theorem ef4(hA:Asc ltB D)(hD:D.length<=1000000)(hV:vAt D ak=V)(h1:loA D ak=A)(h2:hiA D ak=B)(hok:VOk V.ps V.n i)(hi:i<=5000)(h0:0<=it)(h4:it<4)(c0:0<=ct)(c1:ct<=1048576){r:Int}{q:Ps}(hr:m9 V.ps aw (r9 it ct)=r)(hr0:(r==0)=false)(hq:s5 V.ps aw (r9 it ct)=q)(hS:St W (L9 xb v2 v3 v4 D::R) w):
  Calls Tryz.prog 61 #[.P xb,oV 2 cl sq ak aw tk tw it ct pr bu id] w fun e w'=>∃vb,e=.returned (rV r 0 0 0 0 0)/\St W (L9 xb v2 v3 v4 (A++(ak,(vb,⟨q,V.L,V.n⟩))::B)::R) w':=by
 obtain⟨x,hx⟩:∃x,r9 it ct=x:=⟨_,rfl⟩
 obtain⟨x0,x1,x2,x3⟩:=x;rw[hx]at hr hq;have Hx:=jH hx;have HA:=jH hA;have HV:=jH hV;have H1:=jH h1;have H2:=jH h2;have Hok:=jH hok;clear hx hA hV h1 h2 hok;go_enter Tryz.func61,Tryz.ntmps61;have Hr:=jH hr;have Hq:=jH hq;clear hr hq;go_wp2_with(first|refine zbx hS ?_;clear hS;intro bO w hS|(fail_if_success (have:=gA));(refine zal hS ?_;clear hS;have gA:Nat:=0;intro bR w hS)|(have:=gA);(fail_if_success (have:=gB));(refine zal hS ?_;clear hS;have gB:Nat:=0;intro bI w hS)|(have:=gB);refine zal hS ?_;clear hS;intro bP w hS|refine zl1 hS ?_|refine zlN hS ?_|refine zsN hS ?_;clear hS;intro w hS|refine zs1 hS ?_;clear hS;intro w hS|go_at_call 57;refine(aF4 HA.out hD HV.out H1.out H2.out (hS.s (L9 xb v2 v3 v4 D::blk bR _ _::blk bO _ _::R))).mono ?_;clear hS;rintro e w ⟨v,rfl,hS⟩|go_at_call 35;refine(CF7 Hx.out h0 h4 c0 c1 W _ _ hS).mono ?_;clear hS;rintro e w ⟨rfl,hS⟩|go_at_call 103;refine(dj4 Hok.out (by omega) Hr.out Hq.out (hS.s (M8 v xb v2 v3 v4 A ak V B::blk bP _ _::blk bI _ _::blk bR _ _::blk bO _ _::R))).mono ?_;clear hS;rintro e w ⟨rfl,hS⟩);apply Am7;rfl;rfl;rfl;exact hS;decide +kernel;(exact m8);kernel_rfl;obtain⟨vb,h1⟩:=bj4 (hS.s (M8 v xb v2 v3 v4 A ak ⟨q,V.L,V.n⟩ B::R));exact⟨vb,rfl,h1⟩
theorem eV4(hA:Asc ltB D)(hD:D.length<=1000000)(hV:vAt D ak=V)(h1:loA D ak=A)(h2:hiA D ak=B)(hok:VOk V.ps V.n i)(hi:i<=5000)(h0:0<=it)(h4:it<4)(c0:0<=ct)(c1:ct<=1048576)(hmay:∀x∈V.L,MayP x){r s:Int}{V2:Vs}(hr:(w9 V ⟨0,aw,bu,it,ct,pr⟩).1=r)(hs:(w9 V ⟨0,aw,bu,it,ct,pr⟩).2.1=s)(hq:(w9 V ⟨0,aw,bu,it,ct,pr⟩).2.2=V2)(hS:St W (L9 xb v2 v3 v4 D::R) w):
  Calls Tryz.prog 61 #[.P xb,oV 3 cl sq ak aw tk tw it ct pr bu id] w fun e w'=>∃vb,e=.returned (rV s r 0 0 0 0)/\St W (L9 xb v2 v3 v4 (A++(ak,(vb,V2))::B)::R) w':=by
 obtain⟨x,hx⟩:∃x,r9 it ct=x:=⟨_,rfl⟩
 obtain⟨x0,x1,x2,x3⟩:=x;have Hx:=jH hx;have HA:=jH hA;have HV:=jH hV;have H1:=jH h1;have H2:=jH h2;have Hok:=jH hok;clear hx hA hV h1 h2 hok;go_enter Tryz.func61,Tryz.ntmps61;have Hr:=jH hr;have Hs:=jH hs;have Hq:=jH hq;have Hmay:=jH hmay;clear hr hs hq hmay;go_wp2_with(first|refine zbx hS ?_;clear hS;intro bO w hS|(fail_if_success (have:=gA));(refine zal hS ?_;clear hS;have gA:Nat:=0;intro bR w hS)|(have:=gA);(fail_if_success (have:=gB));(refine zal hS ?_;clear hS;have gB:Nat:=0;intro bI w hS)|(have:=gB);refine zal hS ?_;clear hS;intro bP w hS|refine zl1 hS ?_|refine zlN hS ?_|refine zsN hS ?_;clear hS;intro w hS|refine zs1 hS ?_;clear hS;intro w hS|go_at_call 57;refine(aF4 HA.out hD HV.out H1.out H2.out (hS.s (L9 xb v2 v3 v4 D::blk bR _ _::blk bO _ _::R))).mono ?_;clear hS;rintro e w ⟨v,rfl,hS⟩|go_at_call 35;refine(CF7 Hx.out h0 h4 c0 c1 W _ _ hS).mono ?_;clear hS;rintro e w ⟨rfl,hS⟩|go_at_call 105;refine(eR4 Hok.out (by omega) Hmay.out Hr.out Hs.out Hq.out (hS.s (M8 v xb v2 v3 v4 A ak V B::blk bP _ _::blk bI _ _::blk bR _ _::blk bO _ _::R))).mono ?_;clear hS;rintro e w ⟨rfl,hS⟩);apply Am7;rfl;rfl;rfl;exact hS;decide +kernel;(exact m8);kernel_rfl;obtain⟨vb,h1⟩:=bj4 (hS.s (M8 v xb v2 v3 v4 A ak V2 B::R));exact⟨vb,rfl,h1⟩
theorem eW4(hA:Asc ltB D)(hD:D.length<=1000000)(hV:vAt D ak=V)(h1:loA D ak=A)(h2:hiA D ak=B)(hok:VOk V.ps V.n i)(hi:i<=5000)(h0:0<=it)(h4:it<4)(c0:0<=ct)(c1:ct<=1048576)(hmay:∀x∈V.L,MayP x)(hl32:V.L.length<=32){r:Int}{V2:Vs}(hr:(A6 V aw id).1=r)(hq:(A6 V aw id).2=V2)(hS:St W (L9 xb v2 v3 v4 D::R) w):
  Calls Tryz.prog 61 #[.P xb,oV 4 cl sq ak aw tk tw it ct pr bu id] w fun e w'=>∃vb,e=.returned (rV r 0 0 0 0 0)/\St W (L9 xb v2 v3 v4 (A++(ak,(vb,V2))::B)::R) w':=by
 obtain⟨x,hx⟩:∃x,r9 it ct=x:=⟨_,rfl⟩
 obtain⟨x0,x1,x2,x3⟩:=x;have Hx:=jH hx;have HA:=jH hA;have HV:=jH hV;have H1:=jH h1;have H2:=jH h2;have Hok:=jH hok;clear hx hA hV h1 h2 hok;go_enter Tryz.func61,Tryz.ntmps61;have Hr:=jH hr;have Hq:=jH hq;have Hmay:=jH hmay;have Hl32:=jH hl32;clear hr hq hmay hl32;go_wp2_with(first|refine zbx hS ?_;clear hS;intro bO w hS|(fail_if_success (have:=gA));(refine zal hS ?_;clear hS;have gA:Nat:=0;intro bR w hS)|(have:=gA);(fail_if_success (have:=gB));(refine zal hS ?_;clear hS;have gB:Nat:=0;intro bI w hS)|(have:=gB);refine zal hS ?_;clear hS;intro bP w hS|refine zl1 hS ?_|refine zlN hS ?_|refine zsN hS ?_;clear hS;intro w hS|refine zs1 hS ?_;clear hS;intro w hS|go_at_call 57;refine(aF4 HA.out hD HV.out H1.out H2.out (hS.s (L9 xb v2 v3 v4 D::blk bR _ _::blk bO _ _::R))).mono ?_;clear hS;rintro e w ⟨v,rfl,hS⟩|go_at_call 35;refine(CF7 Hx.out h0 h4 c0 c1 W _ _ hS).mono ?_;clear hS;rintro e w ⟨rfl,hS⟩|go_at_call 106;refine(eS4 Hok.out (by omega) Hmay.out Hl32.out Hr.out Hq.out (hS.s (M8 v xb v2 v3 v4 A ak V B::blk bP _ _::blk bI _ _::blk bR _ _::blk bO _ _::R))).mono ?_;clear hS;rintro e w ⟨rfl,hS⟩);apply Am7;rfl;rfl;rfl;exact hS;decide +kernel;(exact m8);kernel_rfl;obtain⟨vb,h1⟩:=bj4 (hS.s (M8 v xb v2 v3 v4 A ak V2 B::R));exact⟨vb,rfl,h1⟩
theorem eX4(hA:Asc ltB D)(hD:D.length<=1000000)(hV:vAt D ak=V)(h1:loA D ak=A)(h2:hiA D ak=B)(hok:VOk V.ps V.n i)(hi:i<=5000)(h0:0<=it)(h4:it<4)(c0:0<=ct)(c1:ct<=1048576){y0 y1 y2 y3:Int}(hr:j7 V.ps aw=⟨y0,y1,y2,y3⟩)(hS:St W (L9 xb v2 v3 v4 D::R) w):
  Calls Tryz.prog 61 #[.P xb,oV 5 cl sq ak aw tk tw it ct pr bu id] w fun e w'=>∃vb,e=.returned (rV 0 0 y0 y1 y2 y3)/\St W (L9 xb v2 v3 v4 (A++(ak,(vb,V))::B)::R) w':=by
 obtain⟨x,hx⟩:∃x,r9 it ct=x:=⟨_,rfl⟩
 obtain⟨x0,x1,x2,x3⟩:=x;have Hx:=jH hx;have HA:=jH hA;have HV:=jH hV;have H1:=jH h1;have H2:=jH h2;have Hok:=jH hok;clear hx hA hV h1 h2 hok;go_enter Tryz.func61,Tryz.ntmps61;have Hr:=jH hr;clear hr;go_wp2_with(first|refine zbx hS ?_;clear hS;intro bO w hS|(fail_if_success (have:=gA));(refine zal hS ?_;clear hS;have gA:Nat:=0;intro bR w hS)|(have:=gA);(fail_if_success (have:=gB));(refine zal hS ?_;clear hS;have gB:Nat:=0;intro bI w hS)|(have:=gB);refine zal hS ?_;clear hS;intro bP w hS|refine zl1 hS ?_|refine zlN hS ?_|refine zsN hS ?_;clear hS;intro w hS|go_at_call 57;refine(aF4 HA.out hD HV.out H1.out H2.out (hS.s (L9 xb v2 v3 v4 D::blk bR _ _::blk bO _ _::R))).mono ?_;clear hS;rintro e w ⟨v,rfl,hS⟩|go_at_call 35;refine(CF7 Hx.out h0 h4 c0 c1 W _ _ hS).mono ?_;clear hS;rintro e w ⟨rfl,hS⟩|go_at_call 100;refine(eT4 Hok.out Hr.out (hS.s (M8 v xb v2 v3 v4 A ak V B::blk bP _ _::blk bI _ _::blk bR _ _::blk bO _ _::R))).mono ?_;clear hS;rintro e w ⟨rfl,hS⟩);apply Am7;rfl;rfl;rfl;exact hS;decide +kernel;(exact m8);kernel_rfl;obtain⟨vb,h1⟩:=bj4 (hS.s (M8 v xb v2 v3 v4 A ak V B::R));exact⟨vb,rfl,h1⟩
end
section
variable{W w:World}{R:List HP}{xb:Nat}{v2 v3 v4:Value}{D A B:Ev}{V:Vs}{i:Nat}{cl sq:Int}{ak aw tk tw:ByteArray}{it ct pr:Int}{bu:Bool}{id:Int}
theorem eg4(hA:Asc ltB D)(hD:D.length<=1000000)(hV:vAt D ak=V)(h1:loA D ak=A)(h2:hiA D ak=B)(hok:VOk V.ps V.n i)(hi:i<=5000)(h0:0<=it)(h4:it<4)(c0:0<=ct)(c1:ct<=1048576){q:Ps}(hr:m9 V.ps aw (r9 it ct)=0)(hq:s5 V.ps aw (r9 it ct)=q){ts:List ((Int×Int)×Tns)}(hk:TsK ts)(hl:ts.length<=1000000)(hS:St W (L9 xb v2 v3 v4 D::xtP v3 ts::R) w):
  Calls Tryz.prog 61 #[.P xb,oV 2 cl sq ak aw tk tw it ct pr bu id] w fun e w'=>∃vb v,e=.returned (rV 0 0 0 0 0 0)/\St W (L9 xb v2 v v4 (A++(ak,(vb,⟨q,V.L,V.n⟩))::B)::xtP v (ts.take (plI ltW ts (cl,sq))++((cl,sq),⟨cl,sq,ak,aw,tk,tw,it,ct⟩)::ts.drop (plI ltW ts (cl,sq)))::R) w':=by
 obtain⟨x,hx⟩:∃x,r9 it ct=x:=⟨_,rfl⟩
 obtain⟨x0,x1,x2,x3⟩:=x;rw[hx]at hr hq;have Hx:=jH hx;have HA:=jH hA;have HV:=jH hV;have H1:=jH h1;have H2:=jH h2;have Hok:=jH hok;clear hx hA hV h1 h2 hok;go_enter Tryz.func61,Tryz.ntmps61;have Hr:=jH hr;have Hq:=jH hq;have Hk:=jH hk;clear hr hq hk;have hS0:St W (L9 xb v2 v3 v4 D::xtP v3 ts::R) w:=hS;clear hS;have hS:=hS0;clear hS0
 go_wp2_with(first|refine zbx hS ?_;clear hS;intro bO w hS|(fail_if_success (have:=gA));(refine zal hS ?_;clear hS;have gA:Nat:=0;intro bR w hS)|(have:=gA);(fail_if_success (have:=gB));(refine zal hS ?_;clear hS;have gB:Nat:=0;intro bI w hS)|(have:=gB);refine zal hS ?_;clear hS;intro bP w hS|refine zl1 hS ?_|(have:=gT);(fail_if_success (have:=pA));refine zlN hS ?_ (vs:=[.string ak,.string aw]) (hc:=by focus((repeat(first|exact d8.here rfl|apply d8.there));done));have pA:Nat:=0|(have:=pA);(fail_if_success (have:=pB));refine zlN hS ?_ (vs:=[.string tk,.string tw]) (hc:=by focus((repeat(first|exact d8.here rfl|apply d8.there));done));have pB:Nat:=0|refine zlN hS ?_|refine zsN hS ?_;clear hS;intro w hS|refine zs1 hS ?_;clear hS;intro w hS|go_at_call 57;refine(aF4 HA.out hD HV.out H1.out H2.out (hS.s (L9 xb v2 v3 v4 D::blk bR _ _::blk bO _ _::xtP v3 ts::R))).mono ?_;clear hS;rintro e w ⟨v,rfl,hS⟩|go_at_call 35;refine(CF7 Hx.out h0 h4 c0 c1 W _ _ hS).mono ?_;clear hS;rintro e w ⟨rfl,hS⟩|go_at_call 103;refine(dj4 Hok.out (by omega) Hr.out Hq.out (hS.s (M8 v xb v2 v3 v4 A ak V B::blk bP _ _::blk bI _ _::blk bR _ _::blk bO _ _::xtP v3 ts::R))).mono ?_;clear hS;rintro e w ⟨rfl,hS⟩;have gT:Nat:=0|go_at_call 104;have hS9:=bj4 (hS.s (M8 v xb v2 v3 v4 A ak ⟨q,V.L,V.n⟩ B::blk bP _ _::blk bI _ _::blk bR _ _::blk bO _ _::xtP v3 ts::R));clear hS;obtain⟨vb,hS8⟩:=hS9;have hS7:=aW4 hS8;clear hS8;obtain⟨r1,hS⟩:=hS7;refine(eQ4 ts Hk.out hl ⟨cl,sq,ak,aw,tk,tw,it,ct⟩ xb r1 v2 v3 v4 W _ _ (hS.s (xeB xb r1 v2 v3 v4::xtP v3 ts::xrP r1 (A++(ak,(vb,⟨q,V.L,V.n⟩))::B)::C6 (A++(ak,(vb,⟨q,V.L,V.n⟩))::B)::blk bP _ _::blk bI _ _::blk bR _ _::blk bO _ _::R))).mono ?_;clear hS;rintro e w ⟨rfl,hS6⟩;obtain⟨v9,hS⟩:=hS6);apply Am7;rfl;rfl;rfl;exact hS;decide +kernel;(exact m8);kernel_rfl
 have h1:=at4 (hS.s (xeB xb r1 v2 v9 v4::xrP r1 (A++(ak,(vb,⟨q,V.L,V.n⟩))::B)::C6 (A++(ak,(vb,⟨q,V.L,V.n⟩))::B)::xtP v9 (ts.take (plI ltW ts (cl,sq))++((cl,sq),⟨cl,sq,ak,aw,tk,tw,it,ct⟩)::ts.drop (plI ltW ts (cl,sq)))::R));exact⟨vb,v9,rfl,h1⟩
end
theorem dH4(o q:Opn)(w:World):(Op.equalIn 10000 31 (.agg o.cells.toArray) (.agg q.cells.toArray)).run Tryz.prog w=.ok (o.eqB q) w:=by
 have u9:=Tryz.underlying9;have a9:=Tryz.isAgg9;have z9:=Tryz.sizeOf9;have u3:=Tryz.underlying3;have a3:=Tryz.isAgg3;have z3:=Tryz.sizeOf3;have u4:=Tryz.underlying4;have a4:=Tryz.isAgg4;have z4:=Tryz.sizeOf4;have u5:=Tryz.underlying29;have a5:=Tryz.isAgg29;have z5:=Tryz.sizeOf29;have hp:=fun k u k2 u2 w=>cH4 k u k2 u2 9997 w
 have hs:Tryz.prog.stoodInHeld 31=false:=by kernel_rfl
 obtain⟨o0,o1,o2,o3,o4,o5,o6,o7,o8,o9,o10,o11⟩:=o;obtain⟨q0,q1,q2,q3,q4,q5,q6,q7,q8,q9,q10,q11⟩:=q;unfold Opn.eqB Opn.cells;dsimp only;rw[Op.equalIn];simp only[Sem.run_bind,run_underlying Tryz.underlying31,Result.andThen_ok,run_program,hs,Bool.false_eq_true,if_false];rw[<-Array.forIn_toList];simp only[List.forIn_cons,List.forIn_nil]
 go_simp
 by_cases h:o0=q0
 case neg=>simp[h]
 rw[if_pos h,decide_eq_true h,Bool.true_and];clear h;by_cases h:o1=q1
 case neg=>simp[h]
 rw[if_pos h,decide_eq_true h,Bool.true_and];clear h;by_cases h:o2=q2
 case neg=>simp[h]
 rw[if_pos h,decide_eq_true h,Bool.true_and];clear h;by_cases h:o3.toList=q3.toList
 case neg=>simp[h]
 by_cases h2:o4.toList=q4.toList
 case neg=>simp[h2]
 rw[if_neg (fun f=>f h h2),decide_eq_true h,decide_eq_true h2,Bool.true_and,Bool.true_and];clear h h2;by_cases h:o5.toList=q5.toList
 case neg=>simp[h]
 by_cases h2:o6.toList=q6.toList
 case neg=>simp[h2]
 rw[if_neg (fun f=>f h h2),decide_eq_true h,decide_eq_true h2,Bool.true_and,Bool.true_and];clear h h2;by_cases h:o7=q7
 case neg=>simp[h]
 rw[if_pos h,decide_eq_true h,Bool.true_and];clear h;by_cases h:o8=q8
 case neg=>simp[h]
 rw[if_pos h,decide_eq_true h,Bool.true_and];clear h;by_cases h:o9=q9
 case neg=>simp[h]
 rw[if_pos h,decide_eq_true h,Bool.true_and];clear h;by_cases h:o10=q10
 case neg=>simp[h]
 rw[if_pos h,decide_eq_true h,Bool.true_and];clear h;by_cases h:o11=q11 <;> simp[h]
theorem Bf7(u:ByteArray):decide ((⟨#[]⟩:ByteArray).toList=u.toList)=noB u:=by
 rw[<-Ee7 u];by_cases h:u.toList=(⟨#[]⟩:ByteArray).toList
 ·rw[h]
 ·rw[decide_eq_false h,decide_eq_false (fun e=>h e.symm)]
section
variable{o:Opn}
abbrev xO(o:Opn)(tk tw:ByteArray)(it ct pr:Int)(bu:Bool)(id:Int):Opn:=⟨o.kind,o.client,o.seq,o.ak,o.aw,tk,tw,it,ct,pr,bu,id⟩
theorem Dn7{tk tw:ByteArray}{it ct pr:Int}{bu:Bool}{id:Int}:(xO o tk tw it ct pr bu id).eqB o=(decide (tk.toList=o.tk.toList)&&(decide (tw.toList=o.tw.toList)&&(decide (it=o.item)&&(decide (ct=o.cnt)&&(decide (pr=o.price)&&(decide (bu=o.buy)&&decide (id=o.id))))))):=by unfold Opn.eqB;simp
theorem dI4(h:D7 o=true)(hk:o.kind=1\/o.kind=6)(hc:E9 o=true):t6 o=(xO o ⟨#[]⟩ ⟨#[]⟩ o.item o.cnt 0 false 0).eqB o:=by
 have hkb:G7 o=r7 o:=by
  unfold G7
  rcases hk with e|e <;> rw[e] <;> simp
 unfold t6;rw[h,hkb,Dn7,Bf7,Bf7];unfold r7 cG4;rw[hc]
 cases o.buy <;> simp[eq_comm]
theorem DV7(h:D7 o=true)(hk:o.kind=1\/o.kind=6)(hc:E9 o=false):t6 o=false:=by
 have hkb:G7 o=r7 o:=by
  unfold G7
  rcases hk with e|e <;> rw[e] <;> simp
 unfold t6;rw[h,hkb];unfold r7;rw[hc];rfl
theorem eY4(h:D7 o=true)(hk:o.kind=2)(hc:E9 o=true)(hp:af4 o.tk o.tw=true):t6 o=(xO o o.tk o.tw o.item o.cnt 0 false 0).eqB o:=by
 have hkb:G7 o=K6 o:=by unfold G7;rw[hk];simp
 unfold t6;rw[h,hkb,Dn7];unfold K6;rw[hc,hp]
 cases o.buy <;> simp[eq_comm]
theorem Do7(h:D7 o=true)(hk:o.kind=2)(hc:E9 o=false\/af4 o.tk o.tw=false):t6 o=false:=by
 have hkb:G7 o=K6 o:=by unfold G7;rw[hk];simp
 unfold t6;rw[h,hkb];unfold K6
 rcases hc with e|e <;> rw[e] <;> simp
theorem eZ4(h:D7 o=true)(hk:o.kind=3)(h1:1<=o.item)(hc:E9 o=true)(hp:1<=o.price)(hp2:o.price<=1024):t6 o=(xO o ⟨#[]⟩ ⟨#[]⟩ o.item o.cnt o.price o.buy 0).eqB o:=by
 have hkb:G7 o=F7 o:=by unfold G7;rw[hk];simp
 unfold t6;rw[h,hkb,Dn7,Bf7,Bf7];unfold F7;rw[hc,decide_eq_true h1,decide_eq_true hp,decide_eq_true hp2];simp[eq_comm]
theorem Fn7(h:D7 o=true)(hk:o.kind=3)(hc:¬1<=o.item\/E9 o=false\/¬1<=o.price\/¬o.price<=1024):t6 o=false:=by
 have hkb:G7 o=F7 o:=by unfold G7;rw[hk];simp
 unfold t6;rw[h,hkb];unfold F7
 rcases hc with e|e|e|e
 ·rw[decide_eq_false e];simp
 ·rw[e];simp
 ·rw[decide_eq_false e];simp
 ·rw[decide_eq_false e];simp
theorem fa4(h:D7 o=true)(hk:o.kind=4)(h1:1<=o.id)(h2:o.id<=1099511627776):t6 o=(xO o ⟨#[]⟩ ⟨#[]⟩ 0 0 0 false o.id).eqB o:=by
 have hkb:G7 o=D8 o:=by unfold G7;rw[hk];simp
 unfold t6;rw[h,hkb,Dn7,Bf7,Bf7];unfold D8;rw[decide_eq_true h1,decide_eq_true h2]
 cases o.buy <;> simp[eq_comm]
theorem MY7(h:D7 o=true)(hk:o.kind=4)(hc:¬1<=o.id\/¬o.id<=1099511627776):t6 o=false:=by
 have hkb:G7 o=D8 o:=by unfold G7;rw[hk];simp
 unfold t6;rw[h,hkb];unfold D8
 rcases hc with e|e <;> rw[decide_eq_false e] <;> simp
theorem dJ4(h:D7 o=true)(hk:o.kind=5\/o.kind=7):t6 o=(xO o ⟨#[]⟩ ⟨#[]⟩ 0 0 0 false 0).eqB o:=by
 have hkb:G7 o=bs4 o:=by
  unfold G7
  rcases hk with e|e <;> rw[e] <;> simp
 unfold t6;rw[h,hkb,Dn7,Bf7,Bf7];unfold bs4
 cases o.buy <;> simp[eq_comm]
theorem Ox7(hk:G7 o=false):t6 o=false:=by unfold t6;rw[hk];simp
theorem Dp7(h:D7 o=false):t6 o=false:=by unfold t6;rw[h];rfl
end
end Go.Proofs.YtienbkdjkjbelaaGreat
end
