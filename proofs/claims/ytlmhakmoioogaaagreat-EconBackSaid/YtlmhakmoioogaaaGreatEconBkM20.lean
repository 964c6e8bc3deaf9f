/-
  The document's economy.
-/
import Derived.Test.YtlmhakmoioogaaaGreatEconBkM19
set_option maxHeartbeats 16000000
set_option maxRecDepth 100000
set_option linter.unusedSimpArgs false
set_option linter.unusedVariables false
section
namespace Go.Proofs.YtlmhakmoioogaaaGreat
open Go.RowKit Go.Sl
theorem DR7{it ct x0 x1 x2 x3:Int}(h:B5 it ct=⟨x0,x1,x2,x3⟩)(h0:0<=it)(h4:it<4)(c0:0<=ct)(c1:ct<=1048576)(W w:World)(R:List HP)(hS:St W R w):
  Calls Tryz.prog 49 #[.I it,.I ct] w fun e w'=>e=.returned (.tuple #[.agg #[.I x0,.I x1,.I x2,.I x3],.bool true])/\St W R w':=by
 have d1:decide (ct<0)=false:=by simp;omega
 have d2:decide (1152921504606846976<ct)=false:=by simp;omega
 go_enter Tryz.func49,Tryz.ntmps49;have hk:it=0\/it=1\/it=2\/it=3:=by omega
 clear h0 h4
 rcases hk with rfl|rfl|rfl|rfl
 all_goals
  simp only[B5,aX4,it0,It.mk.injEq,Int.reduceEq,if_true,if_false]at h;obtain⟨rfl,rfl,rfl,rfl⟩:=h;go_wp2_with(first|(fail_if_success (have:=gA));(refine zal hS ?_;clear hS;have gA:Nat:=0;intro b1 w hS)|(have:=gA);refine zal hS ?_;clear hS;intro b2 w hS|refine zlN hS ?_|refine zsN hS ?_;clear hS;intro w hS|refine zs1 hS ?_;clear hS;intro w hS);apply Ac7;rfl;rfl;rfl;rfl;exact hS;decide +kernel;(exact x9);kernel_rfl;exact⟨rfl,hS.drop.drop⟩
section
variable{W w:World}{R:List HP}{xb:Nat}{v2 v3 v4:Value}{D A B:Ev}{V:Vs}{i:Nat}{cl sq:Int}{ak aw tk tw:ByteArray}{it ct pr:Int}{bu:Bool}{id:Int}
theorem gJ4(hA:Asc ltB D)(hD:D.length<=1000000)(hV:vAt D ak=V)(h1:loA D ak=A)(h2:hiA D ak=B)(hok:VOk V.ps V.n i)(hi:i<=5000)(h0:0<=it)(h4:it<4)(c0:0<=ct)(c1:ct<=1048576){r:Int}{q:Ps}(hr:Q5 V.ps aw (B5 it ct)=r)(hq:M5 V.ps aw (B5 it ct)=q)(hS:St W (aa4 xb v2 v3 v4 D::R) w):
  Calls Tryz.prog 54 #[.P xb,oV 1 cl sq ak aw tk tw it ct pr bu id] w fun e w'=>∃vb,e=.returned (rV r 0 0 0 0 0)/\St W (aa4 xb v2 v3 v4 (A++(ak,(vb,⟨q,V.L,V.n⟩))::B)::R) w':=by
 obtain⟨x,hx⟩:∃x,B5 it ct=x:=⟨_,rfl⟩
 obtain⟨x0,x1,x2,x3⟩:=x;rw[hx]at hr hq;have Hx:=jH hx;have HA:=jH hA;have HV:=jH hV;have H1:=jH h1;have H2:=jH h2;have Hok:=jH hok;clear hx hA hV h1 h2 hok;go_enter Tryz.func54,Tryz.ntmps54;have Hr:=jH hr;have Hq:=jH hq;clear hr hq;go_wp2_with(first|refine zbx hS ?_;clear hS;intro bO w hS|(fail_if_success (have:=gA));(refine zal hS ?_;clear hS;have gA:Nat:=0;intro bR w hS)|(have:=gA);(fail_if_success (have:=gB));(refine zal hS ?_;clear hS;have gB:Nat:=0;intro bI w hS)|(have:=gB);refine zal hS ?_;clear hS;intro bP w hS|refine zl1 hS ?_|refine zlN hS ?_|refine zsN hS ?_;clear hS;intro w hS|refine zs1 hS ?_;clear hS;intro w hS|go_at_call 50;refine(bG4 HA.out hD HV.out H1.out H2.out (hS.s (aa4 xb v2 v3 v4 D::blk bR _ _::blk bO _ _::R))).mono ?_;clear hS;rintro e w ⟨v,rfl,hS⟩|go_at_call 49;refine(DR7 Hx.out h0 h4 c0 c1 W _ _ hS).mono ?_;clear hS;rintro e w ⟨rfl,hS⟩|go_at_call 51;refine(fv4 Hok.out (by omega) Hr.out Hq.out (hS.s (am4 v xb v2 v3 v4 A ak V B::blk bP _ _::blk bI _ _::blk bR _ _::blk bO _ _::R))).mono ?_;clear hS;rintro e w ⟨rfl,hS⟩);apply Au7;rfl;rfl;rfl;exact hS;decide +kernel;(exact x9);kernel_rfl;obtain⟨vb,h1⟩:=cp4 (hS.s (am4 v xb v2 v3 v4 A ak ⟨q,V.L,V.n⟩ B::R));exact⟨vb,rfl,h1⟩
theorem fX4(hA:Asc ltB D)(hD:D.length<=1000000)(hV:vAt D ak=V)(h1:loA D ak=A)(h2:hiA D ak=B)(hok:VOk V.ps V.n i)(hi:i<=5000)(h0:0<=it)(h4:it<4)(c0:0<=ct)(c1:ct<=1048576){r:Int}{q:Ps}(hr:A5 V.ps aw (B5 it ct)=r)(hr0:(r==0)=false)(hq:A8 V.ps aw (B5 it ct)=q)(hS:St W (aa4 xb v2 v3 v4 D::R) w):
  Calls Tryz.prog 54 #[.P xb,oV 2 cl sq ak aw tk tw it ct pr bu id] w fun e w'=>∃vb,e=.returned (rV r 0 0 0 0 0)/\St W (aa4 xb v2 v3 v4 (A++(ak,(vb,⟨q,V.L,V.n⟩))::B)::R) w':=by
 obtain⟨x,hx⟩:∃x,B5 it ct=x:=⟨_,rfl⟩
 obtain⟨x0,x1,x2,x3⟩:=x;rw[hx]at hr hq;have Hx:=jH hx;have HA:=jH hA;have HV:=jH hV;have H1:=jH h1;have H2:=jH h2;have Hok:=jH hok;clear hx hA hV h1 h2 hok;go_enter Tryz.func54,Tryz.ntmps54;have Hr:=jH hr;have Hq:=jH hq;clear hr hq;go_wp2_with(first|refine zbx hS ?_;clear hS;intro bO w hS|(fail_if_success (have:=gA));(refine zal hS ?_;clear hS;have gA:Nat:=0;intro bR w hS)|(have:=gA);(fail_if_success (have:=gB));(refine zal hS ?_;clear hS;have gB:Nat:=0;intro bI w hS)|(have:=gB);refine zal hS ?_;clear hS;intro bP w hS|refine zl1 hS ?_|refine zlN hS ?_|refine zsN hS ?_;clear hS;intro w hS|refine zs1 hS ?_;clear hS;intro w hS|go_at_call 50;refine(bG4 HA.out hD HV.out H1.out H2.out (hS.s (aa4 xb v2 v3 v4 D::blk bR _ _::blk bO _ _::R))).mono ?_;clear hS;rintro e w ⟨v,rfl,hS⟩|go_at_call 49;refine(DR7 Hx.out h0 h4 c0 c1 W _ _ hS).mono ?_;clear hS;rintro e w ⟨rfl,hS⟩|go_at_call 120;refine(eS4 Hok.out (by omega) Hr.out Hq.out (hS.s (am4 v xb v2 v3 v4 A ak V B::blk bP _ _::blk bI _ _::blk bR _ _::blk bO _ _::R))).mono ?_;clear hS;rintro e w ⟨rfl,hS⟩);apply Au7;rfl;rfl;rfl;exact hS;decide +kernel;(exact x9);kernel_rfl;obtain⟨vb,h1⟩:=cp4 (hS.s (am4 v xb v2 v3 v4 A ak ⟨q,V.L,V.n⟩ B::R));exact⟨vb,rfl,h1⟩
theorem gK4(hA:Asc ltB D)(hD:D.length<=1000000)(hV:vAt D ak=V)(h1:loA D ak=A)(h2:hiA D ak=B)(hok:VOk V.ps V.n i)(hi:i<=5000)(h0:0<=it)(h4:it<4)(c0:0<=ct)(c1:ct<=1048576)(hmay:∀x∈V.L,MayP x){r s:Int}{V2:Vs}(hr:(E6 V ⟨0,aw,bu,it,ct,pr⟩).1=r)(hs:(E6 V ⟨0,aw,bu,it,ct,pr⟩).2.1=s)(hq:(E6 V ⟨0,aw,bu,it,ct,pr⟩).2.2=V2)(hS:St W (aa4 xb v2 v3 v4 D::R) w):
  Calls Tryz.prog 54 #[.P xb,oV 3 cl sq ak aw tk tw it ct pr bu id] w fun e w'=>∃vb,e=.returned (rV s r 0 0 0 0)/\St W (aa4 xb v2 v3 v4 (A++(ak,(vb,V2))::B)::R) w':=by
 obtain⟨x,hx⟩:∃x,B5 it ct=x:=⟨_,rfl⟩
 obtain⟨x0,x1,x2,x3⟩:=x;have Hx:=jH hx;have HA:=jH hA;have HV:=jH hV;have H1:=jH h1;have H2:=jH h2;have Hok:=jH hok;clear hx hA hV h1 h2 hok;go_enter Tryz.func54,Tryz.ntmps54;have Hr:=jH hr;have Hs:=jH hs;have Hq:=jH hq;have Hmay:=jH hmay;clear hr hs hq hmay;go_wp2_with(first|refine zbx hS ?_;clear hS;intro bO w hS|(fail_if_success (have:=gA));(refine zal hS ?_;clear hS;have gA:Nat:=0;intro bR w hS)|(have:=gA);(fail_if_success (have:=gB));(refine zal hS ?_;clear hS;have gB:Nat:=0;intro bI w hS)|(have:=gB);refine zal hS ?_;clear hS;intro bP w hS|refine zl1 hS ?_|refine zlN hS ?_|refine zsN hS ?_;clear hS;intro w hS|refine zs1 hS ?_;clear hS;intro w hS|go_at_call 50;refine(bG4 HA.out hD HV.out H1.out H2.out (hS.s (aa4 xb v2 v3 v4 D::blk bR _ _::blk bO _ _::R))).mono ?_;clear hS;rintro e w ⟨v,rfl,hS⟩|go_at_call 49;refine(DR7 Hx.out h0 h4 c0 c1 W _ _ hS).mono ?_;clear hS;rintro e w ⟨rfl,hS⟩|go_at_call 121;refine(gG4 Hok.out (by omega) Hmay.out Hr.out Hs.out Hq.out (hS.s (am4 v xb v2 v3 v4 A ak V B::blk bP _ _::blk bI _ _::blk bR _ _::blk bO _ _::R))).mono ?_;clear hS;rintro e w ⟨rfl,hS⟩);apply Au7;rfl;rfl;rfl;exact hS;decide +kernel;(exact x9);kernel_rfl;obtain⟨vb,h1⟩:=cp4 (hS.s (am4 v xb v2 v3 v4 A ak V2 B::R));exact⟨vb,rfl,h1⟩
theorem gL4(hA:Asc ltB D)(hD:D.length<=1000000)(hV:vAt D ak=V)(h1:loA D ak=A)(h2:hiA D ak=B)(hok:VOk V.ps V.n i)(hi:i<=5000)(h0:0<=it)(h4:it<4)(c0:0<=ct)(c1:ct<=1048576)(hmay:∀x∈V.L,MayP x)(hl32:V.L.length<=32){r:Int}{V2:Vs}(hr:(F6 V aw id).1=r)(hq:(F6 V aw id).2=V2)(hS:St W (aa4 xb v2 v3 v4 D::R) w):
  Calls Tryz.prog 54 #[.P xb,oV 4 cl sq ak aw tk tw it ct pr bu id] w fun e w'=>∃vb,e=.returned (rV r 0 0 0 0 0)/\St W (aa4 xb v2 v3 v4 (A++(ak,(vb,V2))::B)::R) w':=by
 obtain⟨x,hx⟩:∃x,B5 it ct=x:=⟨_,rfl⟩
 obtain⟨x0,x1,x2,x3⟩:=x;have Hx:=jH hx;have HA:=jH hA;have HV:=jH hV;have H1:=jH h1;have H2:=jH h2;have Hok:=jH hok;clear hx hA hV h1 h2 hok;go_enter Tryz.func54,Tryz.ntmps54;have Hr:=jH hr;have Hq:=jH hq;have Hmay:=jH hmay;have Hl32:=jH hl32;clear hr hq hmay hl32;go_wp2_with(first|refine zbx hS ?_;clear hS;intro bO w hS|(fail_if_success (have:=gA));(refine zal hS ?_;clear hS;have gA:Nat:=0;intro bR w hS)|(have:=gA);(fail_if_success (have:=gB));(refine zal hS ?_;clear hS;have gB:Nat:=0;intro bI w hS)|(have:=gB);refine zal hS ?_;clear hS;intro bP w hS|refine zl1 hS ?_|refine zlN hS ?_|refine zsN hS ?_;clear hS;intro w hS|refine zs1 hS ?_;clear hS;intro w hS|go_at_call 50;refine(bG4 HA.out hD HV.out H1.out H2.out (hS.s (aa4 xb v2 v3 v4 D::blk bR _ _::blk bO _ _::R))).mono ?_;clear hS;rintro e w ⟨v,rfl,hS⟩|go_at_call 49;refine(DR7 Hx.out h0 h4 c0 c1 W _ _ hS).mono ?_;clear hS;rintro e w ⟨rfl,hS⟩|go_at_call 122;refine(gH4 Hok.out (by omega) Hmay.out Hl32.out Hr.out Hq.out (hS.s (am4 v xb v2 v3 v4 A ak V B::blk bP _ _::blk bI _ _::blk bR _ _::blk bO _ _::R))).mono ?_;clear hS;rintro e w ⟨rfl,hS⟩);apply Au7;rfl;rfl;rfl;exact hS;decide +kernel;(exact x9);kernel_rfl;obtain⟨vb,h1⟩:=cp4 (hS.s (am4 v xb v2 v3 v4 A ak V2 B::R));exact⟨vb,rfl,h1⟩
theorem gM4(hA:Asc ltB D)(hD:D.length<=1000000)(hV:vAt D ak=V)(h1:loA D ak=A)(h2:hiA D ak=B)(hok:VOk V.ps V.n i)(hi:i<=5000)(h0:0<=it)(h4:it<4)(c0:0<=ct)(c1:ct<=1048576){y0 y1 y2 y3:Int}(hr:m5 V.ps aw=⟨y0,y1,y2,y3⟩)(hS:St W (aa4 xb v2 v3 v4 D::R) w):
  Calls Tryz.prog 54 #[.P xb,oV 5 cl sq ak aw tk tw it ct pr bu id] w fun e w'=>∃vb,e=.returned (rV 0 0 y0 y1 y2 y3)/\St W (aa4 xb v2 v3 v4 (A++(ak,(vb,V))::B)::R) w':=by
 obtain⟨x,hx⟩:∃x,B5 it ct=x:=⟨_,rfl⟩
 obtain⟨x0,x1,x2,x3⟩:=x;have Hx:=jH hx;have HA:=jH hA;have HV:=jH hV;have H1:=jH h1;have H2:=jH h2;have Hok:=jH hok;clear hx hA hV h1 h2 hok;go_enter Tryz.func54,Tryz.ntmps54;have Hr:=jH hr;clear hr;go_wp2_with(first|refine zbx hS ?_;clear hS;intro bO w hS|(fail_if_success (have:=gA));(refine zal hS ?_;clear hS;have gA:Nat:=0;intro bR w hS)|(have:=gA);(fail_if_success (have:=gB));(refine zal hS ?_;clear hS;have gB:Nat:=0;intro bI w hS)|(have:=gB);refine zal hS ?_;clear hS;intro bP w hS|refine zl1 hS ?_|refine zlN hS ?_|refine zsN hS ?_;clear hS;intro w hS|go_at_call 50;refine(bG4 HA.out hD HV.out H1.out H2.out (hS.s (aa4 xb v2 v3 v4 D::blk bR _ _::blk bO _ _::R))).mono ?_;clear hS;rintro e w ⟨v,rfl,hS⟩|go_at_call 49;refine(DR7 Hx.out h0 h4 c0 c1 W _ _ hS).mono ?_;clear hS;rintro e w ⟨rfl,hS⟩|go_at_call 118;refine(gI4 Hok.out Hr.out (hS.s (am4 v xb v2 v3 v4 A ak V B::blk bP _ _::blk bI _ _::blk bR _ _::blk bO _ _::R))).mono ?_;clear hS;rintro e w ⟨rfl,hS⟩);apply Au7;rfl;rfl;rfl;exact hS;decide +kernel;(exact x9);kernel_rfl;obtain⟨vb,h1⟩:=cp4 (hS.s (am4 v xb v2 v3 v4 A ak V B::R));exact⟨vb,rfl,h1⟩
end
section
variable{W w:World}{R:List HP}{xb:Nat}{v2 v3 v4:Value}{D A B:Ev}{V:Vs}{i:Nat}{cl sq:Int}{ak aw tk tw:ByteArray}{it ct pr:Int}{bu:Bool}{id:Int}
theorem fY4(hA:Asc ltB D)(hD:D.length<=1000000)(hV:vAt D ak=V)(h1:loA D ak=A)(h2:hiA D ak=B)(hok:VOk V.ps V.n i)(hi:i<=5000)(h0:0<=it)(h4:it<4)(c0:0<=ct)(c1:ct<=1048576){q:Ps}(hr:A5 V.ps aw (B5 it ct)=0)(hq:A8 V.ps aw (B5 it ct)=q){ts:List ((Int×Int)×Tns)}(hk:TsK ts)(hl:ts.length<=1000000)(hS:St W (aa4 xb v2 v3 v4 D::xtP v3 ts::R) w):
  Calls Tryz.prog 54 #[.P xb,oV 2 cl sq ak aw tk tw it ct pr bu id] w fun e w'=>∃vb v,e=.returned (rV 0 0 0 0 0 0)/\St W (aa4 xb v2 v v4 (A++(ak,(vb,⟨q,V.L,V.n⟩))::B)::xtP v (ts.take (plI ltW ts (cl,sq))++((cl,sq),⟨cl,sq,ak,aw,tk,tw,it,ct⟩)::ts.drop (plI ltW ts (cl,sq)))::R) w':=by
 obtain⟨x,hx⟩:∃x,B5 it ct=x:=⟨_,rfl⟩
 obtain⟨x0,x1,x2,x3⟩:=x;rw[hx]at hr hq;have Hx:=jH hx;have HA:=jH hA;have HV:=jH hV;have H1:=jH h1;have H2:=jH h2;have Hok:=jH hok;clear hx hA hV h1 h2 hok;go_enter Tryz.func54,Tryz.ntmps54;have Hr:=jH hr;have Hq:=jH hq;have Hk:=jH hk;clear hr hq hk;have hS0:St W (aa4 xb v2 v3 v4 D::xtP v3 ts::R) w:=hS;clear hS;have hS:=hS0;clear hS0
 go_wp2_with(first|refine zbx hS ?_;clear hS;intro bO w hS|(fail_if_success (have:=gA));(refine zal hS ?_;clear hS;have gA:Nat:=0;intro bR w hS)|(have:=gA);(fail_if_success (have:=gB));(refine zal hS ?_;clear hS;have gB:Nat:=0;intro bI w hS)|(have:=gB);refine zal hS ?_;clear hS;intro bP w hS|refine zl1 hS ?_|(have:=gT);(fail_if_success (have:=pA));refine zlN hS ?_ (vs:=[.string ak,.string aw]) (hc:=by focus((repeat(first|exact i8.here rfl|apply i8.there));done));have pA:Nat:=0|(have:=pA);(fail_if_success (have:=pB));refine zlN hS ?_ (vs:=[.string tk,.string tw]) (hc:=by focus((repeat(first|exact i8.here rfl|apply i8.there));done));have pB:Nat:=0|refine zlN hS ?_|refine zsN hS ?_;clear hS;intro w hS|refine zs1 hS ?_;clear hS;intro w hS|go_at_call 50;refine(bG4 HA.out hD HV.out H1.out H2.out (hS.s (aa4 xb v2 v3 v4 D::blk bR _ _::blk bO _ _::xtP v3 ts::R))).mono ?_;clear hS;rintro e w ⟨v,rfl,hS⟩|go_at_call 49;refine(DR7 Hx.out h0 h4 c0 c1 W _ _ hS).mono ?_;clear hS;rintro e w ⟨rfl,hS⟩|go_at_call 120;refine(eS4 Hok.out (by omega) Hr.out Hq.out (hS.s (am4 v xb v2 v3 v4 A ak V B::blk bP _ _::blk bI _ _::blk bR _ _::blk bO _ _::xtP v3 ts::R))).mono ?_;clear hS;rintro e w ⟨rfl,hS⟩;have gT:Nat:=0|go_at_call 81;have hS9:=cp4 (hS.s (am4 v xb v2 v3 v4 A ak ⟨q,V.L,V.n⟩ B::blk bP _ _::blk bI _ _::blk bR _ _::blk bO _ _::xtP v3 ts::R));clear hS;obtain⟨vb,hS8⟩:=hS9;have hS7:=cc4 hS8;clear hS8;obtain⟨r1,hS⟩:=hS7;refine(gF4 ts Hk.out hl ⟨cl,sq,ak,aw,tk,tw,it,ct⟩ xb r1 v2 v3 v4 W _ _ (hS.s (xeB xb r1 v2 v3 v4::xtP v3 ts::xrP r1 (A++(ak,(vb,⟨q,V.L,V.n⟩))::B)::w8 (A++(ak,(vb,⟨q,V.L,V.n⟩))::B)::blk bP _ _::blk bI _ _::blk bR _ _::blk bO _ _::R))).mono ?_;clear hS;rintro e w ⟨rfl,hS6⟩;obtain⟨v9,hS⟩:=hS6);apply Au7;rfl;rfl;rfl;exact hS;decide +kernel;(exact x9);kernel_rfl
 have h1:=bl4 (hS.s (xeB xb r1 v2 v9 v4::xrP r1 (A++(ak,(vb,⟨q,V.L,V.n⟩))::B)::w8 (A++(ak,(vb,⟨q,V.L,V.n⟩))::B)::xtP v9 (ts.take (plI ltW ts (cl,sq))++((cl,sq),⟨cl,sq,ak,aw,tk,tw,it,ct⟩)::ts.drop (plI ltW ts (cl,sq)))::R));exact⟨vb,v9,rfl,h1⟩
end
theorem gN4(o q:Opn)(w:World):(Op.equalIn 10000 35 (.agg o.cells.toArray) (.agg q.cells.toArray)).run Tryz.prog w=.ok (o.eqB q) w:=by
 have u9:=Tryz.underlying9;have a9:=Tryz.isAgg9;have z9:=Tryz.sizeOf9;have u3:=Tryz.underlying3;have a3:=Tryz.isAgg3;have z3:=Tryz.sizeOf3;have u4:=Tryz.underlying4;have a4:=Tryz.isAgg4;have z4:=Tryz.sizeOf4;have u5:=Tryz.underlying26;have a5:=Tryz.isAgg26;have z5:=Tryz.sizeOf26;have hp:=fun k u k2 u2 w=>dB4 k u k2 u2 9997 w
 have hs:Tryz.prog.stoodInHeld 35=false:=by kernel_rfl
 obtain⟨o0,o1,o2,o3,o4,o5,o6,o7,o8,o9,o10,o11⟩:=o;obtain⟨q0,q1,q2,q3,q4,q5,q6,q7,q8,q9,q10,q11⟩:=q;unfold Opn.eqB Opn.cells;dsimp only;rw[Op.equalIn];simp only[Sem.run_bind,run_underlying Tryz.underlying35,Result.andThen_ok,run_program,hs,Bool.false_eq_true,if_false];rw[<-Array.forIn_toList];simp only[List.forIn_cons,List.forIn_nil]
 go_simp
 by_cases h:o0=q0
 case neg=>simp[h]
 rw[if_pos h,decide_eq_true h,Bool.true_and];clear h;by_cases h:o1=q1
 case neg=>simp[h]
 rw[if_pos h,decide_eq_true h,Bool.true_and];clear h;by_cases h:o2=q2
 case neg=>simp[h]
 rw[if_pos h,decide_eq_true h,Bool.true_and];clear h;by_cases h:o3.toList=q3.toList
 case neg=>simp[h]
 by_cases h2:o4.toList=q4.toList
 case neg=>simp[h2]
 rw[if_neg (fun f=>f h h2),decide_eq_true h,decide_eq_true h2,Bool.true_and,Bool.true_and];clear h h2;by_cases h:o5.toList=q5.toList
 case neg=>simp[h]
 by_cases h2:o6.toList=q6.toList
 case neg=>simp[h2]
 rw[if_neg (fun f=>f h h2),decide_eq_true h,decide_eq_true h2,Bool.true_and,Bool.true_and];clear h h2;by_cases h:o7=q7
 case neg=>simp[h]
 rw[if_pos h,decide_eq_true h,Bool.true_and];clear h;by_cases h:o8=q8
 case neg=>simp[h]
 rw[if_pos h,decide_eq_true h,Bool.true_and];clear h;by_cases h:o9=q9
 case neg=>simp[h]
 rw[if_pos h,decide_eq_true h,Bool.true_and];clear h;by_cases h:o10=q10
 case neg=>simp[h]
 rw[if_pos h,decide_eq_true h,Bool.true_and];clear h;by_cases h:o11=q11 <;> simp[h]
theorem BK7(u:ByteArray):decide ((⟨#[]⟩:ByteArray).toList=u.toList)=noB u:=by
 rw[<-FV7 u];by_cases h:u.toList=(⟨#[]⟩:ByteArray).toList
 ·rw[h]
 ·rw[decide_eq_false h,decide_eq_false (fun e=>h e.symm)]
section
variable{o:Opn}
abbrev xO(o:Opn)(tk tw:ByteArray)(it ct pr:Int)(bu:Bool)(id:Int):Opn:=⟨o.kind,o.client,o.seq,o.ak,o.aw,tk,tw,it,ct,pr,bu,id⟩
theorem EJ7{tk tw:ByteArray}{it ct pr:Int}{bu:Bool}{id:Int}:(xO o tk tw it ct pr bu id).eqB o=(decide (tk.toList=o.tk.toList)&&(decide (tw.toList=o.tw.toList)&&(decide (it=o.item)&&(decide (ct=o.cnt)&&(decide (pr=o.price)&&(decide (bu=o.buy)&&decide (id=o.id))))))):=by unfold Opn.eqB;simp
theorem fw4(h:K6 o=true)(hk:o.kind=1\/o.kind=6)(hc:N6 o=true):C5 o=(xO o ⟨#[]⟩ ⟨#[]⟩ o.item o.cnt 0 false 0).eqB o:=by
 have hkb:M7 o=B9 o:=by
  unfold M7
  rcases hk with e|e <;> rw[e] <;> simp
 unfold C5;rw[h,hkb,EJ7,BK7,BK7];unfold B9 ei4;rw[hc]
 cases o.buy <;> simp[eq_comm]
theorem FB7(h:K6 o=true)(hk:o.kind=1\/o.kind=6)(hc:N6 o=false):C5 o=false:=by
 have hkb:M7 o=B9 o:=by
  unfold M7
  rcases hk with e|e <;> rw[e] <;> simp
 unfold C5;rw[h,hkb];unfold B9;rw[hc];rfl
theorem gO4(h:K6 o=true)(hk:o.kind=2)(hc:N6 o=true)(hp:ax4 o.tk o.tw=true):C5 o=(xO o o.tk o.tw o.item o.cnt 0 false 0).eqB o:=by
 have hkb:M7 o=R6 o:=by unfold M7;rw[hk];simp
 unfold C5;rw[h,hkb,EJ7];unfold R6;rw[hc,hp]
 cases o.buy <;> simp[eq_comm]
theorem EK7(h:K6 o=true)(hk:o.kind=2)(hc:N6 o=false\/ax4 o.tk o.tw=false):C5 o=false:=by
 have hkb:M7 o=R6 o:=by unfold M7;rw[hk];simp
 unfold C5;rw[h,hkb];unfold R6
 rcases hc with e|e <;> rw[e] <;> simp
theorem gP4(h:K6 o=true)(hk:o.kind=3)(h1:1<=o.item)(hc:N6 o=true)(hp:1<=o.price)(hp2:o.price<=1024):C5 o=(xO o ⟨#[]⟩ ⟨#[]⟩ o.item o.cnt o.price o.buy 0).eqB o:=by
 have hkb:M7 o=N9 o:=by unfold M7;rw[hk];simp
 unfold C5;rw[h,hkb,EJ7,BK7,BK7];unfold N9;rw[hc,decide_eq_true h1,decide_eq_true hp,decide_eq_true hp2];simp[eq_comm]
theorem HG7(h:K6 o=true)(hk:o.kind=3)(hc:¬1<=o.item\/N6 o=false\/¬1<=o.price\/¬o.price<=1024):C5 o=false:=by
 have hkb:M7 o=N9 o:=by unfold M7;rw[hk];simp
 unfold C5;rw[h,hkb];unfold N9
 rcases hc with e|e|e|e
 ·rw[decide_eq_false e];simp
 ·rw[e];simp
 ·rw[decide_eq_false e];simp
 ·rw[decide_eq_false e];simp
theorem gQ4(h:K6 o=true)(hk:o.kind=4)(h1:1<=o.id)(h2:o.id<=1099511627776):C5 o=(xO o ⟨#[]⟩ ⟨#[]⟩ 0 0 0 false o.id).eqB o:=by
 have hkb:M7 o=M6 o:=by unfold M7;rw[hk];simp
 unfold C5;rw[h,hkb,EJ7,BK7,BK7];unfold M6;rw[decide_eq_true h1,decide_eq_true h2]
 cases o.buy <;> simp[eq_comm]
theorem SS7(h:K6 o=true)(hk:o.kind=4)(hc:¬1<=o.id\/¬o.id<=1099511627776):C5 o=false:=by
 have hkb:M7 o=M6 o:=by unfold M7;rw[hk];simp
 unfold C5;rw[h,hkb];unfold M6
 rcases hc with e|e <;> rw[decide_eq_false e] <;> simp
theorem fx4(h:K6 o=true)(hk:o.kind=5\/o.kind=7):C5 o=(xO o ⟨#[]⟩ ⟨#[]⟩ 0 0 0 false 0).eqB o:=by
 have hkb:M7 o=ch4 o:=by
  unfold M7
  rcases hk with e|e <;> rw[e] <;> simp
 unfold C5;rw[h,hkb,EJ7,BK7,BK7];unfold ch4
 cases o.buy <;> simp[eq_comm]
theorem Vj7(hk:M7 o=false):C5 o=false:=by unfold C5;rw[hk];simp
theorem EL7(h:K6 o=false):C5 o=false:=by unfold C5;rw[h];rfl
end
theorem GV7{k:ByteArray}{r:Bool}(h:C8 k=r)(W w:World)(R:List HP)(hS:St W R w):
  Calls Tryz.prog 115 #[.string k] w fun e w'=>e=.returned (.bool r)/\St W R w':=by
 go_enter Tryz.func115,Tryz.ntmps115;by_cases h1:1<=k.size
 case neg=>
  have e:=jH (show r=false by rw[<-h];unfold C8;simp;omega);have d1:decide ((1:Int)<=(k.size:Int))=false:=by simp;omega
  clear h;go_wp2_with(fail);go_ret;rw[e.out];exact⟨rfl,hS⟩
 have d1:(1:Int)<=(k.size:Int):=by omega
 by_cases h2:k.size<=16
 case neg=>
  have e:=jH (show r=false by rw[<-h];unfold C8;simp;omega);have d2:decide ((k.size:Int)<=16)=false:=by simp;omega
  clear h;go_wp2_with(fail);go_ret;rw[e.out];exact⟨rfl,hS⟩
 have d2:(k.size:Int)<=16:=by omega
 have e:=jH (show r=true by rw[<-h];unfold C8;simp;omega);clear h;go_wp2_with(fail);go_ret;rw[e.out];exact⟨rfl,hS⟩
theorem AY7{k u:ByteArray}{r:Bool}(h:ax4 k u=r)(W w:World)(R:List HP)(hS:St W R w):
  Calls Tryz.prog 179 #[.agg #[.string k,.string u]] w fun e w'=>e=.returned (.bool r)/\St W R w':=by
 unfold ax4 at h
 cases hk:C8 k with
 | false=>
  rw[hk]at h;have h2:false=r:=h;subst h2;have Hk:=jH hk;clear hk h;go_enter Tryz.func179,Tryz.ntmps179;go_wp2_with(first|go_big_skip|refine zbx hS ?_;clear hS;intro b w hS|refine zl1 hS ?_|go_at_call 115;with_reducible refine(GV7 (Hk.out) W _ _ hS).mono ?_;clear hS;rintro e w ⟨rfl,hS⟩);go_ret;exact⟨rfl,hS.drop⟩
 | true=>
  rw[hk]at h;have hu:C8 u=r:=h;have Hk:=jH hk;have Hu:=jH hu;clear hk h hu;go_enter Tryz.func179,Tryz.ntmps179;go_wp2_with(first|refine zbx hS ?_;clear hS;intro b w hS|refine zl1 hS ?_|go_at_call 115;with_reducible refine(GV7 (Hk.out) W _ _ hS).mono ?_;clear hS;rintro e w ⟨rfl,hS⟩|go_at_call 115;with_reducible refine(GV7 (Hu.out) W _ _ hS).mono ?_;clear hS;rintro e w ⟨rfl,hS⟩);go_ret;exact⟨rfl,hS.drop⟩
theorem CW7{a0 a1 a2 a7 a8 a9 a11 b0 b1 b2 b7 b8 b9 b11:Int}{a3 a4 a5 a6 b3 b4 b5 b6:ByteArray}{a10 b10 r:Bool}(h:Opn.eqB ⟨a0,a1,a2,a3,a4,a5,a6,a7,a8,a9,a10,a11⟩ ⟨b0,b1,b2,b3,b4,b5,b6,b7,b8,b9,b10,b11⟩=r)(w:World):
  (Op.equalIn 10000 35 (oV a0 a1 a2 a3 a4 a5 a6 a7 a8 a9 a10 a11) (oV b0 b1 b2 b3 b4 b5 b6 b7 b8 b9 b10 b11)).run Tryz.prog w=.ok r w:=h▸gN4 ⟨a0,a1,a2,a3,a4,a5,a6,a7,a8,a9,a10,a11⟩ ⟨b0,b1,b2,b3,b4,b5,b6,b7,b8,b9,b10,b11⟩ w
abbrev tB19a:List Nat:=[0,1,0,4,3,19,63,127]
theorem Iu7{kd cl sq:Int}{ak aw tk tw:ByteArray}{it ct pr:Int}{bu:Bool}{id:Int}{r:Bool}(hm:C5 ⟨kd,cl,sq,ak,aw,tk,tw,it,ct,pr,bu,id⟩=r)(W w:World)(R:List HP)(hS:St W R w):
  Calls Tryz.prog 113 #[oV kd cl sq ak aw tk tw it ct pr bu id] w fun e w'=>e=.returned (.bool r)/\St W R w':=by
 have Hm:=jH hm;clear hm;go_enter Tryz.func113,Tryz.ntmps113;by_cases h1:1<=cl
 case neg=>
  have d1:decide (cl<1)=true:=by simp;omega
  have e:=jH (show r=false by rw[<-Hm.out];refine EL7 ?_;unfold K6;simp;omega);go_wp2_with(first|go_big_skip|refine zbx hS ?_;clear hS;intro bO w hS|refine zl1 hS ?_);go_ret;rw[e.out];exact⟨rfl,hS.drop⟩
 have d1:decide (cl<1)=false:=by simp;omega
 by_cases h2:cl<=1048576
 case neg=>
  have d2:decide (1048576<cl)=true:=by simp;omega
  have e:=jH (show r=false by rw[<-Hm.out];refine EL7 ?_;unfold K6;simp;omega);go_wp2_with(first|go_big_skip|refine zbx hS ?_;clear hS;intro bO w hS|refine zl1 hS ?_);go_ret;rw[e.out];exact⟨rfl,hS.drop⟩
 have d2:decide (1048576<cl)=false:=by simp;omega
 by_cases h3:1<=sq
 case neg=>
  have d3:decide (sq<1)=true:=by simp;omega
  have e:=jH (show r=false by rw[<-Hm.out];refine EL7 ?_;unfold K6;simp;omega);go_wp2_with(first|go_big_skip|refine zbx hS ?_;clear hS;intro bO w hS|refine zl1 hS ?_);go_ret;rw[e.out];exact⟨rfl,hS.drop⟩
 have d3:decide (sq<1)=false:=by simp;omega
 by_cases h4:sq<=1099511627776
 case neg=>
  have d4:decide (1099511627776<sq)=true:=by simp;omega
  have e:=jH (show r=false by rw[<-Hm.out];refine EL7 ?_;unfold K6;simp;omega);go_wp2_with(first|go_big_skip|refine zbx hS ?_;clear hS;intro bO w hS|refine zl1 hS ?_);go_ret;rw[e.out];exact⟨rfl,hS.drop⟩
 have d4:decide (1099511627776<sq)=false:=by simp;omega
 cases hpa:ax4 ak aw with
 | false=>
  have Hpa:=jH hpa;have e:=jH (show r=false by rw[<-Hm.out];refine EL7 ?_;unfold K6;simp[hpa]);go_wp2_with(first|refine zbx hS ?_;clear hS;intro bO w hS|refine zl1 hS ?_|refine zlN hS ?_ (vs:=[.string ak,.string aw]) (hc:=by focus((repeat(first|exact i8.here rfl|apply i8.there));done))|go_at_call 179;with_reducible refine(AY7 Hpa.out W _ _ hS).mono ?_;clear hS;rintro e w ⟨rfl,hS⟩);go_ret;rw[e.out];exact⟨rfl,hS.drop⟩
 | true=>
 have Hpa:=jH hpa;have hh:K6 ⟨kd,cl,sq,ak,aw,tk,tw,it,ct,pr,bu,id⟩=true:=by unfold K6;simp[hpa];omega
 have Hh:=jH hh;clear hpa hh h1 h2 h3 h4;by_cases k1:kd=1
 ·subst k1;go_wp2_with(first|refine zbx hS ?_;clear hS;intro bO w hS|refine zl1 hS ?_|refine zlN hS ?_ (vs:=[.string ak,.string aw]) (hc:=by focus((repeat(first|exact i8.here rfl|apply i8.there));done))|go_at_call 179;with_reducible refine(AY7 Hpa.out W _ _ hS).mono ?_;clear hS;rintro e w ⟨rfl,hS⟩|refine zal hS ?_;clear hS;intro bX w hS|refine zsN hS ?_;clear hS;intro w hS);have hS1:=hS.s (blk bX _ _::blk bO _ _::R);clear hS;refine rf2 tB19a (fun _=>false) [⟨some 5,some 7,fun _=>blk bX [.I 1,.I cl,.I sq,.string ak,.string aw,.string ⟨#[]⟩,.string ⟨#[]⟩,.I it,.I 0,.I 0,.bool false,.I 0] 35⟩,⟨some 7,none,fun _=>blk bX [.I 1,.I cl,.I sq,.string ak,.string aw,.string ⟨#[]⟩,.string ⟨#[]⟩,.I it,.I ct,.I 0,.bool false,.I 0] 35⟩] [some 5,none] hS1 ?_;clear hS1;intro nd;refine cR ?_;refine zc1 ?_;refine cR ?_;refine zc1 ?_;refine cR ?_;refine zcs ?_;refine cR ?_;refine zcs ?_;refine Ad7 ?_;intro w hS;have hS2:St W [blk bX _ _,blk bO _ _,sats R] w:=hS;clear hS;have hS:=hS2.unpack [_,_];clear hS2;simp only[jK,jN]at hS;by_cases c1:0<=it
  case neg=>
   have d1:decide (0<=it)=false:=by simpa using c1
   have e:=jH (show r=false by rw[<-Hm.out];exact FB7 Hh.out (.inl rfl) (by unfold N6;simp;omega));go_wp2_with(first|go_big_skip|refine zl1 hS ?_);go_ret;rw[e.out];exact⟨rfl,hS.drop.drop⟩
  by_cases c2:it<=3
  case neg=>
   have d2:decide (it<=3)=false:=by simpa using c2
   have e:=jH (show r=false by rw[<-Hm.out];exact FB7 Hh.out (.inl rfl) (by unfold N6;simp;omega));go_wp2_with(first|go_big_skip|refine zl1 hS ?_);go_ret;rw[e.out];exact⟨rfl,hS.drop.drop⟩
  by_cases c3:1<=ct
  case neg=>
   have d3:decide (1<=ct)=false:=by simpa using c3
   have e:=jH (show r=false by rw[<-Hm.out];exact FB7 Hh.out (.inl rfl) (by unfold N6;simp;omega));go_wp2_with(first|go_big_skip|refine zl1 hS ?_);go_ret;rw[e.out];exact⟨rfl,hS.drop.drop⟩
  by_cases c4:ct<=1048576
  case neg=>
   have d4:decide (ct<=1048576)=false:=by simpa using c4
   have e:=jH (show r=false by rw[<-Hm.out];exact FB7 Hh.out (.inl rfl) (by unfold N6;simp;omega));go_wp2_with(first|go_big_skip|refine zl1 hS ?_);go_ret;rw[e.out];exact⟨rfl,hS.drop.drop⟩
  have He:=jH (show Opn.eqB ⟨1,cl,sq,ak,aw,⟨#[]⟩,⟨#[]⟩,it,ct,0,false,0⟩ ⟨1,cl,sq,ak,aw,tk,tw,it,ct,pr,bu,id⟩=r by rw[<-Hm.out];exact(fw4 Hh.out (.inl rfl) (by unfold N6;simp;omega)).symm);go_wp2_with(first|refine zl1 hS ?_|refine zlN hS ?_|(with_reducible apply Co7);rfl;rfl;rfl;rfl;kernel_rfl;exact CW7 He.out;refine frS ?_);go_ret;exact⟨rfl,hS.drop.drop⟩
 by_cases k6:kd=6
 ·subst k6;go_wp2_with(first|refine zbx hS ?_;clear hS;intro bO w hS|refine zl1 hS ?_|refine zlN hS ?_ (vs:=[.string ak,.string aw]) (hc:=by focus((repeat(first|exact i8.here rfl|apply i8.there));done))|go_at_call 179;with_reducible refine(AY7 Hpa.out W _ _ hS).mono ?_;clear hS;rintro e w ⟨rfl,hS⟩|refine zal hS ?_;clear hS;intro bX w hS|refine zsN hS ?_;clear hS;intro w hS);have hS1:=hS.s (blk bX _ _::blk bO _ _::R);clear hS;refine rf2 tB19a (fun _=>false) [⟨some 5,some 7,fun _=>blk bX [.I 6,.I cl,.I sq,.string ak,.string aw,.string ⟨#[]⟩,.string ⟨#[]⟩,.I it,.I 0,.I 0,.bool false,.I 0] 35⟩,⟨some 7,none,fun _=>blk bX [.I 6,.I cl,.I sq,.string ak,.string aw,.string ⟨#[]⟩,.string ⟨#[]⟩,.I it,.I ct,.I 0,.bool false,.I 0] 35⟩] [some 5,none] hS1 ?_;clear hS1;intro nd;refine cR ?_;refine zc1 ?_;refine cR ?_;refine zc1 ?_;refine cR ?_;refine zcs ?_;refine cR ?_;refine zcs ?_;refine Ad7 ?_;intro w hS;have hS2:St W [blk bX _ _,blk bO _ _,sats R] w:=hS;clear hS;have hS:=hS2.unpack [_,_];clear hS2;simp only[jK,jN]at hS;by_cases c1:0<=it
  case neg=>
   have d1:decide (0<=it)=false:=by simpa using c1
   have e:=jH (show r=false by rw[<-Hm.out];exact FB7 Hh.out (.inr rfl) (by unfold N6;simp;omega));go_wp2_with(first|go_big_skip|refine zl1 hS ?_);go_ret;rw[e.out];exact⟨rfl,hS.drop.drop⟩
  by_cases c2:it<=3
  case neg=>
   have d2:decide (it<=3)=false:=by simpa using c2
   have e:=jH (show r=false by rw[<-Hm.out];exact FB7 Hh.out (.inr rfl) (by unfold N6;simp;omega));go_wp2_with(first|go_big_skip|refine zl1 hS ?_);go_ret;rw[e.out];exact⟨rfl,hS.drop.drop⟩
  by_cases c3:1<=ct
  case neg=>
   have d3:decide (1<=ct)=false:=by simpa using c3
   have e:=jH (show r=false by rw[<-Hm.out];exact FB7 Hh.out (.inr rfl) (by unfold N6;simp;omega));go_wp2_with(first|go_big_skip|refine zl1 hS ?_);go_ret;rw[e.out];exact⟨rfl,hS.drop.drop⟩
  by_cases c4:ct<=1048576
  case neg=>
   have d4:decide (ct<=1048576)=false:=by simpa using c4
   have e:=jH (show r=false by rw[<-Hm.out];exact FB7 Hh.out (.inr rfl) (by unfold N6;simp;omega));go_wp2_with(first|go_big_skip|refine zl1 hS ?_);go_ret;rw[e.out];exact⟨rfl,hS.drop.drop⟩
  have He:=jH (show Opn.eqB ⟨6,cl,sq,ak,aw,⟨#[]⟩,⟨#[]⟩,it,ct,0,false,0⟩ ⟨6,cl,sq,ak,aw,tk,tw,it,ct,pr,bu,id⟩=r by rw[<-Hm.out];exact(fw4 Hh.out (.inr rfl) (by unfold N6;simp;omega)).symm);go_wp2_with(first|refine zl1 hS ?_|refine zlN hS ?_|(with_reducible apply Co7);rfl;rfl;rfl;rfl;kernel_rfl;exact CW7 He.out;refine frS ?_);go_ret;exact⟨rfl,hS.drop.drop⟩
 by_cases k2:kd=2
 ·subst k2;go_wp2_with(first|refine zbx hS ?_;clear hS;intro bO w hS|refine zl1 hS ?_|refine zlN hS ?_ (vs:=[.string ak,.string aw]) (hc:=by focus((repeat(first|exact i8.here rfl|apply i8.there));done))|go_at_call 179;with_reducible refine(AY7 Hpa.out W _ _ hS).mono ?_;clear hS;rintro e w ⟨rfl,hS⟩|refine zal hS ?_;clear hS;intro bX w hS|refine zsN hS ?_;clear hS;intro w hS);have hS1:=hS.s (blk bX _ _::blk bO _ _::R);clear hS;refine rf2 [0,1,0,4,0,16,3,67,207,463,1023,2047] (fun _=>false) [⟨some 7,some 9,fun _=>blk bX [.I 2,.I cl,.I sq,.string ak,.string aw,.string ⟨#[]⟩,.string ⟨#[]⟩,.I it,.I 0,.I 0,.bool false,.I 0] 35⟩,⟨some 9,some 11,fun _=>blk bX [.I 2,.I cl,.I sq,.string ak,.string aw,.string ⟨#[]⟩,.string ⟨#[]⟩,.I it,.I ct,.I 0,.bool false,.I 0] 35⟩,⟨some 11,none,fun _=>blk bX [.I 2,.I cl,.I sq,.string ak,.string aw,.string tk,.string tw,.I it,.I ct,.I 0,.bool false,.I 0] 35⟩] [some 7,none] hS1 ?_;clear hS1;intro nd;refine cR ?_;refine zc1 ?_;refine cR ?_;refine zc1 ?_;refine cR ?_;refine zcN ?_ (vs:=[.string tk,.string tw]) (hc:=by(intro F;focus((repeat(first|exact i8.here rfl));done)));refine cR ?_;refine zcs ?_;refine cR ?_;refine zcs ?_;refine cR ?_;refine zcs ?_;refine Ad7 ?_;intro w hS;have hS2:St W [blk bX _ _,blk bO _ _,sats R] w:=hS;clear hS;have hS:=hS2.unpack [_,_];clear hS2;simp only[jK,jN]at hS
  cases hpt:ax4 tk tw with
  | false=>
   have Hpt:=jH hpt;by_cases c1:0<=it
   case neg=>
    have d1:decide (0<=it)=false:=by simpa using c1
    have e:=jH (show r=false by rw[<-Hm.out];exact EK7 Hh.out rfl (.inr hpt));go_wp2_with(first|go_big_skip|refine zl1 hS ?_);go_ret;rw[e.out];exact⟨rfl,hS.drop.drop⟩
   by_cases c2:it<=3
   case neg=>
    have d2:decide (it<=3)=false:=by simpa using c2
    have e:=jH (show r=false by rw[<-Hm.out];exact EK7 Hh.out rfl (.inr hpt));go_wp2_with(first|go_big_skip|refine zl1 hS ?_);go_ret;rw[e.out];exact⟨rfl,hS.drop.drop⟩
   by_cases c3:1<=ct
   case neg=>
    have d3:decide (1<=ct)=false:=by simpa using c3
    have e:=jH (show r=false by rw[<-Hm.out];exact EK7 Hh.out rfl (.inr hpt));go_wp2_with(first|go_big_skip|refine zl1 hS ?_);go_ret;rw[e.out];exact⟨rfl,hS.drop.drop⟩
   by_cases c4:ct<=1048576
   case neg=>
    have d4:decide (ct<=1048576)=false:=by simpa using c4
    have e:=jH (show r=false by rw[<-Hm.out];exact EK7 Hh.out rfl (.inr hpt));go_wp2_with(first|go_big_skip|refine zl1 hS ?_);go_ret;rw[e.out];exact⟨rfl,hS.drop.drop⟩
   have e:=jH (show r=false by rw[<-Hm.out];exact EK7 Hh.out rfl (.inr hpt));go_wp2_with(first|go_big_skip|refine zl1 hS ?_|refine zlN hS ?_ (vs:=[.string tk,.string tw]) (hc:=by focus((repeat(first|exact i8.here rfl|apply i8.there));done))|go_at_call 179;with_reducible refine(AY7 Hpt.out W _ _ hS).mono ?_;clear hS;rintro e w ⟨rfl,hS⟩);go_ret;rw[e.out];exact⟨rfl,hS.drop.drop⟩
  | true=>
   have Hpt:=jH hpt;by_cases c1:0<=it
   case neg=>
    have d1:decide (0<=it)=false:=by simpa using c1
    have e:=jH (show r=false by rw[<-Hm.out];exact EK7 Hh.out rfl (.inl (by unfold N6;simp;omega)));go_wp2_with(first|go_big_skip|refine zl1 hS ?_);go_ret;rw[e.out];exact⟨rfl,hS.drop.drop⟩
   by_cases c2:it<=3
   case neg=>
    have d2:decide (it<=3)=false:=by simpa using c2
    have e:=jH (show r=false by rw[<-Hm.out];exact EK7 Hh.out rfl (.inl (by unfold N6;simp;omega)));go_wp2_with(first|go_big_skip|refine zl1 hS ?_);go_ret;rw[e.out];exact⟨rfl,hS.drop.drop⟩
   by_cases c3:1<=ct
   case neg=>
    have d3:decide (1<=ct)=false:=by simpa using c3
    have e:=jH (show r=false by rw[<-Hm.out];exact EK7 Hh.out rfl (.inl (by unfold N6;simp;omega)));go_wp2_with(first|go_big_skip|refine zl1 hS ?_);go_ret;rw[e.out];exact⟨rfl,hS.drop.drop⟩
   by_cases c4:ct<=1048576
   case neg=>
    have d4:decide (ct<=1048576)=false:=by simpa using c4
    have e:=jH (show r=false by rw[<-Hm.out];exact EK7 Hh.out rfl (.inl (by unfold N6;simp;omega)));go_wp2_with(first|go_big_skip|refine zl1 hS ?_);go_ret;rw[e.out];exact⟨rfl,hS.drop.drop⟩
   have He:=jH (show Opn.eqB ⟨2,cl,sq,ak,aw,tk,tw,it,ct,0,false,0⟩ ⟨2,cl,sq,ak,aw,tk,tw,it,ct,pr,bu,id⟩=r by rw[<-Hm.out];exact(gO4 Hh.out rfl (by unfold N6;simp;omega) hpt).symm);go_wp2_with(first|refine zl1 hS ?_|refine zlN hS ?_|refine zlN hS ?_ (vs:=[.string tk,.string tw]) (hc:=by focus((repeat(first|exact i8.here rfl|apply i8.there));done))|go_at_call 179;with_reducible refine(AY7 Hpt.out W _ _ hS).mono ?_;clear hS;rintro e w ⟨rfl,hS⟩|(with_reducible apply Co7);rfl;rfl;rfl;rfl;kernel_rfl;exact CW7 He.out;refine frS ?_);go_ret;exact⟨rfl,hS.drop.drop⟩
 by_cases k3:kd=3
 ·subst k3;go_wp2_with(first|refine zbx hS ?_;clear hS;intro bO w hS|refine zl1 hS ?_|refine zlN hS ?_ (vs:=[.string ak,.string aw]) (hc:=by focus((repeat(first|exact i8.here rfl|apply i8.there));done))|go_at_call 179;with_reducible refine(AY7 Hpa.out W _ _ hS).mono ?_;clear hS;rintro e w ⟨rfl,hS⟩|refine zal hS ?_;clear hS;intro bX w hS|refine zsN hS ?_;clear hS;intro w hS);have hS1:=hS.s (blk bX _ _::blk bO _ _::R);clear hS;refine rf2 [0,1,0,4,0,16,0,64,3,259,783,1807,3903,7999,16383,32767] (fun _=>false) [⟨some 9,some 11,fun _=>blk bX [.I 3,.I cl,.I sq,.string ak,.string aw,.string ⟨#[]⟩,.string ⟨#[]⟩,.I it,.I 0,.I 0,.bool false,.I 0] 35⟩,⟨some 11,some 13,fun _=>blk bX [.I 3,.I cl,.I sq,.string ak,.string aw,.string ⟨#[]⟩,.string ⟨#[]⟩,.I it,.I ct,.I 0,.bool false,.I 0] 35⟩,⟨some 13,some 15,fun _=>blk bX [.I 3,.I cl,.I sq,.string ak,.string aw,.string ⟨#[]⟩,.string ⟨#[]⟩,.I it,.I ct,.I pr,.bool false,.I 0] 35⟩,⟨some 15,none,fun _=>blk bX [.I 3,.I cl,.I sq,.string ak,.string aw,.string ⟨#[]⟩,.string ⟨#[]⟩,.I it,.I ct,.I pr,.bool bu,.I 0] 35⟩] [some 9,none] hS1 ?_;clear hS1;intro nd;refine cR ?_;refine zc1 ?_;refine cR ?_;refine zc1 ?_;refine cR ?_;refine zc1 ?_;refine cR ?_;refine zc1 ?_;refine cR ?_;refine zcs ?_;refine cR ?_;refine zcs ?_;refine cR ?_;refine zcs ?_;refine cR ?_;refine zcs ?_;refine Ad7 ?_;intro w hS;have hS2:St W [blk bX _ _,blk bO _ _,sats R] w:=hS;clear hS;have hS:=hS2.unpack [_,_];clear hS2;simp only[jK,jN]at hS;by_cases c1:1<=it
  case neg=>
   have d1:decide (1<=it)=false:=by simpa using c1
   have e:=jH (show r=false by rw[<-Hm.out];exact HG7 Hh.out rfl (.inl c1));go_wp2_with(first|go_big_skip|refine zl1 hS ?_);go_ret;rw[e.out];exact⟨rfl,hS.drop.drop⟩
  by_cases c2:it<=3
  case neg=>
   have d2:decide (it<=3)=false:=by simpa using c2
   have e:=jH (show r=false by rw[<-Hm.out];exact HG7 Hh.out rfl (.inr (.inl (by unfold N6;simp;omega))));go_wp2_with(first|go_big_skip|refine zl1 hS ?_);go_ret;rw[e.out];exact⟨rfl,hS.drop.drop⟩
  by_cases c3:1<=ct
  case neg=>
   have d3:decide (1<=ct)=false:=by simpa using c3
   have e:=jH (show r=false by rw[<-Hm.out];exact HG7 Hh.out rfl (.inr (.inl (by unfold N6;simp;omega))));go_wp2_with(first|go_big_skip|refine zl1 hS ?_);go_ret;rw[e.out];exact⟨rfl,hS.drop.drop⟩
  by_cases c4:ct<=1048576
  case neg=>
   have d4:decide (ct<=1048576)=false:=by simpa using c4
   have e:=jH (show r=false by rw[<-Hm.out];exact HG7 Hh.out rfl (.inr (.inl (by unfold N6;simp;omega))));go_wp2_with(first|go_big_skip|refine zl1 hS ?_);go_ret;rw[e.out];exact⟨rfl,hS.drop.drop⟩
  by_cases c5:1<=pr
  case neg=>
   have d5:decide (1<=pr)=false:=by simpa using c5
   have e:=jH (show r=false by rw[<-Hm.out];exact HG7 Hh.out rfl (.inr (.inr (.inl c5))));go_wp2_with(first|go_big_skip|refine zl1 hS ?_);go_ret;rw[e.out];exact⟨rfl,hS.drop.drop⟩
  by_cases c6:pr<=1024
  case neg=>
   have d6:decide (pr<=1024)=false:=by simpa using c6
   have e:=jH (show r=false by rw[<-Hm.out];exact HG7 Hh.out rfl (.inr (.inr (.inr c6))));go_wp2_with(first|go_big_skip|refine zl1 hS ?_);go_ret;rw[e.out];exact⟨rfl,hS.drop.drop⟩
  have He:=jH (show Opn.eqB ⟨3,cl,sq,ak,aw,⟨#[]⟩,⟨#[]⟩,it,ct,pr,bu,0⟩ ⟨3,cl,sq,ak,aw,tk,tw,it,ct,pr,bu,id⟩=r by rw[<-Hm.out];exact(gP4 Hh.out rfl c1 (by unfold N6;simp;omega) c5 c6).symm);go_wp2_with(first|refine zl1 hS ?_|refine zlN hS ?_|(with_reducible apply Co7);rfl;rfl;rfl;rfl;kernel_rfl;exact CW7 He.out;refine frS ?_);go_ret;exact⟨rfl,hS.drop.drop⟩
 by_cases k4:kd=4
 ·subst k4;by_cases c1:1<=id
  case neg=>
   have dj:decide (1<=id)=false:=by simpa using c1
   have e:=jH (show r=false by rw[<-Hm.out];exact SS7 Hh.out rfl (.inl c1));go_wp2_with(first|go_big_skip|refine zbx hS ?_;clear hS;intro bO w hS|refine zl1 hS ?_|refine zlN hS ?_ (vs:=[.string ak,.string aw]) (hc:=by focus((repeat(first|exact i8.here rfl|apply i8.there));done))|go_at_call 179;with_reducible refine(AY7 Hpa.out W _ _ hS).mono ?_;clear hS;rintro e w ⟨rfl,hS⟩|refine zal hS ?_;clear hS;intro bX w hS|refine zsN hS ?_;clear hS;intro w hS|refine zs1 hS ?_;clear hS;intro w hS);go_ret;rw[e.out];exact⟨rfl,hS.drop.drop⟩
  by_cases c2:id<=1099511627776
  case neg=>
   have dk:decide (id<=1099511627776)=false:=by simpa using c2
   have e:=jH (show r=false by rw[<-Hm.out];exact SS7 Hh.out rfl (.inr c2));go_wp2_with(first|go_big_skip|refine zbx hS ?_;clear hS;intro bO w hS|refine zl1 hS ?_|refine zlN hS ?_ (vs:=[.string ak,.string aw]) (hc:=by focus((repeat(first|exact i8.here rfl|apply i8.there));done))|go_at_call 179;with_reducible refine(AY7 Hpa.out W _ _ hS).mono ?_;clear hS;rintro e w ⟨rfl,hS⟩|refine zal hS ?_;clear hS;intro bX w hS|refine zsN hS ?_;clear hS;intro w hS|refine zs1 hS ?_;clear hS;intro w hS);go_ret;rw[e.out];exact⟨rfl,hS.drop.drop⟩
  have He:=jH (show Opn.eqB ⟨4,cl,sq,ak,aw,⟨#[]⟩,⟨#[]⟩,0,0,0,false,id⟩ ⟨4,cl,sq,ak,aw,tk,tw,it,ct,pr,bu,id⟩=r by rw[<-Hm.out];exact(gQ4 Hh.out rfl c1 c2).symm);go_wp2_with(first|refine zbx hS ?_;clear hS;intro bO w hS|refine zl1 hS ?_|refine zlN hS ?_|refine zlN hS ?_ (vs:=[.string ak,.string aw]) (hc:=by focus((repeat(first|exact i8.here rfl|apply i8.there));done))|go_at_call 179;with_reducible refine(AY7 Hpa.out W _ _ hS).mono ?_;clear hS;rintro e w ⟨rfl,hS⟩|refine zal hS ?_;clear hS;intro bX w hS|refine zsN hS ?_;clear hS;intro w hS|refine zs1 hS ?_;clear hS;intro w hS|(with_reducible apply Co7);rfl;rfl;rfl;rfl;kernel_rfl;exact CW7 He.out;refine frS ?_);go_ret;exact⟨rfl,hS.drop.drop⟩
 by_cases k5:kd=5
 ·subst k5;have He:=jH (show Opn.eqB ⟨5,cl,sq,ak,aw,⟨#[]⟩,⟨#[]⟩,0,0,0,false,0⟩ ⟨5,cl,sq,ak,aw,tk,tw,it,ct,pr,bu,id⟩=r by rw[<-Hm.out];exact(fx4 Hh.out (.inl rfl)).symm);go_wp2_with(first|refine zbx hS ?_;clear hS;intro bO w hS|refine zl1 hS ?_|refine zlN hS ?_|refine zlN hS ?_ (vs:=[.string ak,.string aw]) (hc:=by focus((repeat(first|exact i8.here rfl|apply i8.there));done))|go_at_call 179;with_reducible refine(AY7 Hpa.out W _ _ hS).mono ?_;clear hS;rintro e w ⟨rfl,hS⟩|refine zal hS ?_;clear hS;intro bX w hS|refine zsN hS ?_;clear hS;intro w hS|(with_reducible apply Co7);rfl;rfl;rfl;rfl;kernel_rfl;exact CW7 He.out;refine frS ?_);go_ret;exact⟨rfl,hS.drop.drop⟩
 by_cases k7:kd=7
 ·subst k7;have He:=jH (show Opn.eqB ⟨7,cl,sq,ak,aw,⟨#[]⟩,⟨#[]⟩,0,0,0,false,0⟩ ⟨7,cl,sq,ak,aw,tk,tw,it,ct,pr,bu,id⟩=r by rw[<-Hm.out];exact(fx4 Hh.out (.inr rfl)).symm);go_wp2_with(first|refine zbx hS ?_;clear hS;intro bO w hS|refine zl1 hS ?_|refine zlN hS ?_|refine zlN hS ?_ (vs:=[.string ak,.string aw]) (hc:=by focus((repeat(first|exact i8.here rfl|apply i8.there));done))|go_at_call 179;with_reducible refine(AY7 Hpa.out W _ _ hS).mono ?_;clear hS;rintro e w ⟨rfl,hS⟩|refine zal hS ?_;clear hS;intro bX w hS|refine zsN hS ?_;clear hS;intro w hS|(with_reducible apply Co7);rfl;rfl;rfl;rfl;kernel_rfl;exact CW7 He.out;refine frS ?_);go_ret;exact⟨rfl,hS.drop.drop⟩
 have f1:(kd==1)=false:=by simpa using k1
 have f2:(kd==2)=false:=by simpa using k2
 have f3:(kd==3)=false:=by simpa using k3
 have f4:(kd==4)=false:=by simpa using k4
 have f5:(kd==5)=false:=by simpa using k5
 have f6:(kd==6)=false:=by simpa using k6
 have f7:(kd==7)=false:=by simpa using k7
 have e:=jH (show r=false by rw[<-Hm.out];refine Vj7 ?_;unfold M7;simp[k1,k2,k3,k4,k5,k6,k7]);clear k1 k2 k3 k4 k5 k6 k7;go_wp2_with(first|go_big_skip|refine zbx hS ?_;clear hS;intro bO w hS|refine zl1 hS ?_|refine zlN hS ?_ (vs:=[.string ak,.string aw]) (hc:=by focus((repeat(first|exact i8.here rfl|apply i8.there));done))|go_at_call 179;with_reducible refine(AY7 Hpa.out W _ _ hS).mono ?_;clear hS;rintro e w ⟨rfl,hS⟩|refine zal hS ?_;clear hS;intro bX w hS|refine zsN hS ?_;clear hS;intro w hS);go_ret;rw[e.out];exact⟨rfl,hS.drop.drop⟩
def psD:List (Int×(Int×Rpl))->Int->Int->Rpl×Bool
 | [],_,_=>(rp0,false)
 | x::l,c,q=>if x.1=c then(if q<x.2.1 then(⟨13,0,it0⟩,true)else if q=x.2.1 then(x.2.2,true)else psD l c q)else psD l c q
theorem ST7{c q:Int}:∀{l:List (Int×(Int×Rpl))},(∀x∈l,x.1≠c)->psD l c q=(rp0,false)
 | [],_=>rfl
 | x::l,h=>by rw[psD,if_neg (h x (List.mem_cons_self ..))];exact ST7 fun y hy=>h y (List.mem_cons_of_mem _ hy)
theorem SU7{c q:Int}:∀{l:List (Int×(Int×Rpl))},(l.map (·.1)).Nodup->psD l c q=match m7 l c with
  | none=>(rp0,false)
  | some (q2,r)=>if q<q2 then(⟨13,0,it0⟩,true)else if q=q2 then(r,true)else(rp0,false)
 | [],_=>rfl
 | x::l,hn=>by
  rw[List.map_cons,List.nodup_cons]at hn;rw[psD,EG7];by_cases hx:x.1=c
  ·rw[if_pos hx,if_pos hx];obtain⟨x1,q2,r⟩:=x;simp only at hx ⊢;have hno:∀y∈l,y.1≠c:=fun y hy e=>hn.1 (List.mem_map.2 ⟨y,hy,e.trans hx.symm⟩)
   rw[ST7 hno]
  ·rw[if_neg hx,if_neg hx];exact SU7 hn.2
def aP4(d:Ec)(o:Opn):Rpl×Bool:=
 if C5 o=false then(⟨1,0,it0⟩,true)
 else if o.kind=6 then(rp0,(m7 d.ar (o.client,o.seq)).isSome)
 else if o.kind=7 then(rp0,decide (fdI d.ts (o.client,o.seq)<0))
 else psD d.ss o.client o.seq
theorem EM7{κ ν:Type}[DecidableEq κ](k:κ):∀l:List (κ×ν),decide (fdI l k<0)=(m7 l k).isNone
 | []=>by simp[fdI,m7]
 | x::l=>by
  have ih:=EM7 k l;have h:=JK7 k l;rw[fdI,EG7];by_cases hx:x.1=k
  ·rw[if_pos hx,if_pos hx];simp
  ·rw[if_neg hx,if_neg hx,<-ih];by_cases h0:fdI l k<0
   ·rw[if_pos h0];simp[h0]
   ·rw[if_neg h0,decide_eq_false h0];simp;omega
theorem Mm7{d:Ec}(hn:(d.ss.map (·.1)).Nodup)(o:Opn):aP4 d o=G9 d o:=by unfold aP4 G9;rw[EM7,SU7 hn];rfl
abbrev xeL(xb:Nat)(v1 v2 v3 v4:Value)(d:Ec)(R:List HP):List HP:=xeB xb v1 v2 v3 v4::xsP v2 d.ss::xtP v3 d.ts::xmP v4 d.ar::R
section
variable{d:Ec}{xb:Nat}{v1 v2 v3 v4:Value}{kd cl sq:Int}{ak aw tk tw:ByteArray}{it ct pr:Int}{bu:Bool}{id:Int}{W w:World}{R:List HP}
theorem RQ7(hm:C5 ⟨kd,cl,sq,ak,aw,tk,tw,it,ct,pr,bu,id⟩=false)(hS:St W (xeL xb v1 v2 v3 v4 d R) w):
  Calls Tryz.prog 48 #[.P xb,oV kd cl sq ak aw tk tw it ct pr bu id] w fun e w'=>e=.returned (.tuple #[rV 1 0 0 0 0 0,.bool true])/\St W (xeL xb v1 v2 v3 v4 d R) w':=by
 have Hm:=jH hm;clear hm;go_enter Tryz.func48,Tryz.ntmps48;go_wp2_with(first|refine zbx hS ?_;clear hS;intro bO w hS|refine zal hS ?_;clear hS;intro bR w hS|refine zlN hS ?_|refine zsN hS ?_;clear hS;intro w hS|go_at_call 113;refine(Iu7 Hm.out W _ _ hS).mono ?_;clear hS;rintro e w ⟨rfl,hS⟩);apply Ac7;rfl;rfl;rfl;rfl;exact hS;decide +kernel;(exact x9);kernel_rfl;exact⟨rfl,hS.drop.drop⟩
theorem PB7(hm:C5 ⟨6,cl,sq,ak,aw,tk,tw,it,ct,pr,bu,id⟩=true){b:Bool}(hb:(m7 d.ar (cl,sq)).isSome=b)(hS:St W (xeL xb v1 v2 v3 v4 d R) w):
  Calls Tryz.prog 48 #[.P xb,oV 6 cl sq ak aw tk tw it ct pr bu id] w fun e w'=>e=.returned (.tuple #[rV 0 0 0 0 0 0,.bool b])/\St W (xeL xb v1 v2 v3 v4 d R) w':=by
 have Hm:=jH hm;clear hm;have Hb:=jH hb;clear hb;go_enter Tryz.func48,Tryz.ntmps48;go_wp2_with(first|refine zbx hS ?_;clear hS;intro bO w hS|refine zal hS ?_;clear hS;intro bR w hS|refine zl1 hS ?_|refine zlN hS ?_|refine zsN hS ?_;clear hS;intro w hS|go_at_call 113;refine(Iu7 Hm.out W _ _ hS).mono ?_;clear hS;rintro e w ⟨rfl,hS⟩|go_at_call 82;refine(EH7 d.ar cl sq Hb.out xb v1 v2 v3 v4 W _ _ (hS.s (xeB xb v1 v2 v3 v4::xmP v4 d.ar::xsP v2 d.ss::xtP v3 d.ts::blk bR _ _::blk bO _ _::R))).mono ?_;clear hS;rintro e w ⟨rfl,hS⟩);apply Ac7;rfl;rfl;rfl;rfl;exact hS;decide +kernel;(exact x9);kernel_rfl;exact⟨rfl,hS.s _⟩
theorem KT7(hm:C5 ⟨7,cl,sq,ak,aw,tk,tw,it,ct,pr,bu,id⟩=true)(hk:TsK d.ts)(hS:St W (xeL xb v1 v2 v3 v4 d R) w):
  Calls Tryz.prog 48 #[.P xb,oV 7 cl sq ak aw tk tw it ct pr bu id] w fun e w'=>e=.returned (.tuple #[rV 0 0 0 0 0 0,.bool (decide (fdI d.ts (cl,sq)<0))])/\St W (xeL xb v1 v2 v3 v4 d R) w':=by
 have Hm:=jH hm;clear hm;obtain⟨r,hr⟩:∃r,fdI d.ts (cl,sq)=r:=⟨_,rfl⟩
 rw[hr];have Hr:=jH hr;clear hr;go_enter Tryz.func48,Tryz.ntmps48;go_wp2_with(first|refine zbx hS ?_;clear hS;intro bO w hS|refine zal hS ?_;clear hS;intro bR w hS|refine zl1 hS ?_|refine zlN hS ?_|refine zsN hS ?_;clear hS;intro w hS|go_at_call 113;refine(Iu7 Hm.out W _ _ hS).mono ?_;clear hS;rintro e w ⟨rfl,hS⟩|go_at_call 53;refine(GT7 d.ts hk cl sq Hr.out xb v1 v2 v3 v4 W _ _ (hS.s (xeB xb v1 v2 v3 v4::xtP v3 d.ts::xsP v2 d.ss::xmP v4 d.ar::blk bR _ _::blk bO _ _::R))).mono ?_;clear hS;rintro e w ⟨rfl,hS⟩);apply Ac7;rfl;rfl;rfl;rfl;exact hS;decide +kernel;(exact x9);kernel_rfl;exact⟨rfl,hS.s _⟩
def PkR(W:World)(L:List HP)(ss:List (Int×(Int×Rpl)))(c q:Int)(r:Rpl×Bool)(v:Value)(w:World):Prop:=
 ∃i:Nat,v=.I i/\i<=ss.length/\psD (ss.drop i) c q=r/\St W L w
theorem No7(hm:C5 ⟨kd,cl,sq,ak,aw,tk,tw,it,ct,pr,bu,id⟩=true)(h6:kd≠6)(h7:kd≠7){r0 r1 r2 r3 r4 r5:Int}{b:Bool}(hp:psD d.ss cl sq=(⟨r0,r1,⟨r2,r3,r4,r5⟩⟩,b))(hS:St W (xeL xb v1 v2 v3 v4 d R) w):
  Calls Tryz.prog 48 #[.P xb,oV kd cl sq ak aw tk tw it ct pr bu id] w fun e w'=>e=.returned (.tuple #[rV r0 r1 r2 r3 r4 r5,.bool b])/\St W (xeL xb v1 v2 v3 v4 d R) w':=by
 have Hm:=jH hm;have Hp:=jH hp;clear hm hp;have d6:(kd==6)=false:=by simpa using h6
 have d7:(kd==7)=false:=by simpa using h7
 clear h6 h7;obtain⟨a,cap,rfl⟩:=hS.drop.rowVal
 have h63:d.ss.length<=9223372036854775807:=by
  rcases St.rowCase hS.drop with ⟨_,h0,_⟩|⟨_,_,h1,h2⟩
  ·omega
  ·omega
 go_enter Tryz.func48,Tryz.ntmps48;go_wp2_with(first|refine zbx hS ?_;clear hS;intro bO w hS|refine zal hS ?_;clear hS;intro bR w hS|refine zl1 hS ?_|refine zlN hS ?_|go_at_call 113;refine(Iu7 Hm.out W _ _ hS).mono ?_;clear hS;rintro e w ⟨rfl,hS⟩);have hS1:=hS.s (xeB xb v1 (.slice a d.ss.length cap) v3 v4::xsP (.slice a d.ss.length cap) d.ss::blk bR _ _::blk bO _ _::xtP v3 d.ts::xmP v4 d.ar::R);clear hS;have hS:=hS1;clear hS1;generalize hss:d.ss=ss at hS Hp h63;have Hss:=jH hss;clear hss
 go_loopw [6] (fun v wr=>PkR W (xeB xb v1 (.slice a ss.length cap) v3 v4::xsP (.slice a ss.length cap) ss::blk bR [.I 0,.I 0,.I 0,.I 0,.I 0,.I 0] 31::blk bO [.I kd,.I cl,.I sq,.string ak,.string aw,.string tk,.string tw,.I it,.I ct,.I pr,.bool bu,.I id] 35::xtP v3 d.ts::xmP v4 d.ar::R) ss cl sq (⟨r0,r1,⟨r2,r3,r4,r5⟩⟩,b) v wr) (fun v _=>ss.length-(intOf v).toNat)
 case atStart=>exact⟨0,rfl,Nat.zero_le _,Hp.out,hS⟩
 case round=>
  clear hS Hp;obtain⟨i,rfl,hil,e1,hS⟩:=hrel;by_cases hin:i=ss.length
  ·subst hin;rw[List.drop_length]at e1;have e2:((rp0,false):Rpl×Bool)=(⟨r0,r1,⟨r2,r3,r4,r5⟩⟩,b):=e1
   injection e2 with e2 e3
   injection e2 with e4 e5 e6
   injection e6 with e6 e7 e8 e9
   subst e3 e4 e5 e6 e7 e8 e9;clear e1;go_wp2_with(first|refine zl1 hS ?_|refine zsN hS ?_;clear hS;intro w hS);apply Ac7;rfl;rfl;rfl;rfl;exact hS;decide +kernel;(exact x9);kernel_rfl;rw[<-Hss.out]at hS;exact⟨rfl,hS.s _⟩
  ·have hi1:i<ss.length:=by omega
   obtain⟨⟨g,rfl⟩,_,_⟩:=St.rowAddr hS.drop (by omega);have hcl:∀{K K':List HP},Take K (xsP (.S g ss.length cap) ss) K'->i9 K g (i*8) (.I ss[i].1):=fun hu=>i8.elemM (enc:=seC) AX7 hu hi1 0 _ rfl
   have hsq:∀{K K':List HP},Take K (xsP (.S g ss.length cap) ss) K'->i9 K g (i*8+1) (.I ss[i].2.1):=fun hu=>i8.elemM (enc:=seC) AX7 hu hi1 1 _ rfl
   have hrp:∀{K K':List HP},Take K (xsP (.S g ss.length cap) ss) K'->i8 K g (i*8+2) [.I ss[i].2.2.err,.I ss[i].2.2.id,.I ss[i].2.2.has.x0,.I ss[i].2.2.has.x1,.I ss[i].2.2.has.x2,.I ss[i].2.2.has.x3]:=fun hu j v hj=>by have h:=i8.elemM (enc:=seC) AX7 hu hi1 (2+j) v (by rw[Nat.add_comm];exact hj);rwa [<-Nat.add_assoc]at h
   have hdr:ss.drop i=ss[i]::ss.drop (i+1):=List.drop_eq_getElem_cons hi1;rw[hdr,psD]at e1;generalize ss[i]=x at hcl hsq hrp e1;obtain⟨xc,xq,⟨y0,y1,⟨y2,y3,y4,y5⟩⟩⟩:=x;simp only at hcl hsq hrp e1;clear hdr;by_cases hx:xc=cl
   ·have dx:(xc==cl)=true:=by simpa using hx
    rw[if_pos hx]at e1;clear hx;by_cases hq:sq<xq
    ·have dq:decide (sq<xq)=true:=by simpa using hq
     rw[if_pos hq]at e1
     injection e1 with e2 e3
     injection e2 with e4 e5 e6
     injection e6 with e6 e7 e8 e9
     subst e3 e4 e5 e6 e7 e8 e9;clear hq;go_wp2_with(first|refine zl1 hS ?_);refine Aa7 (by kernel_rfl) (by kernel_rfl) hS ?_;refine qR ?_;refine zqn ?_;refine qR ?_;refine zq1 ?_
     iterate 3 (refine qR ?_)
     (apply As7;rfl;rfl;rfl;decide +kernel;exact hcl (by exact j5);refine frS ?_);refine qR ?_;refine zq1 ?_;refine qR ?_;clear hS;intro w hS;go_wp2_with(fail);refine Aa7 (by kernel_rfl) (by kernel_rfl) hS ?_;refine qR ?_;refine zq1 ?_;refine qR ?_;refine zqn ?_;refine qR ?_;refine zq1 ?_
     iterate 3 (refine qR ?_)
     (apply As7;rfl;rfl;rfl;decide +kernel;exact hsq (by exact j5);refine frS ?_);refine qR ?_;clear hS;intro w hS;go_wp2_with(first|refine zsN hS ?_;clear hS;intro w hS);apply Ac7;rfl;rfl;rfl;rfl;exact hS;decide +kernel;(exact x9);kernel_rfl;rw[<-Hss.out]at hS;exact⟨rfl,hS.s _⟩
    ·have dq:decide (sq<xq)=false:=by simpa using hq
     rw[if_neg hq]at e1;clear hq;by_cases he:sq=xq
     ·have de:(sq==xq)=true:=by simpa using he
      rw[if_pos he]at e1
      injection e1 with e2 e3
      injection e2 with e4 e5 e6
      injection e6 with e6 e7 e8 e9
      subst e3 e4 e5 e6 e7 e8 e9;clear he;go_wp2_with(first|refine zl1 hS ?_);refine Aa7 (by kernel_rfl) (by kernel_rfl) hS ?_;refine qR ?_;refine zqn ?_;refine qR ?_;refine zq1 ?_
      iterate 3 (refine qR ?_)
      (apply As7;rfl;rfl;rfl;decide +kernel;exact hcl (by exact j5);refine frS ?_);refine qR ?_;refine zq1 ?_;refine qR ?_;clear hS;intro w hS;go_wp2_with(fail);refine Aa7 (by kernel_rfl) (by kernel_rfl) hS ?_;refine qR ?_;refine zq1 ?_;refine qR ?_;refine zqn ?_;refine qR ?_;refine zq1 ?_
      iterate 3 (refine qR ?_)
      (apply As7;rfl;rfl;rfl;decide +kernel;exact hsq (by exact j5);refine frS ?_);refine qR ?_;clear hS;intro w hS;go_wp2_with(fail);refine Aa7 (by kernel_rfl) (by kernel_rfl) hS ?_;refine qR ?_;refine zq1 ?_;refine qR ?_;refine zqn ?_;refine qR ?_;refine zq1 ?_
      iterate 3 (refine qR ?_)
      (apply As7;rfl;rfl;rfl;decide +kernel;exact hsq (by exact j5);refine frS ?_);refine qR ?_;clear hS;intro w hS;go_wp2_with(first|refine zl1 hS ?_|refine zlN hS ?_ (hc:=by exact hrp (by exact j5))|refine zsN hS ?_;clear hS;intro w hS);apply Ac7;rfl;rfl;rfl;rfl;exact hS;decide +kernel;(exact x9);kernel_rfl;rw[<-Hss.out]at hS;exact⟨rfl,hS.s _⟩
     ·have de:(sq==xq)=false:=by simpa using he
      rw[if_neg he]at e1;have E1:=jH e1;clear he e1;go_wp2_with(first|refine zl1 hS ?_);refine Aa7 (by kernel_rfl) (by kernel_rfl) hS ?_;refine qR ?_;refine zqn ?_;refine qR ?_;refine zq1 ?_
      iterate 3 (refine qR ?_)
      (apply As7;rfl;rfl;rfl;decide +kernel;exact hcl (by exact j5);refine frS ?_);refine qR ?_;refine zq1 ?_;refine qR ?_;clear hS;intro w hS;go_wp2_with(fail);refine Aa7 (by kernel_rfl) (by kernel_rfl) hS ?_;refine qR ?_;refine zq1 ?_;refine qR ?_;refine zqn ?_;refine qR ?_;refine zq1 ?_
      iterate 3 (refine qR ?_)
      (apply As7;rfl;rfl;rfl;decide +kernel;exact hsq (by exact j5);refine frS ?_);refine qR ?_;clear hS;intro w hS;go_wp2_with(fail);refine Aa7 (by kernel_rfl) (by kernel_rfl) hS ?_;refine qR ?_;refine zq1 ?_;refine qR ?_;refine zqn ?_;refine qR ?_;refine zq1 ?_
      iterate 3 (refine qR ?_)
      (apply As7;rfl;rfl;rfl;decide +kernel;exact hsq (by exact j5);refine frS ?_);refine qR ?_;clear hS;intro w hS;go_wp2_with(fail);go_roundw
      case rel=>exact⟨i+1,rfl,hi1,E1.out,hS⟩
      case measure=>simp[intOf];omega
   ·have dx:(xc==cl)=false:=by simpa using hx
    rw[if_neg hx]at e1;have E1:=jH e1;clear hx e1;go_wp2_with(first|refine zl1 hS ?_);refine Aa7 (by kernel_rfl) (by kernel_rfl) hS ?_;refine qR ?_;refine zqn ?_;refine qR ?_;refine zq1 ?_
    iterate 3 (refine qR ?_)
    (apply As7;rfl;rfl;rfl;decide +kernel;exact hcl (by exact j5);refine frS ?_);refine qR ?_;refine zq1 ?_;refine qR ?_;clear hS;intro w hS;go_wp2_with(fail);go_roundw
    case rel=>exact⟨i+1,rfl,hi1,E1.out,hS⟩
    case measure=>simp[intOf];omega
end
def clV(l:List (ByteArray×Vs)):List (ByteArray×Vs):=l.filter fun x=>!C6 x.2
def dY4{ν:Type}(l:List ((Int×Int)×ν))(k:Int×Int)(v:ν):List ((Int×Int)×ν):=l.take (plI ltW l k)++(k,v)::l.drop (plI ltW l k)
def rmI{α:Type}(l:List α)(i:Int):List α:=l.take i.toNat++l.drop (i.toNat+1)
def vsD(d:Ec)(o:Opn):List (ByteArray×Vs):=clV (if o.kind=7 then d.vs else plS ltB d.vs o.ak (doV (atV d o.ak) o).2)
def ssD(d:Ec)(o:Opn)(r:Rpl):List (Int×(Int×Rpl)):=if o.kind=6\/o.kind=7 then d.ss else plS ltI d.ss o.client (o.seq,r)
def tsD(d:Ec)(o:Opn)(r:Rpl):List ((Int×Int)×Tns):=
 if o.kind=2/\r.err=0 then dY4 d.ts (o.client,o.seq) (dp4 o)else if o.kind=7 then rmI d.ts (fdI d.ts (o.client,o.seq))else d.ts
def arD(d:Ec)(o:Opn):List ((Int×Int)×Unit):=if o.kind=6 then dY4 d.ar (o.client,o.seq) ()else d.ar
def T8(d:Ec)(o:Opn):Rpl×Bool×Ec:=
 if(aP4 d o).2=true then((aP4 d o).1,false,d)
 else((doV (atV d o.ak) o).1,true,⟨vsD d o,ssD d o (doV (atV d o.ak) o).1,tsD d o (doV (atV d o.ak) o).1,arD d o⟩)
section
variable{κ ν:Type}[DecidableEq κ]
theorem DH7{l l':List (κ×ν)}(h:l.Perm l')(k:κ):(j9 l k).Perm (j9 l' k):=h.filter _
theorem PC7{l:List ((Int×Int)×ν)}{k:Int×Int}{v:ν}(h:Asc ltW l)(hk:m7 l k=none):dY4 l k v=plS ltW l k v:=by
 have hb:plB ltW l k=false:=by rw[Pw7 Aw7 h,hk];rfl
 unfold dY4 plS;rw[hb];rfl
theorem gR4{l:List (κ×ν)}{k:κ}(h:(l.map (·.1)).Nodup)(hk:(m7 l k).isSome=true):rmI l (fdI l k)=j9 l k:=by
 induction l with
 | nil=>cases hk
 | cons x l ih=>
  rw[List.map_cons,List.nodup_cons]at h;rw[EG7]at hk;have e:j9 (x::l) k=if x.1=k then j9 l k else x::j9 l k:=by unfold j9;rw[List.filter_cons];by_cases hx:x.1=k <;> simp[hx]
  rw[e,fdI];by_cases hx:x.1=k
  ·have h0:∀y∈l,y.1≠k:=fun y hy e=>h.1 (List.mem_map.2 ⟨y,hy,e.trans hx.symm⟩)
   rw[if_pos hx,if_pos hx,BN7 h0];rfl
  ·rw[if_neg hx]at hk;have hn:=EM7 k l;have hs:¬fdI l k<0:=by rw[Option.isNone_eq_false_iff.2 hk]at hn;simpa using hn
   rw[if_neg hx,if_neg hx,if_neg hs,<-ih h.2 hk];have:(fdI l k+1).toNat=(fdI l k).toNat+1:=by omega
   unfold rmI;rw[this];rfl
end
theorem Uc7{l l':List (ByteArray×Vs)}(h:l.Perm l'):(clV l).Perm (clV l'):=h.filter _
theorem PD7{l:List (ByteArray×Vs)}(h:∀x∈l,C6 x.2=false):clV l=l:=List.filter_eq_self.2 fun x hx=>by rw[h x hx];rfl
theorem gS4(l:List (ByteArray×Vs)):∀x∈clV l,C6 x.2=false:=fun x hx=>by have:=(List.mem_filter.1 hx).2;simpa using this
theorem Vk7{l:List (ByteArray×Vs)}(h:Asc ltB l):Asc ltB (clV l):=h.sublist List.filter_sublist
structure SimE(d e:Ec):Prop where
 v:d.vs.Perm e.vs
 s:d.ss.Perm e.ss
 t:d.ts.Perm e.ts
 a:d.ar.Perm e.ar
 va:Asc ltB d.vs
 sa:Asc ltI d.ss
 ta:Asc ltW d.ts
 aa:Asc ltW d.ar
 ne:∀x∈d.vs,C6 x.2=false
 tk:TsK d.ts
 old:∀x∈d.ts, ∃q r,m7 d.ss x.1.1=some (q,r)/\x.1.2<=q
theorem hH4:SimE ec0 ec0:=⟨.nil,.nil,.nil,.nil,.nil,.nil,.nil,.nil,fun _ h=>(by cases h),fun _ h=>(by cases h),fun _ h=>(by cases h)⟩
section
variable{d e:Ec}
theorem SimE.vn(h:SimE d e):(d.vs.map (·.1)).Nodup:=AW7 Bp7 h.va
theorem SimE.sn(h:SimE d e):(d.ss.map (·.1)).Nodup:=AW7 DG7 h.sa
theorem SimE.tn(h:SimE d e):(d.ts.map (·.1)).Nodup:=AW7 Aw7 h.ta
theorem SimE.an(h:SimE d e):(d.ar.map (·.1)).Nodup:=AW7 Aw7 h.aa
theorem SimE.at(h:SimE d e)(k:ByteArray):atV d k=atV e k:=by unfold atV;rw[AJ7 h.vn h.v]
theorem SimE.peek(h:SimE d e)(o:Opn):aP4 d o=G9 e o:=by rw[Mm7 h.sn];unfold G9;rw[AJ7 h.an h.a,AJ7 h.tn h.t,AJ7 h.sn h.s]
theorem PE7(hn:(e.vs.map (·.1)).Nodup)(hne:∀x∈e.vs,C6 x.2=false)(k:ByteArray):(bL4 e k (atV e k)).vs.Perm e.vs:=by
 unfold bL4;show(if C6 (atV e k)=true then j9 e.vs k else(k,atV e k)::j9 e.vs k).Perm e.vs
 unfold atV
 cases hg:m7 e.vs k with
 | none=>
  rw[if_pos (by rfl),BN7 (BY7 hg)]
 | some V=>
  have h1:=hne _ (AI7 hg);rw[if_neg (by rw[show((some V).getD vs0:Vs)=V from rfl,h1];exact Bool.noConfusion)];exact(BB7 hn hg).symm
theorem Ud7(h:SimE d e)(k:ByteArray)(V:Vs):(clV (plS ltB d.vs k V)).Perm (bL4 e k V).vs:=by
 refine(Uc7 (ED7 Bp7 h.va)).trans ?_;have h1:∀x∈j9 d.vs k,C6 x.2=false:=fun x hx=>h.ne x (List.mem_filter.1 hx).1
 have h2:clV ((k,V)::j9 d.vs k)=if C6 V=true then j9 d.vs k else(k,V)::j9 d.vs k:=by
  have h3:=PD7 h1;unfold clV at h3 ⊢;rw[List.filter_cons,h3];by_cases hn:C6 V=true
  ·rw[if_pos hn,if_neg (by simpa using hn)]
  ·rw[if_neg hn,if_pos (by simpa using hn)]
 rw[h2];show(if C6 V=true then j9 d.vs k else(k,V)::j9 d.vs k).Perm (if C6 V=true then j9 e.vs k else(k,V)::j9 e.vs k)
 split
 ·exact DH7 h.v k
 ·exact(DH7 h.v k).cons _
theorem Ue7(h:SimE d e){o:Opn}(hp:(G9 e o).2=true):T8 d o=((M8 e o).1,(M8 e o).2.1,d)/\(M8 e o).2.2=e:=by unfold T8 M8;rw[h.peek,if_pos hp,if_pos hp];exact⟨rfl,rfl⟩
theorem Uf7(h:SimE d e){o:Opn}(hp:G9 e o=(rp0,false)):(T8 d o).1=(M8 e o).1/\(T8 d o).2.1=(M8 e o).2.1/\SimE (T8 d o).2.2 (M8 e o).2.2:=by
 have hD:T8 d o=((doV (atV e o.ak) o).1,true,⟨vsD d o,ssD d o (doV (atV e o.ak) o).1,tsD d o (doV (atV e o.ak) o).1,arD d o⟩):=by unfold T8;rw[h.peek,hp,h.at];rfl
 rw[hD,CV7 hp];refine⟨rfl,rfl,?_⟩;generalize hr:(doV (atV e o.ak) o).1=r;have hen:∀x∈e.vs,C6 x.2=false:=fun x hx=>h.ne x (h.v.mem_iff.2 hx)
 have hvn:(e.vs.map (·.1)).Nodup:=(h.v.map _).nodup_iff.1 h.vn;have hpk:=hp;unfold G9 at hpk;have hm:C5 o=true:=(BC7 hp).2;rw[if_neg (by rw[hm];exact Bool.noConfusion)]at hpk
 have hv:(vsD d o).Perm (bL4 e o.ak (doV (atV e o.ak) o).2).vs/\Asc ltB (vsD d o):=by
  unfold vsD;by_cases h7:o.kind=7
  ·rw[if_pos h7];have h8:(doV (atV e o.ak) o).2=atV e o.ak:=by unfold doV;rw[h7];rfl
   rw[h8,PD7 h.ne];exact⟨h.v.trans (PE7 hvn hen o.ak).symm,h.va⟩
  ·rw[if_neg h7,h.at];exact⟨Ud7 h _ _,Vk7 (Is7 Bp7 h.va)⟩
 have hs:(ssD d o r).Perm (doS e o r)/\Asc ltI (ssD d o r):=by
  unfold ssD doS;split
  ·exact⟨h.s,h.sa⟩
  ·exact⟨(ED7 DG7 h.sa).trans ((DH7 h.s _).cons _),Is7 DG7 h.sa⟩
 have hno:o.kind≠6->o.kind≠7->∀q r,m7 d.ss o.client=some (q,r)->q<o.seq:=by
  intro h6 h7 q r hg;rw[if_neg h6,if_neg h7,<-AJ7 h.sn h.s,hg]at hpk;simp only at hpk;by_cases h1:o.seq<q
  ·rw[if_pos h1]at hpk;cases hpk
  ·rw[if_neg h1]at hpk;by_cases h2:o.seq=q
   ·rw[if_pos h2]at hpk;cases hpk
   ·omega
 have ht:(tsD d o r).Perm (doT e o r)/\Asc ltW (tsD d o r)/\TsK (tsD d o r):=by
  unfold tsD doT;by_cases h2:o.kind=2/\r.err=0
  ·rw[if_pos h2,if_pos h2]
   have hg:m7 d.ts (o.client,o.seq)=none:=by
    cases hg:m7 d.ts (o.client,o.seq)with
    | none=>rfl
    | some t=>
     obtain⟨q,r,h3,h4⟩:=h.old _ (AI7 hg);have:=hno (by rw[h2.1];decide) (by rw[h2.1];decide) q r h3;simp only at h4;omega
   rw[PC7 h.ta hg];refine⟨(ED7 Aw7 h.ta).trans ((DH7 h.t _).cons _),Is7 Aw7 h.ta,fun x hx=>?_⟩;rcases List.mem_cons.1 ((ED7 Aw7 h.ta).mem_iff.1 hx)with rfl|hx
   ·rfl
   ·exact h.tk x (List.mem_filter.1 hx).1
  ·rw[if_neg h2,if_neg h2];by_cases h7:o.kind=7
   ·rw[if_pos h7,if_pos h7];rw[if_neg (by rw[h7];decide),if_pos h7,<-AJ7 h.tn h.t]at hpk;have hg:(m7 d.ts (o.client,o.seq)).isSome=true:=by have:=congrArg Prod.snd hpk;simpa using this
    rw[gR4 h.tn hg];exact⟨DH7 h.t _,h.ta.sublist List.filter_sublist,fun x hx=>h.tk x (List.mem_filter.1 hx).1⟩
   ·rw[if_neg h7,if_neg h7];exact⟨h.t,h.ta,h.tk⟩
 have ha:(arD d o).Perm (doA e o)/\Asc ltW (arD d o):=by
  unfold arD doA;by_cases h6:o.kind=6
  ·rw[if_pos h6,if_pos h6];rw[if_pos h6,<-AJ7 h.an h.a]at hpk;have hg:m7 d.ar (o.client,o.seq)=none:=by have:=congrArg Prod.snd hpk;simpa using this
   rw[PC7 h.aa hg];exact⟨(ED7 Aw7 h.aa).trans ((DH7 h.a _).cons _),Is7 Aw7 h.aa⟩
  ·rw[if_neg h6,if_neg h6];exact⟨h.a,h.aa⟩
 have hold:∀x∈tsD d o r, ∃q s,m7 (ssD d o r) x.1.1=some (q,s)/\x.1.2<=q:=by
  intro x hx
  have hx2:(x.1=(o.client,o.seq)/\o.kind=2)\/x∈d.ts:=by
   have hx3:=ht.1.mem_iff.1 hx;unfold doT at hx3;split at hx3
   ·rename_i h2
    rcases List.mem_cons.1 hx3 with rfl|hx3
    ·exact .inl ⟨rfl,h2.1⟩
    ·exact .inr (h.t.mem_iff.2 (List.mem_filter.1 hx3).1)
   ·split at hx3
    ·exact .inr (h.t.mem_iff.2 (List.mem_filter.1 hx3).1)
    ·exact .inr (h.t.mem_iff.2 hx3)
  have hss:∀c,m7 (ssD d o r) c=if o.kind=6\/o.kind=7 then m7 d.ss c else if o.client=c then some (o.seq,r)else m7 d.ss c:=by
   intro c;rw[AJ7 (AW7 DG7 hs.2) hs.1];unfold doS;split
   ·rw[AJ7 h.sn h.s]
   ·rw[RC7,AJ7 h.sn h.s]
  rw[hss]
  rcases hx2 with ⟨hx2,h2⟩|hx2
  ·rw[if_neg (by rw[h2];decide),hx2,if_pos rfl];exact⟨_,_,rfl,Int.le_refl _⟩
  ·obtain⟨q,s,h3,h4⟩:=h.old x hx2;split
   ·exact⟨q,s,h3,h4⟩
   ·rename_i h67
    split
    ·rename_i hc
     refine⟨_,_,rfl,?_⟩;rw[<-hc]at h3;have:=hno (fun h=>h67 (.inl h)) (fun h=>h67 (.inr h)) q s h3;omega
    ·exact⟨q,s,h3,h4⟩
 exact⟨hv.1,hs.1,ht.1,ha.1,hv.2,hs.2,ht.2.1,ha.2,gS4 _,ht.2.2,hold⟩
theorem KU7(h:SimE d e)(o:Opn):(T8 d o).1=(M8 e o).1/\(T8 d o).2.1=(M8 e o).2.1/\SimE (T8 d o).2.2 (M8 e o).2.2:=by
 cases hp:G9 e o with
 | mk r b=>
  cases b with
  | true=>
   obtain⟨h1,h2⟩:=Ue7 h (o:=o) (by rw[hp]);rw[h1,h2];exact⟨rfl,rfl,h⟩
  | false=>
   obtain⟨rfl,_⟩:=BC7 hp;exact Uf7 h hp
end
end Go.Proofs.YtlmhakmoioogaaaGreat
end
