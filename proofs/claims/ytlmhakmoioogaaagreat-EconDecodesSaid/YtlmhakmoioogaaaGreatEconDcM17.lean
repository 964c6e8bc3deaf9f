/-
  send, what a place has, look.
-/
import Derived.Test.YtlmhakmoioogaaaGreatEconDcM4
import Derived.Test.YtlmhakmoioogaaaGreatEconDcM16
set_option maxHeartbeats 16000000
set_option maxRecDepth 100000
set_option linter.unusedSimpArgs false
set_option linter.unusedVariables false
section
namespace Go.Sl
open Go.RowKit
section
variable{κ ν:Type}[DecidableEq κ]{P:Program}{t K E:TypeId}{ek:κ->Value}{ev:ν->Value}{W w:World}{L R:List HP}{b:Nat}{l:List (κ×ν)}{ops:Array Oper}{a:Act}{rest:List Oper}{o:Oper}
theorem JC7{Q:Act->Prop}{x y:Operand}{k:κ}{z v:Value}{ok:Bool}(ho:o.op=.lookup t x y ok)(hg:Region.wanted o (yielded ops a.tmps)=true)(hx:a.eval x=.map (some b))(hy:a.eval y=ek k)(hu:Take L (c8 ek ev b l) R)
  (ht:F5 P t=some (K,E)) (hK:KeyOk P K ek) (hz:J8 P E=some z) (hv:aj4 ok z ((p9 l k).map ev)=v) (h:wpQuiet P ops (St W L) Q rest (a.put o.dst v)):wpQuiet P ops (St W L) Q (o::rest) a:=
 Hs7 hg (fun w hS=>by unfold execOp;simp[ho,hx,hy,Er7 (hS.take hu) ht hK hz,hv]) h
theorem AQ7{tb:List Nat}{toks:List Tok}{fresh:Nat->Bool}{pin:Nat->Option Value}{Qf:Act->Prop}{nd:Nat->Value}{i:Nat}{x y:Operand}{k:κ}{z v:Value}{ok:Bool}(hf:fresh i=false)(hn:ah4 toks i=true)(ho:o.op=.lookup t x y ok)(hg:Region.wanted o (yielded ops a.tmps)=true)(hx:a.eval x=.map (some b))(hy:a.eval y=ek k)
  (hu:∀F, ∃R,Take (kpL toks tb i nd++F) (c8 ek ev b l) R) (ht:F5 P t=some (K,E)) (hK:KeyOk P K ek) (hz:J8 P E=some z) (hv:aj4 ok z ((p9 l k).map ev)=v) (h:p8 P W ops tb toks fresh pin Qf nd (i+1) rest (a.put o.dst v)):p8 P W ops tb toks fresh pin Qf nd i (o::rest) a:=
 Em7 hf hn hg (fun F w hS=>by obtain⟨R,hu⟩:=hu F;unfold execOp;simp[ho,hx,hy,Er7 (hS.take hu) ht hK hz,hv]) h
end
end Go.Sl
namespace Go.Proofs.YtlmhakmoioogaaaGreat
open Go.RowKit Go.Sl
theorem LM7{eb m1 m2 m3 m4:Nat}{E:Ev}(k u:ByteArray){x0 x1 x2 x3:Int}(hx:r6 (vAt E k).ps u=⟨x0,x1,x2,x3⟩)(W w:World)(R:List HP)(hS:St W (evP eb m1 m2 m3 m4 E::R) w):
  Calls Tryz.prog 18 #[.P eb,.agg #[.string k,.string u]] w fun e w'=>e=.returned (.agg #[.I x0,.I x1,.I x2,.I x3])/\St W (evP eb m1 m2 m3 m4 E::R) w':=by
 have hS1:=D9 hS;clear hS;have hS:=hS1;clear hS1;have hnd:(E.map (·.1)).Nodup:=by rw[<-Bb7];exact F9 hS.drop
 cases hg:p9 E k with
 | none=>
  have hgl:aj4 false (.pointer none) ((p9 (i8 E) k).map eN)=.pointer none:=by rw[CY7,hg];rfl
  have hv:vAt E k=vs0:=by unfold vAt;rw[hg];rfl
  rw[hv]at hx
  cases hx
  go_enter Tryz.func18,Tryz.ntmps18;go_wp2_with(first|refine zbx hS ?_;clear hS;intro bO w hS|refine zal hS ?_;clear hS;intro bR w hS);refine rt 10 hS ?_
  repeat(first|refine zq1 ?_|refine zqn ?_|(apply JC7 (ek:=eS) (ev:=eN) (k:=k));rfl;rfl;rfl;rfl;exact g8;exact mV;exact kS;exact zV;exact hgl;refine frS ?_|apply Ag7;rfl;intro w;apply Ad7;rfl;decide +kernel;(focus(simp only[fD,fI,fJ,Act.eval,fE,fF,fG,fH,fK];try rfl));intro w hS;exact RS7 u W w _ hS;refine frS ?_|refine qR ?_)
  clear hS;intro w hS;simp only[jD,List.drop_zero];go_wp2_with(first|refine zsN hS ?_;clear hS;intro w hS);apply AH7;rfl;rfl;rfl;exact hS;decide +kernel;(exact x9);kernel_rfl;exact⟨rfl,F7 (hS.s _)⟩
 | some x=>
  obtain⟨vb,V⟩:=x;have hgl:aj4 false (.pointer none) ((p9 (i8 E) k).map eN)=eN vb:=by rw[CY7,hg];rfl
  have hp:=CX7 hnd hg;have hv:vAt E k=V:=by unfold vAt;rw[hg];rfl
  rw[hv]at hx;have h1:St W (j8 E::ebB eb m1 m2 m3 m4::c8 eS eN m1 (i8 E)::R) w:=hS.s _;have h2:=bn4 (aq4 hp h1);obtain⟨mb,bb,h3⟩:=ay4 h2;clear hS h1 h2;have hS:=h3;clear h3;go_enter Tryz.func18,Tryz.ntmps18;go_wp2_with(first|refine zbx hS ?_;clear hS;intro bO w hS|refine zal hS ?_;clear hS;intro bR w hS);have hS1:=hS.s (blk vb _ _::c8 eS eP mb V.ps::blk bR _ _::blk bO _ _::ebB eb m1 m2 m3 m4::c8 eS eN m1 (i8 E)::r7 bb V.L V.n::j8 (l8 E k)::R);clear hS;refine rt 10 hS1 ?_
  repeat(first|refine zq1 ?_|refine zqn ?_|(apply JC7 (ek:=eS) (ev:=eN) (k:=k));rfl;rfl;rfl;rfl;exact g8;exact mV;exact kS;exact zV;exact hgl;refine frS ?_|apply Ag7;rfl;intro w;apply Ad7;rfl;decide +kernel;(focus(simp only[fD,fI,fJ,Act.eval,fE,fF,fG,fH,fK];try rfl));intro w hS;exact Tl7 vb mb W w _ _ _ hx hS;refine frS ?_|refine qR ?_)
  clear hS1;intro w hS;simp only[jD,List.drop_zero];go_wp2_with(first|refine zsN hS ?_;clear hS;intro w hS);apply AH7;rfl;rfl;rfl;exact hS;decide +kernel;(exact x9);kernel_rfl;have h4:=J6 (V:=V) (hS.s (t8 vb mb bb V.ps V.L V.n (j8 (l8 E k)::ebB eb m1 m2 m3 m4::c8 eS eN m1 (i8 E)::R)));have h5:=aq4 hp.symm (bo4 (x:=(k,(vb,V))) h4);exact⟨rfl,F7 (h5.s _)⟩
theorem Oi7{eb m1 m2 m3 m4:Nat}{E:Ev}(kd cl sq:Int)(ak aw tk tw:ByteArray)(it ct pr:Int)(bu:Bool)(id:Int){x0 x1 x2 x3:Int}(hx:r6 (vAt E ak).ps aw=⟨x0,x1,x2,x3⟩)(W w:World)(R:List HP)(hS:St W (evP eb m1 m2 m3 m4 E::R) w):
  Calls Tryz.prog 40 #[.P eb,oV kd cl sq ak aw tk tw it ct pr bu id] w fun e w'=>e=.returned (rV 0 0 x0 x1 x2 x3)/\St W (evP eb m1 m2 m3 m4 E::R) w':=by
 go_enter Tryz.func40,Tryz.ntmps40;go_wp2_with(first|refine zbx hS ?_;clear hS;intro bO w hS|refine zal hS ?_;clear hS;intro bR w hS|refine zlN hS ?_ (vs:=[.string ak,.string aw]) (hc:=by first|exact d7.here rfl|exact d7.there (d7.here rfl))|refine zsN hS ?_;clear hS;intro w hS|go_at_call 18;refine(LM7 ak aw hx W _ _ (hS.s (evP eb m1 m2 m3 m4 E::blk bR _ _::blk bO _ _::R))).mono ?_;clear hS;rintro e w ⟨rfl,hS⟩);apply AH7;rfl;rfl;rfl;exact hS;decide +kernel;(exact x9);kernel_rfl;exact⟨rfl,hS.s _⟩
abbrev tB16c:List Nat:=[0,0,2,6,15,0,32,96,0,287,1023,2047]
theorem Sf7{eb m1 m2 m3 m4:Nat}{E:Ev}{i:Nat}(hE:L5 E i)(kd cl sq:Int)(ak aw tk tw:ByteArray)(it ct pr:Int)(bu:Bool)(id:Int)(ts:List ((Int×Int)×Tns))(h0:0<=it)(h4:it<4)(c0:1<=ct)(c1:ct<=1048576){r:Int}{q:Ps}
  (hr:J9 (vAt E ak).ps aw (P7 it ct)=r) (hr0:(r==0)=false) (hq:K6 (vAt E ak).ps aw (P7 it ct)=q) (W w:World) (R:List HP) (hS:St W (evP eb m1 m2 m3 m4 E::c8 eW eTn m3 ts::R) w):
  Calls Tryz.prog 37 #[.P eb,oV kd cl sq ak aw tk tw it ct pr bu id] w fun e w'=>∃vb,VOk q (vAt E ak).n (i+1)/\e=.returned (rV r 0 0 0 0 0) /\
   St W (evP eb m1 m2 m3 m4 ((ak,(vb,⟨q,(vAt E ak).L,(vAt E ak).n⟩))::l8 E ak)::c8 eW eTn m3 ts::R) w':=by
 obtain⟨V,hV⟩:∃V,vAt E ak=V:=⟨_,rfl⟩
 obtain⟨D,hD⟩:∃D,l8 E ak=D:=⟨_,rfl⟩
 obtain⟨x,hx⟩:∃x,P7 it ct=x:=⟨_,rfl⟩
 obtain⟨x0,x1,x2,x3⟩:=x;rw[hV,hx]at hr hq;rw[hV,hD];have Hx:=jH hx;have Hr:=jH hr;have Hq:=jH hq;clear hx hr hq;have HE:=jH hE;have HV:=jH hV;have HD:=jH hD;clear hE hV hD;go_enter Tryz.func37,Tryz.ntmps37;go_wp2_with(first|refine zbx hS ?_;clear hS;intro bO w hS|refine zal hS ?_;clear hS;intro bR w hS);have hS1:=hS.s (evP eb m1 m2 m3 m4 E::blk bR _ _::blk bO _ _::c8 eW eTn m3 ts::R);clear hS
 refine rf3 tB16c (fun i=>i==4) (fun i=>if i==9 then some (.agg #[.I x0,.I x1,.I x2,.I x3])else if i==10 then some (.I r)else none)
  [⟨some 4,some 10,fun nd=>atR (nd 4) eb m1 m2 m3 m4 D ak V i⟩,⟨some 10,none,fun nd=>atR (nd 4) eb m1 m2 m3 m4 D ak ⟨q,V.L,V.n⟩ (i+1)⟩] [some 4,none,none] hS1 ?_
 clear hS1;intro nd
 repeat(first|refine zc1 ?_|refine zcN ?_|apply Az7;rfl;rfl;rfl;decide +kernel;(focus(simp only[fD,fI,fJ,Act.eval,fE,fF,fG,fH,fK];try rfl));intro _;rfl;intro F w hS;exact atF HE.out HV.out HD.out hS;refine frS ?_|refine zcv ?_ (hs:=by(intro F w hS;(try clear hS0);exact FV7 Hx.out h0 h4 c0 c1 W w _ hS))|refine zcv ?_ (hs:=by(intro F w hS;(try clear hS0);exact eR4 Hr.out Hq.out hS))|refine cR ?_)
 refine Ac7 ?_;intro w hS;have hS2:St W [atR _ eb m1 m2 m3 m4 D ak ⟨q,V.L,V.n⟩ (i+1),blk bR _ _,blk bO _ _,sats (c8 eW eTn m3 ts::R)] w:=hS;clear hS;have hS:=hS2.unpack [_,_,_];clear hS2;simp only[jK,jN]at hS;obtain⟨vb,h1,hS3⟩:=cI4 hS;clear hS;have H1:=jH h1;clear h1;have hS:=D9 hS3;clear hS3;go_wp2_with(first|refine zsN hS ?_;clear hS;intro w hS);apply AH7;rfl;rfl;rfl;exact hS;decide +kernel;(exact x9);kernel_rfl;exact⟨H1.out,rfl,vb,F7 (hS.s (ebB eb m1 m2 m3 m4::c8 eS eN m1 _::j8 _::c8 eW eTn m3 ts::R))⟩
theorem Qh7{eb m1 m2 m3 m4:Nat}{E:Ev}{i:Nat}(hE:L5 E i)(kd cl sq:Int)(ak aw tk tw:ByteArray)(it ct pr:Int)(bu:Bool)(id:Int)(ts:List ((Int×Int)×Tns))(h0:0<=it)(h4:it<4)(c0:1<=ct)(c1:ct<=1048576){q:Ps}
  (hr:J9 (vAt E ak).ps aw (P7 it ct)=0) (hq:K6 (vAt E ak).ps aw (P7 it ct)=q) (W w:World) (R:List HP) (hS:St W (evP eb m1 m2 m3 m4 E::c8 eW eTn m3 ts::R) w):
  Calls Tryz.prog 37 #[.P eb,oV kd cl sq ak aw tk tw it ct pr bu id] w fun e w'=>∃vb,VOk q (vAt E ak).n (i+1)/\e=.returned (rV 0 0 0 0 0 0) /\
   St W (evP eb m1 m2 m3 m4 ((ak,(vb,⟨q,(vAt E ak).L,(vAt E ak).n⟩))::l8 E ak)::c8 eW eTn m3 (((cl,sq),⟨cl,sq,ak,aw,tk,tw,it,ct⟩)::l8 ts (cl,sq))::R) w':=by
 obtain⟨V,hV⟩:∃V,vAt E ak=V:=⟨_,rfl⟩
 obtain⟨D,hD⟩:∃D,l8 E ak=D:=⟨_,rfl⟩
 obtain⟨x,hx⟩:∃x,P7 it ct=x:=⟨_,rfl⟩
 obtain⟨x0,x1,x2,x3⟩:=x;rw[hV,hx]at hr hq;rw[hV,hD];have Hx:=jH hx;have Hr:=jH hr;have Hq:=jH hq;clear hx hr hq;have HE:=jH hE;have HV:=jH hV;have HD:=jH hD;clear hE hV hD;go_enter Tryz.func37,Tryz.ntmps37;go_wp2_with(first|refine zbx hS ?_;clear hS;intro bO w hS|refine zal hS ?_;clear hS;intro bR w hS);have hS1:=hS.s (evP eb m1 m2 m3 m4 E::blk bR _ _::blk bO _ _::c8 eW eTn m3 ts::R);clear hS
 refine rf3 tB16c (fun i=>i==4) (fun i=>if i==9 then some (.agg #[.I x0,.I x1,.I x2,.I x3])else if i==10 then some (.I 0)else none)
  [⟨some 4,some 10,fun nd=>atR (nd 4) eb m1 m2 m3 m4 D ak V i⟩,⟨some 10,none,fun nd=>atR (nd 4) eb m1 m2 m3 m4 D ak ⟨q,V.L,V.n⟩ (i+1)⟩] [some 4,none,none] hS1 ?_
 clear hS1;intro nd
 repeat(first|refine zc1 ?_|refine zcN ?_|apply Az7;rfl;rfl;rfl;decide +kernel;(focus(simp only[fD,fI,fJ,Act.eval,fE,fF,fG,fH,fK];try rfl));intro _;rfl;intro F w hS;exact atF HE.out HV.out HD.out hS;refine frS ?_|refine zcv ?_ (hs:=by(intro F w hS;(try clear hS0);exact FV7 Hx.out h0 h4 c0 c1 W w _ hS))|refine zcv ?_ (hs:=by(intro F w hS;(try clear hS0);exact eR4 Hr.out Hq.out hS))|refine cR ?_)
 refine Ac7 ?_;intro w hS;have hS2:St W [atR _ eb m1 m2 m3 m4 D ak ⟨q,V.L,V.n⟩ (i+1),blk bR _ _,blk bO _ _,sats (c8 eW eTn m3 ts::R)] w:=hS;clear hS;have hS:=hS2.unpack [_,_,_];clear hS2;simp only[jK,jN]at hS;obtain⟨vb,h1,hS3⟩:=cI4 hS;clear hS;have H1:=jH h1;clear h1;have hS:=D9 hS3;clear hS3;go_wp2_with fail;refine rt 22 hS ?_
 repeat(first|refine zq1 ?_|refine zqN ?_ (hc:=by first|exact d7.here (vs:=[.string ak,.string aw]) rfl|exact d7.there (d7.here (vs:=[.string ak,.string aw]) rfl)|exact d7.there (d7.there (d7.there (d7.there (d7.here (vs:=[.string ak,.string aw]) rfl))))|exact d7.there (d7.there (d7.there (d7.here (vs:=[.string ak,.string aw]) rfl))))|refine zqN ?_ (hc:=by first|exact d7.here (vs:=[.string tk,.string tw]) rfl|exact d7.there (d7.here (vs:=[.string tk,.string tw]) rfl)|exact d7.there (d7.there (d7.there (d7.there (d7.here (vs:=[.string tk,.string tw]) rfl))))|exact d7.there (d7.there (d7.there (d7.here (vs:=[.string tk,.string tw]) rfl))))|refine zqn ?_|refine qR ?_)
 clear hS;intro w hS;simp only[jD,List.drop_zero];go_wp2_with(first|((with_reducible apply Ba7 (ek:=eW) (ev:=eTn) (k:=(cl,sq)) (u:=(⟨cl,sq,ak,aw,tk,tw,it,ct⟩:Tns)) hS);rfl;rfl;rfl;rfl;exact g8;(focus(rfl));exact mT;exact kW;clear hS;intro w hS;try(refine frS ?_))|refine zsN hS ?_;clear hS;intro w hS);apply AH7;rfl;rfl;rfl;exact hS;decide +kernel;(exact x9);kernel_rfl;exact⟨vb,H1.out,rfl,F7 (hS.s (ebB eb m1 m2 m3 m4::c8 eS eN m1 _::j8 _::c8 eW eTn m3 _::R))⟩
section
variable{eb m1 m2 m3 m4:Nat}{E:Ev}(kd cl sq:Int)(ak aw tk tw:ByteArray)(it ct pr:Int)(bu:Bool)(id:Int)(ss:List (Int×(Int×Rpl)))(ts:List ((Int×Int)×Tns))(ar:List ((Int×Int)×Unit))(W w:World)(R:List HP)
abbrev ecR(eb m1 m2 m3 m4:Nat)(E:Ev)(ss:List (Int×(Int×Rpl)))(ts:List ((Int×Int)×Tns))(ar:List ((Int×Int)×Unit))(R:List HP):List HP:=evP eb m1 m2 m3 m4 E::c8 eI eSs m2 ss::c8 eW eTn m3 ts::c8 eW eU m4 ar::R
theorem Sg7(hm:A8 ⟨kd,cl,sq,ak,aw,tk,tw,it,ct,pr,bu,id⟩=false)(hS:St W (ecR eb m1 m2 m3 m4 E ss ts ar R) w):
  Calls Tryz.prog 33 #[.P eb,oV kd cl sq ak aw tk tw it ct pr bu id] w fun e w'=>e=.returned (.tuple #[rV 1 0 0 0 0 0,.bool true])/\St W (ecR eb m1 m2 m3 m4 E ss ts ar R) w':=by
 go_enter Tryz.func33,Tryz.ntmps33;go_wp2_with(first|refine zbx hS ?_;clear hS;intro bO w hS|(fail_if_success (have:=gA));(refine zal hS ?_;clear hS;have gA:Nat:=0;intro bR w hS)|refine zlN hS ?_|refine zsN hS ?_;clear hS;intro w hS|go_at_call 85;refine(BX7 hm W _ _ hS).mono ?_;clear hS;rintro e w ⟨rfl,hS⟩);apply Ab7;rfl;rfl;rfl;rfl;exact hS;decide +kernel;(exact x9);kernel_rfl;exact⟨rfl,hS.drop.drop⟩
abbrev tB16a:List Nat:=[0,1,3,7,0,16,63,127,255,255,0,1535,4095]
abbrev tB16d:List Nat:=[0,0,2,6,14,0,62,1,255]
theorem Qi7(hm:A8 ⟨6,cl,sq,ak,aw,tk,tw,it,ct,pr,bu,id⟩=true)(hS:St W (ecR eb m1 m2 m3 m4 E ss ts ar R) w):
  Calls Tryz.prog 33 #[.P eb,oV 6 cl sq ak aw tk tw it ct pr bu id] w fun e w'=>e=.returned (.tuple #[rV 0 0 0 0 0 0,.bool (p9 ar (cl,sq)).isSome])/\St W (ecR eb m1 m2 m3 m4 E ss ts ar R) w':=by
 have hS0:=D9 hS;clear hS;have hS:=hS0;clear hS0;have har:aj4 false (.bool false) ((p9 ar (cl,sq)).map eU)=.bool (p9 ar (cl,sq)).isSome:=by cases p9 ar (cl,sq) <;> rfl
 cases hg:p9 ss cl with
 | none=>
  have hss:aj4 true (eSs (0,rp0)) ((p9 ss cl).map eSs)=.tuple #[eSs (0,rp0),.bool false]:=by rw[hg];rfl
  go_enter Tryz.func33,Tryz.ntmps33;go_wp2_with(first|refine zbx hS ?_;clear hS;intro bO w hS|(fail_if_success (have:=gA));(refine zal hS ?_;clear hS;have gA:Nat:=0;intro bR w hS)|(have:=gA);refine zal hS ?_;clear hS;intro bW w hS|refine zl1 hS ?_|refine zlN hS ?_|refine zsN hS ?_;clear hS;intro w hS|go_at_call 85;refine(BX7 hm W _ _ hS).mono ?_;clear hS;rintro e w ⟨rfl,hS⟩);have hS1:=hS.s (ebB eb m1 m2 m3 m4::c8 eI eSs m2 ss::blk bO _ _::blk bW _ _::blk bR _ _::c8 eW eTn m3 ts::c8 eW eU m4 ar::c8 eS eN m1 (i8 E)::j8 E::R);clear hS
  refine rf3 tB16a (fun i=>i==10) (fun _=>none)
   [⟨some 10,some 11,fun nd=>j6 (nd 10) [.I 0,.I 0,.I 0,.I 0,.I 0,.I 0,.I 0] 90⟩,⟨some 11,none,fun nd=>j6 (nd 10) [.I 0,.I 0,.I 0,.I 0,.I 0,.I 0,.I 0] 90⟩] [none,none,none] hS1 ?_
  clear hS1;intro nd
  repeat(first|refine zc1 ?_|refine zcn ?_|apply AQ7 (ek:=eI) (ev:=eSs) (k:=cl);rfl;kernel_rfl;rfl;rfl;rfl;rfl;intro F;exact⟨_,by exact A9⟩;exact mS;exact kEi;exact zS;exact hss;refine frS ?_|refine zca ?_|refine zct ?_|refine cR ?_)
  refine Ac7 ?_;intro w hS;have hS2:St W [j6 _ _ _,ebB eb m1 m2 m3 m4,c8 eI eSs m2 ss,blk bO _ _,sats (blk bW _ _::blk bR _ _::c8 eW eTn m3 ts::c8 eW eU m4 ar::c8 eS eN m1 (i8 E)::j8 E::R)] w:=hS;clear hS;have hS:=hS2.unpack [_,_,_,_];clear hS2;simp only[jK,jN]at hS;generalize nd 10=v10 at *;have h1:=hS.ptr;clear hS;obtain⟨b7,rfl,hS⟩:=h1;go_wp2_with(first|refine zl1 hS ?_);have hS1:=hS.s (blk bR _ _::ebB eb m1 m2 m3 m4::c8 eW eU m4 ar::blk bW _ _::c8 eI eSs m2 ss::c8 eW eTn m3 ts::c8 eS eN m1 (i8 E)::j8 E::R);clear hS;refine rf3 tB16d (fun _=>false) (fun _=>none) [⟨some 7,none,fun _=>blk bR [.I 0,.I 0,.I 0,.I 0,.I 0,.I 0] 31⟩] [some 7,none,none,none] hS1 ?_;clear hS1;intro nd
  repeat(first|refine zc1 ?_|refine zcN ?_|refine zcn ?_|apply AQ7 (ek:=eW) (ev:=eU) (k:=(cl,sq));rfl;kernel_rfl;rfl;rfl;rfl;rfl;intro F;exact⟨_,by exact A9⟩;exact mAr;exact kW;exact zA;exact har;refine frS ?_|refine zcs ?_|refine cR ?_)
  refine Ac7 ?_;intro w hS;have hS2:St W [blk bR _ _,ebB eb m1 m2 m3 m4,c8 eW eU m4 ar,blk bW _ _,sats (c8 eI eSs m2 ss::c8 eW eTn m3 ts::c8 eS eN m1 (i8 E)::j8 E::R)] w:=hS;clear hS;have hS:=hS2.unpack [_,_,_,_];clear hS2;simp only[jK,jN]at hS;go_wp2_with fail;apply Ab7;rfl;rfl;rfl;rfl;exact hS;decide +kernel;(exact x9);kernel_rfl;exact⟨rfl,F7 (hS.s (ebB eb m1 m2 m3 m4::c8 eS eN m1 (i8 E)::j8 E::c8 eI eSs m2 ss::c8 eW eTn m3 ts::c8 eW eU m4 ar::R))⟩
 | some x=>
  obtain⟨q,e0,e1,⟨y0,y1,y2,y3⟩⟩:=x;have hss:aj4 true (eSs (0,rp0)) ((p9 ss cl).map eSs)=.tuple #[eSs (q,⟨e0,e1,⟨y0,y1,y2,y3⟩⟩),.bool true]:=by rw[hg];rfl
  go_enter Tryz.func33,Tryz.ntmps33;go_wp2_with(first|refine zbx hS ?_;clear hS;intro bO w hS|(fail_if_success (have:=gA));(refine zal hS ?_;clear hS;have gA:Nat:=0;intro bR w hS)|(have:=gA);refine zal hS ?_;clear hS;intro bW w hS|refine zl1 hS ?_|refine zlN hS ?_|refine zsN hS ?_;clear hS;intro w hS|go_at_call 85;refine(BX7 hm W _ _ hS).mono ?_;clear hS;rintro e w ⟨rfl,hS⟩);have hS1:=hS.s (ebB eb m1 m2 m3 m4::c8 eI eSs m2 ss::blk bO _ _::blk bW _ _::blk bR _ _::c8 eW eTn m3 ts::c8 eW eU m4 ar::c8 eS eN m1 (i8 E)::j8 E::R);clear hS
  refine rf3 tB16a (fun i=>i==10) (fun _=>none)
   [⟨some 10,some 11,fun nd=>j6 (nd 10) [.I 0,.I 0,.I 0,.I 0,.I 0,.I 0,.I 0] 90⟩,⟨some 11,none,fun nd=>j6 (nd 10) [.I q,.I e0,.I e1,.I y0,.I y1,.I y2,.I y3] 90⟩] [none,none,none] hS1 ?_
  clear hS1;intro nd
  repeat(first|refine zc1 ?_|refine zcn ?_|apply AQ7 (ek:=eI) (ev:=eSs) (k:=cl);rfl;kernel_rfl;rfl;rfl;rfl;rfl;intro F;exact⟨_,by exact A9⟩;exact mS;exact kEi;exact zS;exact hss;refine frS ?_|refine zca ?_|refine zct ?_|refine cR ?_)
  refine Ac7 ?_;intro w hS;have hS2:St W [j6 _ _ _,ebB eb m1 m2 m3 m4,c8 eI eSs m2 ss,blk bO _ _,sats (blk bW _ _::blk bR _ _::c8 eW eTn m3 ts::c8 eW eU m4 ar::c8 eS eN m1 (i8 E)::j8 E::R)] w:=hS;clear hS;have hS:=hS2.unpack [_,_,_,_];clear hS2;simp only[jK,jN]at hS;generalize nd 10=v10 at *;have h1:=hS.ptr;clear hS;obtain⟨b7,rfl,hS⟩:=h1;go_wp2_with(first|refine zl1 hS ?_);have hS1:=hS.s (blk bR _ _::ebB eb m1 m2 m3 m4::c8 eW eU m4 ar::blk bW _ _::c8 eI eSs m2 ss::c8 eW eTn m3 ts::c8 eS eN m1 (i8 E)::j8 E::R);clear hS;refine rf3 tB16d (fun _=>false) (fun _=>none) [⟨some 7,none,fun _=>blk bR [.I 0,.I 0,.I 0,.I 0,.I 0,.I 0] 31⟩] [some 7,none,none,none] hS1 ?_;clear hS1;intro nd
  repeat(first|refine zc1 ?_|refine zcN ?_|refine zcn ?_|apply AQ7 (ek:=eW) (ev:=eU) (k:=(cl,sq));rfl;kernel_rfl;rfl;rfl;rfl;rfl;intro F;exact⟨_,by exact A9⟩;exact mAr;exact kW;exact zA;exact har;refine frS ?_|refine zcs ?_|refine cR ?_)
  refine Ac7 ?_;intro w hS;have hS2:St W [blk bR _ _,ebB eb m1 m2 m3 m4,c8 eW eU m4 ar,blk bW _ _,sats (c8 eI eSs m2 ss::c8 eW eTn m3 ts::c8 eS eN m1 (i8 E)::j8 E::R)] w:=hS;clear hS;have hS:=hS2.unpack [_,_,_,_];clear hS2;simp only[jK,jN]at hS;go_wp2_with fail;apply Ab7;rfl;rfl;rfl;rfl;exact hS;decide +kernel;(exact x9);kernel_rfl;exact⟨rfl,F7 (hS.s (ebB eb m1 m2 m3 m4::c8 eS eN m1 (i8 E)::j8 E::c8 eI eSs m2 ss::c8 eW eTn m3 ts::c8 eW eU m4 ar::R))⟩
abbrev tB16b:List Nat:=[0,1,3,7,0,31,63,127,127,0,767,2047]
theorem MT7{k:Bool}(hk:(p9 ts (cl,sq)).isNone=k)(hm:A8 ⟨7,cl,sq,ak,aw,tk,tw,it,ct,pr,bu,id⟩=true)(hS:St W (ecR eb m1 m2 m3 m4 E ss ts ar R) w):
  Calls Tryz.prog 33 #[.P eb,oV 7 cl sq ak aw tk tw it ct pr bu id] w fun e w'=>e=.returned (.tuple #[rV 0 0 0 0 0 0,.bool k])/\St W (ecR eb m1 m2 m3 m4 E ss ts ar R) w':=by
 have hS0:=D9 hS;clear hS;have hS:=hS0;clear hS0
 cases hg:p9 ss cl with
 | none=>
  have hss:aj4 true (eSs (0,rp0)) ((p9 ss cl).map eSs)=.tuple #[eSs (0,rp0),.bool false]:=by rw[hg];rfl
  clear hg;go_enter Tryz.func33,Tryz.ntmps33;go_wp2_with(first|refine zbx hS ?_;clear hS;intro bO w hS|(fail_if_success (have:=gA));(refine zal hS ?_;clear hS;have gA:Nat:=0;intro bR w hS)|(have:=gA);refine zal hS ?_;clear hS;intro bW w hS|refine zl1 hS ?_|refine zlN hS ?_|refine zsN hS ?_;clear hS;intro w hS|go_at_call 85;refine(BX7 hm W _ _ hS).mono ?_;clear hS;rintro e w ⟨rfl,hS⟩);have hS1:=hS.s (ebB eb m1 m2 m3 m4::c8 eI eSs m2 ss::blk bO _ _::blk bW _ _::blk bR _ _::c8 eW eTn m3 ts::c8 eW eU m4 ar::c8 eS eN m1 (i8 E)::j8 E::R);clear hS
  refine rf3 tB16a (fun i=>i==10) (fun _=>none)
   [⟨some 10,some 11,fun nd=>j6 (nd 10) [.I 0,.I 0,.I 0,.I 0,.I 0,.I 0,.I 0] 90⟩,⟨some 11,none,fun nd=>j6 (nd 10) [.I 0,.I 0,.I 0,.I 0,.I 0,.I 0,.I 0] 90⟩] [none,none,none] hS1 ?_
  clear hS1;intro nd
  repeat(first|refine zc1 ?_|refine zcn ?_|apply AQ7 (ek:=eI) (ev:=eSs) (k:=cl);rfl;kernel_rfl;rfl;rfl;rfl;rfl;intro F;exact⟨_,by exact A9⟩;exact mS;exact kEi;exact zS;exact hss;refine frS ?_|refine zca ?_|refine zct ?_|refine cR ?_)
  refine Ac7 ?_;intro w hS;have hS2:St W [j6 _ _ _,ebB eb m1 m2 m3 m4,c8 eI eSs m2 ss,blk bO _ _,sats (blk bW _ _::blk bR _ _::c8 eW eTn m3 ts::c8 eW eU m4 ar::c8 eS eN m1 (i8 E)::j8 E::R)] w:=hS;clear hS;have hS:=hS2.unpack [_,_,_,_];clear hS2;simp only[jK,jN]at hS;generalize nd 10=v10 at *;have h1:=hS.ptr;clear hS;obtain⟨b7,rfl,hS⟩:=h1
  cases hgt:p9 ts (cl,sq)with
  | none=>
   rw[hgt]at hk;obtain rfl:true=k:=hk;have htt:aj4 true (eTn ⟨0,0,⟨#[]⟩,⟨#[]⟩,⟨#[]⟩,⟨#[]⟩,0,0⟩) ((p9 ts (cl,sq)).map eTn)=.tuple #[eTn ⟨0,0,⟨#[]⟩,⟨#[]⟩,⟨#[]⟩,⟨#[]⟩,0,0⟩,.bool false]:=by rw[hgt];rfl
   clear hgt;go_wp2_with(first|refine zl1 hS ?_);have hS1:=hS.s (ebB eb m1 m2 m3 m4::c8 eW eTn m3 ts::blk bW _ _::blk bR _ _::c8 eW eU m4 ar::c8 eI eSs m2 ss::c8 eS eN m1 (i8 E)::j8 E::R);clear hS
   refine rf3 tB16b (fun i=>i==9) (fun _=>none)
    [⟨some 9,some 10,fun nd=>j6 (nd 9) [.I 0,.I 0,.string ⟨#[]⟩,.string ⟨#[]⟩,.string ⟨#[]⟩,.string ⟨#[]⟩,.I 0,.I 0] 40⟩,⟨some 10,none,fun nd=>j6 (nd 9) [.I 0,.I 0,.string ⟨#[]⟩,.string ⟨#[]⟩,.string ⟨#[]⟩,.string ⟨#[]⟩,.I 0,.I 0] 40⟩] [none,none,none] hS1 ?_
   clear hS1;intro nd
   repeat(first|refine zc1 ?_|refine zcN ?_|refine zcn ?_|apply AQ7 (ek:=eW) (ev:=eTn) (k:=(cl,sq));rfl;kernel_rfl;rfl;rfl;rfl;rfl;intro F;exact⟨_,by exact A9⟩;exact mT;exact kW;exact zT;exact htt;refine frS ?_|refine zca ?_|refine zct ?_|refine cR ?_)
   refine Ac7 ?_;intro w hS;have hS2:St W [j6 _ _ _,ebB eb m1 m2 m3 m4,c8 eW eTn m3 ts,blk bW _ _,sats (blk bR _ _::c8 eW eU m4 ar::c8 eI eSs m2 ss::c8 eS eN m1 (i8 E)::j8 E::R)] w:=hS;clear hS;have hS:=hS2.unpack [_,_,_,_];clear hS2;simp only[jK,jN]at hS;generalize nd 9=v9 at *;have h1:=hS.ptr;clear hS;obtain⟨b9,rfl,hS⟩:=h1;go_wp2_with(first|refine zsN hS ?_;clear hS;intro w hS);apply Ab7;rfl;rfl;rfl;rfl;exact hS;decide +kernel;(exact x9);kernel_rfl;exact⟨rfl,F7 (hS.s (ebB eb m1 m2 m3 m4::c8 eS eN m1 (i8 E)::j8 E::c8 eI eSs m2 ss::c8 eW eTn m3 ts::c8 eW eU m4 ar::R))⟩
  | some z=>
   rw[hgt]at hk;obtain rfl:false=k:=hk;obtain⟨z0,z1,z2,z3,z4,z5,z6,z7⟩:=z;have htt:aj4 true (eTn ⟨0,0,⟨#[]⟩,⟨#[]⟩,⟨#[]⟩,⟨#[]⟩,0,0⟩) ((p9 ts (cl,sq)).map eTn)=.tuple #[eTn ⟨z0,z1,z2,z3,z4,z5,z6,z7⟩,.bool true]:=by rw[hgt];rfl
   clear hgt;go_wp2_with(first|refine zl1 hS ?_);have hS1:=hS.s (ebB eb m1 m2 m3 m4::c8 eW eTn m3 ts::blk bW _ _::blk bR _ _::c8 eW eU m4 ar::c8 eI eSs m2 ss::c8 eS eN m1 (i8 E)::j8 E::R);clear hS
   refine rf3 tB16b (fun i=>i==9) (fun _=>none)
    [⟨some 9,some 10,fun nd=>j6 (nd 9) [.I 0,.I 0,.string ⟨#[]⟩,.string ⟨#[]⟩,.string ⟨#[]⟩,.string ⟨#[]⟩,.I 0,.I 0] 40⟩,⟨some 10,none,fun nd=>j6 (nd 9) [.I z0,.I z1,.string z2,.string z3,.string z4,.string z5,.I z6,.I z7] 40⟩] [none,none,none] hS1 ?_
   clear hS1;intro nd
   repeat(first|refine zc1 ?_|refine zcN ?_|refine zcn ?_|apply AQ7 (ek:=eW) (ev:=eTn) (k:=(cl,sq));rfl;kernel_rfl;rfl;rfl;rfl;rfl;intro F;exact⟨_,by exact A9⟩;exact mT;exact kW;exact zT;exact htt;refine frS ?_|refine zca ?_|refine zct ?_|refine cR ?_)
   refine Ac7 ?_;intro w hS;have hS2:St W [j6 _ _ _,ebB eb m1 m2 m3 m4,c8 eW eTn m3 ts,blk bW _ _,sats (blk bR _ _::c8 eW eU m4 ar::c8 eI eSs m2 ss::c8 eS eN m1 (i8 E)::j8 E::R)] w:=hS;clear hS;have hS:=hS2.unpack [_,_,_,_];clear hS2;simp only[jK,jN]at hS;generalize nd 9=v9 at *;have h1:=hS.ptr;clear hS;obtain⟨b9,rfl,hS⟩:=h1;go_wp2_with(first|refine zsN hS ?_;clear hS;intro w hS);apply Ab7;rfl;rfl;rfl;rfl;exact hS;decide +kernel;(exact x9);kernel_rfl;exact⟨rfl,F7 (hS.s (ebB eb m1 m2 m3 m4::c8 eS eN m1 (i8 E)::j8 E::c8 eI eSs m2 ss::c8 eW eTn m3 ts::c8 eW eU m4 ar::R))⟩
 | some x=>
  obtain⟨q,e0,e1,⟨y0,y1,y2,y3⟩⟩:=x;have hss:aj4 true (eSs (0,rp0)) ((p9 ss cl).map eSs)=.tuple #[eSs (q,⟨e0,e1,⟨y0,y1,y2,y3⟩⟩),.bool true]:=by rw[hg];rfl
  clear hg;go_enter Tryz.func33,Tryz.ntmps33;go_wp2_with(first|refine zbx hS ?_;clear hS;intro bO w hS|(fail_if_success (have:=gA));(refine zal hS ?_;clear hS;have gA:Nat:=0;intro bR w hS)|(have:=gA);refine zal hS ?_;clear hS;intro bW w hS|refine zl1 hS ?_|refine zlN hS ?_|refine zsN hS ?_;clear hS;intro w hS|go_at_call 85;refine(BX7 hm W _ _ hS).mono ?_;clear hS;rintro e w ⟨rfl,hS⟩);have hS1:=hS.s (ebB eb m1 m2 m3 m4::c8 eI eSs m2 ss::blk bO _ _::blk bW _ _::blk bR _ _::c8 eW eTn m3 ts::c8 eW eU m4 ar::c8 eS eN m1 (i8 E)::j8 E::R);clear hS
  refine rf3 tB16a (fun i=>i==10) (fun _=>none)
   [⟨some 10,some 11,fun nd=>j6 (nd 10) [.I 0,.I 0,.I 0,.I 0,.I 0,.I 0,.I 0] 90⟩,⟨some 11,none,fun nd=>j6 (nd 10) [.I q,.I e0,.I e1,.I y0,.I y1,.I y2,.I y3] 90⟩] [none,none,none] hS1 ?_
  clear hS1;intro nd
  repeat(first|refine zc1 ?_|refine zcn ?_|apply AQ7 (ek:=eI) (ev:=eSs) (k:=cl);rfl;kernel_rfl;rfl;rfl;rfl;rfl;intro F;exact⟨_,by exact A9⟩;exact mS;exact kEi;exact zS;exact hss;refine frS ?_|refine zca ?_|refine zct ?_|refine cR ?_)
  refine Ac7 ?_;intro w hS;have hS2:St W [j6 _ _ _,ebB eb m1 m2 m3 m4,c8 eI eSs m2 ss,blk bO _ _,sats (blk bW _ _::blk bR _ _::c8 eW eTn m3 ts::c8 eW eU m4 ar::c8 eS eN m1 (i8 E)::j8 E::R)] w:=hS;clear hS;have hS:=hS2.unpack [_,_,_,_];clear hS2;simp only[jK,jN]at hS;generalize nd 10=v10 at *;have h1:=hS.ptr;clear hS;obtain⟨b7,rfl,hS⟩:=h1
  cases hgt:p9 ts (cl,sq)with
  | none=>
   rw[hgt]at hk;obtain rfl:true=k:=hk;have htt:aj4 true (eTn ⟨0,0,⟨#[]⟩,⟨#[]⟩,⟨#[]⟩,⟨#[]⟩,0,0⟩) ((p9 ts (cl,sq)).map eTn)=.tuple #[eTn ⟨0,0,⟨#[]⟩,⟨#[]⟩,⟨#[]⟩,⟨#[]⟩,0,0⟩,.bool false]:=by rw[hgt];rfl
   clear hgt;go_wp2_with(first|refine zl1 hS ?_);have hS1:=hS.s (ebB eb m1 m2 m3 m4::c8 eW eTn m3 ts::blk bW _ _::blk bR _ _::c8 eW eU m4 ar::c8 eI eSs m2 ss::c8 eS eN m1 (i8 E)::j8 E::R);clear hS
   refine rf3 tB16b (fun i=>i==9) (fun _=>none)
    [⟨some 9,some 10,fun nd=>j6 (nd 9) [.I 0,.I 0,.string ⟨#[]⟩,.string ⟨#[]⟩,.string ⟨#[]⟩,.string ⟨#[]⟩,.I 0,.I 0] 40⟩,⟨some 10,none,fun nd=>j6 (nd 9) [.I 0,.I 0,.string ⟨#[]⟩,.string ⟨#[]⟩,.string ⟨#[]⟩,.string ⟨#[]⟩,.I 0,.I 0] 40⟩] [none,none,none] hS1 ?_
   clear hS1;intro nd
   repeat(first|refine zc1 ?_|refine zcN ?_|refine zcn ?_|apply AQ7 (ek:=eW) (ev:=eTn) (k:=(cl,sq));rfl;kernel_rfl;rfl;rfl;rfl;rfl;intro F;exact⟨_,by exact A9⟩;exact mT;exact kW;exact zT;exact htt;refine frS ?_|refine zca ?_|refine zct ?_|refine cR ?_)
   refine Ac7 ?_;intro w hS;have hS2:St W [j6 _ _ _,ebB eb m1 m2 m3 m4,c8 eW eTn m3 ts,blk bW _ _,sats (blk bR _ _::c8 eW eU m4 ar::c8 eI eSs m2 ss::c8 eS eN m1 (i8 E)::j8 E::R)] w:=hS;clear hS;have hS:=hS2.unpack [_,_,_,_];clear hS2;simp only[jK,jN]at hS;generalize nd 9=v9 at *;have h1:=hS.ptr;clear hS;obtain⟨b9,rfl,hS⟩:=h1;go_wp2_with(first|refine zsN hS ?_;clear hS;intro w hS);apply Ab7;rfl;rfl;rfl;rfl;exact hS;decide +kernel;(exact x9);kernel_rfl;exact⟨rfl,F7 (hS.s (ebB eb m1 m2 m3 m4::c8 eS eN m1 (i8 E)::j8 E::c8 eI eSs m2 ss::c8 eW eTn m3 ts::c8 eW eU m4 ar::R))⟩
  | some z=>
   rw[hgt]at hk;obtain rfl:false=k:=hk;obtain⟨z0,z1,z2,z3,z4,z5,z6,z7⟩:=z;have htt:aj4 true (eTn ⟨0,0,⟨#[]⟩,⟨#[]⟩,⟨#[]⟩,⟨#[]⟩,0,0⟩) ((p9 ts (cl,sq)).map eTn)=.tuple #[eTn ⟨z0,z1,z2,z3,z4,z5,z6,z7⟩,.bool true]:=by rw[hgt];rfl
   clear hgt;go_wp2_with(first|refine zl1 hS ?_);have hS1:=hS.s (ebB eb m1 m2 m3 m4::c8 eW eTn m3 ts::blk bW _ _::blk bR _ _::c8 eW eU m4 ar::c8 eI eSs m2 ss::c8 eS eN m1 (i8 E)::j8 E::R);clear hS
   refine rf3 tB16b (fun i=>i==9) (fun _=>none)
    [⟨some 9,some 10,fun nd=>j6 (nd 9) [.I 0,.I 0,.string ⟨#[]⟩,.string ⟨#[]⟩,.string ⟨#[]⟩,.string ⟨#[]⟩,.I 0,.I 0] 40⟩,⟨some 10,none,fun nd=>j6 (nd 9) [.I z0,.I z1,.string z2,.string z3,.string z4,.string z5,.I z6,.I z7] 40⟩] [none,none,none] hS1 ?_
   clear hS1;intro nd
   repeat(first|refine zc1 ?_|refine zcN ?_|refine zcn ?_|apply AQ7 (ek:=eW) (ev:=eTn) (k:=(cl,sq));rfl;kernel_rfl;rfl;rfl;rfl;rfl;intro F;exact⟨_,by exact A9⟩;exact mT;exact kW;exact zT;exact htt;refine frS ?_|refine zca ?_|refine zct ?_|refine cR ?_)
   refine Ac7 ?_;intro w hS;have hS2:St W [j6 _ _ _,ebB eb m1 m2 m3 m4,c8 eW eTn m3 ts,blk bW _ _,sats (blk bR _ _::c8 eW eU m4 ar::c8 eI eSs m2 ss::c8 eS eN m1 (i8 E)::j8 E::R)] w:=hS;clear hS;have hS:=hS2.unpack [_,_,_,_];clear hS2;simp only[jK,jN]at hS;generalize nd 9=v9 at *;have h1:=hS.ptr;clear hS;obtain⟨b9,rfl,hS⟩:=h1;go_wp2_with(first|refine zsN hS ?_;clear hS;intro w hS);apply Ab7;rfl;rfl;rfl;rfl;exact hS;decide +kernel;(exact x9);kernel_rfl;exact⟨rfl,F7 (hS.s (ebB eb m1 m2 m3 m4::c8 eS eN m1 (i8 E)::j8 E::c8 eI eSs m2 ss::c8 eW eTn m3 ts::c8 eW eU m4 ar::R))⟩
theorem Oj7{r:Rpl}{k:Bool}(hm:A8 ⟨kd,cl,sq,ak,aw,tk,tw,it,ct,pr,bu,id⟩=true)(h6:(kd==6)=false)(h7:(kd==7)=false)
  (h:(match p9 ss cl with|none=>(rp0,false)|some (q,r)=>if sq<q then(⟨13,0,it0⟩,true)else if sq=q then(r,true)else(rp0,false))=(r,k)) (hS:St W (ecR eb m1 m2 m3 m4 E ss ts ar R) w):
  Calls Tryz.prog 33 #[.P eb,oV kd cl sq ak aw tk tw it ct pr bu id] w fun e w'=>e=.returned (.tuple #[rV r.err r.id r.has.x0 r.has.x1 r.has.x2 r.has.x3,.bool k])/\St W (ecR eb m1 m2 m3 m4 E ss ts ar R) w':=by
 have hS0:=D9 hS;clear hS;have hS:=hS0;clear hS0
 cases hg:p9 ss cl with
 | none=>
  have hss:aj4 true (eSs (0,rp0)) ((p9 ss cl).map eSs)=.tuple #[eSs (0,rp0),.bool false]:=by rw[hg];rfl
  rw[hg]at h
  cases h
  clear hg;go_enter Tryz.func33,Tryz.ntmps33;go_wp2_with(first|refine zbx hS ?_;clear hS;intro bO w hS|(fail_if_success (have:=gA));(refine zal hS ?_;clear hS;have gA:Nat:=0;intro bR w hS)|(have:=gA);refine zal hS ?_;clear hS;intro bW w hS|refine zl1 hS ?_|refine zlN hS ?_|refine zsN hS ?_;clear hS;intro w hS|go_at_call 85;refine(BX7 hm W _ _ hS).mono ?_;clear hS;rintro e w ⟨rfl,hS⟩);have hS1:=hS.s (ebB eb m1 m2 m3 m4::c8 eI eSs m2 ss::blk bO _ _::blk bW _ _::blk bR _ _::c8 eW eTn m3 ts::c8 eW eU m4 ar::c8 eS eN m1 (i8 E)::j8 E::R);clear hS
  refine rf3 tB16a (fun i=>i==10) (fun _=>none)
   [⟨some 10,some 11,fun nd=>j6 (nd 10) [.I 0,.I 0,.I 0,.I 0,.I 0,.I 0,.I 0] 90⟩,⟨some 11,none,fun nd=>j6 (nd 10) [.I 0,.I 0,.I 0,.I 0,.I 0,.I 0,.I 0] 90⟩] [none,none,none] hS1 ?_
  clear hS1;intro nd
  repeat(first|refine zc1 ?_|refine zcn ?_|apply AQ7 (ek:=eI) (ev:=eSs) (k:=cl);rfl;kernel_rfl;rfl;rfl;rfl;rfl;intro F;exact⟨_,by exact A9⟩;exact mS;exact kEi;exact zS;exact hss;refine frS ?_|refine zca ?_|refine zct ?_|refine cR ?_)
  refine Ac7 ?_;intro w hS;have hS2:St W [j6 _ _ _,ebB eb m1 m2 m3 m4,c8 eI eSs m2 ss,blk bO _ _,sats (blk bW _ _::blk bR _ _::c8 eW eTn m3 ts::c8 eW eU m4 ar::c8 eS eN m1 (i8 E)::j8 E::R)] w:=hS;clear hS;have hS:=hS2.unpack [_,_,_,_];clear hS2;simp only[jK,jN]at hS;generalize nd 10=v10 at *;have h1:=hS.ptr;clear hS;obtain⟨b7,rfl,hS⟩:=h1;go_wp2_with(first|go_big_skip|refine zl1 hS ?_|refine zsN hS ?_;clear hS;intro w hS);apply Ab7;rfl;rfl;rfl;rfl;exact hS;decide +kernel;(exact x9);kernel_rfl;exact⟨rfl,F7 (hS.s (ebB eb m1 m2 m3 m4::c8 eS eN m1 (i8 E)::j8 E::c8 eI eSs m2 ss::c8 eW eTn m3 ts::c8 eW eU m4 ar::R))⟩
 | some x=>
  obtain⟨q,e0,e1,⟨y0,y1,y2,y3⟩⟩:=x;have hss:aj4 true (eSs (0,rp0)) ((p9 ss cl).map eSs)=.tuple #[eSs (q,⟨e0,e1,⟨y0,y1,y2,y3⟩⟩),.bool true]:=by rw[hg];rfl
  rw[hg]at h;clear hg;simp only at h;by_cases hl:sq<q
  ·rw[if_pos hl]at h
   cases h
   go_enter Tryz.func33,Tryz.ntmps33;go_wp2_with(first|refine zbx hS ?_;clear hS;intro bO w hS|(fail_if_success (have:=gA));(refine zal hS ?_;clear hS;have gA:Nat:=0;intro bR w hS)|(have:=gA);refine zal hS ?_;clear hS;intro bW w hS|refine zl1 hS ?_|refine zlN hS ?_|refine zsN hS ?_;clear hS;intro w hS|go_at_call 85;refine(BX7 hm W _ _ hS).mono ?_;clear hS;rintro e w ⟨rfl,hS⟩);have hS1:=hS.s (ebB eb m1 m2 m3 m4::c8 eI eSs m2 ss::blk bO _ _::blk bW _ _::blk bR _ _::c8 eW eTn m3 ts::c8 eW eU m4 ar::c8 eS eN m1 (i8 E)::j8 E::R);clear hS
   refine rf3 tB16a (fun i=>i==10) (fun _=>none)
    [⟨some 10,some 11,fun nd=>j6 (nd 10) [.I 0,.I 0,.I 0,.I 0,.I 0,.I 0,.I 0] 90⟩,⟨some 11,none,fun nd=>j6 (nd 10) [.I q,.I e0,.I e1,.I y0,.I y1,.I y2,.I y3] 90⟩] [none,none,none] hS1 ?_
   clear hS1;intro nd
   repeat(first|refine zc1 ?_|refine zcn ?_|apply AQ7 (ek:=eI) (ev:=eSs) (k:=cl);rfl;kernel_rfl;rfl;rfl;rfl;rfl;intro F;exact⟨_,by exact A9⟩;exact mS;exact kEi;exact zS;exact hss;refine frS ?_|refine zca ?_|refine zct ?_|refine cR ?_)
   refine Ac7 ?_;intro w hS;have hS2:St W [j6 _ _ _,ebB eb m1 m2 m3 m4,c8 eI eSs m2 ss,blk bO _ _,sats (blk bW _ _::blk bR _ _::c8 eW eTn m3 ts::c8 eW eU m4 ar::c8 eS eN m1 (i8 E)::j8 E::R)] w:=hS;clear hS;have hS:=hS2.unpack [_,_,_,_];clear hS2;simp only[jK,jN]at hS;generalize nd 10=v10 at *;have h1:=hS.ptr;clear hS;obtain⟨b7,rfl,hS⟩:=h1;go_wp2_with(first|refine zl1 hS ?_|refine zsN hS ?_;clear hS;intro w hS);apply Ab7;rfl;rfl;rfl;rfl;exact hS;decide +kernel;(exact x9);kernel_rfl;exact⟨rfl,F7 (hS.s (ebB eb m1 m2 m3 m4::c8 eS eN m1 (i8 E)::j8 E::c8 eI eSs m2 ss::c8 eW eTn m3 ts::c8 eW eU m4 ar::R))⟩
  ·have d1:decide (sq<q)=false:=by simpa using hl
   rw[if_neg hl]at h;by_cases he:sq=q
   ·rw[if_pos he]at h
    cases h
    subst he;go_enter Tryz.func33,Tryz.ntmps33;go_wp2_with(first|refine zbx hS ?_;clear hS;intro bO w hS|(fail_if_success (have:=gA));(refine zal hS ?_;clear hS;have gA:Nat:=0;intro bR w hS)|(have:=gA);refine zal hS ?_;clear hS;intro bW w hS|refine zl1 hS ?_|refine zlN hS ?_|refine zsN hS ?_;clear hS;intro w hS|go_at_call 85;refine(BX7 hm W _ _ hS).mono ?_;clear hS;rintro e w ⟨rfl,hS⟩);have hS1:=hS.s (ebB eb m1 m2 m3 m4::c8 eI eSs m2 ss::blk bO _ _::blk bW _ _::blk bR _ _::c8 eW eTn m3 ts::c8 eW eU m4 ar::c8 eS eN m1 (i8 E)::j8 E::R);clear hS
    refine rf3 tB16a (fun i=>i==10) (fun _=>none)
     [⟨some 10,some 11,fun nd=>j6 (nd 10) [.I 0,.I 0,.I 0,.I 0,.I 0,.I 0,.I 0] 90⟩,⟨some 11,none,fun nd=>j6 (nd 10) [.I sq,.I e0,.I e1,.I y0,.I y1,.I y2,.I y3] 90⟩] [none,none,none] hS1 ?_
    clear hS1;intro nd
    repeat(first|refine zc1 ?_|refine zcn ?_|apply AQ7 (ek:=eI) (ev:=eSs) (k:=cl);rfl;kernel_rfl;rfl;rfl;rfl;rfl;intro F;exact⟨_,by exact A9⟩;exact mS;exact kEi;exact zS;exact hss;refine frS ?_|refine zca ?_|refine zct ?_|refine cR ?_)
    refine Ac7 ?_;intro w hS;have hS2:St W [j6 _ _ _,ebB eb m1 m2 m3 m4,c8 eI eSs m2 ss,blk bO _ _,sats (blk bW _ _::blk bR _ _::c8 eW eTn m3 ts::c8 eW eU m4 ar::c8 eS eN m1 (i8 E)::j8 E::R)] w:=hS;clear hS;have hS:=hS2.unpack [_,_,_,_];clear hS2;simp only[jK,jN]at hS;generalize nd 10=v10 at *;have h1:=hS.ptr;clear hS;obtain⟨b7,rfl,hS⟩:=h1;go_wp2_with(first|refine zl1 hS ?_|refine zlN hS ?_ (vs:=[.I e0,.I e1,.I y0,.I y1,.I y2,.I y3]) (hc:=d7.here rfl)|refine zsN hS ?_;clear hS;intro w hS);apply Ab7;rfl;rfl;rfl;rfl;exact hS;decide +kernel;(exact x9);kernel_rfl;exact⟨rfl,F7 (hS.s (ebB eb m1 m2 m3 m4::c8 eS eN m1 (i8 E)::j8 E::c8 eI eSs m2 ss::c8 eW eTn m3 ts::c8 eW eU m4 ar::R))⟩
   ·have d2:(sq==q)=false:=by simpa using he
    rw[if_neg he]at h
    cases h
    clear hl he;go_enter Tryz.func33,Tryz.ntmps33;go_wp2_with(first|refine zbx hS ?_;clear hS;intro bO w hS|(fail_if_success (have:=gA));(refine zal hS ?_;clear hS;have gA:Nat:=0;intro bR w hS)|(have:=gA);refine zal hS ?_;clear hS;intro bW w hS|refine zl1 hS ?_|refine zlN hS ?_|refine zsN hS ?_;clear hS;intro w hS|go_at_call 85;refine(BX7 hm W _ _ hS).mono ?_;clear hS;rintro e w ⟨rfl,hS⟩);have hS1:=hS.s (ebB eb m1 m2 m3 m4::c8 eI eSs m2 ss::blk bO _ _::blk bW _ _::blk bR _ _::c8 eW eTn m3 ts::c8 eW eU m4 ar::c8 eS eN m1 (i8 E)::j8 E::R);clear hS
    refine rf3 tB16a (fun i=>i==10) (fun _=>none)
     [⟨some 10,some 11,fun nd=>j6 (nd 10) [.I 0,.I 0,.I 0,.I 0,.I 0,.I 0,.I 0] 90⟩,⟨some 11,none,fun nd=>j6 (nd 10) [.I q,.I e0,.I e1,.I y0,.I y1,.I y2,.I y3] 90⟩] [none,none,none] hS1 ?_
    clear hS1;intro nd
    repeat(first|refine zc1 ?_|refine zcn ?_|apply AQ7 (ek:=eI) (ev:=eSs) (k:=cl);rfl;kernel_rfl;rfl;rfl;rfl;rfl;intro F;exact⟨_,by exact A9⟩;exact mS;exact kEi;exact zS;exact hss;refine frS ?_|refine zca ?_|refine zct ?_|refine cR ?_)
    refine Ac7 ?_;intro w hS;have hS2:St W [j6 _ _ _,ebB eb m1 m2 m3 m4,c8 eI eSs m2 ss,blk bO _ _,sats (blk bW _ _::blk bR _ _::c8 eW eTn m3 ts::c8 eW eU m4 ar::c8 eS eN m1 (i8 E)::j8 E::R)] w:=hS;clear hS;have hS:=hS2.unpack [_,_,_,_];clear hS2;simp only[jK,jN]at hS;generalize nd 10=v10 at *;have h1:=hS.ptr;clear hS;obtain⟨b7,rfl,hS⟩:=h1;go_wp2_with(first|refine zl1 hS ?_|refine zsN hS ?_;clear hS;intro w hS);apply Ab7;rfl;rfl;rfl;rfl;exact hS;decide +kernel;(exact x9);kernel_rfl;exact⟨rfl,F7 (hS.s (ebB eb m1 m2 m3 m4::c8 eS eN m1 (i8 E)::j8 E::c8 eI eSs m2 ss::c8 eW eTn m3 ts::c8 eW eU m4 ar::R))⟩
end
theorem BB7{eb m1 m2 m3 m4:Nat}{E:Ev}{vs:List (ByteArray×Vs)}{kd cl sq:Int}{ak aw tk tw:ByteArray}{it ct pr:Int}{bu:Bool}{id:Int}{ss:List (Int×(Int×Rpl))}{ts:List ((Int×Int)×Tns)}{ar:List ((Int×Int)×Unit)}{r:Rpl}{k:Bool}
  (h:au4 ⟨vs,ss,ts,ar⟩ ⟨kd,cl,sq,ak,aw,tk,tw,it,ct,pr,bu,id⟩=(r,k)) (W w:World) (R:List HP) (hS:St W (ecR eb m1 m2 m3 m4 E ss ts ar R) w):
  Calls Tryz.prog 33 #[.P eb,oV kd cl sq ak aw tk tw it ct pr bu id] w fun e w'=>e=.returned (.tuple #[rV r.err r.id r.has.x0 r.has.x1 r.has.x2 r.has.x3,.bool k])/\St W (ecR eb m1 m2 m3 m4 E ss ts ar R) w':=by
 unfold au4 at h
 cases hm:A8 ⟨kd,cl,sq,ak,aw,tk,tw,it,ct,pr,bu,id⟩with
 | false=>
  rw[if_pos hm]at h
  cases h
  exact Sg7 kd cl sq ak aw tk tw it ct pr bu id ss ts ar W w R hm hS
 | true=>
  rw[if_neg (by rw[hm];exact Bool.noConfusion)]at h;dsimp only at h;by_cases h6:kd=6
  ·rw[if_pos h6]at h
   cases h
   subst h6;exact Qi7 cl sq ak aw tk tw it ct pr bu id ss ts ar W w R hm hS
  ·rw[if_neg h6]at h;by_cases h7:kd=7
   ·rw[if_pos h7]at h
    cases h
    subst h7;exact MT7 cl sq ak aw tk tw it ct pr bu id ss ts ar W w R rfl hm hS
   ·rw[if_neg h7]at h;exact Oj7 kd cl sq ak aw tk tw it ct pr bu id ss ts ar W w R hm (by simpa using h6) (by simpa using h7) h hS
end Go.Proofs.YtlmhakmoioogaaaGreat
end
