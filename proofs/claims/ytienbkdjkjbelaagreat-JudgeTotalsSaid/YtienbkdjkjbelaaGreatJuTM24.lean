/-
  send, what a place has, look.
-/
import Derived.Test.YtienbkdjkjbelaaGreatJuTM5
import Derived.Test.YtienbkdjkjbelaaGreatJuTM23
set_option maxHeartbeats 16000000
set_option maxRecDepth 100000
set_option linter.unusedSimpArgs false
set_option linter.unusedVariables false
section
namespace Go.Sl
open Go.RowKit
section
variable{κ ν:Type}[DecidableEq κ]{P:Program}{t K E:TypeId}{ek:κ->Value}{ev:ν->Value}{W w:World}{L R:List HP}{b:Nat}{l:List (κ×ν)}{ops:Array Oper}{a:Act}{rest:List Oper}{o:Oper}
theorem HF7{Q:Act->Prop}{x y:Operand}{k:κ}{z v:Value}{ok:Bool}(ho:o.op=.lookup t x y ok)(hg:Region.wanted o (yielded ops a.tmps)=true)(hx:a.eval x=.map (some b))(hy:a.eval y=ek k)(hu:Take L (d9 ek ev b l) R)
  (ht:E8 P t=some (K,E)) (hK:KeyOk P K ek) (hz:E9 P E=some z) (hv:ad4 ok z ((j6 l k).map ev)=v) (h:wpQuiet P ops (St W L) Q rest (a.put o.dst v)):wpQuiet P ops (St W L) Q (o::rest) a:=
 GO7 hg (fun w hS=>by unfold execOp;simp[ho,hx,hy,Dl7 (hS.take hu) ht hK hz,hv]) h
theorem Az7{tb:List Nat}{toks:List Tok}{fresh:Nat->Bool}{pin:Nat->Option Value}{Qf:Act->Prop}{nd:Nat->Value}{i:Nat}{x y:Operand}{k:κ}{z v:Value}{ok:Bool}(hf:fresh i=false)(hn:au4 toks i=true)(ho:o.op=.lookup t x y ok)(hg:Region.wanted o (yielded ops a.tmps)=true)(hx:a.eval x=.map (some b))(hy:a.eval y=ek k)
  (hu:∀F, ∃R,Take (kpL toks tb i nd++F) (d9 ek ev b l) R) (ht:E8 P t=some (K,E)) (hK:KeyOk P K ek) (hz:E9 P E=some z) (hv:ad4 ok z ((j6 l k).map ev)=v) (h:l7 P W ops tb toks fresh pin Qf nd (i+1) rest (a.put o.dst v)):l7 P W ops tb toks fresh pin Qf nd i (o::rest) a:=
 EZ7 hf hn hg (fun F w hS=>by obtain⟨R,hu⟩:=hu F;unfold execOp;simp[ho,hx,hy,Dl7 (hS.take hu) ht hK hz,hv]) h
end
end Go.Sl
namespace Go.Proofs.YtienbkdjkjbelaaGreat
open Go.RowKit Go.Sl
theorem Oj7{eb m1 m2 m3 m4:Nat}{E:Ev}(k u:ByteArray){x0 x1 x2 x3:Int}(hx:j8 (vAt E k).ps u=⟨x0,x1,x2,x3⟩)(W w:World)(R:List HP)(hS:St W (evP eb m1 m2 m3 m4 E::R) w):
  Calls Tryz.prog 115 #[.P eb,.agg #[.string k,.string u]] w fun e w'=>e=.returned (.agg #[.I x0,.I x1,.I x2,.I x3])/\St W (evP eb m1 m2 m3 m4 E::R) w':=by
 have hS1:=G8 hS;clear hS;have hS:=hS1;clear hS1;have hnd:(E.map (·.1)).Nodup:=by rw[<-AH7];exact H7 hS.drop
 cases hg:j6 E k with
 | none=>
  have hgl:ad4 false (.pointer none) ((j6 (j9 E) k).map eN)=.pointer none:=by rw[CL7,hg];rfl
  have hv:vAt E k=vs0:=by unfold vAt;rw[hg];rfl
  rw[hv]at hx
  cases hx
  go_enter Tryz.func115,Tryz.ntmps115;go_wp2_with(first|refine zbx hS ?_;clear hS;intro bO w hS|refine zal hS ?_;clear hS;intro bR w hS);refine rt 10 hS ?_
  repeat(first|refine zq1 ?_|refine zqn ?_|(apply HF7 (ek:=eS) (ev:=eN) (k:=k));rfl;rfl;rfl;rfl;exact i7;exact mV;exact kS;exact zV;exact hgl;refine frS ?_|apply At7;rfl;intro w;apply Ah7;rfl;decide +kernel;(focus(simp only[fD,fI,fJ,Act.eval,fE,fF,fG,fH,fK];try rfl));intro w hS;exact PW7 u W w _ hS;refine frS ?_|refine qR ?_)
  clear hS;intro w hS;simp only[jD,List.drop_zero];go_wp2_with(first|refine zsN hS ?_;clear hS;intro w hS);apply Ap7;rfl;rfl;rfl;exact hS;decide +kernel;(exact r6);kernel_rfl;exact⟨rfl,E7 (hS.s _)⟩
 | some x=>
  obtain⟨vb,V⟩:=x;have hgl:ad4 false (.pointer none) ((j6 (j9 E) k).map eN)=eN vb:=by rw[CL7,hg];rfl
  have hp:=Bq7 hnd hg;have hv:vAt E k=V:=by unfold vAt;rw[hg];rfl
  rw[hv]at hx;have h1:St W (l9 E::ebB eb m1 m2 m3 m4::d9 eS eN m1 (j9 E)::R) w:=hS.s _;have h2:=cr4 (bi4 hp h1);obtain⟨mb,bb,h3⟩:=bz4 h2;clear hS h1 h2;have hS:=h3;clear h3;go_enter Tryz.func115,Tryz.ntmps115;go_wp2_with(first|refine zbx hS ?_;clear hS;intro bO w hS|refine zal hS ?_;clear hS;intro bR w hS);have hS1:=hS.s (blk vb _ _::d9 eS eP mb V.ps::blk bR _ _::blk bO _ _::ebB eb m1 m2 m3 m4::d9 eS eN m1 (j9 E)::x9 bb V.L V.n::l9 (i9 E k)::R);clear hS;refine rt 10 hS1 ?_
  repeat(first|refine zq1 ?_|refine zqn ?_|(apply HF7 (ek:=eS) (ev:=eN) (k:=k));rfl;rfl;rfl;rfl;exact i7;exact mV;exact kS;exact zV;exact hgl;refine frS ?_|apply At7;rfl;intro w;apply Ah7;rfl;decide +kernel;(focus(simp only[fD,fI,fJ,Act.eval,fE,fF,fG,fH,fK];try rfl));intro w hS;exact Re7 vb mb W w _ _ _ hx hS;refine frS ?_|refine qR ?_)
  clear hS1;intro w hS;simp only[jD,List.drop_zero];go_wp2_with(first|refine zsN hS ?_;clear hS;intro w hS);apply Ap7;rfl;rfl;rfl;exact hS;decide +kernel;(exact r6);kernel_rfl;have h4:=aI4 (V:=V) (hS.s (w5 vb mb bb V.ps V.L V.n (l9 (i9 E k)::ebB eb m1 m2 m3 m4::d9 eS eN m1 (j9 E)::R)));have h5:=bi4 hp.symm (cs4 (x:=(k,(vb,V))) h4);exact⟨rfl,E7 (h5.s _)⟩
theorem Mo7{eb m1 m2 m3 m4:Nat}{E:Ev}(kd cl sq:Int)(ak aw tk tw:ByteArray)(it ct pr:Int)(bu:Bool)(id:Int){x0 x1 x2 x3:Int}(hx:j8 (vAt E ak).ps aw=⟨x0,x1,x2,x3⟩)(W w:World)(R:List HP)(hS:St W (evP eb m1 m2 m3 m4 E::R) w):
  Calls Tryz.prog 69 #[.P eb,oV kd cl sq ak aw tk tw it ct pr bu id] w fun e w'=>e=.returned (rV 0 0 x0 x1 x2 x3)/\St W (evP eb m1 m2 m3 m4 E::R) w':=by
 go_enter Tryz.func69,Tryz.ntmps69;go_wp2_with(first|refine zbx hS ?_;clear hS;intro bO w hS|refine zal hS ?_;clear hS;intro bR w hS|refine zlN hS ?_ (vs:=[.string ak,.string aw]) (hc:=by first|exact d8.here rfl|exact d8.there (d8.here rfl))|refine zsN hS ?_;clear hS;intro w hS|go_at_call 115;refine(Oj7 ak aw hx W _ _ (hS.s (evP eb m1 m2 m3 m4 E::blk bR _ _::blk bO _ _::R))).mono ?_;clear hS;rintro e w ⟨rfl,hS⟩);apply Ap7;rfl;rfl;rfl;exact hS;decide +kernel;(exact r6);kernel_rfl;exact⟨rfl,hS.s _⟩
abbrev tB23a:List Nat:=[0,0,2,6,15,0,32,96,0,287,1023,2047]
theorem Qf7{eb m1 m2 m3 m4:Nat}{E:Ev}{i:Nat}(hE:I8 E i)(kd cl sq:Int)(ak aw tk tw:ByteArray)(it ct pr:Int)(bu:Bool)(id:Int)(ts:List ((Int×Int)×Tns))(h0:0<=it)(h4:it<4)(c0:1<=ct)(c1:ct<=1048576){r:Int}{q:Ps}
  (hr:p9 (vAt E ak).ps aw (p8 it ct)=r) (hr0:(r==0)=false) (hq:r8 (vAt E ak).ps aw (p8 it ct)=q) (W w:World) (R:List HP) (hS:St W (evP eb m1 m2 m3 m4 E::d9 eW eTn m3 ts::R) w):
  Calls Tryz.prog 66 #[.P eb,oV kd cl sq ak aw tk tw it ct pr bu id] w fun e w'=>∃vb,VOk q (vAt E ak).n (i+1)/\e=.returned (rV r 0 0 0 0 0) /\
   St W (evP eb m1 m2 m3 m4 ((ak,(vb,⟨q,(vAt E ak).L,(vAt E ak).n⟩))::i9 E ak)::d9 eW eTn m3 ts::R) w':=by
 obtain⟨V,hV⟩:∃V,vAt E ak=V:=⟨_,rfl⟩
 obtain⟨D,hD⟩:∃D,i9 E ak=D:=⟨_,rfl⟩
 obtain⟨x,hx⟩:∃x,p8 it ct=x:=⟨_,rfl⟩
 obtain⟨x0,x1,x2,x3⟩:=x;rw[hV,hx]at hr hq;rw[hV,hD];have Hx:=jH hx;have Hr:=jH hr;have Hq:=jH hq;clear hx hr hq;have HE:=jH hE;have HV:=jH hV;have HD:=jH hD;clear hE hV hD;go_enter Tryz.func66,Tryz.ntmps66;go_wp2_with(first|refine zbx hS ?_;clear hS;intro bO w hS|refine zal hS ?_;clear hS;intro bR w hS);have hS1:=hS.s (evP eb m1 m2 m3 m4 E::blk bR _ _::blk bO _ _::d9 eW eTn m3 ts::R);clear hS
 refine rf3 tB23a (fun i=>i==4) (fun i=>if i==9 then some (.agg #[.I x0,.I x1,.I x2,.I x3])else if i==10 then some (.I r)else none)
  [⟨some 4,some 10,fun nd=>atR (nd 4) eb m1 m2 m3 m4 D ak V i⟩,⟨some 10,none,fun nd=>atR (nd 4) eb m1 m2 m3 m4 D ak ⟨q,V.L,V.n⟩ (i+1)⟩] [some 4,none,none] hS1 ?_
 clear hS1;intro nd
 repeat(first|refine zc1 ?_|refine zcN ?_|apply Bb7;rfl;rfl;rfl;decide +kernel;(focus(simp only[fD,fI,fJ,Act.eval,fE,fF,fG,fH,fK];try rfl));intro _;rfl;intro F w hS;exact atF HE.out HV.out HD.out hS;refine frS ?_|refine zcv ?_ (hs:=by(intro F w hS;(try clear hS0);exact EL7 Hx.out h0 h4 c0 c1 W w _ hS))|refine zcv ?_ (hs:=by(intro F w hS;(try clear hS0);exact eC4 Hr.out Hq.out hS))|refine cR ?_)
 refine Ad7 ?_;intro w hS;have hS2:St W [atR _ eb m1 m2 m3 m4 D ak ⟨q,V.L,V.n⟩ (i+1),blk bR _ _,blk bO _ _,sats (d9 eW eTn m3 ts::R)] w:=hS;clear hS;have hS:=hS2.unpack [_,_,_];clear hS2;simp only[jK,jN]at hS;obtain⟨vb,h1,hS3⟩:=cE4 hS;clear hS;have H1:=jH h1;clear h1;have hS:=G8 hS3;clear hS3;go_wp2_with(first|refine zsN hS ?_;clear hS;intro w hS);apply Ap7;rfl;rfl;rfl;exact hS;decide +kernel;(exact r6);kernel_rfl;exact⟨H1.out,rfl,vb,E7 (hS.s (ebB eb m1 m2 m3 m4::d9 eS eN m1 _::l9 _::d9 eW eTn m3 ts::R))⟩
theorem Ok7{eb m1 m2 m3 m4:Nat}{E:Ev}{i:Nat}(hE:I8 E i)(kd cl sq:Int)(ak aw tk tw:ByteArray)(it ct pr:Int)(bu:Bool)(id:Int)(ts:List ((Int×Int)×Tns))(h0:0<=it)(h4:it<4)(c0:1<=ct)(c1:ct<=1048576){q:Ps}
  (hr:p9 (vAt E ak).ps aw (p8 it ct)=0) (hq:r8 (vAt E ak).ps aw (p8 it ct)=q) (W w:World) (R:List HP) (hS:St W (evP eb m1 m2 m3 m4 E::d9 eW eTn m3 ts::R) w):
  Calls Tryz.prog 66 #[.P eb,oV kd cl sq ak aw tk tw it ct pr bu id] w fun e w'=>∃vb,VOk q (vAt E ak).n (i+1)/\e=.returned (rV 0 0 0 0 0 0) /\
   St W (evP eb m1 m2 m3 m4 ((ak,(vb,⟨q,(vAt E ak).L,(vAt E ak).n⟩))::i9 E ak)::d9 eW eTn m3 (((cl,sq),⟨cl,sq,ak,aw,tk,tw,it,ct⟩)::i9 ts (cl,sq))::R) w':=by
 obtain⟨V,hV⟩:∃V,vAt E ak=V:=⟨_,rfl⟩
 obtain⟨D,hD⟩:∃D,i9 E ak=D:=⟨_,rfl⟩
 obtain⟨x,hx⟩:∃x,p8 it ct=x:=⟨_,rfl⟩
 obtain⟨x0,x1,x2,x3⟩:=x;rw[hV,hx]at hr hq;rw[hV,hD];have Hx:=jH hx;have Hr:=jH hr;have Hq:=jH hq;clear hx hr hq;have HE:=jH hE;have HV:=jH hV;have HD:=jH hD;clear hE hV hD;go_enter Tryz.func66,Tryz.ntmps66;go_wp2_with(first|refine zbx hS ?_;clear hS;intro bO w hS|refine zal hS ?_;clear hS;intro bR w hS);have hS1:=hS.s (evP eb m1 m2 m3 m4 E::blk bR _ _::blk bO _ _::d9 eW eTn m3 ts::R);clear hS
 refine rf3 tB23a (fun i=>i==4) (fun i=>if i==9 then some (.agg #[.I x0,.I x1,.I x2,.I x3])else if i==10 then some (.I 0)else none)
  [⟨some 4,some 10,fun nd=>atR (nd 4) eb m1 m2 m3 m4 D ak V i⟩,⟨some 10,none,fun nd=>atR (nd 4) eb m1 m2 m3 m4 D ak ⟨q,V.L,V.n⟩ (i+1)⟩] [some 4,none,none] hS1 ?_
 clear hS1;intro nd
 repeat(first|refine zc1 ?_|refine zcN ?_|apply Bb7;rfl;rfl;rfl;decide +kernel;(focus(simp only[fD,fI,fJ,Act.eval,fE,fF,fG,fH,fK];try rfl));intro _;rfl;intro F w hS;exact atF HE.out HV.out HD.out hS;refine frS ?_|refine zcv ?_ (hs:=by(intro F w hS;(try clear hS0);exact EL7 Hx.out h0 h4 c0 c1 W w _ hS))|refine zcv ?_ (hs:=by(intro F w hS;(try clear hS0);exact eC4 Hr.out Hq.out hS))|refine cR ?_)
 refine Ad7 ?_;intro w hS;have hS2:St W [atR _ eb m1 m2 m3 m4 D ak ⟨q,V.L,V.n⟩ (i+1),blk bR _ _,blk bO _ _,sats (d9 eW eTn m3 ts::R)] w:=hS;clear hS;have hS:=hS2.unpack [_,_,_];clear hS2;simp only[jK,jN]at hS;obtain⟨vb,h1,hS3⟩:=cE4 hS;clear hS;have H1:=jH h1;clear h1;have hS:=G8 hS3;clear hS3;go_wp2_with fail;refine rt 22 hS ?_
 repeat(first|refine zq1 ?_|refine zqN ?_ (hc:=by first|exact d8.here (vs:=[.string ak,.string aw]) rfl|exact d8.there (d8.here (vs:=[.string ak,.string aw]) rfl)|exact d8.there (d8.there (d8.there (d8.there (d8.here (vs:=[.string ak,.string aw]) rfl))))|exact d8.there (d8.there (d8.there (d8.here (vs:=[.string ak,.string aw]) rfl))))|refine zqN ?_ (hc:=by first|exact d8.here (vs:=[.string tk,.string tw]) rfl|exact d8.there (d8.here (vs:=[.string tk,.string tw]) rfl)|exact d8.there (d8.there (d8.there (d8.there (d8.here (vs:=[.string tk,.string tw]) rfl))))|exact d8.there (d8.there (d8.there (d8.here (vs:=[.string tk,.string tw]) rfl))))|refine zqn ?_|refine qR ?_)
 clear hS;intro w hS;simp only[jD,List.drop_zero];go_wp2_with(first|((with_reducible apply BA7 (ek:=eW) (ev:=eTn) (k:=(cl,sq)) (u:=(⟨cl,sq,ak,aw,tk,tw,it,ct⟩:Tns)) hS);rfl;rfl;rfl;rfl;exact i7;(focus(rfl));exact mT;exact kW;clear hS;intro w hS;try(refine frS ?_))|refine zsN hS ?_;clear hS;intro w hS);apply Ap7;rfl;rfl;rfl;exact hS;decide +kernel;(exact r6);kernel_rfl;exact⟨vb,H1.out,rfl,E7 (hS.s (ebB eb m1 m2 m3 m4::d9 eS eN m1 _::l9 _::d9 eW eTn m3 _::R))⟩
end Go.Proofs.YtienbkdjkjbelaaGreat
end
