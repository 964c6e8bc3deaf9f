/-
  send, what a place has, look.
-/
import Derived.Test.YtlmhakmoioogaaaGreatEconBkM15
set_option maxHeartbeats 16000000
set_option maxRecDepth 100000
set_option linter.unusedSimpArgs false
set_option linter.unusedVariables false
section
namespace Go.Sl
open Go.RowKit
section
variable{κ ν:Type}[DecidableEq κ]{P:Program}{t K E:TypeId}{ek:κ->Value}{ev:ν->Value}{W w:World}{L R:List HP}{b:Nat}{l:List (κ×ν)}{ops:Array Oper}{a:Act}{rest:List Oper}{o:Oper}
theorem JF7{Q:Act->Prop}{x y:Operand}{k:κ}{z v:Value}{ok:Bool}(ho:o.op=.lookup t x y ok)(hg:Region.wanted o (yielded ops a.tmps)=true)(hx:a.eval x=.map (some b))(hy:a.eval y=ek k)(hu:Take L (d8 ek ev b l) R)
  (ht:I9 P t=some (K,E)) (hK:KeyOk P K ek) (hz:N8 P E=some z) (hv:ap4 ok z ((m7 l k).map ev)=v) (h:wpQuiet P ops (St W L) Q rest (a.put o.dst v)):wpQuiet P ops (St W L) Q (o::rest) a:=
 Hm7 hg (fun w hS=>by unfold execOp;simp[ho,hx,hy,Ee7 (hS.take hu) ht hK hz,hv]) h
theorem AL7{tb:List Nat}{toks:List Tok}{fresh:Nat->Bool}{pin:Nat->Option Value}{Qf:Act->Prop}{nd:Nat->Value}{i:Nat}{x y:Operand}{k:κ}{z v:Value}{ok:Bool}(hf:fresh i=false)(hn:ay4 toks i=true)(ho:o.op=.lookup t x y ok)(hg:Region.wanted o (yielded ops a.tmps)=true)(hx:a.eval x=.map (some b))(hy:a.eval y=ek k)
  (hu:∀F, ∃R,Take (kpL toks tb i nd++F) (d8 ek ev b l) R) (ht:I9 P t=some (K,E)) (hK:KeyOk P K ek) (hz:N8 P E=some z) (hv:ap4 ok z ((m7 l k).map ev)=v) (h:t8 P W ops tb toks fresh pin Qf nd (i+1) rest (a.put o.dst v)):t8 P W ops tb toks fresh pin Qf nd i (o::rest) a:=
 Ft7 hf hn hg (fun F w hS=>by obtain⟨R,hu⟩:=hu F;unfold execOp;simp[ho,hx,hy,Ee7 (hS.take hu) ht hK hz,hv]) h
end
end Go.Sl
namespace Go.Proofs.YtlmhakmoioogaaaGreat
open Go.RowKit Go.Sl
theorem Mh7{eb m1 m2 m3 m4:Nat}{E:Ev}(k u:ByteArray){x0 x1 x2 x3:Int}(hx:m5 (vAt E k).ps u=⟨x0,x1,x2,x3⟩)(W w:World)(R:List HP)(hS:St W (evP eb m1 m2 m3 m4 E::R) w):
  Calls Tryz.prog 18 #[.P eb,.agg #[.string k,.string u]] w fun e w'=>e=.returned (.agg #[.I x0,.I x1,.I x2,.I x3])/\St W (evP eb m1 m2 m3 m4 E::R) w':=by
 have hS1:=G6 hS;clear hS;have hS:=hS1;clear hS1;have hnd:(E.map (·.1)).Nodup:=by rw[<-AV7];exact K8 hS.drop
 cases hg:m7 E k with
 | none=>
  have hgl:ap4 false (.pointer none) ((m7 (j6 E) k).map eN)=.pointer none:=by rw[CT7,hg];rfl
  have hv:vAt E k=vs0:=by unfold vAt;rw[hg];rfl
  rw[hv]at hx
  cases hx
  go_enter Tryz.func18,Tryz.ntmps18;go_wp2_with(first|refine zbx hS ?_;clear hS;intro bO w hS|refine zal hS ?_;clear hS;intro bR w hS);refine rt 10 hS ?_
  repeat(first|refine zq1 ?_|refine zqn ?_|(apply JF7 (ek:=eS) (ev:=eN) (k:=k));rfl;rfl;rfl;rfl;exact j5;exact mV;exact kS;exact zV;exact hgl;refine frS ?_|apply At7;rfl;intro w;apply Ag7;rfl;decide +kernel;(focus(simp only[fD,fI,fJ,Act.eval,fE,fF,fG,fH,fK];try rfl));intro w hS;exact Tp7 u W w _ hS;refine frS ?_|refine qR ?_)
  clear hS;intro w hS;simp only[jD,List.drop_zero];go_wp2_with(first|refine zsN hS ?_;clear hS;intro w hS);apply Au7;rfl;rfl;rfl;exact hS;decide +kernel;(exact x9);kernel_rfl;exact⟨rfl,J7 (hS.s _)⟩
 | some x=>
  obtain⟨vb,V⟩:=x;have hgl:ap4 false (.pointer none) ((m7 (j6 E) k).map eN)=eN vb:=by rw[CT7,hg];rfl
  have hp:=BB7 hnd hg;have hv:vAt E k=V:=by unfold vAt;rw[hg];rfl
  rw[hv]at hx;have h1:St W (m9 E::ebB eb m1 m2 m3 m4::d8 eS eN m1 (j6 E)::R) w:=hS.s _;have h2:=bE4 (aY4 hp h1);obtain⟨mb,bb,h3⟩:=aF4 h2;clear hS h1 h2;have hS:=h3;clear h3;go_enter Tryz.func18,Tryz.ntmps18;go_wp2_with(first|refine zbx hS ?_;clear hS;intro bO w hS|refine zal hS ?_;clear hS;intro bR w hS);have hS1:=hS.s (blk vb _ _::d8 eS eP mb V.ps::blk bR _ _::blk bO _ _::ebB eb m1 m2 m3 m4::d8 eS eN m1 (j6 E)::w7 bb V.L V.n::m9 (j9 E k)::R);clear hS;refine rt 10 hS1 ?_
  repeat(first|refine zq1 ?_|refine zqn ?_|(apply JF7 (ek:=eS) (ev:=eN) (k:=k));rfl;rfl;rfl;rfl;exact j5;exact mV;exact kS;exact zV;exact hgl;refine frS ?_|apply At7;rfl;intro w;apply Ag7;rfl;decide +kernel;(focus(simp only[fD,fI,fJ,Act.eval,fE,fF,fG,fH,fK];try rfl));intro w hS;exact UP7 vb mb W w _ _ _ hx hS;refine frS ?_|refine qR ?_)
  clear hS1;intro w hS;simp only[jD,List.drop_zero];go_wp2_with(first|refine zsN hS ?_;clear hS;intro w hS);apply Au7;rfl;rfl;rfl;exact hS;decide +kernel;(exact x9);kernel_rfl;have h4:=ah4 (V:=V) (hS.s (B7 vb mb bb V.ps V.L V.n (m9 (j9 E k)::ebB eb m1 m2 m3 m4::d8 eS eN m1 (j6 E)::R)));have h5:=aY4 hp.symm (cb4 (x:=(k,(vb,V))) h4);exact⟨rfl,J7 (h5.s _)⟩
theorem Po7{eb m1 m2 m3 m4:Nat}{E:Ev}(kd cl sq:Int)(ak aw tk tw:ByteArray)(it ct pr:Int)(bu:Bool)(id:Int){x0 x1 x2 x3:Int}(hx:m5 (vAt E ak).ps aw=⟨x0,x1,x2,x3⟩)(W w:World)(R:List HP)(hS:St W (evP eb m1 m2 m3 m4 E::R) w):
  Calls Tryz.prog 40 #[.P eb,oV kd cl sq ak aw tk tw it ct pr bu id] w fun e w'=>e=.returned (rV 0 0 x0 x1 x2 x3)/\St W (evP eb m1 m2 m3 m4 E::R) w':=by
 go_enter Tryz.func40,Tryz.ntmps40;go_wp2_with(first|refine zbx hS ?_;clear hS;intro bO w hS|refine zal hS ?_;clear hS;intro bR w hS|refine zlN hS ?_ (vs:=[.string ak,.string aw]) (hc:=by first|exact i8.here rfl|exact i8.there (i8.here rfl))|refine zsN hS ?_;clear hS;intro w hS|go_at_call 18;refine(Mh7 ak aw hx W _ _ (hS.s (evP eb m1 m2 m3 m4 E::blk bR _ _::blk bO _ _::R))).mono ?_;clear hS;rintro e w ⟨rfl,hS⟩);apply Au7;rfl;rfl;rfl;exact hS;decide +kernel;(exact x9);kernel_rfl;exact⟨rfl,hS.s _⟩
abbrev tB15c:List Nat:=[0,0,2,6,15,0,32,96,0,287,1023,2047]
theorem TW7{eb m1 m2 m3 m4:Nat}{E:Ev}{i:Nat}(hE:O6 E i)(kd cl sq:Int)(ak aw tk tw:ByteArray)(it ct pr:Int)(bu:Bool)(id:Int)(ts:List ((Int×Int)×Tns))(h0:0<=it)(h4:it<4)(c0:1<=ct)(c1:ct<=1048576){r:Int}{q:Ps}
  (hr:A5 (vAt E ak).ps aw (B5 it ct)=r) (hr0:(r==0)=false) (hq:A8 (vAt E ak).ps aw (B5 it ct)=q) (W w:World) (R:List HP) (hS:St W (evP eb m1 m2 m3 m4 E::d8 eW eTn m3 ts::R) w):
  Calls Tryz.prog 37 #[.P eb,oV kd cl sq ak aw tk tw it ct pr bu id] w fun e w'=>∃vb,VOk q (vAt E ak).n (i+1)/\e=.returned (rV r 0 0 0 0 0) /\
   St W (evP eb m1 m2 m3 m4 ((ak,(vb,⟨q,(vAt E ak).L,(vAt E ak).n⟩))::j9 E ak)::d8 eW eTn m3 ts::R) w':=by
 obtain⟨V,hV⟩:∃V,vAt E ak=V:=⟨_,rfl⟩
 obtain⟨D,hD⟩:∃D,j9 E ak=D:=⟨_,rfl⟩
 obtain⟨x,hx⟩:∃x,B5 it ct=x:=⟨_,rfl⟩
 obtain⟨x0,x1,x2,x3⟩:=x;rw[hV,hx]at hr hq;rw[hV,hD];have Hx:=jH hx;have Hr:=jH hr;have Hq:=jH hq;clear hx hr hq;have HE:=jH hE;have HV:=jH hV;have HD:=jH hD;clear hE hV hD;go_enter Tryz.func37,Tryz.ntmps37;go_wp2_with(first|refine zbx hS ?_;clear hS;intro bO w hS|refine zal hS ?_;clear hS;intro bR w hS);have hS1:=hS.s (evP eb m1 m2 m3 m4 E::blk bR _ _::blk bO _ _::d8 eW eTn m3 ts::R);clear hS
 refine rf3 tB15c (fun i=>i==4) (fun i=>if i==9 then some (.agg #[.I x0,.I x1,.I x2,.I x3])else if i==10 then some (.I r)else none)
  [⟨some 4,some 10,fun nd=>atR (nd 4) eb m1 m2 m3 m4 D ak V i⟩,⟨some 10,none,fun nd=>atR (nd 4) eb m1 m2 m3 m4 D ak ⟨q,V.L,V.n⟩ (i+1)⟩] [some 4,none,none] hS1 ?_
 clear hS1;intro nd
 repeat(first|refine zc1 ?_|refine zcN ?_|apply AP7;rfl;rfl;rfl;decide +kernel;(focus(simp only[fD,fI,fJ,Act.eval,fE,fF,fG,fH,fK];try rfl));intro _;rfl;intro F w hS;exact atF HE.out HV.out HD.out hS;refine frS ?_|refine zcv ?_ (hs:=by(intro F w hS;(try clear hS0);exact FW7 Hx.out h0 h4 c0 c1 W w _ hS))|refine zcv ?_ (hs:=by(intro F w hS;(try clear hS0);exact fu4 Hr.out Hq.out hS))|refine cR ?_)
 refine Ad7 ?_;intro w hS;have hS2:St W [atR _ eb m1 m2 m3 m4 D ak ⟨q,V.L,V.n⟩ (i+1),blk bR _ _,blk bO _ _,sats (d8 eW eTn m3 ts::R)] w:=hS;clear hS;have hS:=hS2.unpack [_,_,_];clear hS2;simp only[jK,jN]at hS;obtain⟨vb,h1,hS3⟩:=dq4 hS;clear hS;have H1:=jH h1;clear h1;have hS:=G6 hS3;clear hS3;go_wp2_with(first|refine zsN hS ?_;clear hS;intro w hS);apply Au7;rfl;rfl;rfl;exact hS;decide +kernel;(exact x9);kernel_rfl;exact⟨H1.out,rfl,vb,J7 (hS.s (ebB eb m1 m2 m3 m4::d8 eS eN m1 _::m9 _::d8 eW eTn m3 ts::R))⟩
theorem RF7{eb m1 m2 m3 m4:Nat}{E:Ev}{i:Nat}(hE:O6 E i)(kd cl sq:Int)(ak aw tk tw:ByteArray)(it ct pr:Int)(bu:Bool)(id:Int)(ts:List ((Int×Int)×Tns))(h0:0<=it)(h4:it<4)(c0:1<=ct)(c1:ct<=1048576){q:Ps}
  (hr:A5 (vAt E ak).ps aw (B5 it ct)=0) (hq:A8 (vAt E ak).ps aw (B5 it ct)=q) (W w:World) (R:List HP) (hS:St W (evP eb m1 m2 m3 m4 E::d8 eW eTn m3 ts::R) w):
  Calls Tryz.prog 37 #[.P eb,oV kd cl sq ak aw tk tw it ct pr bu id] w fun e w'=>∃vb,VOk q (vAt E ak).n (i+1)/\e=.returned (rV 0 0 0 0 0 0) /\
   St W (evP eb m1 m2 m3 m4 ((ak,(vb,⟨q,(vAt E ak).L,(vAt E ak).n⟩))::j9 E ak)::d8 eW eTn m3 (((cl,sq),⟨cl,sq,ak,aw,tk,tw,it,ct⟩)::j9 ts (cl,sq))::R) w':=by
 obtain⟨V,hV⟩:∃V,vAt E ak=V:=⟨_,rfl⟩
 obtain⟨D,hD⟩:∃D,j9 E ak=D:=⟨_,rfl⟩
 obtain⟨x,hx⟩:∃x,B5 it ct=x:=⟨_,rfl⟩
 obtain⟨x0,x1,x2,x3⟩:=x;rw[hV,hx]at hr hq;rw[hV,hD];have Hx:=jH hx;have Hr:=jH hr;have Hq:=jH hq;clear hx hr hq;have HE:=jH hE;have HV:=jH hV;have HD:=jH hD;clear hE hV hD;go_enter Tryz.func37,Tryz.ntmps37;go_wp2_with(first|refine zbx hS ?_;clear hS;intro bO w hS|refine zal hS ?_;clear hS;intro bR w hS);have hS1:=hS.s (evP eb m1 m2 m3 m4 E::blk bR _ _::blk bO _ _::d8 eW eTn m3 ts::R);clear hS
 refine rf3 tB15c (fun i=>i==4) (fun i=>if i==9 then some (.agg #[.I x0,.I x1,.I x2,.I x3])else if i==10 then some (.I 0)else none)
  [⟨some 4,some 10,fun nd=>atR (nd 4) eb m1 m2 m3 m4 D ak V i⟩,⟨some 10,none,fun nd=>atR (nd 4) eb m1 m2 m3 m4 D ak ⟨q,V.L,V.n⟩ (i+1)⟩] [some 4,none,none] hS1 ?_
 clear hS1;intro nd
 repeat(first|refine zc1 ?_|refine zcN ?_|apply AP7;rfl;rfl;rfl;decide +kernel;(focus(simp only[fD,fI,fJ,Act.eval,fE,fF,fG,fH,fK];try rfl));intro _;rfl;intro F w hS;exact atF HE.out HV.out HD.out hS;refine frS ?_|refine zcv ?_ (hs:=by(intro F w hS;(try clear hS0);exact FW7 Hx.out h0 h4 c0 c1 W w _ hS))|refine zcv ?_ (hs:=by(intro F w hS;(try clear hS0);exact fu4 Hr.out Hq.out hS))|refine cR ?_)
 refine Ad7 ?_;intro w hS;have hS2:St W [atR _ eb m1 m2 m3 m4 D ak ⟨q,V.L,V.n⟩ (i+1),blk bR _ _,blk bO _ _,sats (d8 eW eTn m3 ts::R)] w:=hS;clear hS;have hS:=hS2.unpack [_,_,_];clear hS2;simp only[jK,jN]at hS;obtain⟨vb,h1,hS3⟩:=dq4 hS;clear hS;have H1:=jH h1;clear h1;have hS:=G6 hS3;clear hS3;go_wp2_with fail;refine rt 22 hS ?_
 repeat(first|refine zq1 ?_|refine zqN ?_ (hc:=by first|exact i8.here (vs:=[.string ak,.string aw]) rfl|exact i8.there (i8.here (vs:=[.string ak,.string aw]) rfl)|exact i8.there (i8.there (i8.there (i8.there (i8.here (vs:=[.string ak,.string aw]) rfl))))|exact i8.there (i8.there (i8.there (i8.here (vs:=[.string ak,.string aw]) rfl))))|refine zqN ?_ (hc:=by first|exact i8.here (vs:=[.string tk,.string tw]) rfl|exact i8.there (i8.here (vs:=[.string tk,.string tw]) rfl)|exact i8.there (i8.there (i8.there (i8.there (i8.here (vs:=[.string tk,.string tw]) rfl))))|exact i8.there (i8.there (i8.there (i8.here (vs:=[.string tk,.string tw]) rfl))))|refine zqn ?_|refine qR ?_)
 clear hS;intro w hS;simp only[jD,List.drop_zero];go_wp2_with(first|((with_reducible apply Bs7 (ek:=eW) (ev:=eTn) (k:=(cl,sq)) (u:=(⟨cl,sq,ak,aw,tk,tw,it,ct⟩:Tns)) hS);rfl;rfl;rfl;rfl;exact j5;(focus(rfl));exact mT;exact kW;clear hS;intro w hS;try(refine frS ?_))|refine zsN hS ?_;clear hS;intro w hS);apply Au7;rfl;rfl;rfl;exact hS;decide +kernel;(exact x9);kernel_rfl;exact⟨vb,H1.out,rfl,J7 (hS.s (ebB eb m1 m2 m3 m4::d8 eS eN m1 _::m9 _::d8 eW eTn m3 _::R))⟩
section
variable{eb m1 m2 m3 m4:Nat}{E:Ev}(kd cl sq:Int)(ak aw tk tw:ByteArray)(it ct pr:Int)(bu:Bool)(id:Int)(ss:List (Int×(Int×Rpl)))(ts:List ((Int×Int)×Tns))(ar:List ((Int×Int)×Unit))(W w:World)(R:List HP)
abbrev ecR(eb m1 m2 m3 m4:Nat)(E:Ev)(ss:List (Int×(Int×Rpl)))(ts:List ((Int×Int)×Tns))(ar:List ((Int×Int)×Unit))(R:List HP):List HP:=evP eb m1 m2 m3 m4 E::d8 eI eSs m2 ss::d8 eW eTn m3 ts::d8 eW eU m4 ar::R
theorem TX7(hm:C5 ⟨kd,cl,sq,ak,aw,tk,tw,it,ct,pr,bu,id⟩=false)(hS:St W (ecR eb m1 m2 m3 m4 E ss ts ar R) w):
  Calls Tryz.prog 33 #[.P eb,oV kd cl sq ak aw tk tw it ct pr bu id] w fun e w'=>e=.returned (.tuple #[rV 1 0 0 0 0 0,.bool true])/\St W (ecR eb m1 m2 m3 m4 E ss ts ar R) w':=by
 go_enter Tryz.func33,Tryz.ntmps33;go_wp2_with(first|refine zbx hS ?_;clear hS;intro bO w hS|(fail_if_success (have:=gA));(refine zal hS ?_;clear hS;have gA:Nat:=0;intro bR w hS)|refine zlN hS ?_|refine zsN hS ?_;clear hS;intro w hS|go_at_call 85;refine(Ci7 hm W _ _ hS).mono ?_;clear hS;rintro e w ⟨rfl,hS⟩);apply Ac7;rfl;rfl;rfl;rfl;exact hS;decide +kernel;(exact x9);kernel_rfl;exact⟨rfl,hS.drop.drop⟩
abbrev tB15a:List Nat:=[0,1,3,7,0,16,63,127,255,255,0,1535,4095]
abbrev tB15d:List Nat:=[0,0,2,6,14,0,62,1,255]
theorem RG7(hm:C5 ⟨6,cl,sq,ak,aw,tk,tw,it,ct,pr,bu,id⟩=true)(hS:St W (ecR eb m1 m2 m3 m4 E ss ts ar R) w):
  Calls Tryz.prog 33 #[.P eb,oV 6 cl sq ak aw tk tw it ct pr bu id] w fun e w'=>e=.returned (.tuple #[rV 0 0 0 0 0 0,.bool (m7 ar (cl,sq)).isSome])/\St W (ecR eb m1 m2 m3 m4 E ss ts ar R) w':=by
 have hS0:=G6 hS;clear hS;have hS:=hS0;clear hS0;have har:ap4 false (.bool false) ((m7 ar (cl,sq)).map eU)=.bool (m7 ar (cl,sq)).isSome:=by cases m7 ar (cl,sq) <;> rfl
 cases hg:m7 ss cl with
 | none=>
  have hss:ap4 true (eSs (0,rp0)) ((m7 ss cl).map eSs)=.tuple #[eSs (0,rp0),.bool false]:=by rw[hg];rfl
  go_enter Tryz.func33,Tryz.ntmps33;go_wp2_with(first|refine zbx hS ?_;clear hS;intro bO w hS|(fail_if_success (have:=gA));(refine zal hS ?_;clear hS;have gA:Nat:=0;intro bR w hS)|(have:=gA);refine zal hS ?_;clear hS;intro bW w hS|refine zl1 hS ?_|refine zlN hS ?_|refine zsN hS ?_;clear hS;intro w hS|go_at_call 85;refine(Ci7 hm W _ _ hS).mono ?_;clear hS;rintro e w ⟨rfl,hS⟩);have hS1:=hS.s (ebB eb m1 m2 m3 m4::d8 eI eSs m2 ss::blk bO _ _::blk bW _ _::blk bR _ _::d8 eW eTn m3 ts::d8 eW eU m4 ar::d8 eS eN m1 (j6 E)::m9 E::R);clear hS
  refine rf3 tB15a (fun i=>i==10) (fun _=>none)
   [⟨some 10,some 11,fun nd=>k8 (nd 10) [.I 0,.I 0,.I 0,.I 0,.I 0,.I 0,.I 0] 90⟩,⟨some 11,none,fun nd=>k8 (nd 10) [.I 0,.I 0,.I 0,.I 0,.I 0,.I 0,.I 0] 90⟩] [none,none,none] hS1 ?_
  clear hS1;intro nd
  repeat(first|refine zc1 ?_|refine zcn ?_|apply AL7 (ek:=eI) (ev:=eSs) (k:=cl);rfl;kernel_rfl;rfl;rfl;rfl;rfl;intro F;exact⟨_,by exact D5⟩;exact mS;exact kEi;exact zS;exact hss;refine frS ?_|refine zca ?_|refine zct ?_|refine cR ?_)
  refine Ad7 ?_;intro w hS;have hS2:St W [k8 _ _ _,ebB eb m1 m2 m3 m4,d8 eI eSs m2 ss,blk bO _ _,sats (blk bW _ _::blk bR _ _::d8 eW eTn m3 ts::d8 eW eU m4 ar::d8 eS eN m1 (j6 E)::m9 E::R)] w:=hS;clear hS;have hS:=hS2.unpack [_,_,_,_];clear hS2;simp only[jK,jN]at hS;generalize nd 10=v10 at *;have h1:=hS.ptr;clear hS;obtain⟨b7,rfl,hS⟩:=h1;go_wp2_with(first|refine zl1 hS ?_);have hS1:=hS.s (blk bR _ _::ebB eb m1 m2 m3 m4::d8 eW eU m4 ar::blk bW _ _::d8 eI eSs m2 ss::d8 eW eTn m3 ts::d8 eS eN m1 (j6 E)::m9 E::R);clear hS;refine rf3 tB15d (fun _=>false) (fun _=>none) [⟨some 7,none,fun _=>blk bR [.I 0,.I 0,.I 0,.I 0,.I 0,.I 0] 31⟩] [some 7,none,none,none] hS1 ?_;clear hS1;intro nd
  repeat(first|refine zc1 ?_|refine zcN ?_|refine zcn ?_|apply AL7 (ek:=eW) (ev:=eU) (k:=(cl,sq));rfl;kernel_rfl;rfl;rfl;rfl;rfl;intro F;exact⟨_,by exact D5⟩;exact mAr;exact kW;exact zA;exact har;refine frS ?_|refine zcs ?_|refine cR ?_)
  refine Ad7 ?_;intro w hS;have hS2:St W [blk bR _ _,ebB eb m1 m2 m3 m4,d8 eW eU m4 ar,blk bW _ _,sats (d8 eI eSs m2 ss::d8 eW eTn m3 ts::d8 eS eN m1 (j6 E)::m9 E::R)] w:=hS;clear hS;have hS:=hS2.unpack [_,_,_,_];clear hS2;simp only[jK,jN]at hS;go_wp2_with fail;apply Ac7;rfl;rfl;rfl;rfl;exact hS;decide +kernel;(exact x9);kernel_rfl;exact⟨rfl,J7 (hS.s (ebB eb m1 m2 m3 m4::d8 eS eN m1 (j6 E)::m9 E::d8 eI eSs m2 ss::d8 eW eTn m3 ts::d8 eW eU m4 ar::R))⟩
 | some x=>
  obtain⟨q,e0,e1,⟨y0,y1,y2,y3⟩⟩:=x;have hss:ap4 true (eSs (0,rp0)) ((m7 ss cl).map eSs)=.tuple #[eSs (q,⟨e0,e1,⟨y0,y1,y2,y3⟩⟩),.bool true]:=by rw[hg];rfl
  go_enter Tryz.func33,Tryz.ntmps33;go_wp2_with(first|refine zbx hS ?_;clear hS;intro bO w hS|(fail_if_success (have:=gA));(refine zal hS ?_;clear hS;have gA:Nat:=0;intro bR w hS)|(have:=gA);refine zal hS ?_;clear hS;intro bW w hS|refine zl1 hS ?_|refine zlN hS ?_|refine zsN hS ?_;clear hS;intro w hS|go_at_call 85;refine(Ci7 hm W _ _ hS).mono ?_;clear hS;rintro e w ⟨rfl,hS⟩);have hS1:=hS.s (ebB eb m1 m2 m3 m4::d8 eI eSs m2 ss::blk bO _ _::blk bW _ _::blk bR _ _::d8 eW eTn m3 ts::d8 eW eU m4 ar::d8 eS eN m1 (j6 E)::m9 E::R);clear hS
  refine rf3 tB15a (fun i=>i==10) (fun _=>none)
   [⟨some 10,some 11,fun nd=>k8 (nd 10) [.I 0,.I 0,.I 0,.I 0,.I 0,.I 0,.I 0] 90⟩,⟨some 11,none,fun nd=>k8 (nd 10) [.I q,.I e0,.I e1,.I y0,.I y1,.I y2,.I y3] 90⟩] [none,none,none] hS1 ?_
  clear hS1;intro nd
  repeat(first|refine zc1 ?_|refine zcn ?_|apply AL7 (ek:=eI) (ev:=eSs) (k:=cl);rfl;kernel_rfl;rfl;rfl;rfl;rfl;intro F;exact⟨_,by exact D5⟩;exact mS;exact kEi;exact zS;exact hss;refine frS ?_|refine zca ?_|refine zct ?_|refine cR ?_)
  refine Ad7 ?_;intro w hS;have hS2:St W [k8 _ _ _,ebB eb m1 m2 m3 m4,d8 eI eSs m2 ss,blk bO _ _,sats (blk bW _ _::blk bR _ _::d8 eW eTn m3 ts::d8 eW eU m4 ar::d8 eS eN m1 (j6 E)::m9 E::R)] w:=hS;clear hS;have hS:=hS2.unpack [_,_,_,_];clear hS2;simp only[jK,jN]at hS;generalize nd 10=v10 at *;have h1:=hS.ptr;clear hS;obtain⟨b7,rfl,hS⟩:=h1;go_wp2_with(first|refine zl1 hS ?_);have hS1:=hS.s (blk bR _ _::ebB eb m1 m2 m3 m4::d8 eW eU m4 ar::blk bW _ _::d8 eI eSs m2 ss::d8 eW eTn m3 ts::d8 eS eN m1 (j6 E)::m9 E::R);clear hS;refine rf3 tB15d (fun _=>false) (fun _=>none) [⟨some 7,none,fun _=>blk bR [.I 0,.I 0,.I 0,.I 0,.I 0,.I 0] 31⟩] [some 7,none,none,none] hS1 ?_;clear hS1;intro nd
  repeat(first|refine zc1 ?_|refine zcN ?_|refine zcn ?_|apply AL7 (ek:=eW) (ev:=eU) (k:=(cl,sq));rfl;kernel_rfl;rfl;rfl;rfl;rfl;intro F;exact⟨_,by exact D5⟩;exact mAr;exact kW;exact zA;exact har;refine frS ?_|refine zcs ?_|refine cR ?_)
  refine Ad7 ?_;intro w hS;have hS2:St W [blk bR _ _,ebB eb m1 m2 m3 m4,d8 eW eU m4 ar,blk bW _ _,sats (d8 eI eSs m2 ss::d8 eW eTn m3 ts::d8 eS eN m1 (j6 E)::m9 E::R)] w:=hS;clear hS;have hS:=hS2.unpack [_,_,_,_];clear hS2;simp only[jK,jN]at hS;go_wp2_with fail;apply Ac7;rfl;rfl;rfl;rfl;exact hS;decide +kernel;(exact x9);kernel_rfl;exact⟨rfl,J7 (hS.s (ebB eb m1 m2 m3 m4::d8 eS eN m1 (j6 E)::m9 E::d8 eI eSs m2 ss::d8 eW eTn m3 ts::d8 eW eU m4 ar::R))⟩
abbrev tB15b:List Nat:=[0,1,3,7,0,31,63,127,127,0,767,2047]
theorem Nk7{k:Bool}(hk:(m7 ts (cl,sq)).isNone=k)(hm:C5 ⟨7,cl,sq,ak,aw,tk,tw,it,ct,pr,bu,id⟩=true)(hS:St W (ecR eb m1 m2 m3 m4 E ss ts ar R) w):
  Calls Tryz.prog 33 #[.P eb,oV 7 cl sq ak aw tk tw it ct pr bu id] w fun e w'=>e=.returned (.tuple #[rV 0 0 0 0 0 0,.bool k])/\St W (ecR eb m1 m2 m3 m4 E ss ts ar R) w':=by
 have hS0:=G6 hS;clear hS;have hS:=hS0;clear hS0
 cases hg:m7 ss cl with
 | none=>
  have hss:ap4 true (eSs (0,rp0)) ((m7 ss cl).map eSs)=.tuple #[eSs (0,rp0),.bool false]:=by rw[hg];rfl
  clear hg;go_enter Tryz.func33,Tryz.ntmps33;go_wp2_with(first|refine zbx hS ?_;clear hS;intro bO w hS|(fail_if_success (have:=gA));(refine zal hS ?_;clear hS;have gA:Nat:=0;intro bR w hS)|(have:=gA);refine zal hS ?_;clear hS;intro bW w hS|refine zl1 hS ?_|refine zlN hS ?_|refine zsN hS ?_;clear hS;intro w hS|go_at_call 85;refine(Ci7 hm W _ _ hS).mono ?_;clear hS;rintro e w ⟨rfl,hS⟩);have hS1:=hS.s (ebB eb m1 m2 m3 m4::d8 eI eSs m2 ss::blk bO _ _::blk bW _ _::blk bR _ _::d8 eW eTn m3 ts::d8 eW eU m4 ar::d8 eS eN m1 (j6 E)::m9 E::R);clear hS
  refine rf3 tB15a (fun i=>i==10) (fun _=>none)
   [⟨some 10,some 11,fun nd=>k8 (nd 10) [.I 0,.I 0,.I 0,.I 0,.I 0,.I 0,.I 0] 90⟩,⟨some 11,none,fun nd=>k8 (nd 10) [.I 0,.I 0,.I 0,.I 0,.I 0,.I 0,.I 0] 90⟩] [none,none,none] hS1 ?_
  clear hS1;intro nd
  repeat(first|refine zc1 ?_|refine zcn ?_|apply AL7 (ek:=eI) (ev:=eSs) (k:=cl);rfl;kernel_rfl;rfl;rfl;rfl;rfl;intro F;exact⟨_,by exact D5⟩;exact mS;exact kEi;exact zS;exact hss;refine frS ?_|refine zca ?_|refine zct ?_|refine cR ?_)
  refine Ad7 ?_;intro w hS;have hS2:St W [k8 _ _ _,ebB eb m1 m2 m3 m4,d8 eI eSs m2 ss,blk bO _ _,sats (blk bW _ _::blk bR _ _::d8 eW eTn m3 ts::d8 eW eU m4 ar::d8 eS eN m1 (j6 E)::m9 E::R)] w:=hS;clear hS;have hS:=hS2.unpack [_,_,_,_];clear hS2;simp only[jK,jN]at hS;generalize nd 10=v10 at *;have h1:=hS.ptr;clear hS;obtain⟨b7,rfl,hS⟩:=h1
  cases hgt:m7 ts (cl,sq)with
  | none=>
   rw[hgt]at hk;obtain rfl:true=k:=hk;have htt:ap4 true (eTn ⟨0,0,⟨#[]⟩,⟨#[]⟩,⟨#[]⟩,⟨#[]⟩,0,0⟩) ((m7 ts (cl,sq)).map eTn)=.tuple #[eTn ⟨0,0,⟨#[]⟩,⟨#[]⟩,⟨#[]⟩,⟨#[]⟩,0,0⟩,.bool false]:=by rw[hgt];rfl
   clear hgt;go_wp2_with(first|refine zl1 hS ?_);have hS1:=hS.s (ebB eb m1 m2 m3 m4::d8 eW eTn m3 ts::blk bW _ _::blk bR _ _::d8 eW eU m4 ar::d8 eI eSs m2 ss::d8 eS eN m1 (j6 E)::m9 E::R);clear hS
   refine rf3 tB15b (fun i=>i==9) (fun _=>none)
    [⟨some 9,some 10,fun nd=>k8 (nd 9) [.I 0,.I 0,.string ⟨#[]⟩,.string ⟨#[]⟩,.string ⟨#[]⟩,.string ⟨#[]⟩,.I 0,.I 0] 40⟩,⟨some 10,none,fun nd=>k8 (nd 9) [.I 0,.I 0,.string ⟨#[]⟩,.string ⟨#[]⟩,.string ⟨#[]⟩,.string ⟨#[]⟩,.I 0,.I 0] 40⟩] [none,none,none] hS1 ?_
   clear hS1;intro nd
   repeat(first|refine zc1 ?_|refine zcN ?_|refine zcn ?_|apply AL7 (ek:=eW) (ev:=eTn) (k:=(cl,sq));rfl;kernel_rfl;rfl;rfl;rfl;rfl;intro F;exact⟨_,by exact D5⟩;exact mT;exact kW;exact zT;exact htt;refine frS ?_|refine zca ?_|refine zct ?_|refine cR ?_)
   refine Ad7 ?_;intro w hS;have hS2:St W [k8 _ _ _,ebB eb m1 m2 m3 m4,d8 eW eTn m3 ts,blk bW _ _,sats (blk bR _ _::d8 eW eU m4 ar::d8 eI eSs m2 ss::d8 eS eN m1 (j6 E)::m9 E::R)] w:=hS;clear hS;have hS:=hS2.unpack [_,_,_,_];clear hS2;simp only[jK,jN]at hS;generalize nd 9=v9 at *;have h1:=hS.ptr;clear hS;obtain⟨b9,rfl,hS⟩:=h1;go_wp2_with(first|refine zsN hS ?_;clear hS;intro w hS);apply Ac7;rfl;rfl;rfl;rfl;exact hS;decide +kernel;(exact x9);kernel_rfl;exact⟨rfl,J7 (hS.s (ebB eb m1 m2 m3 m4::d8 eS eN m1 (j6 E)::m9 E::d8 eI eSs m2 ss::d8 eW eTn m3 ts::d8 eW eU m4 ar::R))⟩
  | some z=>
   rw[hgt]at hk;obtain rfl:false=k:=hk;obtain⟨z0,z1,z2,z3,z4,z5,z6,z7⟩:=z;have htt:ap4 true (eTn ⟨0,0,⟨#[]⟩,⟨#[]⟩,⟨#[]⟩,⟨#[]⟩,0,0⟩) ((m7 ts (cl,sq)).map eTn)=.tuple #[eTn ⟨z0,z1,z2,z3,z4,z5,z6,z7⟩,.bool true]:=by rw[hgt];rfl
   clear hgt;go_wp2_with(first|refine zl1 hS ?_);have hS1:=hS.s (ebB eb m1 m2 m3 m4::d8 eW eTn m3 ts::blk bW _ _::blk bR _ _::d8 eW eU m4 ar::d8 eI eSs m2 ss::d8 eS eN m1 (j6 E)::m9 E::R);clear hS
   refine rf3 tB15b (fun i=>i==9) (fun _=>none)
    [⟨some 9,some 10,fun nd=>k8 (nd 9) [.I 0,.I 0,.string ⟨#[]⟩,.string ⟨#[]⟩,.string ⟨#[]⟩,.string ⟨#[]⟩,.I 0,.I 0] 40⟩,⟨some 10,none,fun nd=>k8 (nd 9) [.I z0,.I z1,.string z2,.string z3,.string z4,.string z5,.I z6,.I z7] 40⟩] [none,none,none] hS1 ?_
   clear hS1;intro nd
   repeat(first|refine zc1 ?_|refine zcN ?_|refine zcn ?_|apply AL7 (ek:=eW) (ev:=eTn) (k:=(cl,sq));rfl;kernel_rfl;rfl;rfl;rfl;rfl;intro F;exact⟨_,by exact D5⟩;exact mT;exact kW;exact zT;exact htt;refine frS ?_|refine zca ?_|refine zct ?_|refine cR ?_)
   refine Ad7 ?_;intro w hS;have hS2:St W [k8 _ _ _,ebB eb m1 m2 m3 m4,d8 eW eTn m3 ts,blk bW _ _,sats (blk bR _ _::d8 eW eU m4 ar::d8 eI eSs m2 ss::d8 eS eN m1 (j6 E)::m9 E::R)] w:=hS;clear hS;have hS:=hS2.unpack [_,_,_,_];clear hS2;simp only[jK,jN]at hS;generalize nd 9=v9 at *;have h1:=hS.ptr;clear hS;obtain⟨b9,rfl,hS⟩:=h1;go_wp2_with(first|refine zsN hS ?_;clear hS;intro w hS);apply Ac7;rfl;rfl;rfl;rfl;exact hS;decide +kernel;(exact x9);kernel_rfl;exact⟨rfl,J7 (hS.s (ebB eb m1 m2 m3 m4::d8 eS eN m1 (j6 E)::m9 E::d8 eI eSs m2 ss::d8 eW eTn m3 ts::d8 eW eU m4 ar::R))⟩
 | some x=>
  obtain⟨q,e0,e1,⟨y0,y1,y2,y3⟩⟩:=x;have hss:ap4 true (eSs (0,rp0)) ((m7 ss cl).map eSs)=.tuple #[eSs (q,⟨e0,e1,⟨y0,y1,y2,y3⟩⟩),.bool true]:=by rw[hg];rfl
  clear hg;go_enter Tryz.func33,Tryz.ntmps33;go_wp2_with(first|refine zbx hS ?_;clear hS;intro bO w hS|(fail_if_success (have:=gA));(refine zal hS ?_;clear hS;have gA:Nat:=0;intro bR w hS)|(have:=gA);refine zal hS ?_;clear hS;intro bW w hS|refine zl1 hS ?_|refine zlN hS ?_|refine zsN hS ?_;clear hS;intro w hS|go_at_call 85;refine(Ci7 hm W _ _ hS).mono ?_;clear hS;rintro e w ⟨rfl,hS⟩);have hS1:=hS.s (ebB eb m1 m2 m3 m4::d8 eI eSs m2 ss::blk bO _ _::blk bW _ _::blk bR _ _::d8 eW eTn m3 ts::d8 eW eU m4 ar::d8 eS eN m1 (j6 E)::m9 E::R);clear hS
  refine rf3 tB15a (fun i=>i==10) (fun _=>none)
   [⟨some 10,some 11,fun nd=>k8 (nd 10) [.I 0,.I 0,.I 0,.I 0,.I 0,.I 0,.I 0] 90⟩,⟨some 11,none,fun nd=>k8 (nd 10) [.I q,.I e0,.I e1,.I y0,.I y1,.I y2,.I y3] 90⟩] [none,none,none] hS1 ?_
  clear hS1;intro nd
  repeat(first|refine zc1 ?_|refine zcn ?_|apply AL7 (ek:=eI) (ev:=eSs) (k:=cl);rfl;kernel_rfl;rfl;rfl;rfl;rfl;intro F;exact⟨_,by exact D5⟩;exact mS;exact kEi;exact zS;exact hss;refine frS ?_|refine zca ?_|refine zct ?_|refine cR ?_)
  refine Ad7 ?_;intro w hS;have hS2:St W [k8 _ _ _,ebB eb m1 m2 m3 m4,d8 eI eSs m2 ss,blk bO _ _,sats (blk bW _ _::blk bR _ _::d8 eW eTn m3 ts::d8 eW eU m4 ar::d8 eS eN m1 (j6 E)::m9 E::R)] w:=hS;clear hS;have hS:=hS2.unpack [_,_,_,_];clear hS2;simp only[jK,jN]at hS;generalize nd 10=v10 at *;have h1:=hS.ptr;clear hS;obtain⟨b7,rfl,hS⟩:=h1
  cases hgt:m7 ts (cl,sq)with
  | none=>
   rw[hgt]at hk;obtain rfl:true=k:=hk;have htt:ap4 true (eTn ⟨0,0,⟨#[]⟩,⟨#[]⟩,⟨#[]⟩,⟨#[]⟩,0,0⟩) ((m7 ts (cl,sq)).map eTn)=.tuple #[eTn ⟨0,0,⟨#[]⟩,⟨#[]⟩,⟨#[]⟩,⟨#[]⟩,0,0⟩,.bool false]:=by rw[hgt];rfl
   clear hgt;go_wp2_with(first|refine zl1 hS ?_);have hS1:=hS.s (ebB eb m1 m2 m3 m4::d8 eW eTn m3 ts::blk bW _ _::blk bR _ _::d8 eW eU m4 ar::d8 eI eSs m2 ss::d8 eS eN m1 (j6 E)::m9 E::R);clear hS
   refine rf3 tB15b (fun i=>i==9) (fun _=>none)
    [⟨some 9,some 10,fun nd=>k8 (nd 9) [.I 0,.I 0,.string ⟨#[]⟩,.string ⟨#[]⟩,.string ⟨#[]⟩,.string ⟨#[]⟩,.I 0,.I 0] 40⟩,⟨some 10,none,fun nd=>k8 (nd 9) [.I 0,.I 0,.string ⟨#[]⟩,.string ⟨#[]⟩,.string ⟨#[]⟩,.string ⟨#[]⟩,.I 0,.I 0] 40⟩] [none,none,none] hS1 ?_
   clear hS1;intro nd
   repeat(first|refine zc1 ?_|refine zcN ?_|refine zcn ?_|apply AL7 (ek:=eW) (ev:=eTn) (k:=(cl,sq));rfl;kernel_rfl;rfl;rfl;rfl;rfl;intro F;exact⟨_,by exact D5⟩;exact mT;exact kW;exact zT;exact htt;refine frS ?_|refine zca ?_|refine zct ?_|refine cR ?_)
   refine Ad7 ?_;intro w hS;have hS2:St W [k8 _ _ _,ebB eb m1 m2 m3 m4,d8 eW eTn m3 ts,blk bW _ _,sats (blk bR _ _::d8 eW eU m4 ar::d8 eI eSs m2 ss::d8 eS eN m1 (j6 E)::m9 E::R)] w:=hS;clear hS;have hS:=hS2.unpack [_,_,_,_];clear hS2;simp only[jK,jN]at hS;generalize nd 9=v9 at *;have h1:=hS.ptr;clear hS;obtain⟨b9,rfl,hS⟩:=h1;go_wp2_with(first|refine zsN hS ?_;clear hS;intro w hS);apply Ac7;rfl;rfl;rfl;rfl;exact hS;decide +kernel;(exact x9);kernel_rfl;exact⟨rfl,J7 (hS.s (ebB eb m1 m2 m3 m4::d8 eS eN m1 (j6 E)::m9 E::d8 eI eSs m2 ss::d8 eW eTn m3 ts::d8 eW eU m4 ar::R))⟩
  | some z=>
   rw[hgt]at hk;obtain rfl:false=k:=hk;obtain⟨z0,z1,z2,z3,z4,z5,z6,z7⟩:=z;have htt:ap4 true (eTn ⟨0,0,⟨#[]⟩,⟨#[]⟩,⟨#[]⟩,⟨#[]⟩,0,0⟩) ((m7 ts (cl,sq)).map eTn)=.tuple #[eTn ⟨z0,z1,z2,z3,z4,z5,z6,z7⟩,.bool true]:=by rw[hgt];rfl
   clear hgt;go_wp2_with(first|refine zl1 hS ?_);have hS1:=hS.s (ebB eb m1 m2 m3 m4::d8 eW eTn m3 ts::blk bW _ _::blk bR _ _::d8 eW eU m4 ar::d8 eI eSs m2 ss::d8 eS eN m1 (j6 E)::m9 E::R);clear hS
   refine rf3 tB15b (fun i=>i==9) (fun _=>none)
    [⟨some 9,some 10,fun nd=>k8 (nd 9) [.I 0,.I 0,.string ⟨#[]⟩,.string ⟨#[]⟩,.string ⟨#[]⟩,.string ⟨#[]⟩,.I 0,.I 0] 40⟩,⟨some 10,none,fun nd=>k8 (nd 9) [.I z0,.I z1,.string z2,.string z3,.string z4,.string z5,.I z6,.I z7] 40⟩] [none,none,none] hS1 ?_
   clear hS1;intro nd
   repeat(first|refine zc1 ?_|refine zcN ?_|refine zcn ?_|apply AL7 (ek:=eW) (ev:=eTn) (k:=(cl,sq));rfl;kernel_rfl;rfl;rfl;rfl;rfl;intro F;exact⟨_,by exact D5⟩;exact mT;exact kW;exact zT;exact htt;refine frS ?_|refine zca ?_|refine zct ?_|refine cR ?_)
   refine Ad7 ?_;intro w hS;have hS2:St W [k8 _ _ _,ebB eb m1 m2 m3 m4,d8 eW eTn m3 ts,blk bW _ _,sats (blk bR _ _::d8 eW eU m4 ar::d8 eI eSs m2 ss::d8 eS eN m1 (j6 E)::m9 E::R)] w:=hS;clear hS;have hS:=hS2.unpack [_,_,_,_];clear hS2;simp only[jK,jN]at hS;generalize nd 9=v9 at *;have h1:=hS.ptr;clear hS;obtain⟨b9,rfl,hS⟩:=h1;go_wp2_with(first|refine zsN hS ?_;clear hS;intro w hS);apply Ac7;rfl;rfl;rfl;rfl;exact hS;decide +kernel;(exact x9);kernel_rfl;exact⟨rfl,J7 (hS.s (ebB eb m1 m2 m3 m4::d8 eS eN m1 (j6 E)::m9 E::d8 eI eSs m2 ss::d8 eW eTn m3 ts::d8 eW eU m4 ar::R))⟩
theorem Pp7{r:Rpl}{k:Bool}(hm:C5 ⟨kd,cl,sq,ak,aw,tk,tw,it,ct,pr,bu,id⟩=true)(h6:(kd==6)=false)(h7:(kd==7)=false)
  (h:(match m7 ss cl with|none=>(rp0,false)|some (q,r)=>if sq<q then(⟨13,0,it0⟩,true)else if sq=q then(r,true)else(rp0,false))=(r,k)) (hS:St W (ecR eb m1 m2 m3 m4 E ss ts ar R) w):
  Calls Tryz.prog 33 #[.P eb,oV kd cl sq ak aw tk tw it ct pr bu id] w fun e w'=>e=.returned (.tuple #[rV r.err r.id r.has.x0 r.has.x1 r.has.x2 r.has.x3,.bool k])/\St W (ecR eb m1 m2 m3 m4 E ss ts ar R) w':=by
 have hS0:=G6 hS;clear hS;have hS:=hS0;clear hS0
 cases hg:m7 ss cl with
 | none=>
  have hss:ap4 true (eSs (0,rp0)) ((m7 ss cl).map eSs)=.tuple #[eSs (0,rp0),.bool false]:=by rw[hg];rfl
  rw[hg]at h
  cases h
  clear hg;go_enter Tryz.func33,Tryz.ntmps33;go_wp2_with(first|refine zbx hS ?_;clear hS;intro bO w hS|(fail_if_success (have:=gA));(refine zal hS ?_;clear hS;have gA:Nat:=0;intro bR w hS)|(have:=gA);refine zal hS ?_;clear hS;intro bW w hS|refine zl1 hS ?_|refine zlN hS ?_|refine zsN hS ?_;clear hS;intro w hS|go_at_call 85;refine(Ci7 hm W _ _ hS).mono ?_;clear hS;rintro e w ⟨rfl,hS⟩);have hS1:=hS.s (ebB eb m1 m2 m3 m4::d8 eI eSs m2 ss::blk bO _ _::blk bW _ _::blk bR _ _::d8 eW eTn m3 ts::d8 eW eU m4 ar::d8 eS eN m1 (j6 E)::m9 E::R);clear hS
  refine rf3 tB15a (fun i=>i==10) (fun _=>none)
   [⟨some 10,some 11,fun nd=>k8 (nd 10) [.I 0,.I 0,.I 0,.I 0,.I 0,.I 0,.I 0] 90⟩,⟨some 11,none,fun nd=>k8 (nd 10) [.I 0,.I 0,.I 0,.I 0,.I 0,.I 0,.I 0] 90⟩] [none,none,none] hS1 ?_
  clear hS1;intro nd
  repeat(first|refine zc1 ?_|refine zcn ?_|apply AL7 (ek:=eI) (ev:=eSs) (k:=cl);rfl;kernel_rfl;rfl;rfl;rfl;rfl;intro F;exact⟨_,by exact D5⟩;exact mS;exact kEi;exact zS;exact hss;refine frS ?_|refine zca ?_|refine zct ?_|refine cR ?_)
  refine Ad7 ?_;intro w hS;have hS2:St W [k8 _ _ _,ebB eb m1 m2 m3 m4,d8 eI eSs m2 ss,blk bO _ _,sats (blk bW _ _::blk bR _ _::d8 eW eTn m3 ts::d8 eW eU m4 ar::d8 eS eN m1 (j6 E)::m9 E::R)] w:=hS;clear hS;have hS:=hS2.unpack [_,_,_,_];clear hS2;simp only[jK,jN]at hS;generalize nd 10=v10 at *;have h1:=hS.ptr;clear hS;obtain⟨b7,rfl,hS⟩:=h1;go_wp2_with(first|go_big_skip|refine zl1 hS ?_|refine zsN hS ?_;clear hS;intro w hS);apply Ac7;rfl;rfl;rfl;rfl;exact hS;decide +kernel;(exact x9);kernel_rfl;exact⟨rfl,J7 (hS.s (ebB eb m1 m2 m3 m4::d8 eS eN m1 (j6 E)::m9 E::d8 eI eSs m2 ss::d8 eW eTn m3 ts::d8 eW eU m4 ar::R))⟩
 | some x=>
  obtain⟨q,e0,e1,⟨y0,y1,y2,y3⟩⟩:=x;have hss:ap4 true (eSs (0,rp0)) ((m7 ss cl).map eSs)=.tuple #[eSs (q,⟨e0,e1,⟨y0,y1,y2,y3⟩⟩),.bool true]:=by rw[hg];rfl
  rw[hg]at h;clear hg;simp only at h;by_cases hl:sq<q
  ·rw[if_pos hl]at h
   cases h
   go_enter Tryz.func33,Tryz.ntmps33;go_wp2_with(first|refine zbx hS ?_;clear hS;intro bO w hS|(fail_if_success (have:=gA));(refine zal hS ?_;clear hS;have gA:Nat:=0;intro bR w hS)|(have:=gA);refine zal hS ?_;clear hS;intro bW w hS|refine zl1 hS ?_|refine zlN hS ?_|refine zsN hS ?_;clear hS;intro w hS|go_at_call 85;refine(Ci7 hm W _ _ hS).mono ?_;clear hS;rintro e w ⟨rfl,hS⟩);have hS1:=hS.s (ebB eb m1 m2 m3 m4::d8 eI eSs m2 ss::blk bO _ _::blk bW _ _::blk bR _ _::d8 eW eTn m3 ts::d8 eW eU m4 ar::d8 eS eN m1 (j6 E)::m9 E::R);clear hS
   refine rf3 tB15a (fun i=>i==10) (fun _=>none)
    [⟨some 10,some 11,fun nd=>k8 (nd 10) [.I 0,.I 0,.I 0,.I 0,.I 0,.I 0,.I 0] 90⟩,⟨some 11,none,fun nd=>k8 (nd 10) [.I q,.I e0,.I e1,.I y0,.I y1,.I y2,.I y3] 90⟩] [none,none,none] hS1 ?_
   clear hS1;intro nd
   repeat(first|refine zc1 ?_|refine zcn ?_|apply AL7 (ek:=eI) (ev:=eSs) (k:=cl);rfl;kernel_rfl;rfl;rfl;rfl;rfl;intro F;exact⟨_,by exact D5⟩;exact mS;exact kEi;exact zS;exact hss;refine frS ?_|refine zca ?_|refine zct ?_|refine cR ?_)
   refine Ad7 ?_;intro w hS;have hS2:St W [k8 _ _ _,ebB eb m1 m2 m3 m4,d8 eI eSs m2 ss,blk bO _ _,sats (blk bW _ _::blk bR _ _::d8 eW eTn m3 ts::d8 eW eU m4 ar::d8 eS eN m1 (j6 E)::m9 E::R)] w:=hS;clear hS;have hS:=hS2.unpack [_,_,_,_];clear hS2;simp only[jK,jN]at hS;generalize nd 10=v10 at *;have h1:=hS.ptr;clear hS;obtain⟨b7,rfl,hS⟩:=h1;go_wp2_with(first|refine zl1 hS ?_|refine zsN hS ?_;clear hS;intro w hS);apply Ac7;rfl;rfl;rfl;rfl;exact hS;decide +kernel;(exact x9);kernel_rfl;exact⟨rfl,J7 (hS.s (ebB eb m1 m2 m3 m4::d8 eS eN m1 (j6 E)::m9 E::d8 eI eSs m2 ss::d8 eW eTn m3 ts::d8 eW eU m4 ar::R))⟩
  ·have d1:decide (sq<q)=false:=by simpa using hl
   rw[if_neg hl]at h;by_cases he:sq=q
   ·rw[if_pos he]at h
    cases h
    subst he;go_enter Tryz.func33,Tryz.ntmps33;go_wp2_with(first|refine zbx hS ?_;clear hS;intro bO w hS|(fail_if_success (have:=gA));(refine zal hS ?_;clear hS;have gA:Nat:=0;intro bR w hS)|(have:=gA);refine zal hS ?_;clear hS;intro bW w hS|refine zl1 hS ?_|refine zlN hS ?_|refine zsN hS ?_;clear hS;intro w hS|go_at_call 85;refine(Ci7 hm W _ _ hS).mono ?_;clear hS;rintro e w ⟨rfl,hS⟩);have hS1:=hS.s (ebB eb m1 m2 m3 m4::d8 eI eSs m2 ss::blk bO _ _::blk bW _ _::blk bR _ _::d8 eW eTn m3 ts::d8 eW eU m4 ar::d8 eS eN m1 (j6 E)::m9 E::R);clear hS
    refine rf3 tB15a (fun i=>i==10) (fun _=>none)
     [⟨some 10,some 11,fun nd=>k8 (nd 10) [.I 0,.I 0,.I 0,.I 0,.I 0,.I 0,.I 0] 90⟩,⟨some 11,none,fun nd=>k8 (nd 10) [.I sq,.I e0,.I e1,.I y0,.I y1,.I y2,.I y3] 90⟩] [none,none,none] hS1 ?_
    clear hS1;intro nd
    repeat(first|refine zc1 ?_|refine zcn ?_|apply AL7 (ek:=eI) (ev:=eSs) (k:=cl);rfl;kernel_rfl;rfl;rfl;rfl;rfl;intro F;exact⟨_,by exact D5⟩;exact mS;exact kEi;exact zS;exact hss;refine frS ?_|refine zca ?_|refine zct ?_|refine cR ?_)
    refine Ad7 ?_;intro w hS;have hS2:St W [k8 _ _ _,ebB eb m1 m2 m3 m4,d8 eI eSs m2 ss,blk bO _ _,sats (blk bW _ _::blk bR _ _::d8 eW eTn m3 ts::d8 eW eU m4 ar::d8 eS eN m1 (j6 E)::m9 E::R)] w:=hS;clear hS;have hS:=hS2.unpack [_,_,_,_];clear hS2;simp only[jK,jN]at hS;generalize nd 10=v10 at *;have h1:=hS.ptr;clear hS;obtain⟨b7,rfl,hS⟩:=h1;go_wp2_with(first|refine zl1 hS ?_|refine zlN hS ?_ (vs:=[.I e0,.I e1,.I y0,.I y1,.I y2,.I y3]) (hc:=i8.here rfl)|refine zsN hS ?_;clear hS;intro w hS);apply Ac7;rfl;rfl;rfl;rfl;exact hS;decide +kernel;(exact x9);kernel_rfl;exact⟨rfl,J7 (hS.s (ebB eb m1 m2 m3 m4::d8 eS eN m1 (j6 E)::m9 E::d8 eI eSs m2 ss::d8 eW eTn m3 ts::d8 eW eU m4 ar::R))⟩
   ·have d2:(sq==q)=false:=by simpa using he
    rw[if_neg he]at h
    cases h
    clear hl he;go_enter Tryz.func33,Tryz.ntmps33;go_wp2_with(first|refine zbx hS ?_;clear hS;intro bO w hS|(fail_if_success (have:=gA));(refine zal hS ?_;clear hS;have gA:Nat:=0;intro bR w hS)|(have:=gA);refine zal hS ?_;clear hS;intro bW w hS|refine zl1 hS ?_|refine zlN hS ?_|refine zsN hS ?_;clear hS;intro w hS|go_at_call 85;refine(Ci7 hm W _ _ hS).mono ?_;clear hS;rintro e w ⟨rfl,hS⟩);have hS1:=hS.s (ebB eb m1 m2 m3 m4::d8 eI eSs m2 ss::blk bO _ _::blk bW _ _::blk bR _ _::d8 eW eTn m3 ts::d8 eW eU m4 ar::d8 eS eN m1 (j6 E)::m9 E::R);clear hS
    refine rf3 tB15a (fun i=>i==10) (fun _=>none)
     [⟨some 10,some 11,fun nd=>k8 (nd 10) [.I 0,.I 0,.I 0,.I 0,.I 0,.I 0,.I 0] 90⟩,⟨some 11,none,fun nd=>k8 (nd 10) [.I q,.I e0,.I e1,.I y0,.I y1,.I y2,.I y3] 90⟩] [none,none,none] hS1 ?_
    clear hS1;intro nd
    repeat(first|refine zc1 ?_|refine zcn ?_|apply AL7 (ek:=eI) (ev:=eSs) (k:=cl);rfl;kernel_rfl;rfl;rfl;rfl;rfl;intro F;exact⟨_,by exact D5⟩;exact mS;exact kEi;exact zS;exact hss;refine frS ?_|refine zca ?_|refine zct ?_|refine cR ?_)
    refine Ad7 ?_;intro w hS;have hS2:St W [k8 _ _ _,ebB eb m1 m2 m3 m4,d8 eI eSs m2 ss,blk bO _ _,sats (blk bW _ _::blk bR _ _::d8 eW eTn m3 ts::d8 eW eU m4 ar::d8 eS eN m1 (j6 E)::m9 E::R)] w:=hS;clear hS;have hS:=hS2.unpack [_,_,_,_];clear hS2;simp only[jK,jN]at hS;generalize nd 10=v10 at *;have h1:=hS.ptr;clear hS;obtain⟨b7,rfl,hS⟩:=h1;go_wp2_with(first|refine zl1 hS ?_|refine zsN hS ?_;clear hS;intro w hS);apply Ac7;rfl;rfl;rfl;rfl;exact hS;decide +kernel;(exact x9);kernel_rfl;exact⟨rfl,J7 (hS.s (ebB eb m1 m2 m3 m4::d8 eS eN m1 (j6 E)::m9 E::d8 eI eSs m2 ss::d8 eW eTn m3 ts::d8 eW eU m4 ar::R))⟩
end
theorem Bk7{eb m1 m2 m3 m4:Nat}{E:Ev}{vs:List (ByteArray×Vs)}{kd cl sq:Int}{ak aw tk tw:ByteArray}{it ct pr:Int}{bu:Bool}{id:Int}{ss:List (Int×(Int×Rpl))}{ts:List ((Int×Int)×Tns)}{ar:List ((Int×Int)×Unit)}{r:Rpl}{k:Bool}
  (h:G9 ⟨vs,ss,ts,ar⟩ ⟨kd,cl,sq,ak,aw,tk,tw,it,ct,pr,bu,id⟩=(r,k)) (W w:World) (R:List HP) (hS:St W (ecR eb m1 m2 m3 m4 E ss ts ar R) w):
  Calls Tryz.prog 33 #[.P eb,oV kd cl sq ak aw tk tw it ct pr bu id] w fun e w'=>e=.returned (.tuple #[rV r.err r.id r.has.x0 r.has.x1 r.has.x2 r.has.x3,.bool k])/\St W (ecR eb m1 m2 m3 m4 E ss ts ar R) w':=by
 unfold G9 at h
 cases hm:C5 ⟨kd,cl,sq,ak,aw,tk,tw,it,ct,pr,bu,id⟩with
 | false=>
  rw[if_pos hm]at h
  cases h
  exact TX7 kd cl sq ak aw tk tw it ct pr bu id ss ts ar W w R hm hS
 | true=>
  rw[if_neg (by rw[hm];exact Bool.noConfusion)]at h;dsimp only at h;by_cases h6:kd=6
  ·rw[if_pos h6]at h
   cases h
   subst h6;exact RG7 cl sq ak aw tk tw it ct pr bu id ss ts ar W w R hm hS
  ·rw[if_neg h6]at h;by_cases h7:kd=7
   ·rw[if_pos h7]at h
    cases h
    subst h7;exact Nk7 cl sq ak aw tk tw it ct pr bu id ss ts ar W w R rfl hm hS
   ·rw[if_neg h7]at h;exact Pp7 kd cl sq ak aw tk tw it ct pr bu id ss ts ar W w R hm (by simpa using h6) (by simpa using h7) h hS
end Go.Proofs.YtlmhakmoioogaaaGreat
end
section
namespace Go.Sl
open Go.RowKit
section
variable{P:Program}{W:World}{ops:Array Oper}{t:List Nat}{toks:List Tok}{fresh:Nat->Bool}{pin:Nat->Option Value}{Qf:Act->Prop}{nd:Nat->Value}{i:Nat}{o:Oper}{l:List Oper}{a:Act}
theorem Cu7{x:Operand}{f:FuncId}{xs:Array Operand}{ats:Array TypeId}{args:Array Value}{v:Value}(hf:fresh i=false)(hp:pin i=some v)(hg:Region.wanted o (yielded ops a.tmps)=true)
  (ho:o.op=.call { callee:=.value x,args:=xs,argTypes:=ats }) (hx0:a.eval x=.func (.func f) #[] #[]) (hb:ab4 P f=true) (hx:xs.map a.eval=args)
  (hs:∀F w,St W (cnL toks t i nd++(kpL toks t i nd++F)) w->Calls P f args w fun e w'=>e=.returned v/\St W (mdL toks i nd++(kpL toks t i nd++F)) w')
  (h:t8 P W ops t toks fresh pin Qf nd (i+1) l (a.put o.dst v)):t8 P W ops t toks fresh pin Qf nd i (o::l) a:=
 Lq7 hf hp hg (fun w=>Bo7 w ho hx0 hb hx) hs h
end
end Go.Sl
namespace Go.Proofs.YtlmhakmoioogaaaGreat
open Go.RowKit Go.Sl
def cf4(vs:List (ByteArray×Vs))(k:ByteArray):List (ByteArray×Vs):=match m7 vs k with
 | none=>vs
 | some V=>if C6 V=true then j9 vs k else vs
theorem BJ7{E:Ev}{vs:List (ByteArray×Vs)}(hn:(E.map (·.1)).Nodup)(hp:(r6 E).Perm vs)(k:ByteArray):(r6 (cY4 E k)).Perm (cf4 vs k):=by
 have hg:m7 vs k=(m7 E k).map (·.2):=by rw[<-AJ7 (by rw[BA7];exact hn) hp k,JA7]
 unfold cY4 cf4;rw[hg]
 cases m7 E k with
 | none=>exact hp
 | some x=>
  show(r6 (if C6 x.2=true then j9 E k else E)).Perm (if C6 x.2=true then j9 vs k else vs)
  split
  ·rw[<-GJ7];exact Gk7 hp k
  ·exact hp
theorem FA7{E:Ev}{i:Nat}(h:O6 E i)(k:ByteArray):O6 (cY4 E k) i:=by
 unfold cY4;split
 ·exact h
 ·split
  ·exact fun x hx=>h x (List.mem_filter.1 hx).1
  ·exact h
theorem Pq7{ν:Type}(l:List (ByteArray×ν))(k:ByteArray):j9 (j9 l k) k=j9 l k:=BN7 fun x hx=>by have:=(List.mem_filter.1 hx).2;simpa using this
theorem RH7(e:Ec)(k:ByteArray)(V:Vs):cf4 ((k,V)::j9 e.vs k) k=(bL4 e k V).vs:=by
 have hg:m7 ((k,V)::j9 e.vs k) k=some V:=by rw[EB7,if_pos rfl]
 unfold cf4 bL4;rw[hg];show(if C6 V=true then j9 ((k,V)::j9 e.vs k) k else(k,V)::j9 e.vs k)=if C6 V=true then j9 e.vs k else(k,V)::j9 e.vs k
 have e1:j9 ((k,V)::j9 e.vs k) k=j9 (j9 e.vs k) k:=by
  conv=>lhs;unfold j9
  rw[List.filter_cons,if_neg (by simp)];rfl
 rw[e1,Pq7]
theorem Pr7(e:Ec)(k:ByteArray)(hn:(e.vs.map (·.1)).Nodup):(cf4 e.vs k).Perm (bL4 e k (atV e k)).vs:=by
 unfold cf4 bL4 atV
 cases hg:m7 e.vs k with
 | none=>
  show e.vs.Perm (if C6 vs0=true then j9 e.vs k else(k,vs0)::j9 e.vs k)
  rw[if_pos (by rfl),BN7 (BY7 hg)]
 | some V=>
  show(if C6 V=true then j9 e.vs k else e.vs).Perm (if C6 V=true then j9 e.vs k else(k,V)::j9 e.vs k)
  split
  ·exact List.Perm.refl _
  ·exact BB7 hn hg
def ecK(eb m1 m2 m3 m4:Nat)(E:Ev)(ss:List (Int×(Int×Rpl)))(ts:List ((Int×Int)×Tns))(ar:List ((Int×Int)×Unit)):HP:=sats (ecR eb m1 m2 m3 m4 E ss ts ar [])
def kdR(eb m1 m2 m3 m4:Nat)(vs:List (ByteArray×Vs))(ss:List (Int×(Int×Rpl)))(ts:List ((Int×Int)×Tns))(ar:List ((Int×Int)×Unit))(i:Nat):HP:=fun f=>∃E,(O6 E i/\(r6 E).Perm vs)/\ecK eb m1 m2 m3 m4 E ss ts ar f
section
variable{W w:World}{R:List HP}{eb m1 m2 m3 m4:Nat}{E:Ev}{i:Nat}{vs:List (ByteArray×Vs)}{ss:List (Int×(Int×Rpl))}{ts:List ((Int×Int)×Tns)}{ar:List ((Int×Int)×Unit)}{ak:ByteArray}{V:Vs}{vb:Nat}
theorem aZ4(h:St W (ecK eb m1 m2 m3 m4 E ss ts ar::R) w):St W (ecR eb m1 m2 m3 m4 E ss ts ar R) w:=h.openS
theorem aI4(h:St W (ecR eb m1 m2 m3 m4 E ss ts ar R) w):St W (ecK eb m1 m2 m3 m4 E ss ts ar::R) w:=St.shutS [_,_,_,_] h
theorem TY7(h:O6 E i):O6 E (i+1):=fun x hx=>(h x hx).on
theorem Ps7(hE:O6 E i)(hp:(r6 E).Perm vs)(h:St W (ecR eb m1 m2 m3 m4 E ss ts ar R) w):St W (kdR eb m1 m2 m3 m4 vs ss ts ar (i+1)::R) w:=St.mkEx E (St.mkAnd ⟨TY7 hE,hp⟩ (aI4 h))
theorem HE7(hE:O6 E i)(hp:(r6 E).Perm vs)(hV:VOk V.ps V.n (i+1))(h:St W (ecR eb m1 m2 m3 m4 ((ak,(vb,V))::j9 E ak) ss ts ar R) w):St W (kdR eb m1 m2 m3 m4 ((ak,V)::j9 vs ak) ss ts ar (i+1)::R) w:=by
 refine St.mkEx _ (St.mkAnd ⟨?_,?_⟩ (aI4 h))
 ·intro x hx
  rcases List.mem_cons.1 hx with rfl|hx
  ·exact hV
  ·exact(hE x (List.mem_filter.1 hx).1).on
 ·show((ak,V)::r6 (j9 E ak)).Perm _
  rw[<-GJ7];exact(Gk7 hp ak).cons _
theorem bX4(h:St W (kdR eb m1 m2 m3 m4 vs ss ts ar i::R) w):∃E,O6 E i/\(r6 E).Perm vs/\St W (ecR eb m1 m2 m3 m4 E ss ts ar R) w:=by obtain⟨E,h⟩:=St.ex h;obtain⟨⟨h1,h2⟩,h⟩:=St.and h;exact⟨E,h1,h2,aZ4 h⟩
end
section
variable{eb m1 m2 m3 m4:Nat}{E:Ev}{i:Nat}{vs:List (ByteArray×Vs)}(cl sq:Int)(ak aw tk tw:ByteArray)(it ct pr:Int)(bu:Bool)(id:Int)(ss:List (Int×(Int×Rpl)))(ts:List ((Int×Int)×Tns))(ar:List ((Int×Int)×Unit))(W w:World)(R:List HP)
theorem gv4(hE:O6 E i)(hp:(r6 E).Perm vs)(h0:0<=it)(h4:it<4)(c0:1<=ct)(c1:ct<=1048576){r:Int}{q:Ps}(hr:Q5 (vAt E ak).ps aw (B5 it ct)=r)(hq:M5 (vAt E ak).ps aw (B5 it ct)=q)(hS:St W (ecK eb m1 m2 m3 m4 E ss ts ar::R) w):
  Calls Tryz.prog 36 #[.P eb,oV 1 cl sq ak aw tk tw it ct pr bu id] w fun e w'=>e=.returned (rV r 0 0 0 0 0)/\St W (kdR eb m1 m2 m3 m4 ((ak,⟨q,(vAt E ak).L,(vAt E ak).n⟩)::j9 vs ak) ss ts ar (i+1)::R) w':=by
 refine(Pm7 hE 1 cl sq ak aw tk tw it ct pr bu id h0 h4 c0 c1 hr hq W w _ (aZ4 hS)).mono ?_;rintro e w' ⟨vb,h1,rfl,hS⟩;exact⟨rfl,HE7 hE hp h1 hS⟩
theorem fT4(hE:O6 E i)(hp:(r6 E).Perm vs)(h0:0<=it)(h4:it<4)(c0:1<=ct)(c1:ct<=1048576){r:Int}{q:Ps}(hr:A5 (vAt E ak).ps aw (B5 it ct)=r)(hr0:(r==0)=false)(hq:A8 (vAt E ak).ps aw (B5 it ct)=q)(hS:St W (ecK eb m1 m2 m3 m4 E ss ts ar::R) w):
  Calls Tryz.prog 37 #[.P eb,oV 2 cl sq ak aw tk tw it ct pr bu id] w fun e w'=>e=.returned (rV r 0 0 0 0 0)/\St W (kdR eb m1 m2 m3 m4 ((ak,⟨q,(vAt E ak).L,(vAt E ak).n⟩)::j9 vs ak) ss ts ar (i+1)::R) w':=by
 refine(TW7 hE 2 cl sq ak aw tk tw it ct pr bu id ts h0 h4 c0 c1 hr hr0 hq W w _ ((aZ4 hS).s (evP eb m1 m2 m3 m4 E::d8 eW eTn m3 ts::d8 eI eSs m2 ss::d8 eW eU m4 ar::R))).mono ?_;rintro e w' ⟨vb,h1,rfl,hS⟩;exact⟨rfl,HE7 hE hp h1 (hS.s _)⟩
theorem fU4(hE:O6 E i)(hp:(r6 E).Perm vs)(h0:0<=it)(h4:it<4)(c0:1<=ct)(c1:ct<=1048576){q:Ps}(hr:A5 (vAt E ak).ps aw (B5 it ct)=0)(hq:A8 (vAt E ak).ps aw (B5 it ct)=q)(hS:St W (ecK eb m1 m2 m3 m4 E ss ts ar::R) w):
  Calls Tryz.prog 37 #[.P eb,oV 2 cl sq ak aw tk tw it ct pr bu id] w fun e w'=>e=.returned (rV 0 0 0 0 0 0)/\St W (kdR eb m1 m2 m3 m4 ((ak,⟨q,(vAt E ak).L,(vAt E ak).n⟩)::j9 vs ak) ss (((cl,sq),⟨cl,sq,ak,aw,tk,tw,it,ct⟩)::j9 ts (cl,sq)) ar (i+1)::R) w':=by
 refine(RF7 hE 2 cl sq ak aw tk tw it ct pr bu id ts h0 h4 c0 c1 hr hq W w _ ((aZ4 hS).s (evP eb m1 m2 m3 m4 E::d8 eW eTn m3 ts::d8 eI eSs m2 ss::d8 eW eU m4 ar::R))).mono ?_;rintro e w' ⟨vb,h1,rfl,hS⟩;exact⟨rfl,HE7 hE hp h1 (hS.s _)⟩
theorem gw4(hE:O6 E i)(hp:(r6 E).Perm vs){r1 r2:Int}{V2:Vs}(h1:(E6 (vAt E ak) ⟨0,aw,bu,it,ct,pr⟩).1=r1)(h2:(E6 (vAt E ak) ⟨0,aw,bu,it,ct,pr⟩).2.1=r2)(h3:(E6 (vAt E ak) ⟨0,aw,bu,it,ct,pr⟩).2.2=V2)(hS:St W (ecK eb m1 m2 m3 m4 E ss ts ar::R) w):
  Calls Tryz.prog 38 #[.P eb,oV 3 cl sq ak aw tk tw it ct pr bu id] w fun e w'=>e=.returned (rV r2 r1 0 0 0 0)/\St W (kdR eb m1 m2 m3 m4 ((ak,V2)::j9 vs ak) ss ts ar (i+1)::R) w':=by
 refine(Nj7 hE 3 cl sq ak aw tk tw it ct pr bu id h1 h2 h3 W w _ (aZ4 hS)).mono ?_;rintro e w' ⟨vb,h1,rfl,hS⟩;exact⟨rfl,HE7 hE hp h1 hS⟩
theorem gx4(hE:O6 E i)(hp:(r6 E).Perm vs){r:Int}{V2:Vs}(h1:(F6 (vAt E ak) aw id).1=r)(h2:(F6 (vAt E ak) aw id).2=V2)(hS:St W (ecK eb m1 m2 m3 m4 E ss ts ar::R) w):
  Calls Tryz.prog 39 #[.P eb,oV 4 cl sq ak aw tk tw it ct pr bu id] w fun e w'=>e=.returned (rV r 0 0 0 0 0)/\St W (kdR eb m1 m2 m3 m4 ((ak,V2)::j9 vs ak) ss ts ar (i+1)::R) w':=by
 refine(JE7 hE 4 cl sq ak aw tk tw it ct pr bu id h1 h2 W w _ (aZ4 hS)).mono ?_;rintro e w' ⟨vb,h1,rfl,hS⟩;exact⟨rfl,HE7 hE hp h1 hS⟩
theorem gy4(hE:O6 E i)(hp:(r6 E).Perm vs){x0 x1 x2 x3:Int}(hx:m5 (vAt E ak).ps aw=⟨x0,x1,x2,x3⟩)(hS:St W (ecK eb m1 m2 m3 m4 E ss ts ar::R) w):
  Calls Tryz.prog 40 #[.P eb,oV 5 cl sq ak aw tk tw it ct pr bu id] w fun e w'=>e=.returned (rV 0 0 x0 x1 x2 x3)/\St W (kdR eb m1 m2 m3 m4 vs ss ts ar (i+1)::R) w':=by
 refine(Po7 5 cl sq ak aw tk tw it ct pr bu id hx W w _ (aZ4 hS)).mono ?_;rintro e w' ⟨rfl,hS⟩;exact⟨rfl,Ps7 hE hp hS⟩
theorem gz4(hE:O6 E i)(hp:(r6 E).Perm vs)(h0:0<=it)(h4:it<4)(c0:1<=ct)(c1:ct<=1048576){q:Ps}(hq:M5 (vAt E ak).ps aw (B5 it ct)=q)(hS:St W (ecK eb m1 m2 m3 m4 E ss ts ar::R) w):
  Calls Tryz.prog 41 #[.P eb,oV 6 cl sq ak aw tk tw it ct pr bu id] w fun e w'=>e=.returned (rV 0 0 0 0 0 0)/\St W (kdR eb m1 m2 m3 m4 ((ak,⟨q,(vAt E ak).L,(vAt E ak).n⟩)::j9 vs ak) ss ts (((cl,sq),())::j9 ar (cl,sq)) (i+1)::R) w':=by
 refine(KL7 hE 6 cl sq ak aw tk tw it ct pr bu id ar h0 h4 c0 c1 hq W w _ ((aZ4 hS).s (evP eb m1 m2 m3 m4 E::d8 eW eU m4 ar::d8 eI eSs m2 ss::d8 eW eTn m3 ts::R))).mono ?_;rintro e w' ⟨vb,h1,rfl,hS⟩;exact⟨rfl,HE7 hE hp h1 (hS.s _)⟩
theorem gA4(hE:O6 E i)(hp:(r6 E).Perm vs)(hS:St W (ecK eb m1 m2 m3 m4 E ss ts ar::R) w):
  Calls Tryz.prog 42 #[.P eb,oV 7 cl sq ak aw tk tw it ct pr bu id] w fun e w'=>e=.returned (rV 0 0 0 0 0 0)/\St W (kdR eb m1 m2 m3 m4 vs ss (j9 ts (cl,sq)) ar (i+1)::R) w':=by
 refine(Pn7 7 cl sq ak aw tk tw it ct pr bu id ts W w _ ((aZ4 hS).s (evP eb m1 m2 m3 m4 E::d8 eW eTn m3 ts::d8 eI eSs m2 ss::d8 eW eU m4 ar::R))).mono ?_;rintro e w' ⟨rfl,hS⟩;exact⟨rfl,Ps7 hE hp (hS.s _)⟩
end
end Go.Proofs.YtlmhakmoioogaaaGreat
end
