/-
  The vault at a key, as what a call tells of.
-/
import Derived.Test.YtienbkdjkjbelaaGreatJuRM5
import Derived.Test.YtienbkdjkjbelaaGreatJuRM22
import Derived.Test.YtienbkdjkjbelaaGreatJuRM24
set_option maxHeartbeats 16000000
set_option maxRecDepth 100000
set_option linter.unusedSimpArgs false
set_option linter.unusedVariables false
section
namespace Go.Proofs.YtienbkdjkjbelaaGreat
open Go.RowKit Go.Sl
def F9(E:Ev)(i:Nat):Prop:=∀x∈E,VOk x.2.2.ps x.2.2.n i
theorem Mc7{p:Ps}{n:Int}{i j:Nat}(h:VOk p n i)(hij:i<=j):VOk p n j:=⟨h.ok,Al7 h.w (Nat.mul_le_mul_left _ hij),h.n0,by have:=h.n1;omega⟩
theorem Or7{E:Ev}{i:Nat}(h:F9 E i)(k:ByteArray):VOk (vAt E k).ps (vAt E k).n i:=by
 unfold vAt
 cases hg:j5 E k with
 | none=>exact Mc7 ex4 (Nat.zero_le _)
 | some x=>exact h _ (Az7 hg)
def evP(eb m1 m2 m3 m4:Nat)(E:Ev):HP:=sats [ebB eb m1 m2 m3 m4,d9 eS eN m1 (j9 E),m6 E]
def atR(v:Value)(eb m1 m2 m3 m4:Nat)(D:Ev)(k:ByteArray)(V:Vs)(i:Nat):HP:=fun f=>∃vb,(v=.P vb/\VOk V.ps V.n i)/\sats [ebB eb m1 m2 m3 m4,d9 eS eN m1 (j9 ((k,(vb,V))::D)),F8 vb V,m6 D] f
section
variable{W w:World}{R:List HP}{eb m1 m2 m3 m4:Nat}{E D:Ev}{k:ByteArray}{V:Vs}{i:Nat}{v:Value}
theorem I5(h:St W (evP eb m1 m2 m3 m4 E::R) w):St W (ebB eb m1 m2 m3 m4::d9 eS eN m1 (j9 E)::m6 E::R) w:=h.openS
theorem C5(h:St W (ebB eb m1 m2 m3 m4::d9 eS eN m1 (j9 E)::m6 E::R) w):St W (evP eb m1 m2 m3 m4 E::R) w:=St.shutS [_,_,_] h
theorem cj4(h:St W (atR v eb m1 m2 m3 m4 D k V i::R) w):∃vb mb bb,v=.P vb/\VOk V.ps V.n i/\St W (w6 vb mb bb V.ps V.L V.n (ebB eb m1 m2 m3 m4::d9 eS eN m1 (j9 ((k,(vb,V))::D))::m6 D::R)) w:=by obtain⟨vb,h⟩:=St.ex h;obtain⟨⟨h1,h2⟩,h⟩:=St.and h;have h3:St W (ebB eb m1 m2 m3 m4::d9 eS eN m1 (j9 ((k,(vb,V))::D))::F8 vb V::m6 D::R) w:=h.openS;obtain⟨mb,bb,h4⟩:=bG4 (h3.s (F8 vb V::ebB eb m1 m2 m3 m4::d9 eS eN m1 (j9 ((k,(vb,V))::D))::m6 D::R));exact⟨vb,mb,bb,h1,h2,h4⟩
theorem ck4{vb mb bb:Nat}{V':Vs}(h1:VOk V'.ps V'.n i)(h:St W (w6 vb mb bb V'.ps V'.L V'.n (ebB eb m1 m2 m3 m4::d9 eS eN m1 (j9 ((k,(vb,V))::D))::m6 D::R)) w):St W (atR (.P vb) eb m1 m2 m3 m4 D k V' i::R) w:=by have h2:=aC4 h;refine St.mkEx vb (St.mkAnd ⟨rfl,h1⟩ (St.shutS [_,_,_,_] ?_));have h3:St W (ebB eb m1 m2 m3 m4::d9 eS eN m1 (j9 ((k,(vb,V))::D))::F8 vb V'::m6 D::R) w:=h2.s _;exact h3
theorem cb4(h:St W (atR v eb m1 m2 m3 m4 D k V i::R) w):∃vb,VOk V.ps V.n i/\St W (evP eb m1 m2 m3 m4 ((k,(vb,V))::D)::R) w:=by obtain⟨vb,h⟩:=St.ex h;obtain⟨⟨_,h2⟩,h⟩:=St.and h;have h3:St W (ebB eb m1 m2 m3 m4::d9 eS eN m1 (j9 ((k,(vb,V))::D))::F8 vb V::m6 D::R) w:=h.openS;have h4:=ci4 (x:=(k,(vb,V))) (h3.s (F8 vb V::m6 D::ebB eb m1 m2 m3 m4::d9 eS eN m1 (j9 ((k,(vb,V))::D))::R));exact⟨vb,h2,C5 (h4.s _)⟩
theorem atF(hE:F9 E i){Va:Vs}{Da:Ev}(hV:vAt E k=Va)(hD:i9 E k=Da)(hS:St W (evP eb m1 m2 m3 m4 E::R) w):
  Calls Tryz.prog 109 #[.P eb,.string k] w fun e w'=>∃v,e=.returned v/\St W (atR v eb m1 m2 m3 m4 Da k Va i::R) w':=by
 subst hV hD;refine(NC7 eb m1 m2 m3 m4 E k W w R (I5 hS)).mono ?_;rintro e w' ⟨vb,rfl,hS⟩;exact⟨_,rfl,St.mkEx vb (St.mkAnd ⟨rfl,Or7 hE k⟩ (St.shutS [_,_,_,_] hS))⟩
theorem eA4{who:ByteArray}{x0 x1 x2 x3 r:Int}{q:Ps}(hr:J8 V.ps who ⟨x0,x1,x2,x3⟩=r)(hq:G8 V.ps who ⟨x0,x1,x2,x3⟩=q)(hS:St W (atR v eb m1 m2 m3 m4 D k V i::R) w):
  Calls Tryz.prog 110 #[v,.string who,.agg #[.I x0,.I x1,.I x2,.I x3]] w fun e w'=>e=.returned (.I r)/\St W (atR v eb m1 m2 m3 m4 D k ⟨q,V.L,V.n⟩ (i+1)::R) w':=by
 obtain⟨vb,mb,bb,rfl,hok,hS⟩:=cj4 hS;refine(Oo7 vb mb bb W w _ hok who ⟨x0,x1,x2,x3⟩ hS).mono ?_;rw[hr,hq];rintro e w' ⟨rfl,h1,hS⟩;exact⟨rfl,ck4 (V':=⟨q,V.L,V.n⟩) h1 hS⟩
theorem dE4{who:ByteArray}{x0 x1 x2 x3 r:Int}{q:Ps}(hr:m9 V.ps who ⟨x0,x1,x2,x3⟩=r)(hq:s5 V.ps who ⟨x0,x1,x2,x3⟩=q)(hS:St W (atR v eb m1 m2 m3 m4 D k V i::R) w):
  Calls Tryz.prog 112 #[v,.string who,.agg #[.I x0,.I x1,.I x2,.I x3]] w fun e w'=>e=.returned (.I r)/\St W (atR v eb m1 m2 m3 m4 D k ⟨q,V.L,V.n⟩ (i+1)::R) w':=by
 obtain⟨vb,mb,bb,rfl,hok,hS⟩:=cj4 hS;refine(Nx7 vb mb bb W w _ hok who ⟨x0,x1,x2,x3⟩ hS).mono ?_;rw[hr,hq];rintro e w' ⟨rfl,h1,hS⟩;exact⟨rfl,ck4 (V':=⟨q,V.L,V.n⟩) h1 hS⟩
theorem fr4{oi ot oc op:Int}{ou:ByteArray}{oy:Bool}{r1 r2:Int}{V2:Vs}(h1:(w9 V ⟨oi,ou,oy,ot,oc,op⟩).1=r1)(h2:(w9 V ⟨oi,ou,oy,ot,oc,op⟩).2.1=r2)(h3:(w9 V ⟨oi,ou,oy,ot,oc,op⟩).2.2=V2)(hS:St W (atR v eb m1 m2 m3 m4 D k V i::R) w):
  Calls Tryz.prog 113 #[v,.agg #[.I oi,.string ou,.bool oy,.I ot,.I oc,.I op]] w fun e w'=>e=.returned (.tuple #[.I r1,.I r2])/\St W (atR v eb m1 m2 m3 m4 D k V2 (i+1)::R) w':=by
 obtain⟨vb,mb,bb,rfl,hok,hS⟩:=cj4 hS;refine(Ny7 vb mb bb W w _ hok ⟨oi,ou,oy,ot,oc,op⟩ hS).mono ?_;subst h1 h2 h3;rintro e w' ⟨rfl,h1,hS⟩;exact⟨rfl,ck4 h1 hS⟩
theorem fs4{who:ByteArray}{id r:Int}{V2:Vs}(h1:(A6 V who id).1=r)(h2:(A6 V who id).2=V2)(hS:St W (atR v eb m1 m2 m3 m4 D k V i::R) w):
  Calls Tryz.prog 114 #[v,.string who,.I id] w fun e w'=>e=.returned (.I r)/\St W (atR v eb m1 m2 m3 m4 D k V2 (i+1)::R) w':=by
 obtain⟨vb,mb,bb,rfl,hok,hS⟩:=cj4 hS;obtain⟨p,L,n⟩:=V;have h3:(A6 ⟨p,L,n⟩ who id).2.n=n:=by unfold A6;split <;> rfl
 have e:(A6 ⟨p,L,n⟩ who id).2=⟨(A6 ⟨p,L,n⟩ who id).2.ps,(A6 ⟨p,L,n⟩ who id).2.L,n⟩:=by generalize A6 ⟨p,L,n⟩ who id=z at h3 ⊢;obtain⟨z1,z2,z3,z4⟩:=z;simp only at h3;rw[h3]
 refine(Nz7 vb mb bb W w _ hok who id hS).mono ?_;subst h1 h2;rintro e' w' ⟨rfl,h1,hS⟩;refine⟨rfl,?_⟩;rw[e];exact ck4 (V':=⟨(A6 ⟨p,L,n⟩ who id).2.ps,(A6 ⟨p,L,n⟩ who id).2.L,n⟩) h1 hS
end
abbrev rV(x0 x1:Int)(y0 y1 y2 y3:Int):Value:=.agg #[.I x0,.I x1,.I y0,.I y1,.I y2,.I y3]
theorem Kr7{eb m1 m2 m3 m4:Nat}{E:Ev}{i:Nat}(hE:F9 E i)(kd cl sq:Int)(ak aw tk tw:ByteArray)(it ct pr:Int)(bu:Bool)(id:Int)(h0:0<=it)(h4:it<4)(c0:1<=ct)(c1:ct<=1048576){r:Int}{q:Ps}
  (hr:J8 (vAt E ak).ps aw (r9 it ct)=r) (hq:G8 (vAt E ak).ps aw (r9 it ct)=q) (W w:World) (R:List HP) (hS:St W (evP eb m1 m2 m3 m4 E::R) w):
  Calls Tryz.prog 65 #[.P eb,oV kd cl sq ak aw tk tw it ct pr bu id] w fun e w'=>∃vb,VOk q (vAt E ak).n (i+1)/\e=.returned (rV r 0 0 0 0 0)/\St W (evP eb m1 m2 m3 m4 ((ak,(vb,⟨q,(vAt E ak).L,(vAt E ak).n⟩))::i9 E ak)::R) w':=by
 obtain⟨V,hV⟩:∃V,vAt E ak=V:=⟨_,rfl⟩
 obtain⟨D,hD⟩:∃D,i9 E ak=D:=⟨_,rfl⟩
 obtain⟨x,hx⟩:∃x,r9 it ct=x:=⟨_,rfl⟩
 obtain⟨x0,x1,x2,x3⟩:=x;rw[hV,hx]at hr hq;rw[hV,hD];have HE:=jH hE;have HV:=jH hV;have HD:=jH hD;have Hx:=jH hx;have Hr:=jH hr;have Hq:=jH hq;clear hE hV hD hx hr hq;go_enter Tryz.func65,Tryz.ntmps65;go_wp2_with(first|refine zbx hS ?_;clear hS;intro bO w hS|refine zal hS ?_;clear hS;intro bR w hS);have hS1:=hS.s (evP eb m1 m2 m3 m4 E::blk bR _ _::blk bO _ _::R);clear hS
 refine rf3 [0,0,2,6,15,0,32,96,0,287,1023,2047,4095] (fun i=>i==4) (fun i=>if i==9 then some (.agg #[.I x0,.I x1,.I x2,.I x3])else if i==10 then some (.I r)else none)
  [⟨some 4,some 10,fun nd=>atR (nd 4) eb m1 m2 m3 m4 D ak V i⟩,⟨some 10,none,fun nd=>atR (nd 4) eb m1 m2 m3 m4 D ak ⟨q,V.L,V.n⟩ (i+1)⟩,⟨some 12,none,fun _=>blk bR [.I r,.I 0,.I 0,.I 0,.I 0,.I 0] 36⟩] [some 4,some 12,none] hS1 ?_
 clear hS1;intro nd;refine cR ?_
 iterate 2 (refine cR ?_)
 (refine zc1 ?_);apply AZ7;rfl;rfl;rfl;decide +kernel;(focus(simp only[fD,fI,fJ,Act.eval,fE,fF,fG,fH,fK];try rfl));(intro _;rfl);(intro F w hS;exact atF HE.out HV.out HD.out hS);(refine frS ?_)
 iterate 2 (refine cR ?_)
 (refine zc1 ?_);refine zcN ?_;refine zcv ?_ (hs:=by(intro F w hS;(try clear hS0);exact Ef7 Hx.out h0 h4 c0 c1 W w _ hS));refine zcv ?_ (hs:=by(intro F w hS;(try clear hS0);exact eA4 Hr.out Hq.out hS));refine cR ?_;refine zcs ?_;refine Ad7 ?_;intro w hS;have hS2:St W [atR _ eb m1 m2 m3 m4 D ak ⟨q,V.L,V.n⟩ (i+1),blk bR _ _,blk bO _ _,sats R] w:=hS;clear hS;have hS:=hS2.unpack [_,_,_];clear hS2;simp only[jK,jN]at hS;go_wp2_with fail;apply Am7;rfl;rfl;rfl;exact hS;decide +kernel;(exact m8);kernel_rfl;obtain⟨vb,h1,hS3⟩:=cb4 hS;exact⟨vb,h1,rfl,hS3.s _⟩
theorem Jd7{eb m1 m2 m3 m4:Nat}{E:Ev}{i:Nat}(hE:F9 E i)(kd cl sq:Int)(ak aw tk tw:ByteArray)(it ct pr:Int)(bu:Bool)(id:Int){r1 r2:Int}{V2:Vs}
  (h1:(w9 (vAt E ak) ⟨0,aw,bu,it,ct,pr⟩).1=r1) (h2:(w9 (vAt E ak) ⟨0,aw,bu,it,ct,pr⟩).2.1=r2) (h3:(w9 (vAt E ak) ⟨0,aw,bu,it,ct,pr⟩).2.2=V2) (W w:World) (R:List HP) (hS:St W (evP eb m1 m2 m3 m4 E::R) w):
  Calls Tryz.prog 67 #[.P eb,oV kd cl sq ak aw tk tw it ct pr bu id] w fun e w'=>∃vb,VOk V2.ps V2.n (i+1)/\e=.returned (rV r2 r1 0 0 0 0)/\St W (evP eb m1 m2 m3 m4 ((ak,(vb,V2))::i9 E ak)::R) w':=by
 obtain⟨V,hV⟩:∃V,vAt E ak=V:=⟨_,rfl⟩
 obtain⟨D,hD⟩:∃D,i9 E ak=D:=⟨_,rfl⟩
 rw[hV]at h1 h2 h3;rw[hD];have H1:=jH h1;have H2:=jH h2;have H3:=jH h3;clear h1 h2 h3;have HE:=jH hE;have HV:=jH hV;have HD:=jH hD;clear hE hV hD;go_enter Tryz.func67,Tryz.ntmps67;go_wp2_with(first|refine zbx hS ?_;clear hS;intro bO w hS|refine zal hS ?_;clear hS;intro bR w hS);have hS1:=hS.s (evP eb m1 m2 m3 m4 E::blk bR _ _::blk bO _ _::R);clear hS
 refine rf3 [0,0,2,6,15,0,32,96,0,256,0,1024,0,4096,0,16384,65504,131071,262143,524287,524287,1048575,4194303] (fun i=>i==4) (fun i=>if i==17 then some (.tuple #[.I r1,.I r2])else none)
  [⟨some 4,some 17,fun nd=>atR (nd 4) eb m1 m2 m3 m4 D ak V i⟩,⟨some 17,none,fun nd=>atR (nd 4) eb m1 m2 m3 m4 D ak V2 (i+1)⟩] [some 4,none,none] hS1 ?_
 clear hS1;intro nd
 repeat(first|refine zc1 ?_|apply AZ7;rfl;rfl;rfl;decide +kernel;(focus(simp only[fD,fI,fJ,Act.eval,fE,fF,fG,fH,fK];try rfl));intro _;rfl;intro F w hS;exact atF HE.out HV.out HD.out hS;refine frS ?_|refine zcv ?_ (hs:=by(intro F w hS;(try clear hS0);exact fr4 H1.out H2.out H3.out hS))|refine cR ?_)
 refine Ad7 ?_;intro w hS;have hS2:St W [atR _ eb m1 m2 m3 m4 D ak V2 (i+1),blk bR _ _,blk bO _ _,sats R] w:=hS;clear hS;have hS:=hS2.unpack [_,_,_];clear hS2;simp only[jK,jN]at hS;go_wp2_with(first|refine zsN hS ?_;clear hS;intro w hS);apply Am7;rfl;rfl;rfl;exact hS;decide +kernel;(exact m8);kernel_rfl;obtain⟨vb,h1,hS3⟩:=cb4 (hS.s (atR _ eb m1 m2 m3 m4 D ak V2 (i+1)::R));exact⟨vb,h1,rfl,hS3⟩
theorem GR7{eb m1 m2 m3 m4:Nat}{E:Ev}{i:Nat}(hE:F9 E i)(kd cl sq:Int)(ak aw tk tw:ByteArray)(it ct pr:Int)(bu:Bool)(id:Int){r:Int}{V2:Vs}
  (h1:(A6 (vAt E ak) aw id).1=r) (h2:(A6 (vAt E ak) aw id).2=V2) (W w:World) (R:List HP) (hS:St W (evP eb m1 m2 m3 m4 E::R) w):
  Calls Tryz.prog 68 #[.P eb,oV kd cl sq ak aw tk tw it ct pr bu id] w fun e w'=>∃vb,VOk V2.ps V2.n (i+1)/\e=.returned (rV r 0 0 0 0 0)/\St W (evP eb m1 m2 m3 m4 ((ak,(vb,V2))::i9 E ak)::R) w':=by
 obtain⟨V,hV⟩:∃V,vAt E ak=V:=⟨_,rfl⟩
 obtain⟨D,hD⟩:∃D,i9 E ak=D:=⟨_,rfl⟩
 rw[hV]at h1 h2;rw[hD];have H1:=jH h1;have H2:=jH h2;clear h1 h2;have HE:=jH hE;have HV:=jH hV;have HD:=jH hD;clear hE hV hD;go_enter Tryz.func68,Tryz.ntmps68;go_wp2_with(first|refine zbx hS ?_;clear hS;intro bO w hS|refine zal hS ?_;clear hS;intro bR w hS);have hS1:=hS.s (evP eb m1 m2 m3 m4 E::blk bR _ _::blk bO _ _::R);clear hS
 refine rf3 [0,0,2,6,15,0,32,96,0,256,1023,2047,4095] (fun i=>i==4) (fun i=>if i==10 then some (.I r)else none)
  [⟨some 4,some 10,fun nd=>atR (nd 4) eb m1 m2 m3 m4 D ak V i⟩,⟨some 10,none,fun nd=>atR (nd 4) eb m1 m2 m3 m4 D ak V2 (i+1)⟩,⟨some 12,none,fun _=>blk bR [.I r,.I 0,.I 0,.I 0,.I 0,.I 0] 36⟩] [some 4,some 12,none] hS1 ?_
 clear hS1;intro nd
 repeat(first|refine zc1 ?_|apply AZ7;rfl;rfl;rfl;decide +kernel;(focus(simp only[fD,fI,fJ,Act.eval,fE,fF,fG,fH,fK];try rfl));intro _;rfl;intro F w hS;exact atF HE.out HV.out HD.out hS;refine frS ?_|refine zcv ?_ (hs:=by(intro F w hS;(try clear hS0);exact fs4 H1.out H2.out hS))|refine zcs ?_|refine cR ?_)
 refine Ad7 ?_;intro w hS;have hS2:St W [atR _ eb m1 m2 m3 m4 D ak V2 (i+1),blk bR _ _,blk bO _ _,sats R] w:=hS;clear hS;have hS:=hS2.unpack [_,_,_];clear hS2;simp only[jK,jN]at hS;go_wp2_with fail;apply Am7;rfl;rfl;rfl;exact hS;decide +kernel;(exact m8);kernel_rfl;obtain⟨vb,h1,hS3⟩:=cb4 hS;exact⟨vb,h1,rfl,hS3.s _⟩
theorem HE7{eb m1 m2 m3 m4:Nat}{E:Ev}{i:Nat}(hE:F9 E i)(kd cl sq:Int)(ak aw tk tw:ByteArray)(it ct pr:Int)(bu:Bool)(id:Int)(ar:List ((Int×Int)×Unit))(h0:0<=it)(h4:it<4)(c0:1<=ct)(c1:ct<=1048576){q:Ps}
  (hq:G8 (vAt E ak).ps aw (r9 it ct)=q) (W w:World) (R:List HP) (hS:St W (evP eb m1 m2 m3 m4 E::d9 eW eU m4 ar::R) w):
  Calls Tryz.prog 70 #[.P eb,oV kd cl sq ak aw tk tw it ct pr bu id] w fun e w'=>∃vb,VOk q (vAt E ak).n (i+1)/\e=.returned (rV 0 0 0 0 0 0) /\
   St W (evP eb m1 m2 m3 m4 ((ak,(vb,⟨q,(vAt E ak).L,(vAt E ak).n⟩))::i9 E ak)::d9 eW eU m4 (((cl,sq),())::i9 ar (cl,sq))::R) w':=by
 obtain⟨V,hV⟩:∃V,vAt E ak=V:=⟨_,rfl⟩
 obtain⟨D,hD⟩:∃D,i9 E ak=D:=⟨_,rfl⟩
 obtain⟨x,hx⟩:∃x,r9 it ct=x:=⟨_,rfl⟩
 obtain⟨x0,x1,x2,x3⟩:=x;rw[hV,hx]at hq;obtain⟨r,hr⟩:∃r,J8 V.ps aw ⟨x0,x1,x2,x3⟩=r:=⟨_,rfl⟩
 rw[hV,hD];have Hx:=jH hx;have Hr:=jH hr;have Hq:=jH hq;clear hx hr hq;have HE:=jH hE;have HV:=jH hV;have HD:=jH hD;clear hE hV hD;go_enter Tryz.func70,Tryz.ntmps70;go_wp2_with(first|refine zbx hS ?_;clear hS;intro bO w hS|refine zal hS ?_;clear hS;intro bR w hS);have hS1:=hS.s (evP eb m1 m2 m3 m4 E::blk bR _ _::blk bO _ _::d9 eW eU m4 ar::R);clear hS
 refine rf3 [0,0,2,6,15,0,32,96,0,287,1023] (fun i=>i==4) (fun i=>if i==9 then some (.agg #[.I x0,.I x1,.I x2,.I x3])else if i==10 then some (.I r)else none)
  [⟨some 4,some 10,fun nd=>atR (nd 4) eb m1 m2 m3 m4 D ak V i⟩,⟨some 10,none,fun nd=>atR (nd 4) eb m1 m2 m3 m4 D ak ⟨q,V.L,V.n⟩ (i+1)⟩] [some 4,none,none] hS1 ?_
 clear hS1;intro nd
 repeat(first|refine zc1 ?_|refine zcN ?_|apply AZ7;rfl;rfl;rfl;decide +kernel;(focus(simp only[fD,fI,fJ,Act.eval,fE,fF,fG,fH,fK];try rfl));intro _;rfl;intro F w hS;exact atF HE.out HV.out HD.out hS;refine frS ?_|refine zcv ?_ (hs:=by(intro F w hS;(try clear hS0);exact Ef7 Hx.out h0 h4 c0 c1 W w _ hS))|refine zcv ?_ (hs:=by(intro F w hS;(try clear hS0);exact eA4 Hr.out Hq.out hS))|refine cR ?_)
 refine Ad7 ?_;intro w hS;have hS2:St W [atR _ eb m1 m2 m3 m4 D ak ⟨q,V.L,V.n⟩ (i+1),blk bR _ _,blk bO _ _,sats (d9 eW eU m4 ar::R)] w:=hS;clear hS;have hS:=hS2.unpack [_,_,_];clear hS2;simp only[jK,jN]at hS;obtain⟨vb,h1,hS3⟩:=cb4 hS;clear hS;have H1:=jH h1;clear h1;have hS:=I5 hS3;clear hS3;go_wp2_with fail;refine rt 9 hS ?_
 repeat(first|refine zq1 ?_|refine zqn ?_|refine qR ?_)
 clear hS;intro w hS;simp only[jD,List.drop_zero];go_wp2_with(first|((with_reducible apply Bq7 (ek:=eW) (ev:=eU) (k:=(cl,sq)) (u:=()) hS);rfl;rfl;rfl;rfl;exact i7;(focus(rfl));exact mAr;exact kW;clear hS;intro w hS;try(refine frS ?_))|refine zsN hS ?_;clear hS;intro w hS);apply Am7;rfl;rfl;rfl;exact hS;decide +kernel;(exact m8);kernel_rfl;exact⟨vb,H1.out,rfl,(C5 (hS.s (ebB eb m1 m2 m3 m4::d9 eS eN m1 _::m6 _::d9 eW eU m4 _::R)))⟩
theorem Ks7{eb m1 m2 m3 m4:Nat}{E:Ev}(kd cl sq:Int)(ak aw tk tw:ByteArray)(it ct pr:Int)(bu:Bool)(id:Int)(ts:List ((Int×Int)×Tns))(W w:World)(R:List HP)(hS:St W (evP eb m1 m2 m3 m4 E::d9 eW eTn m3 ts::R) w):
  Calls Tryz.prog 71 #[.P eb,oV kd cl sq ak aw tk tw it ct pr bu id] w fun e w'=>e=.returned (rV 0 0 0 0 0 0)/\St W (evP eb m1 m2 m3 m4 E::d9 eW eTn m3 (i9 ts (cl,sq))::R) w':=by
 have hS1:=I5 hS;clear hS;have hS:=hS1;clear hS1;go_enter Tryz.func71,Tryz.ntmps71;go_wp2_with(first|refine zbx hS ?_;clear hS;intro bO w hS|refine zal hS ?_;clear hS;intro bR w hS);refine rt 9 hS ?_
 repeat(first|refine zq1 ?_|refine zqn ?_|refine qR ?_)
 clear hS;intro w hS;simp only[jD,List.drop_zero];go_wp2_with(first|((with_reducible apply Hp7 (ek:=eW) (ev:=eTn) (k:=(cl,sq)) hS);rfl;rfl;rfl;rfl;exact i7;exact mT;exact kW;clear hS;intro w hS;try(refine frS ?_))|refine zsN hS ?_;clear hS;intro w hS);apply Am7;rfl;rfl;rfl;exact hS;decide +kernel;(exact m8);kernel_rfl;exact⟨rfl,C5 (hS.s (ebB eb m1 m2 m3 m4::d9 eS eN m1 _::m6 _::d9 eW eTn m3 _::R))⟩
end Go.Proofs.YtienbkdjkjbelaaGreat
end
section
namespace Go.Sl
open Go.RowKit
section
variable{κ ν:Type}[DecidableEq κ]{P:Program}{t K E:TypeId}{ek:κ->Value}{ev:ν->Value}{W w:World}{L R:List HP}{b:Nat}{l:List (κ×ν)}{ops:Array Oper}{a:Act}{rest:List Oper}{o:Oper}
theorem GS7{Q:Act->Prop}{x y:Operand}{k:κ}{z v:Value}{ok:Bool}(ho:o.op=.lookup t x y ok)(hg:Region.wanted o (yielded ops a.tmps)=true)(hx:a.eval x=.map (some b))(hy:a.eval y=ek k)(hu:Take L (d9 ek ev b l) R)
  (ht:F6 P t=some (K,E)) (hK:KeyOk P K ek) (hz:C7 P E=some z) (hv:O6 ok z ((j5 l k).map ev)=v) (h:wpQuiet P ops (St W L) Q rest (a.put o.dst v)):wpQuiet P ops (St W L) Q (o::rest) a:=
 FZ7 hg (fun w hS=>by unfold execOp;simp[ho,hx,hy,CQ7 (hS.take hu) ht hK hz,hv]) h
theorem Av7{tb:List Nat}{toks:List Tok}{fresh:Nat->Bool}{pin:Nat->Option Value}{Qf:Act->Prop}{nd:Nat->Value}{i:Nat}{x y:Operand}{k:κ}{z v:Value}{ok:Bool}(hf:fresh i=false)(hn:ah4 toks i=true)(ho:o.op=.lookup t x y ok)(hg:Region.wanted o (yielded ops a.tmps)=true)(hx:a.eval x=.map (some b))(hy:a.eval y=ek k)
  (hu:∀F, ∃R,Take (kpL toks tb i nd++F) (d9 ek ev b l) R) (ht:F6 P t=some (K,E)) (hK:KeyOk P K ek) (hz:C7 P E=some z) (hv:O6 ok z ((j5 l k).map ev)=v) (h:k8 P W ops tb toks fresh pin Qf nd (i+1) rest (a.put o.dst v)):k8 P W ops tb toks fresh pin Qf nd i (o::rest) a:=
 Fa7 hf hn hg (fun F w hS=>by obtain⟨R,hu⟩:=hu F;unfold execOp;simp[ho,hx,hy,CQ7 (hS.take hu) ht hK hz,hv]) h
end
end Go.Sl
namespace Go.Proofs.YtienbkdjkjbelaaGreat
open Go.RowKit Go.Sl
theorem Md7{eb m1 m2 m3 m4:Nat}{E:Ev}(k u:ByteArray){x0 x1 x2 x3:Int}(hx:j7 (vAt E k).ps u=⟨x0,x1,x2,x3⟩)(W w:World)(R:List HP)(hS:St W (evP eb m1 m2 m3 m4 E::R) w):
  Calls Tryz.prog 115 #[.P eb,.agg #[.string k,.string u]] w fun e w'=>e=.returned (.agg #[.I x0,.I x1,.I x2,.I x3])/\St W (evP eb m1 m2 m3 m4 E::R) w':=by
 have hS1:=I5 hS;clear hS;have hS:=hS1;clear hS1;have hnd:(E.map (·.1)).Nodup:=by rw[<-AD7];exact H6 hS.drop
 cases hg:j5 E k with
 | none=>
  have hgl:O6 false (.pointer none) ((j5 (j9 E) k).map eN)=.pointer none:=by rw[Cv7,hg];rfl
  have hv:vAt E k=vs0:=by unfold vAt;rw[hg];rfl
  rw[hv]at hx
  cases hx
  go_enter Tryz.func115,Tryz.ntmps115;go_wp2_with(first|refine zbx hS ?_;clear hS;intro bO w hS|refine zal hS ?_;clear hS;intro bR w hS);refine rt 10 hS ?_
  repeat(first|refine zq1 ?_|refine zqn ?_|(apply GS7 (ek:=eS) (ev:=eN) (k:=k));rfl;rfl;rfl;rfl;exact i7;exact mV;exact kS;exact zV;exact hgl;refine frS ?_|apply As7;rfl;intro w;apply Aj7;rfl;decide +kernel;(focus(simp only[fD,fI,fJ,Act.eval,fE,fF,fG,fH,fK];try rfl));intro w hS;exact Nu7 u W w _ hS;refine frS ?_|refine qR ?_)
  clear hS;intro w hS;simp only[jD,List.drop_zero];go_wp2_with(first|refine zsN hS ?_;clear hS;intro w hS);apply Am7;rfl;rfl;rfl;exact hS;decide +kernel;(exact m8);kernel_rfl;exact⟨rfl,C5 (hS.s _)⟩
 | some x=>
  obtain⟨vb,V⟩:=x;have hgl:O6 false (.pointer none) ((j5 (j9 E) k).map eN)=eN vb:=by rw[Cv7,hg];rfl
  have hp:=BV7 hnd hg;have hv:vAt E k=V:=by unfold vAt;rw[hg];rfl
  rw[hv]at hx;have h1:St W (m6 E::ebB eb m1 m2 m3 m4::d9 eS eN m1 (j9 E)::R) w:=hS.s _;have h2:=ch4 (bt4 hp h1);obtain⟨mb,bb,h3⟩:=bG4 h2;clear hS h1 h2;have hS:=h3;clear h3;go_enter Tryz.func115,Tryz.ntmps115;go_wp2_with(first|refine zbx hS ?_;clear hS;intro bO w hS|refine zal hS ?_;clear hS;intro bR w hS);have hS1:=hS.s (blk vb _ _::d9 eS eP mb V.ps::blk bR _ _::blk bO _ _::ebB eb m1 m2 m3 m4::d9 eS eN m1 (j9 E)::t8 bb V.L V.n::m6 (i9 E k)::R);clear hS;refine rt 10 hS1 ?_
  repeat(first|refine zq1 ?_|refine zqn ?_|(apply GS7 (ek:=eS) (ev:=eN) (k:=k));rfl;rfl;rfl;rfl;exact i7;exact mV;exact kS;exact zV;exact hgl;refine frS ?_|apply As7;rfl;intro w;apply Aj7;rfl;decide +kernel;(focus(simp only[fD,fI,fJ,Act.eval,fE,fF,fG,fH,fK];try rfl));intro w hS;exact Op7 vb mb W w _ _ _ hx hS;refine frS ?_|refine qR ?_)
  clear hS1;intro w hS;simp only[jD,List.drop_zero];go_wp2_with(first|refine zsN hS ?_;clear hS;intro w hS);apply Am7;rfl;rfl;rfl;exact hS;decide +kernel;(exact m8);kernel_rfl;have h4:=aC4 (V:=V) (hS.s (w6 vb mb bb V.ps V.L V.n (m6 (i9 E k)::ebB eb m1 m2 m3 m4::d9 eS eN m1 (j9 E)::R)));have h5:=bt4 hp.symm (ci4 (x:=(k,(vb,V))) h4);exact⟨rfl,C5 (h5.s _)⟩
theorem Kt7{eb m1 m2 m3 m4:Nat}{E:Ev}(kd cl sq:Int)(ak aw tk tw:ByteArray)(it ct pr:Int)(bu:Bool)(id:Int){x0 x1 x2 x3:Int}(hx:j7 (vAt E ak).ps aw=⟨x0,x1,x2,x3⟩)(W w:World)(R:List HP)(hS:St W (evP eb m1 m2 m3 m4 E::R) w):
  Calls Tryz.prog 69 #[.P eb,oV kd cl sq ak aw tk tw it ct pr bu id] w fun e w'=>e=.returned (rV 0 0 x0 x1 x2 x3)/\St W (evP eb m1 m2 m3 m4 E::R) w':=by
 go_enter Tryz.func69,Tryz.ntmps69;go_wp2_with(first|refine zbx hS ?_;clear hS;intro bO w hS|refine zal hS ?_;clear hS;intro bR w hS|refine zlN hS ?_ (vs:=[.string ak,.string aw]) (hc:=by first|exact d8.here rfl|exact d8.there (d8.here rfl))|refine zsN hS ?_;clear hS;intro w hS|go_at_call 115;refine(Md7 ak aw hx W _ _ (hS.s (evP eb m1 m2 m3 m4 E::blk bR _ _::blk bO _ _::R))).mono ?_;clear hS;rintro e w ⟨rfl,hS⟩);apply Am7;rfl;rfl;rfl;exact hS;decide +kernel;(exact m8);kernel_rfl;exact⟨rfl,hS.s _⟩
abbrev tB24a:List Nat:=[0,0,2,6,15,0,32,96,0,287,1023,2047]
theorem NE7{eb m1 m2 m3 m4:Nat}{E:Ev}{i:Nat}(hE:F9 E i)(kd cl sq:Int)(ak aw tk tw:ByteArray)(it ct pr:Int)(bu:Bool)(id:Int)(ts:List ((Int×Int)×Tns))(h0:0<=it)(h4:it<4)(c0:1<=ct)(c1:ct<=1048576){r:Int}{q:Ps}
  (hr:m9 (vAt E ak).ps aw (r9 it ct)=r) (hr0:(r==0)=false) (hq:s5 (vAt E ak).ps aw (r9 it ct)=q) (W w:World) (R:List HP) (hS:St W (evP eb m1 m2 m3 m4 E::d9 eW eTn m3 ts::R) w):
  Calls Tryz.prog 66 #[.P eb,oV kd cl sq ak aw tk tw it ct pr bu id] w fun e w'=>∃vb,VOk q (vAt E ak).n (i+1)/\e=.returned (rV r 0 0 0 0 0) /\
   St W (evP eb m1 m2 m3 m4 ((ak,(vb,⟨q,(vAt E ak).L,(vAt E ak).n⟩))::i9 E ak)::d9 eW eTn m3 ts::R) w':=by
 obtain⟨V,hV⟩:∃V,vAt E ak=V:=⟨_,rfl⟩
 obtain⟨D,hD⟩:∃D,i9 E ak=D:=⟨_,rfl⟩
 obtain⟨x,hx⟩:∃x,r9 it ct=x:=⟨_,rfl⟩
 obtain⟨x0,x1,x2,x3⟩:=x;rw[hV,hx]at hr hq;rw[hV,hD];have Hx:=jH hx;have Hr:=jH hr;have Hq:=jH hq;clear hx hr hq;have HE:=jH hE;have HV:=jH hV;have HD:=jH hD;clear hE hV hD;go_enter Tryz.func66,Tryz.ntmps66;go_wp2_with(first|refine zbx hS ?_;clear hS;intro bO w hS|refine zal hS ?_;clear hS;intro bR w hS);have hS1:=hS.s (evP eb m1 m2 m3 m4 E::blk bR _ _::blk bO _ _::d9 eW eTn m3 ts::R);clear hS
 refine rf3 tB24a (fun i=>i==4) (fun i=>if i==9 then some (.agg #[.I x0,.I x1,.I x2,.I x3])else if i==10 then some (.I r)else none)
  [⟨some 4,some 10,fun nd=>atR (nd 4) eb m1 m2 m3 m4 D ak V i⟩,⟨some 10,none,fun nd=>atR (nd 4) eb m1 m2 m3 m4 D ak ⟨q,V.L,V.n⟩ (i+1)⟩] [some 4,none,none] hS1 ?_
 clear hS1;intro nd
 repeat(first|refine zc1 ?_|refine zcN ?_|apply AZ7;rfl;rfl;rfl;decide +kernel;(focus(simp only[fD,fI,fJ,Act.eval,fE,fF,fG,fH,fK];try rfl));intro _;rfl;intro F w hS;exact atF HE.out HV.out HD.out hS;refine frS ?_|refine zcv ?_ (hs:=by(intro F w hS;(try clear hS0);exact Ef7 Hx.out h0 h4 c0 c1 W w _ hS))|refine zcv ?_ (hs:=by(intro F w hS;(try clear hS0);exact dE4 Hr.out Hq.out hS))|refine cR ?_)
 refine Ad7 ?_;intro w hS;have hS2:St W [atR _ eb m1 m2 m3 m4 D ak ⟨q,V.L,V.n⟩ (i+1),blk bR _ _,blk bO _ _,sats (d9 eW eTn m3 ts::R)] w:=hS;clear hS;have hS:=hS2.unpack [_,_,_];clear hS2;simp only[jK,jN]at hS;obtain⟨vb,h1,hS3⟩:=cb4 hS;clear hS;have H1:=jH h1;clear h1;have hS:=I5 hS3;clear hS3;go_wp2_with(first|refine zsN hS ?_;clear hS;intro w hS);apply Am7;rfl;rfl;rfl;exact hS;decide +kernel;(exact m8);kernel_rfl;exact⟨H1.out,rfl,vb,C5 (hS.s (ebB eb m1 m2 m3 m4::d9 eS eN m1 _::m6 _::d9 eW eTn m3 ts::R))⟩
theorem Me7{eb m1 m2 m3 m4:Nat}{E:Ev}{i:Nat}(hE:F9 E i)(kd cl sq:Int)(ak aw tk tw:ByteArray)(it ct pr:Int)(bu:Bool)(id:Int)(ts:List ((Int×Int)×Tns))(h0:0<=it)(h4:it<4)(c0:1<=ct)(c1:ct<=1048576){q:Ps}
  (hr:m9 (vAt E ak).ps aw (r9 it ct)=0) (hq:s5 (vAt E ak).ps aw (r9 it ct)=q) (W w:World) (R:List HP) (hS:St W (evP eb m1 m2 m3 m4 E::d9 eW eTn m3 ts::R) w):
  Calls Tryz.prog 66 #[.P eb,oV kd cl sq ak aw tk tw it ct pr bu id] w fun e w'=>∃vb,VOk q (vAt E ak).n (i+1)/\e=.returned (rV 0 0 0 0 0 0) /\
   St W (evP eb m1 m2 m3 m4 ((ak,(vb,⟨q,(vAt E ak).L,(vAt E ak).n⟩))::i9 E ak)::d9 eW eTn m3 (((cl,sq),⟨cl,sq,ak,aw,tk,tw,it,ct⟩)::i9 ts (cl,sq))::R) w':=by
 obtain⟨V,hV⟩:∃V,vAt E ak=V:=⟨_,rfl⟩
 obtain⟨D,hD⟩:∃D,i9 E ak=D:=⟨_,rfl⟩
 obtain⟨x,hx⟩:∃x,r9 it ct=x:=⟨_,rfl⟩
 obtain⟨x0,x1,x2,x3⟩:=x;rw[hV,hx]at hr hq;rw[hV,hD];have Hx:=jH hx;have Hr:=jH hr;have Hq:=jH hq;clear hx hr hq;have HE:=jH hE;have HV:=jH hV;have HD:=jH hD;clear hE hV hD;go_enter Tryz.func66,Tryz.ntmps66;go_wp2_with(first|refine zbx hS ?_;clear hS;intro bO w hS|refine zal hS ?_;clear hS;intro bR w hS);have hS1:=hS.s (evP eb m1 m2 m3 m4 E::blk bR _ _::blk bO _ _::d9 eW eTn m3 ts::R);clear hS
 refine rf3 tB24a (fun i=>i==4) (fun i=>if i==9 then some (.agg #[.I x0,.I x1,.I x2,.I x3])else if i==10 then some (.I 0)else none)
  [⟨some 4,some 10,fun nd=>atR (nd 4) eb m1 m2 m3 m4 D ak V i⟩,⟨some 10,none,fun nd=>atR (nd 4) eb m1 m2 m3 m4 D ak ⟨q,V.L,V.n⟩ (i+1)⟩] [some 4,none,none] hS1 ?_
 clear hS1;intro nd
 repeat(first|refine zc1 ?_|refine zcN ?_|apply AZ7;rfl;rfl;rfl;decide +kernel;(focus(simp only[fD,fI,fJ,Act.eval,fE,fF,fG,fH,fK];try rfl));intro _;rfl;intro F w hS;exact atF HE.out HV.out HD.out hS;refine frS ?_|refine zcv ?_ (hs:=by(intro F w hS;(try clear hS0);exact Ef7 Hx.out h0 h4 c0 c1 W w _ hS))|refine zcv ?_ (hs:=by(intro F w hS;(try clear hS0);exact dE4 Hr.out Hq.out hS))|refine cR ?_)
 refine Ad7 ?_;intro w hS;have hS2:St W [atR _ eb m1 m2 m3 m4 D ak ⟨q,V.L,V.n⟩ (i+1),blk bR _ _,blk bO _ _,sats (d9 eW eTn m3 ts::R)] w:=hS;clear hS;have hS:=hS2.unpack [_,_,_];clear hS2;simp only[jK,jN]at hS;obtain⟨vb,h1,hS3⟩:=cb4 hS;clear hS;have H1:=jH h1;clear h1;have hS:=I5 hS3;clear hS3;go_wp2_with fail;refine rt 22 hS ?_
 repeat(first|refine zq1 ?_|refine zqN ?_ (hc:=by first|exact d8.here (vs:=[.string ak,.string aw]) rfl|exact d8.there (d8.here (vs:=[.string ak,.string aw]) rfl)|exact d8.there (d8.there (d8.there (d8.there (d8.here (vs:=[.string ak,.string aw]) rfl))))|exact d8.there (d8.there (d8.there (d8.here (vs:=[.string ak,.string aw]) rfl))))|refine zqN ?_ (hc:=by first|exact d8.here (vs:=[.string tk,.string tw]) rfl|exact d8.there (d8.here (vs:=[.string tk,.string tw]) rfl)|exact d8.there (d8.there (d8.there (d8.there (d8.here (vs:=[.string tk,.string tw]) rfl))))|exact d8.there (d8.there (d8.there (d8.here (vs:=[.string tk,.string tw]) rfl))))|refine zqn ?_|refine qR ?_)
 clear hS;intro w hS;simp only[jD,List.drop_zero];go_wp2_with(first|((with_reducible apply Bq7 (ek:=eW) (ev:=eTn) (k:=(cl,sq)) (u:=(⟨cl,sq,ak,aw,tk,tw,it,ct⟩:Tns)) hS);rfl;rfl;rfl;rfl;exact i7;(focus(rfl));exact mT;exact kW;clear hS;intro w hS;try(refine frS ?_))|refine zsN hS ?_;clear hS;intro w hS);apply Am7;rfl;rfl;rfl;exact hS;decide +kernel;(exact m8);kernel_rfl;exact⟨vb,H1.out,rfl,C5 (hS.s (ebB eb m1 m2 m3 m4::d9 eS eN m1 _::m6 _::d9 eW eTn m3 _::R))⟩
end Go.Proofs.YtienbkdjkjbelaaGreat
end
