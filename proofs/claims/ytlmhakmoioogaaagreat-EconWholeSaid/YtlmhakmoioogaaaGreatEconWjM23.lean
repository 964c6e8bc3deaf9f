/-
  The vault at a key, as what a call tells of.
-/
import Derived.Test.YtlmhakmoioogaaaGreatEconWjM5
import Derived.Test.YtlmhakmoioogaaaGreatEconWjM21
import Derived.Test.YtlmhakmoioogaaaGreatEconWjM22
set_option maxHeartbeats 16000000
set_option maxRecDepth 100000
set_option linter.unusedSimpArgs false
set_option linter.unusedVariables false
section
namespace Go.Proofs.YtlmhakmoioogaaaGreat
open Go.RowKit Go.Sl
def I8(E:Ev)(i:Nat):Prop:=∀x∈E,VOk x.2.2.ps x.2.2.n i
theorem HF7{p:Ps}{n:Int}{i j:Nat}(h:VOk p n i)(hij:i<=j):VOk p n j:=⟨h.ok,At7 h.w (Nat.mul_le_mul_left _ hij),h.n0,by have:=h.n1;omega⟩
theorem Sy7{E:Ev}{i:Nat}(h:I8 E i)(k:ByteArray):VOk (vAt E k).ps (vAt E k).n i:=by
 unfold vAt
 cases hg:i9 E k with
 | none=>exact HF7 fY4 (Nat.zero_le _)
 | some x=>exact h _ (AF7 hg)
def evP(eb m1 m2 m3 m4:Nat)(E:Ev):HP:=sats [ebB eb m1 m2 m3 m4,d8 eS eN m1 (i7 E),j8 E]
def atR(v:Value)(eb m1 m2 m3 m4:Nat)(D:Ev)(k:ByteArray)(V:Vs)(i:Nat):HP:=fun f=>∃vb,(v=.pointer (jP vb)/\VOk V.ps V.n i)/\sats [ebB eb m1 m2 m3 m4,d8 eS eN m1 (i7 ((k,(vb,V))::D)),G6 vb V,j8 D] f
section
variable{W w:World}{R:List HP}{eb m1 m2 m3 m4:Nat}{E D:Ev}{k:ByteArray}{V:Vs}{i:Nat}{v:Value}
theorem B8(h:St W (evP eb m1 m2 m3 m4 E::R) w):St W (ebB eb m1 m2 m3 m4::d8 eS eN m1 (i7 E)::j8 E::R) w:=h.openS
theorem D9(h:St W (ebB eb m1 m2 m3 m4::d8 eS eN m1 (i7 E)::j8 E::R) w):St W (evP eb m1 m2 m3 m4 E::R) w:=St.shutS [_,_,_] h
theorem ds4(h:St W (atR v eb m1 m2 m3 m4 D k V i::R) w):∃vb mb bb,v=.pointer (jP vb)/\VOk V.ps V.n i/\St W (t8 vb mb bb V.ps V.L V.n (ebB eb m1 m2 m3 m4::d8 eS eN m1 (i7 ((k,(vb,V))::D))::j8 D::R)) w:=by
 obtain⟨vb,h⟩:=St.ex h;obtain⟨⟨h1,h2⟩,h⟩:=St.and h;have h3:St W (ebB eb m1 m2 m3 m4::d8 eS eN m1 (i7 ((k,(vb,V))::D))::G6 vb V::j8 D::R) w:=h.openS;obtain⟨mb,bb,h4⟩:=aZ4 (h3.s (G6 vb V::ebB eb m1 m2 m3 m4::d8 eS eN m1 (i7 ((k,(vb,V))::D))::j8 D::R))
 exact⟨vb,mb,bb,h1,h2,h4⟩
theorem dt4{vb mb bb:Nat}{V':Vs}(h1:VOk V'.ps V'.n i)(h:St W (t8 vb mb bb V'.ps V'.L V'.n (ebB eb m1 m2 m3 m4::d8 eS eN m1 (i7 ((k,(vb,V))::D))::j8 D::R)) w):St W (atR (.pointer (jP vb)) eb m1 m2 m3 m4 D k V' i::R) w:=by
 have h2:=aC4 h;refine St.mkEx vb (St.mkAnd ⟨rfl,h1⟩ (St.shutS [_,_,_,_] ?_));have h3:St W (ebB eb m1 m2 m3 m4::d8 eS eN m1 (i7 ((k,(vb,V))::D))::G6 vb V'::j8 D::R) w:=h2.s _
 exact h3
theorem dg4(h:St W (atR v eb m1 m2 m3 m4 D k V i::R) w):∃vb,VOk V.ps V.n i/\St W (evP eb m1 m2 m3 m4 ((k,(vb,V))::D)::R) w:=by
 obtain⟨vb,h⟩:=St.ex h;obtain⟨⟨_,h2⟩,h⟩:=St.and h;have h3:St W (ebB eb m1 m2 m3 m4::d8 eS eN m1 (i7 ((k,(vb,V))::D))::G6 vb V::j8 D::R) w:=h.openS;have h4:=cp4 (x:=(k,(vb,V))) (h3.s (G6 vb V::j8 D::ebB eb m1 m2 m3 m4::d8 eS eN m1 (i7 ((k,(vb,V))::D))::R))
 exact⟨vb,h2,D9 (h4.s _)⟩
theorem atF(hE:I8 E i){Va:Vs}{Da:Ev}(hV:vAt E k=Va)(hD:j5 E k=Da)(hS:St W (evP eb m1 m2 m3 m4 E::R) w):
  Calls Tryz.prog 101 #[.pointer (jP eb),.string k] w fun e w'=>∃v,e=.returned v/\St W (atR v eb m1 m2 m3 m4 Da k Va i::R) w':=by
 subst hV hD;refine(Ru7 eb m1 m2 m3 m4 E k W w R (B8 hS)).mono ?_;rintro e w' ⟨vb,rfl,hS⟩
 exact⟨_,rfl,St.mkEx vb (St.mkAnd ⟨rfl,Sy7 hE k⟩ (St.shutS [_,_,_,_] hS))⟩
theorem gb4{who:ByteArray}{x0 x1 x2 x3 r:Int}{q:Ps}(hr:J9 V.ps who ⟨x0,x1,x2,x3⟩=r)(hq:F7 V.ps who ⟨x0,x1,x2,x3⟩=q)(hS:St W (atR v eb m1 m2 m3 m4 D k V i::R) w):
  Calls Tryz.prog 102 #[v,.string who,.agg #[.I x0,.I x1,.I x2,.I x3]] w fun e w'=>e=.returned (.I r)/\St W (atR v eb m1 m2 m3 m4 D k ⟨q,V.L,V.n⟩ (i+1)::R) w':=by
 obtain⟨vb,mb,bb,rfl,hok,hS⟩:=ds4 hS;refine(Sw7 vb mb bb W w _ hok who ⟨x0,x1,x2,x3⟩ hS).mono ?_;rw[hr,hq];rintro e w' ⟨rfl,h1,hS⟩
 exact⟨rfl,dt4 (V':=⟨q,V.L,V.n⟩) h1 hS⟩
theorem fi4{who:ByteArray}{x0 x1 x2 x3 r:Int}{q:Ps}(hr:m9 V.ps who ⟨x0,x1,x2,x3⟩=r)(hq:p9 V.ps who ⟨x0,x1,x2,x3⟩=q)(hS:St W (atR v eb m1 m2 m3 m4 D k V i::R) w):
  Calls Tryz.prog 104 #[v,.string who,.agg #[.I x0,.I x1,.I x2,.I x3]] w fun e w'=>e=.returned (.I r)/\St W (atR v eb m1 m2 m3 m4 D k ⟨q,V.L,V.n⟩ (i+1)::R) w':=by
 obtain⟨vb,mb,bb,rfl,hok,hS⟩:=ds4 hS;refine(Rp7 vb mb bb W w _ hok who ⟨x0,x1,x2,x3⟩ hS).mono ?_;rw[hr,hq];rintro e w' ⟨rfl,h1,hS⟩
 exact⟨rfl,dt4 (V':=⟨q,V.L,V.n⟩) h1 hS⟩
theorem gV4{oi ot oc op:Int}{ou:ByteArray}{oy:Bool}{r1 r2:Int}{V2:Vs}(h1:(B5 V ⟨oi,ou,oy,ot,oc,op⟩).1=r1)(h2:(B5 V ⟨oi,ou,oy,ot,oc,op⟩).2.1=r2)(h3:(B5 V ⟨oi,ou,oy,ot,oc,op⟩).2.2=V2)(hS:St W (atR v eb m1 m2 m3 m4 D k V i::R) w):
  Calls Tryz.prog 105 #[v,.agg #[.I oi,.string ou,.bool oy,.I ot,.I oc,.I op]] w fun e w'=>e=.returned (.tuple #[.I r1,.I r2])/\St W (atR v eb m1 m2 m3 m4 D k V2 (i+1)::R) w':=by
 obtain⟨vb,mb,bb,rfl,hok,hS⟩:=ds4 hS;refine(Rq7 vb mb bb W w _ hok ⟨oi,ou,oy,ot,oc,op⟩ hS).mono ?_;subst h1 h2 h3;rintro e w' ⟨rfl,h1,hS⟩
 exact⟨rfl,dt4 h1 hS⟩
theorem gW4{who:ByteArray}{id r:Int}{V2:Vs}(h1:(C6 V who id).1=r)(h2:(C6 V who id).2=V2)(hS:St W (atR v eb m1 m2 m3 m4 D k V i::R) w):
  Calls Tryz.prog 106 #[v,.string who,.I id] w fun e w'=>e=.returned (.I r)/\St W (atR v eb m1 m2 m3 m4 D k V2 (i+1)::R) w':=by
 obtain⟨vb,mb,bb,rfl,hok,hS⟩:=ds4 hS;obtain⟨p,L,n⟩:=V
 have h3:(C6 ⟨p,L,n⟩ who id).2.n=n:=by
  unfold C6
  split <;> rfl
 have e:(C6 ⟨p,L,n⟩ who id).2=⟨(C6 ⟨p,L,n⟩ who id).2.ps,(C6 ⟨p,L,n⟩ who id).2.L,n⟩:=by
  generalize C6 ⟨p,L,n⟩ who id=z at h3 ⊢;obtain⟨z1,z2,z3,z4⟩:=z;simp only at h3;rw[h3]
 refine(Rr7 vb mb bb W w _ hok who id hS).mono ?_;subst h1 h2;rintro e' w' ⟨rfl,h1,hS⟩;refine⟨rfl,?_⟩;rw[e]
 exact dt4 (V':=⟨(C6 ⟨p,L,n⟩ who id).2.ps,(C6 ⟨p,L,n⟩ who id).2.L,n⟩) h1 hS
end
abbrev rV(x0 x1:Int)(y0 y1 y2 y3:Int):Value:=.agg #[.I x0,.I x1,.I y0,.I y1,.I y2,.I y3]
theorem NQ7{eb m1 m2 m3 m4:Nat}{E:Ev}{i:Nat}(hE:I8 E i)(kd cl sq:Int)(ak aw tk tw:ByteArray)(it ct pr:Int)(bu:Bool)(id:Int)(h0:0<=it)(h4:it<4)(c0:1<=ct)(c1:ct<=1048576){r:Int}{q:Ps}
  (hr:J9 (vAt E ak).ps aw (r7 it ct)=r) (hq:F7 (vAt E ak).ps aw (r7 it ct)=q) (W w:World) (R:List HP) (hS:St W (evP eb m1 m2 m3 m4 E::R) w):
  Calls Tryz.prog 36 #[.pointer (jP eb),oV kd cl sq ak aw tk tw it ct pr bu id] w fun e w'=>∃vb,VOk q (vAt E ak).n (i+1)/\e=.returned (rV r 0 0 0 0 0)/\St W (evP eb m1 m2 m3 m4 ((ak,(vb,⟨q,(vAt E ak).L,(vAt E ak).n⟩))::j5 E ak)::R) w':=by
 obtain⟨V,hV⟩:∃V,vAt E ak=V:=⟨_,rfl⟩
 obtain⟨D,hD⟩:∃D,j5 E ak=D:=⟨_,rfl⟩
 obtain⟨x,hx⟩:∃x,r7 it ct=x:=⟨_,rfl⟩
 obtain⟨x0,x1,x2,x3⟩:=x;rw[hV,hx]at hr hq;rw[hV,hD];have HE:=jH hE;have HV:=jH hV;have HD:=jH hD;have Hx:=jH hx;have Hr:=jH hr;have Hq:=jH hq;clear hE hV hD hx hr hq;go_enter Tryz.func36,Tryz.ntmps36;go_wp2_with(first|(refine zbx hS ?_;clear hS;intro bO w hS)|(refine zal hS ?_;clear hS;intro bR w hS));have hS1:=hS.s (evP eb m1 m2 m3 m4 E::blk bR _ _::blk bO _ _::R);clear hS
 refine rf3 [0,0,2,6,15,0,32,96,0,287,1023,2047,4095] (fun i=>i==4) (fun i=>if i==9 then some (.agg #[.I x0,.I x1,.I x2,.I x3])else if i==10 then some (.I r)else none)
  [⟨some 4,some 10,fun nd=>atR (nd 4) eb m1 m2 m3 m4 D ak V i⟩,⟨some 10,none,fun nd=>atR (nd 4) eb m1 m2 m3 m4 D ak ⟨q,V.L,V.n⟩ (i+1)⟩,⟨some 12,none,fun _=>blk bR [.I r,.I 0,.I 0,.I 0,.I 0,.I 0] 31⟩] [some 4,some 12,none] hS1 ?_
 clear hS1;intro nd;(refine cR ?_)
 iterate 2 (refine cR ?_)
 (refine zc1 ?_);(apply AB7;rfl;rfl;rfl;decide +kernel;(focus(simp only[fD,fI,fJ,Act.eval,fE,fF,fG,fH,fK];try rfl));(intro _;rfl);(intro F w hS;exact atF HE.out HV.out HD.out hS);(refine frS ?_))
 iterate 2 (refine cR ?_)
 (refine zc1 ?_);(refine zcN ?_);(refine zcv ?_ (hs:=by(intro F w hS;(try clear hS0);exact Fv7 Hx.out h0 h4 c0 c1 W w _ hS)));(refine zcv ?_ (hs:=by(intro F w hS;(try clear hS0);exact gb4 Hr.out Hq.out hS)));(refine cR ?_);(refine zcs ?_);refine Ad7 ?_;intro w hS;have hS2:St W [atR _ eb m1 m2 m3 m4 D ak ⟨q,V.L,V.n⟩ (i+1),blk bR _ _,blk bO _ _,sats R] w:=hS;clear hS;have hS:=hS2.unpack [_,_,_];clear hS2;simp only[List.cons_append,List.nil_append]at hS;go_wp2_with fail;(apply As7;rfl;rfl;rfl;exact hS;decide +kernel;(exact n9);kernel_rfl);obtain⟨vb,h1,hS3⟩:=dg4 hS
 exact⟨vb,h1,rfl,hS3.s _⟩
theorem Mm7{eb m1 m2 m3 m4:Nat}{E:Ev}{i:Nat}(hE:I8 E i)(kd cl sq:Int)(ak aw tk tw:ByteArray)(it ct pr:Int)(bu:Bool)(id:Int){r1 r2:Int}{V2:Vs}
  (h1:(B5 (vAt E ak) ⟨0,aw,bu,it,ct,pr⟩).1=r1) (h2:(B5 (vAt E ak) ⟨0,aw,bu,it,ct,pr⟩).2.1=r2) (h3:(B5 (vAt E ak) ⟨0,aw,bu,it,ct,pr⟩).2.2=V2) (W w:World) (R:List HP) (hS:St W (evP eb m1 m2 m3 m4 E::R) w):
  Calls Tryz.prog 38 #[.pointer (jP eb),oV kd cl sq ak aw tk tw it ct pr bu id] w fun e w'=>∃vb,VOk V2.ps V2.n (i+1)/\e=.returned (rV r2 r1 0 0 0 0)/\St W (evP eb m1 m2 m3 m4 ((ak,(vb,V2))::j5 E ak)::R) w':=by
 obtain⟨V,hV⟩:∃V,vAt E ak=V:=⟨_,rfl⟩
 obtain⟨D,hD⟩:∃D,j5 E ak=D:=⟨_,rfl⟩
 rw[hV]at h1 h2 h3;rw[hD];have H1:=jH h1;have H2:=jH h2;have H3:=jH h3;clear h1 h2 h3;have HE:=jH hE;have HV:=jH hV;have HD:=jH hD;clear hE hV hD;go_enter Tryz.func38,Tryz.ntmps38;go_wp2_with(first|(refine zbx hS ?_;clear hS;intro bO w hS)|(refine zal hS ?_;clear hS;intro bR w hS));have hS1:=hS.s (evP eb m1 m2 m3 m4 E::blk bR _ _::blk bO _ _::R);clear hS
 refine rf3 [0,0,2,6,15,0,32,96,0,256,0,1024,0,4096,0,16384,65504,131071,262143,524287,524287,1048575,4194303] (fun i=>i==4) (fun i=>if i==17 then some (.tuple #[.I r1,.I r2])else none)
  [⟨some 4,some 17,fun nd=>atR (nd 4) eb m1 m2 m3 m4 D ak V i⟩,⟨some 17,none,fun nd=>atR (nd 4) eb m1 m2 m3 m4 D ak V2 (i+1)⟩] [some 4,none,none] hS1 ?_
 clear hS1;intro nd
 repeat(first|(refine zc1 ?_)|(apply AB7;rfl;rfl;rfl;decide +kernel;(focus(simp only[fD,fI,fJ,Act.eval,fE,fF,fG,fH,fK];try rfl));(intro _;rfl);(intro F w hS;exact atF HE.out HV.out HD.out hS);(refine frS ?_))|(refine zcv ?_ (hs:=by(intro F w hS;(try clear hS0);exact gV4 H1.out H2.out H3.out hS)))|(refine cR ?_))
 refine Ad7 ?_;intro w hS;have hS2:St W [atR _ eb m1 m2 m3 m4 D ak V2 (i+1),blk bR _ _,blk bO _ _,sats R] w:=hS;clear hS;have hS:=hS2.unpack [_,_,_];clear hS2;simp only[List.cons_append,List.nil_append]at hS;go_wp2_with(first|(refine zsN hS ?_;clear hS;intro w hS));(apply As7;rfl;rfl;rfl;exact hS;decide +kernel;(exact n9);kernel_rfl);obtain⟨vb,h1,hS3⟩:=dg4 (hS.s (atR _ eb m1 m2 m3 m4 D ak V2 (i+1)::R))
 exact⟨vb,h1,rfl,hS3⟩
theorem IO7{eb m1 m2 m3 m4:Nat}{E:Ev}{i:Nat}(hE:I8 E i)(kd cl sq:Int)(ak aw tk tw:ByteArray)(it ct pr:Int)(bu:Bool)(id:Int){r:Int}{V2:Vs}
  (h1:(C6 (vAt E ak) aw id).1=r) (h2:(C6 (vAt E ak) aw id).2=V2) (W w:World) (R:List HP) (hS:St W (evP eb m1 m2 m3 m4 E::R) w):
  Calls Tryz.prog 39 #[.pointer (jP eb),oV kd cl sq ak aw tk tw it ct pr bu id] w fun e w'=>∃vb,VOk V2.ps V2.n (i+1)/\e=.returned (rV r 0 0 0 0 0)/\St W (evP eb m1 m2 m3 m4 ((ak,(vb,V2))::j5 E ak)::R) w':=by
 obtain⟨V,hV⟩:∃V,vAt E ak=V:=⟨_,rfl⟩
 obtain⟨D,hD⟩:∃D,j5 E ak=D:=⟨_,rfl⟩
 rw[hV]at h1 h2;rw[hD];have H1:=jH h1;have H2:=jH h2;clear h1 h2;have HE:=jH hE;have HV:=jH hV;have HD:=jH hD;clear hE hV hD;go_enter Tryz.func39,Tryz.ntmps39;go_wp2_with(first|(refine zbx hS ?_;clear hS;intro bO w hS)|(refine zal hS ?_;clear hS;intro bR w hS));have hS1:=hS.s (evP eb m1 m2 m3 m4 E::blk bR _ _::blk bO _ _::R);clear hS
 refine rf3 [0,0,2,6,15,0,32,96,0,256,1023,2047,4095] (fun i=>i==4) (fun i=>if i==10 then some (.I r)else none)
  [⟨some 4,some 10,fun nd=>atR (nd 4) eb m1 m2 m3 m4 D ak V i⟩,⟨some 10,none,fun nd=>atR (nd 4) eb m1 m2 m3 m4 D ak V2 (i+1)⟩,⟨some 12,none,fun _=>blk bR [.I r,.I 0,.I 0,.I 0,.I 0,.I 0] 31⟩] [some 4,some 12,none] hS1 ?_
 clear hS1;intro nd
 repeat(first|(refine zc1 ?_)|(apply AB7;rfl;rfl;rfl;decide +kernel;(focus(simp only[fD,fI,fJ,Act.eval,fE,fF,fG,fH,fK];try rfl));(intro _;rfl);(intro F w hS;exact atF HE.out HV.out HD.out hS);(refine frS ?_))|(refine zcv ?_ (hs:=by(intro F w hS;(try clear hS0);exact gW4 H1.out H2.out hS)))|(refine zcs ?_)|(refine cR ?_))
 refine Ad7 ?_;intro w hS;have hS2:St W [atR _ eb m1 m2 m3 m4 D ak V2 (i+1),blk bR _ _,blk bO _ _,sats R] w:=hS;clear hS;have hS:=hS2.unpack [_,_,_];clear hS2;simp only[List.cons_append,List.nil_append]at hS;go_wp2_with fail;(apply As7;rfl;rfl;rfl;exact hS;decide +kernel;(exact n9);kernel_rfl);obtain⟨vb,h1,hS3⟩:=dg4 hS
 exact⟨vb,h1,rfl,hS3.s _⟩
theorem JX7{eb m1 m2 m3 m4:Nat}{E:Ev}{i:Nat}(hE:I8 E i)(kd cl sq:Int)(ak aw tk tw:ByteArray)(it ct pr:Int)(bu:Bool)(id:Int)(ar:List ((Int×Int)×Unit))(h0:0<=it)(h4:it<4)(c0:1<=ct)(c1:ct<=1048576){q:Ps}
  (hq:F7 (vAt E ak).ps aw (r7 it ct)=q) (W w:World) (R:List HP) (hS:St W (evP eb m1 m2 m3 m4 E::d8 eW eU m4 ar::R) w):
  Calls Tryz.prog 41 #[.pointer (jP eb),oV kd cl sq ak aw tk tw it ct pr bu id] w fun e w'=>∃vb,VOk q (vAt E ak).n (i+1)/\e=.returned (rV 0 0 0 0 0 0) /\
   St W (evP eb m1 m2 m3 m4 ((ak,(vb,⟨q,(vAt E ak).L,(vAt E ak).n⟩))::j5 E ak)::d8 eW eU m4 (((cl,sq),())::j5 ar (cl,sq))::R) w':=by
 obtain⟨V,hV⟩:∃V,vAt E ak=V:=⟨_,rfl⟩
 obtain⟨D,hD⟩:∃D,j5 E ak=D:=⟨_,rfl⟩
 obtain⟨x,hx⟩:∃x,r7 it ct=x:=⟨_,rfl⟩
 obtain⟨x0,x1,x2,x3⟩:=x;rw[hV,hx]at hq;obtain⟨r,hr⟩:∃r,J9 V.ps aw ⟨x0,x1,x2,x3⟩=r:=⟨_,rfl⟩
 rw[hV,hD];have Hx:=jH hx;have Hr:=jH hr;have Hq:=jH hq;clear hx hr hq;have HE:=jH hE;have HV:=jH hV;have HD:=jH hD;clear hE hV hD;go_enter Tryz.func41,Tryz.ntmps41;go_wp2_with(first|(refine zbx hS ?_;clear hS;intro bO w hS)|(refine zal hS ?_;clear hS;intro bR w hS));have hS1:=hS.s (evP eb m1 m2 m3 m4 E::blk bR _ _::blk bO _ _::d8 eW eU m4 ar::R);clear hS
 refine rf3 [0,0,2,6,15,0,32,96,0,287,1023] (fun i=>i==4) (fun i=>if i==9 then some (.agg #[.I x0,.I x1,.I x2,.I x3])else if i==10 then some (.I r)else none)
  [⟨some 4,some 10,fun nd=>atR (nd 4) eb m1 m2 m3 m4 D ak V i⟩,⟨some 10,none,fun nd=>atR (nd 4) eb m1 m2 m3 m4 D ak ⟨q,V.L,V.n⟩ (i+1)⟩] [some 4,none,none] hS1 ?_
 clear hS1;intro nd
 repeat(first|(refine zc1 ?_)|(refine zcN ?_)|(apply AB7;rfl;rfl;rfl;decide +kernel;(focus(simp only[fD,fI,fJ,Act.eval,fE,fF,fG,fH,fK];try rfl));(intro _;rfl);(intro F w hS;exact atF HE.out HV.out HD.out hS);(refine frS ?_))|(refine zcv ?_ (hs:=by(intro F w hS;(try clear hS0);exact Fv7 Hx.out h0 h4 c0 c1 W w _ hS)))|(refine zcv ?_ (hs:=by(intro F w hS;(try clear hS0);exact gb4 Hr.out Hq.out hS)))|(refine cR ?_))
 refine Ad7 ?_;intro w hS;have hS2:St W [atR _ eb m1 m2 m3 m4 D ak ⟨q,V.L,V.n⟩ (i+1),blk bR _ _,blk bO _ _,sats (d8 eW eU m4 ar::R)] w:=hS;clear hS;have hS:=hS2.unpack [_,_,_];clear hS2;simp only[List.cons_append,List.nil_append]at hS;obtain⟨vb,h1,hS3⟩:=dg4 hS;clear hS;have H1:=jH h1;clear h1;have hS:=B8 hS3;clear hS3;go_wp2_with fail;refine rt 9 hS ?_
 repeat(first|(refine zq1 ?_)|(refine zqn ?_)|(refine qR ?_))
 clear hS;intro w hS;simp only[List.drop_succ_cons,List.drop_zero];go_wp2_with(first|((with_reducible apply Bf7 (ek:=eW) (ev:=eU) (k:=(cl,sq)) (u:=()) hS);rfl;rfl;rfl;rfl;(exact i6);(focus(rfl));exact mAr;exact kW;clear hS;intro w hS;try(refine frS ?_))|(refine zsN hS ?_;clear hS;intro w hS));(apply As7;rfl;rfl;rfl;exact hS;decide +kernel;(exact n9);kernel_rfl)
 exact⟨vb,H1.out,rfl,(D9 (hS.s (ebB eb m1 m2 m3 m4::d8 eS eN m1 _::j8 _::d8 eW eU m4 _::R)))⟩
theorem NR7{eb m1 m2 m3 m4:Nat}{E:Ev}(kd cl sq:Int)(ak aw tk tw:ByteArray)(it ct pr:Int)(bu:Bool)(id:Int)(ts:List ((Int×Int)×Tns))(W w:World)(R:List HP)(hS:St W (evP eb m1 m2 m3 m4 E::d8 eW eTn m3 ts::R) w):
  Calls Tryz.prog 42 #[.pointer (jP eb),oV kd cl sq ak aw tk tw it ct pr bu id] w fun e w'=>e=.returned (rV 0 0 0 0 0 0)/\St W (evP eb m1 m2 m3 m4 E::d8 eW eTn m3 (j5 ts (cl,sq))::R) w':=by
 have hS1:=B8 hS;clear hS;have hS:=hS1;clear hS1;go_enter Tryz.func42,Tryz.ntmps42;go_wp2_with(first|(refine zbx hS ?_;clear hS;intro bO w hS)|(refine zal hS ?_;clear hS;intro bR w hS));refine rt 9 hS ?_
 repeat(first|(refine zq1 ?_)|(refine zqn ?_)|(refine qR ?_))
 clear hS;intro w hS;simp only[List.drop_succ_cons,List.drop_zero];go_wp2_with(first|((with_reducible apply JH7 (ek:=eW) (ev:=eTn) (k:=(cl,sq)) hS);rfl;rfl;rfl;rfl;(exact i6);exact mT;exact kW;clear hS;intro w hS;try(refine frS ?_))|(refine zsN hS ?_;clear hS;intro w hS));(apply As7;rfl;rfl;rfl;exact hS;decide +kernel;(exact n9);kernel_rfl)
 exact⟨rfl,D9 (hS.s (ebB eb m1 m2 m3 m4::d8 eS eN m1 _::j8 _::d8 eW eTn m3 _::R))⟩
end Go.Proofs.YtlmhakmoioogaaaGreat
end
section
namespace Go.Sl
open Go.RowKit
section
variable{κ ν:Type}[DecidableEq κ]{P:Program}{t K E:TypeId}{ek:κ->Value}{ev:ν->Value}{W w:World}{L R:List HP}{b:Nat}{l:List (κ×ν)}{ops:Array Oper}{a:Act}{rest:List Oper}{o:Oper}
theorem Ed7{Q:Act->Prop}{x y:Operand}{k:κ}{z v:Value}{ok:Bool}(ho:o.op=.lookup t x y ok)(hg:Region.wanted o (yielded ops a.tmps)=true)(hx:a.eval x=.map (some b))(hy:a.eval y=ek k)(hu:Take L (d8 ek ev b l) R)
  (ht:C9 P t=some (K,E)) (hK:KeyOk P K ek) (hz:H7 P E=some z) (hv:N9 ok z ((i9 l k).map ev)=v) (h:wpQuiet P ops (St W L) Q rest (a.put o.dst v)):wpQuiet P ops (St W L) Q (o::rest) a:=
 FI7 hg (fun w hS=>by
  unfold execOp;simp[ho,hx,hy,DS7 (hS.take hu) ht hK hz,hv]) h
theorem AA7{tb:List Nat}{toks:List Tok}{fresh:Nat->Bool}{pin:Nat->Option Value}{Qf:Act->Prop}{nd:Nat->Value}{i:Nat}{x y:Operand}{k:κ}{z v:Value}{ok:Bool}(hf:fresh i=false)(hn:aw4 toks i=true)(ho:o.op=.lookup t x y ok)(hg:Region.wanted o (yielded ops a.tmps)=true)(hx:a.eval x=.map (some b))(hy:a.eval y=ek k)
  (hu:∀F, ∃R,Take (kpL toks tb i nd++F) (d8 ek ev b l) R) (ht:C9 P t=some (K,E)) (hK:KeyOk P K ek) (hz:H7 P E=some z) (hv:N9 ok z ((i9 l k).map ev)=v) (h:l9 P W ops tb toks fresh pin Qf nd (i+1) rest (a.put o.dst v)):l9 P W ops tb toks fresh pin Qf nd i (o::rest) a:=
 EW7 hf hn hg (fun F w hS=>by
  obtain⟨R,hu⟩:=hu F;unfold execOp;simp[ho,hx,hy,DS7 (hS.take hu) ht hK hz,hv]) h
end
end Go.Sl
namespace Go.Proofs.YtlmhakmoioogaaaGreat
open Go.RowKit Go.Sl
theorem Lm7{eb m1 m2 m3 m4:Nat}{E:Ev}(k u:ByteArray){x0 x1 x2 x3:Int}(hx:k9 (vAt E k).ps u=⟨x0,x1,x2,x3⟩)(W w:World)(R:List HP)(hS:St W (evP eb m1 m2 m3 m4 E::R) w):
  Calls Tryz.prog 18 #[.pointer (jP eb),.agg #[.string k,.string u]] w fun e w'=>e=.returned (.agg #[.I x0,.I x1,.I x2,.I x3])/\St W (evP eb m1 m2 m3 m4 E::R) w':=by
 have hS1:=B8 hS;clear hS;have hS:=hS1;clear hS1;have hnd:(E.map (·.1)).Nodup:=by rw[<-AP7];exact u6 hS.drop
 cases hg:i9 E k with
 | none=>
  have hgl:N9 false (.pointer none) ((i9 (i7 E) k).map eN)=.pointer none:=by rw[BL7,hg];rfl
  have hv:vAt E k=vs0:=by unfold vAt;rw[hg];rfl
  rw[hv]at hx
  cases hx
  go_enter Tryz.func18,Tryz.ntmps18;go_wp2_with(first|(refine zbx hS ?_;clear hS;intro bO w hS)|(refine zal hS ?_;clear hS;intro bR w hS));refine rt 10 hS ?_
  repeat(first|(refine zq1 ?_)|(refine zqn ?_)|((apply Ed7 (ek:=eS) (ev:=eN) (k:=k));rfl;rfl;rfl;rfl;(exact i6);exact mV;exact kS;exact zV;exact hgl;(refine frS ?_))|(apply Ar7;rfl;(intro w;apply Ag7;rfl;decide +kernel;(focus(simp only[fD,fI,fJ,Act.eval,fE,fF,fG,fH,fK];try rfl)));(intro w hS;exact Rk7 u W w _ hS);(refine frS ?_))|(refine qR ?_))
  clear hS;intro w hS;simp only[List.drop_succ_cons,List.drop_zero];go_wp2_with(first|(refine zsN hS ?_;clear hS;intro w hS));(apply As7;rfl;rfl;rfl;exact hS;decide +kernel;(exact n9);kernel_rfl)
  exact⟨rfl,D9 (hS.s _)⟩
 | some x=>
  obtain⟨vb,V⟩:=x;have hgl:N9 false (.pointer none) ((i9 (i7 E) k).map eN)=eN vb:=by rw[BL7,hg];rfl
  have hp:=Bs7 hnd hg;have hv:vAt E k=V:=by unfold vAt;rw[hg];rfl
  rw[hv]at hx;have h1:St W (j8 E::ebB eb m1 m2 m3 m4::d8 eS eN m1 (i7 E)::R) w:=hS.s _;have h2:=bU4 (aE4 hp h1);obtain⟨mb,bb,h3⟩:=aZ4 h2;clear hS h1 h2;have hS:=h3;clear h3;go_enter Tryz.func18,Tryz.ntmps18;go_wp2_with(first|(refine zbx hS ?_;clear hS;intro bO w hS)|(refine zal hS ?_;clear hS;intro bR w hS));have hS1:=hS.s (blk vb _ _::d8 eS eP mb V.ps::blk bR _ _::blk bO _ _::ebB eb m1 m2 m3 m4::d8 eS eN m1 (i7 E)::m8 bb V.L V.n::j8 (j5 E k)::R);clear hS;refine rt 10 hS1 ?_
  repeat(first|(refine zq1 ?_)|(refine zqn ?_)|((apply Ed7 (ek:=eS) (ev:=eN) (k:=k));rfl;rfl;rfl;rfl;(exact i6);exact mV;exact kS;exact zV;exact hgl;(refine frS ?_))|(apply Ar7;rfl;(intro w;apply Ag7;rfl;decide +kernel;(focus(simp only[fD,fI,fJ,Act.eval,fE,fF,fG,fH,fK];try rfl)));(intro w hS;exact Sx7 vb mb W w _ _ _ hx hS);(refine frS ?_))|(refine qR ?_))
  clear hS1;intro w hS;simp only[List.drop_succ_cons,List.drop_zero];go_wp2_with(first|(refine zsN hS ?_;clear hS;intro w hS));(apply As7;rfl;rfl;rfl;exact hS;decide +kernel;(exact n9);kernel_rfl);have h4:=aC4 (V:=V) (hS.s (t8 vb mb bb V.ps V.L V.n (j8 (j5 E k)::ebB eb m1 m2 m3 m4::d8 eS eN m1 (i7 E)::R)));have h5:=aE4 hp.symm (cp4 (x:=(k,(vb,V))) h4)
  exact⟨rfl,D9 (h5.s _)⟩
theorem NS7{eb m1 m2 m3 m4:Nat}{E:Ev}(kd cl sq:Int)(ak aw tk tw:ByteArray)(it ct pr:Int)(bu:Bool)(id:Int){x0 x1 x2 x3:Int}(hx:k9 (vAt E ak).ps aw=⟨x0,x1,x2,x3⟩)(W w:World)(R:List HP)(hS:St W (evP eb m1 m2 m3 m4 E::R) w):
  Calls Tryz.prog 40 #[.pointer (jP eb),oV kd cl sq ak aw tk tw it ct pr bu id] w fun e w'=>e=.returned (rV 0 0 x0 x1 x2 x3)/\St W (evP eb m1 m2 m3 m4 E::R) w':=by
 go_enter Tryz.func40,Tryz.ntmps40;go_wp2_with(first|(refine zbx hS ?_;clear hS;intro bO w hS)|(refine zal hS ?_;clear hS;intro bR w hS)|(refine zlN hS ?_ (vs:=[.string ak,.string aw]) (hc:=by first|exact i5.here rfl|exact i5.there (i5.here rfl)))|(refine zsN hS ?_;clear hS;intro w hS)|(go_at_call 18;refine(Lm7 ak aw hx W _ _ (hS.s (evP eb m1 m2 m3 m4 E::blk bR _ _::blk bO _ _::R))).mono ?_;clear hS;rintro e w ⟨rfl,hS⟩));(apply As7;rfl;rfl;rfl;exact hS;decide +kernel;(exact n9);kernel_rfl)
 exact⟨rfl,hS.s _⟩
abbrev tB22a:List Nat:=[0,0,2,6,15,0,32,96,0,287,1023,2047]
theorem Rw7{eb m1 m2 m3 m4:Nat}{E:Ev}{i:Nat}(hE:I8 E i)(kd cl sq:Int)(ak aw tk tw:ByteArray)(it ct pr:Int)(bu:Bool)(id:Int)(ts:List ((Int×Int)×Tns))(h0:0<=it)(h4:it<4)(c0:1<=ct)(c1:ct<=1048576){r:Int}{q:Ps}
  (hr:m9 (vAt E ak).ps aw (r7 it ct)=r) (hr0:(r==0)=false) (hq:p9 (vAt E ak).ps aw (r7 it ct)=q) (W w:World) (R:List HP) (hS:St W (evP eb m1 m2 m3 m4 E::d8 eW eTn m3 ts::R) w):
  Calls Tryz.prog 37 #[.pointer (jP eb),oV kd cl sq ak aw tk tw it ct pr bu id] w fun e w'=>∃vb,VOk q (vAt E ak).n (i+1)/\e=.returned (rV r 0 0 0 0 0) /\
   St W (evP eb m1 m2 m3 m4 ((ak,(vb,⟨q,(vAt E ak).L,(vAt E ak).n⟩))::j5 E ak)::d8 eW eTn m3 ts::R) w':=by
 obtain⟨V,hV⟩:∃V,vAt E ak=V:=⟨_,rfl⟩
 obtain⟨D,hD⟩:∃D,j5 E ak=D:=⟨_,rfl⟩
 obtain⟨x,hx⟩:∃x,r7 it ct=x:=⟨_,rfl⟩
 obtain⟨x0,x1,x2,x3⟩:=x;rw[hV,hx]at hr hq;rw[hV,hD];have Hx:=jH hx;have Hr:=jH hr;have Hq:=jH hq;clear hx hr hq;have HE:=jH hE;have HV:=jH hV;have HD:=jH hD;clear hE hV hD;go_enter Tryz.func37,Tryz.ntmps37;go_wp2_with(first|(refine zbx hS ?_;clear hS;intro bO w hS)|(refine zal hS ?_;clear hS;intro bR w hS));have hS1:=hS.s (evP eb m1 m2 m3 m4 E::blk bR _ _::blk bO _ _::d8 eW eTn m3 ts::R);clear hS
 refine rf3 tB22a (fun i=>i==4) (fun i=>if i==9 then some (.agg #[.I x0,.I x1,.I x2,.I x3])else if i==10 then some (.I r)else none)
  [⟨some 4,some 10,fun nd=>atR (nd 4) eb m1 m2 m3 m4 D ak V i⟩,⟨some 10,none,fun nd=>atR (nd 4) eb m1 m2 m3 m4 D ak ⟨q,V.L,V.n⟩ (i+1)⟩] [some 4,none,none] hS1 ?_
 clear hS1;intro nd
 repeat(first|(refine zc1 ?_)|(refine zcN ?_)|(apply AB7;rfl;rfl;rfl;decide +kernel;(focus(simp only[fD,fI,fJ,Act.eval,fE,fF,fG,fH,fK];try rfl));(intro _;rfl);(intro F w hS;exact atF HE.out HV.out HD.out hS);(refine frS ?_))|(refine zcv ?_ (hs:=by(intro F w hS;(try clear hS0);exact Fv7 Hx.out h0 h4 c0 c1 W w _ hS)))|(refine zcv ?_ (hs:=by(intro F w hS;(try clear hS0);exact fi4 Hr.out Hq.out hS)))|(refine cR ?_))
 refine Ad7 ?_;intro w hS;have hS2:St W [atR _ eb m1 m2 m3 m4 D ak ⟨q,V.L,V.n⟩ (i+1),blk bR _ _,blk bO _ _,sats (d8 eW eTn m3 ts::R)] w:=hS;clear hS;have hS:=hS2.unpack [_,_,_];clear hS2;simp only[List.cons_append,List.nil_append]at hS;obtain⟨vb,h1,hS3⟩:=dg4 hS;clear hS;have H1:=jH h1;clear h1;have hS:=B8 hS3;clear hS3;go_wp2_with(first|(refine zsN hS ?_;clear hS;intro w hS));(apply As7;rfl;rfl;rfl;exact hS;decide +kernel;(exact n9);kernel_rfl)
 exact⟨H1.out,rfl,vb,D9 (hS.s (ebB eb m1 m2 m3 m4::d8 eS eN m1 _::j8 _::d8 eW eTn m3 ts::R))⟩
theorem PD7{eb m1 m2 m3 m4:Nat}{E:Ev}{i:Nat}(hE:I8 E i)(kd cl sq:Int)(ak aw tk tw:ByteArray)(it ct pr:Int)(bu:Bool)(id:Int)(ts:List ((Int×Int)×Tns))(h0:0<=it)(h4:it<4)(c0:1<=ct)(c1:ct<=1048576){q:Ps}
  (hr:m9 (vAt E ak).ps aw (r7 it ct)=0) (hq:p9 (vAt E ak).ps aw (r7 it ct)=q) (W w:World) (R:List HP) (hS:St W (evP eb m1 m2 m3 m4 E::d8 eW eTn m3 ts::R) w):
  Calls Tryz.prog 37 #[.pointer (jP eb),oV kd cl sq ak aw tk tw it ct pr bu id] w fun e w'=>∃vb,VOk q (vAt E ak).n (i+1)/\e=.returned (rV 0 0 0 0 0 0) /\
   St W (evP eb m1 m2 m3 m4 ((ak,(vb,⟨q,(vAt E ak).L,(vAt E ak).n⟩))::j5 E ak)::d8 eW eTn m3 (((cl,sq),⟨cl,sq,ak,aw,tk,tw,it,ct⟩)::j5 ts (cl,sq))::R) w':=by
 obtain⟨V,hV⟩:∃V,vAt E ak=V:=⟨_,rfl⟩
 obtain⟨D,hD⟩:∃D,j5 E ak=D:=⟨_,rfl⟩
 obtain⟨x,hx⟩:∃x,r7 it ct=x:=⟨_,rfl⟩
 obtain⟨x0,x1,x2,x3⟩:=x;rw[hV,hx]at hr hq;rw[hV,hD];have Hx:=jH hx;have Hr:=jH hr;have Hq:=jH hq;clear hx hr hq;have HE:=jH hE;have HV:=jH hV;have HD:=jH hD;clear hE hV hD;go_enter Tryz.func37,Tryz.ntmps37;go_wp2_with(first|(refine zbx hS ?_;clear hS;intro bO w hS)|(refine zal hS ?_;clear hS;intro bR w hS));have hS1:=hS.s (evP eb m1 m2 m3 m4 E::blk bR _ _::blk bO _ _::d8 eW eTn m3 ts::R);clear hS
 refine rf3 tB22a (fun i=>i==4) (fun i=>if i==9 then some (.agg #[.I x0,.I x1,.I x2,.I x3])else if i==10 then some (.I 0)else none)
  [⟨some 4,some 10,fun nd=>atR (nd 4) eb m1 m2 m3 m4 D ak V i⟩,⟨some 10,none,fun nd=>atR (nd 4) eb m1 m2 m3 m4 D ak ⟨q,V.L,V.n⟩ (i+1)⟩] [some 4,none,none] hS1 ?_
 clear hS1;intro nd
 repeat(first|(refine zc1 ?_)|(refine zcN ?_)|(apply AB7;rfl;rfl;rfl;decide +kernel;(focus(simp only[fD,fI,fJ,Act.eval,fE,fF,fG,fH,fK];try rfl));(intro _;rfl);(intro F w hS;exact atF HE.out HV.out HD.out hS);(refine frS ?_))|(refine zcv ?_ (hs:=by(intro F w hS;(try clear hS0);exact Fv7 Hx.out h0 h4 c0 c1 W w _ hS)))|(refine zcv ?_ (hs:=by(intro F w hS;(try clear hS0);exact fi4 Hr.out Hq.out hS)))|(refine cR ?_))
 refine Ad7 ?_;intro w hS;have hS2:St W [atR _ eb m1 m2 m3 m4 D ak ⟨q,V.L,V.n⟩ (i+1),blk bR _ _,blk bO _ _,sats (d8 eW eTn m3 ts::R)] w:=hS;clear hS;have hS:=hS2.unpack [_,_,_];clear hS2;simp only[List.cons_append,List.nil_append]at hS;obtain⟨vb,h1,hS3⟩:=dg4 hS;clear hS;have H1:=jH h1;clear h1;have hS:=B8 hS3;clear hS3;go_wp2_with fail;refine rt 22 hS ?_
 repeat(first|(refine zq1 ?_)|(refine zqN ?_ (hc:=by first|exact i5.here (vs:=[.string ak,.string aw]) rfl|exact i5.there (i5.here (vs:=[.string ak,.string aw]) rfl)|exact i5.there (i5.there (i5.there (i5.there (i5.here (vs:=[.string ak,.string aw]) rfl))))|exact i5.there (i5.there (i5.there (i5.here (vs:=[.string ak,.string aw]) rfl)))))|(refine zqN ?_ (hc:=by first|exact i5.here (vs:=[.string tk,.string tw]) rfl|exact i5.there (i5.here (vs:=[.string tk,.string tw]) rfl)|exact i5.there (i5.there (i5.there (i5.there (i5.here (vs:=[.string tk,.string tw]) rfl))))|exact i5.there (i5.there (i5.there (i5.here (vs:=[.string tk,.string tw]) rfl)))))|(refine zqn ?_)|(refine qR ?_))
 clear hS;intro w hS;simp only[List.drop_succ_cons,List.drop_zero];go_wp2_with(first|((with_reducible apply Bf7 (ek:=eW) (ev:=eTn) (k:=(cl,sq)) (u:=(⟨cl,sq,ak,aw,tk,tw,it,ct⟩:Tns)) hS);rfl;rfl;rfl;rfl;(exact i6);(focus(rfl));exact mT;exact kW;clear hS;intro w hS;try(refine frS ?_))|(refine zsN hS ?_;clear hS;intro w hS));(apply As7;rfl;rfl;rfl;exact hS;decide +kernel;(exact n9);kernel_rfl)
 exact⟨vb,H1.out,rfl,D9 (hS.s (ebB eb m1 m2 m3 m4::d8 eS eN m1 _::j8 _::d8 eW eTn m3 _::R))⟩
end Go.Proofs.YtlmhakmoioogaaaGreat
end
