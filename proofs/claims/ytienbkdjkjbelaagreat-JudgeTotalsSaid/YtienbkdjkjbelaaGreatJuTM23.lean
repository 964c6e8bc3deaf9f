/-
  Is a vault none.
-/
import Derived.Test.YtienbkdjkjbelaaGreatJuTM5
import Derived.Test.YtienbkdjkjbelaaGreatJuTM21
import Derived.Test.YtienbkdjkjbelaaGreatJuTM22
set_option maxHeartbeats 16000000
set_option maxRecDepth 100000
set_option linter.unusedSimpArgs false
set_option linter.unusedVariables false
section
namespace Go.Proofs.YtienbkdjkjbelaaGreat
open Go.RowKit Go.Sl
theorem IG7(vb:Nat)(V:Vs){N:Nat}(hw:PsW V.ps N)(hN:N<=1000000000)(W w:World)(R:List HP)(hS:St W (I7 vb V::R) w):
  Calls Tryz.prog 116 #[.P vb] w fun e w'=>e=.returned (.bool (A5 V))/\St W (I7 vb V::R) w':=by
 obtain⟨mb,bb,hS⟩:=bz4 hS;have hl:=CV7 V.ps;have hl32:=Cv7 hS.drop.drop;have hpl:=hw.len;go_enter Tryz.func116,Tryz.ntmps116;by_cases h0:V.ps.length+V.L.length=0
 ·have d0:(((hdL V.ps).length:Int)+(V.L.length:Int)==0)=true:=by simp;omega
  have e:A5 V=(V.n==1):=by unfold A5;rw[decide_eq_true (show V.ps.length=0 by omega),decide_eq_true (show V.L.length=0 by omega)];simp;rw[Bool.eq_iff_iff];simp
  rw[e];go_wp2_with(first|go_at_call 83;refine(El7 vb mb bb V.ps V.L V.n hw hN W _ _ hS).mono ?_;clear hS;rintro e w ⟨a,c,a2,c2,rfl,hS⟩);go_ret;exact⟨rfl,aI4 (hS.s _)⟩
 ·have d0:(((hdL V.ps).length:Int)+(V.L.length:Int)==0)=false:=by simp;omega
  have e:A5 V=false:=by
   cases hn:A5 V with
   | false=>rfl
   | true=>exact absurd (by rw[Gz7 hn];rfl) h0
  rw[e];go_wp2_with(first|go_at_call 83;refine(El7 vb mb bb V.ps V.L V.n hw hN W _ _ hS).mono ?_;clear hS;rintro e w ⟨a,c,a2,c2,rfl,hS⟩);go_ret;exact⟨rfl,aI4 (hS.s _)⟩
theorem HD7{V:Vs}{r:Bool}(h:A5 V=r)(vb:Nat){N:Nat}(hw:PsW V.ps N)(hN:N<=1000000000)(W w:World)(R:List HP)(hS:St W (I7 vb V::R) w):
  Calls Tryz.prog 116 #[.P vb] w fun e w'=>e=.returned (.bool r)/\St W (I7 vb V::R) w':=h▸IG7 vb V hw hN W w R hS
def co4(E:Ev)(k:ByteArray):Ev:=match j6 E k with
 | none=>E
 | some x=>if A5 x.2=true then i9 E k else E
theorem AN7(eb m1 m2 m3 m4:Nat)(E:Ev)(k:ByteArray){N:Nat}(hw:∀x∈E,PsW x.2.2.ps N)(hN:N<=1000000000)(W w:World)(R:List HP)(hS:St W (ebB eb m1 m2 m3 m4::d9 eS eN m1 (j9 E)::l9 E::R) w):
  Calls Tryz.prog 72 #[.P eb,.string k] w fun e w'=>e=.returned (.tuple #[])/\St W (ebB eb m1 m2 m3 m4::d9 eS eN m1 (j9 (co4 E k))::l9 (co4 E k)::R) w':=by
 have hnd:(E.map (·.1)).Nodup:=by rw[<-AH7];exact H7 hS.drop
 cases hg:j6 E k with
 | none=>
  have hgl:j6 (j9 E) k=none:=by rw[CL7,hg];rfl
  have e:co4 E k=E:=by unfold co4;rw[hg]
  rw[e];go_enter Tryz.func72,Tryz.ntmps72;go_wp2_with(first|(with_reducible apply Fc7 (ek:=eS) (ev:=eN) (k:=k) hS);rfl;rfl;rfl;rfl;exact i7;exact mV;exact kS;exact zV;exact hgl;refine frS ?_|refine zl1 hS ?_);go_end0;exact⟨rfl,hS⟩
 | some x=>
  obtain⟨vb,V⟩:=x;have hgl:j6 (j9 E) k=some vb:=by rw[CL7,hg];rfl
  have hp:=Bq7 hnd hg;have Hw:=jH (hw _ (AE7 hg));have hS1:St W (l9 E::ebB eb m1 m2 m3 m4::d9 eS eN m1 (j9 E)::R) w:=hS.s _;have hS2:=cr4 (bi4 hp hS1);clear hS hS1;have hS:=hS2;clear hS2 hw
  cases hn:A5 V with
  | true=>
   have e:co4 E k=i9 E k:=by unfold co4;rw[hg];exact if_pos hn
   rw[e];go_enter Tryz.func72,Tryz.ntmps72;go_wp2_with(first|(with_reducible apply Dn7 (ek:=eS) (ev:=eN) (k:=k) hS);rfl;rfl;rfl;rfl;exact i7;exact mV;exact kS;exact zV;exact hgl;refine frS ?_|refine zl1 hS ?_|go_at_call 116;refine(HD7 hn vb Hw.out hN W _ _ (hS.s (I7 vb V::ebB eb m1 m2 m3 m4::d9 eS eN m1 (j9 E)::l9 (i9 E k)::R))).mono ?_;clear hS;rintro e w ⟨rfl,hS⟩|((with_reducible apply Is7 (ek:=eS) (ev:=eN) (k:=k) hS);rfl;rfl;rfl;rfl;exact i7;exact mV;exact kS;clear hS;intro w hS;try(refine frS ?_)));go_end0;rw[JJ7]at hS;exact⟨rfl,hS.s _⟩
  | false=>
   have e:co4 E k=E:=by unfold co4;rw[hg];exact if_neg (by rw[hn];exact Bool.noConfusion)
   rw[e];go_enter Tryz.func72,Tryz.ntmps72;go_wp2_with(first|(with_reducible apply Dn7 (ek:=eS) (ev:=eN) (k:=k) hS);rfl;rfl;rfl;rfl;exact i7;exact mV;exact kS;exact zV;exact hgl;refine frS ?_|refine zl1 hS ?_|go_at_call 116;refine(HD7 hn vb Hw.out hN W _ _ (hS.s (I7 vb V::ebB eb m1 m2 m3 m4::d9 eS eN m1 (j9 E)::l9 (i9 E k)::R))).mono ?_;clear hS;rintro e w ⟨rfl,hS⟩);go_end0;have h1:=bi4 hp.symm (cs4 (x:=(k,(vb,V))) (hS.s (I7 vb V::l9 (i9 E k)::ebB eb m1 m2 m3 m4::d9 eS eN m1 (j9 E)::R)));exact⟨rfl,h1.s _⟩
theorem Ml7{it ct x0 x1 x2 x3:Int}(h:p8 it ct=⟨x0,x1,x2,x3⟩)(h0:0<=it)(h4:it<4)(c0:1<=ct)(c1:ct<=1048576)(W w:World)(R:List HP)(hS:St W R w):
  Calls Tryz.prog 31 #[.I it,.I ct] w fun e w'=>e=.returned (.tuple #[.agg #[.I x0,.I x1,.I x2,.I x3],.bool true])/\St W R w':=by
 have d1:decide (ct<0)=false:=by simp;omega
 have d2:decide (1152921504606846976<ct)=false:=by simp;omega
 go_enter Tryz.func31,Tryz.ntmps31;have hk:it=0\/it=1\/it=2\/it=3:=by omega
 clear h0 h4
 rcases hk with rfl|rfl|rfl|rfl
 all_goals
  simp only[p8,aE4,it0,It.mk.injEq,Int.reduceEq,if_true,if_false]at h;obtain⟨rfl,rfl,rfl,rfl⟩:=h;go_wp2_with(first|(fail_if_success (have:=gA));(refine zal hS ?_;clear hS;have gA:Nat:=0;intro b1 w hS)|(have:=gA);refine zal hS ?_;clear hS;intro b2 w hS|refine zlN hS ?_|refine zsN hS ?_;clear hS;intro w hS|refine zs1 hS ?_;clear hS;intro w hS);apply Ac7;rfl;rfl;rfl;rfl;exact hS;decide +kernel;(exact r6);kernel_rfl;exact⟨rfl,hS.drop.drop⟩
theorem EL7{kd cl sq:Int}{ak aw tk tw:ByteArray}{it ct pr:Int}{bu:Bool}{i:Int}{x0 x1 x2 x3:Int}(h:p8 it ct=⟨x0,x1,x2,x3⟩)(h0:0<=it)(h4:it<4)(c0:1<=ct)(c1:ct<=1048576)(W w:World)(R:List HP)(hS:St W R w):
  Calls Tryz.prog 111 #[oV kd cl sq ak aw tk tw it ct pr bu i] w fun e w'=>e=.returned (.agg #[.I x0,.I x1,.I x2,.I x3])/\St W R w':=by
 go_enter Tryz.func111,Tryz.ntmps111;go_wp2_with(first|refine zbx hS ?_;clear hS;intro b w hS|(fail_if_success (have:=gA));(refine zal hS ?_;clear hS;have gA:Nat:=0;intro b1 w hS)|(have:=gA);refine zal hS ?_;clear hS;intro b2 w hS|refine zl1 hS ?_|refine zlN hS ?_|refine zsN hS ?_;clear hS;intro w hS|go_at_call 31;refine(Ml7 h h0 h4 c0 c1 W _ _ hS).mono ?_;clear hS;rintro e w ⟨rfl,hS⟩);apply Ap7;rfl;rfl;rfl;exact hS;decide +kernel;(exact r6);kernel_rfl;exact⟨rfl,hS.drop.drop.drop⟩
def I8(E:Ev)(i:Nat):Prop:=∀x∈E,VOk x.2.2.ps x.2.2.n i
theorem Oi7{p:Ps}{n:Int}{i j:Nat}(h:VOk p n i)(hij:i<=j):VOk p n j:=⟨h.ok,Al7 h.w (Nat.mul_le_mul_left _ hij),h.n0,by have:=h.n1;omega⟩
theorem Rg7{E:Ev}{i:Nat}(h:I8 E i)(k:ByteArray):VOk (vAt E k).ps (vAt E k).n i:=by
 unfold vAt
 cases hg:j6 E k with
 | none=>exact Oi7 fu4 (Nat.zero_le _)
 | some x=>exact h _ (AE7 hg)
def evP(eb m1 m2 m3 m4:Nat)(E:Ev):HP:=sats [ebB eb m1 m2 m3 m4,d9 eS eN m1 (j9 E),l9 E]
def atR(v:Value)(eb m1 m2 m3 m4:Nat)(D:Ev)(k:ByteArray)(V:Vs)(i:Nat):HP:=fun f=>∃vb,(v=.P vb/\VOk V.ps V.n i)/\sats [ebB eb m1 m2 m3 m4,d9 eS eN m1 (j9 ((k,(vb,V))::D)),I7 vb V,l9 D] f
section
variable{W w:World}{R:List HP}{eb m1 m2 m3 m4:Nat}{E D:Ev}{k:ByteArray}{V:Vs}{i:Nat}{v:Value}
theorem G8(h:St W (evP eb m1 m2 m3 m4 E::R) w):St W (ebB eb m1 m2 m3 m4::d9 eS eN m1 (j9 E)::l9 E::R) w:=h.openS
theorem E7(h:St W (ebB eb m1 m2 m3 m4::d9 eS eN m1 (j9 E)::l9 E::R) w):St W (evP eb m1 m2 m3 m4 E::R) w:=St.shutS [_,_,_] h
theorem cM4(h:St W (atR v eb m1 m2 m3 m4 D k V i::R) w):∃vb mb bb,v=.P vb/\VOk V.ps V.n i/\St W (w5 vb mb bb V.ps V.L V.n (ebB eb m1 m2 m3 m4::d9 eS eN m1 (j9 ((k,(vb,V))::D))::l9 D::R)) w:=by obtain⟨vb,h⟩:=St.ex h;obtain⟨⟨h1,h2⟩,h⟩:=St.and h;have h3:St W (ebB eb m1 m2 m3 m4::d9 eS eN m1 (j9 ((k,(vb,V))::D))::I7 vb V::l9 D::R) w:=h.openS;obtain⟨mb,bb,h4⟩:=bz4 (h3.s (I7 vb V::ebB eb m1 m2 m3 m4::d9 eS eN m1 (j9 ((k,(vb,V))::D))::l9 D::R));exact⟨vb,mb,bb,h1,h2,h4⟩
theorem cN4{vb mb bb:Nat}{V':Vs}(h1:VOk V'.ps V'.n i)(h:St W (w5 vb mb bb V'.ps V'.L V'.n (ebB eb m1 m2 m3 m4::d9 eS eN m1 (j9 ((k,(vb,V))::D))::l9 D::R)) w):St W (atR (.P vb) eb m1 m2 m3 m4 D k V' i::R) w:=by have h2:=aI4 h;refine St.mkEx vb (St.mkAnd ⟨rfl,h1⟩ (St.shutS [_,_,_,_] ?_));have h3:St W (ebB eb m1 m2 m3 m4::d9 eS eN m1 (j9 ((k,(vb,V))::D))::I7 vb V'::l9 D::R) w:=h2.s _;exact h3
theorem cE4(h:St W (atR v eb m1 m2 m3 m4 D k V i::R) w):∃vb,VOk V.ps V.n i/\St W (evP eb m1 m2 m3 m4 ((k,(vb,V))::D)::R) w:=by obtain⟨vb,h⟩:=St.ex h;obtain⟨⟨_,h2⟩,h⟩:=St.and h;have h3:St W (ebB eb m1 m2 m3 m4::d9 eS eN m1 (j9 ((k,(vb,V))::D))::I7 vb V::l9 D::R) w:=h.openS;have h4:=cs4 (x:=(k,(vb,V))) (h3.s (I7 vb V::l9 D::ebB eb m1 m2 m3 m4::d9 eS eN m1 (j9 ((k,(vb,V))::D))::R));exact⟨vb,h2,E7 (h4.s _)⟩
theorem atF(hE:I8 E i){Va:Vs}{Da:Ev}(hV:vAt E k=Va)(hD:i9 E k=Da)(hS:St W (evP eb m1 m2 m3 m4 E::R) w):
  Calls Tryz.prog 109 #[.P eb,.string k] w fun e w'=>∃v,e=.returned v/\St W (atR v eb m1 m2 m3 m4 Da k Va i::R) w':=by
 subst hV hD;refine(Qe7 eb m1 m2 m3 m4 E k W w R (G8 hS)).mono ?_;rintro e w' ⟨vb,rfl,hS⟩;exact⟨_,rfl,St.mkEx vb (St.mkAnd ⟨rfl,Rg7 hE k⟩ (St.shutS [_,_,_,_] hS))⟩
theorem fx4{who:ByteArray}{x0 x1 x2 x3 r:Int}{q:Ps}(hr:J8 V.ps who ⟨x0,x1,x2,x3⟩=r)(hq:F8 V.ps who ⟨x0,x1,x2,x3⟩=q)(hS:St W (atR v eb m1 m2 m3 m4 D k V i::R) w):
  Calls Tryz.prog 110 #[v,.string who,.agg #[.I x0,.I x1,.I x2,.I x3]] w fun e w'=>e=.returned (.I r)/\St W (atR v eb m1 m2 m3 m4 D k ⟨q,V.L,V.n⟩ (i+1)::R) w':=by
 obtain⟨vb,mb,bb,rfl,hok,hS⟩:=cM4 hS;refine(Rd7 vb mb bb W w _ hok who ⟨x0,x1,x2,x3⟩ hS).mono ?_;rw[hr,hq];rintro e w' ⟨rfl,h1,hS⟩;exact⟨rfl,cN4 (V':=⟨q,V.L,V.n⟩) h1 hS⟩
theorem eC4{who:ByteArray}{x0 x1 x2 x3 r:Int}{q:Ps}(hr:p9 V.ps who ⟨x0,x1,x2,x3⟩=r)(hq:r8 V.ps who ⟨x0,x1,x2,x3⟩=q)(hS:St W (atR v eb m1 m2 m3 m4 D k V i::R) w):
  Calls Tryz.prog 112 #[v,.string who,.agg #[.I x0,.I x1,.I x2,.I x3]] w fun e w'=>e=.returned (.I r)/\St W (atR v eb m1 m2 m3 m4 D k ⟨q,V.L,V.n⟩ (i+1)::R) w':=by
 obtain⟨vb,mb,bb,rfl,hok,hS⟩:=cM4 hS;refine(PZ7 vb mb bb W w _ hok who ⟨x0,x1,x2,x3⟩ hS).mono ?_;rw[hr,hq];rintro e w' ⟨rfl,h1,hS⟩;exact⟨rfl,cN4 (V':=⟨q,V.L,V.n⟩) h1 hS⟩
theorem gr4{oi ot oc op:Int}{ou:ByteArray}{oy:Bool}{r1 r2:Int}{V2:Vs}(h1:(x8 V ⟨oi,ou,oy,ot,oc,op⟩).1=r1)(h2:(x8 V ⟨oi,ou,oy,ot,oc,op⟩).2.1=r2)(h3:(x8 V ⟨oi,ou,oy,ot,oc,op⟩).2.2=V2)(hS:St W (atR v eb m1 m2 m3 m4 D k V i::R) w):
  Calls Tryz.prog 113 #[v,.agg #[.I oi,.string ou,.bool oy,.I ot,.I oc,.I op]] w fun e w'=>e=.returned (.tuple #[.I r1,.I r2])/\St W (atR v eb m1 m2 m3 m4 D k V2 (i+1)::R) w':=by
 obtain⟨vb,mb,bb,rfl,hok,hS⟩:=cM4 hS;refine(Qa7 vb mb bb W w _ hok ⟨oi,ou,oy,ot,oc,op⟩ hS).mono ?_;subst h1 h2 h3;rintro e w' ⟨rfl,h1,hS⟩;exact⟨rfl,cN4 h1 hS⟩
theorem gs4{who:ByteArray}{id r:Int}{V2:Vs}(h1:(B8 V who id).1=r)(h2:(B8 V who id).2=V2)(hS:St W (atR v eb m1 m2 m3 m4 D k V i::R) w):
  Calls Tryz.prog 114 #[v,.string who,.I id] w fun e w'=>e=.returned (.I r)/\St W (atR v eb m1 m2 m3 m4 D k V2 (i+1)::R) w':=by
 obtain⟨vb,mb,bb,rfl,hok,hS⟩:=cM4 hS;obtain⟨p,L,n⟩:=V;have h3:(B8 ⟨p,L,n⟩ who id).2.n=n:=by unfold B8;split <;> rfl
 have e:(B8 ⟨p,L,n⟩ who id).2=⟨(B8 ⟨p,L,n⟩ who id).2.ps,(B8 ⟨p,L,n⟩ who id).2.L,n⟩:=by generalize B8 ⟨p,L,n⟩ who id=z at h3 ⊢;obtain⟨z1,z2,z3,z4⟩:=z;simp only at h3;rw[h3]
 refine(Qb7 vb mb bb W w _ hok who id hS).mono ?_;subst h1 h2;rintro e' w' ⟨rfl,h1,hS⟩;refine⟨rfl,?_⟩;rw[e];exact cN4 (V':=⟨(B8 ⟨p,L,n⟩ who id).2.ps,(B8 ⟨p,L,n⟩ who id).2.L,n⟩) h1 hS
end
abbrev rV(x0 x1:Int)(y0 y1 y2 y3:Int):Value:=.agg #[.I x0,.I x1,.I y0,.I y1,.I y2,.I y3]
theorem Mm7{eb m1 m2 m3 m4:Nat}{E:Ev}{i:Nat}(hE:I8 E i)(kd cl sq:Int)(ak aw tk tw:ByteArray)(it ct pr:Int)(bu:Bool)(id:Int)(h0:0<=it)(h4:it<4)(c0:1<=ct)(c1:ct<=1048576){r:Int}{q:Ps}
  (hr:J8 (vAt E ak).ps aw (p8 it ct)=r) (hq:F8 (vAt E ak).ps aw (p8 it ct)=q) (W w:World) (R:List HP) (hS:St W (evP eb m1 m2 m3 m4 E::R) w):
  Calls Tryz.prog 65 #[.P eb,oV kd cl sq ak aw tk tw it ct pr bu id] w fun e w'=>∃vb,VOk q (vAt E ak).n (i+1)/\e=.returned (rV r 0 0 0 0 0)/\St W (evP eb m1 m2 m3 m4 ((ak,(vb,⟨q,(vAt E ak).L,(vAt E ak).n⟩))::i9 E ak)::R) w':=by
 obtain⟨V,hV⟩:∃V,vAt E ak=V:=⟨_,rfl⟩
 obtain⟨D,hD⟩:∃D,i9 E ak=D:=⟨_,rfl⟩
 obtain⟨x,hx⟩:∃x,p8 it ct=x:=⟨_,rfl⟩
 obtain⟨x0,x1,x2,x3⟩:=x;rw[hV,hx]at hr hq;rw[hV,hD];have HE:=jH hE;have HV:=jH hV;have HD:=jH hD;have Hx:=jH hx;have Hr:=jH hr;have Hq:=jH hq;clear hE hV hD hx hr hq;go_enter Tryz.func65,Tryz.ntmps65;go_wp2_with(first|refine zbx hS ?_;clear hS;intro bO w hS|refine zal hS ?_;clear hS;intro bR w hS);have hS1:=hS.s (evP eb m1 m2 m3 m4 E::blk bR _ _::blk bO _ _::R);clear hS
 refine rf3 [0,0,2,6,15,0,32,96,0,287,1023,2047,4095] (fun i=>i==4) (fun i=>if i==9 then some (.agg #[.I x0,.I x1,.I x2,.I x3])else if i==10 then some (.I r)else none)
  [⟨some 4,some 10,fun nd=>atR (nd 4) eb m1 m2 m3 m4 D ak V i⟩,⟨some 10,none,fun nd=>atR (nd 4) eb m1 m2 m3 m4 D ak ⟨q,V.L,V.n⟩ (i+1)⟩,⟨some 12,none,fun _=>blk bR [.I r,.I 0,.I 0,.I 0,.I 0,.I 0] 36⟩] [some 4,some 12,none] hS1 ?_
 clear hS1;intro nd;refine cR ?_
 iterate 2 (refine cR ?_)
 (refine zc1 ?_);apply Bb7;rfl;rfl;rfl;decide +kernel;(focus(simp only[fD,fI,fJ,Act.eval,fE,fF,fG,fH,fK];try rfl));(intro _;rfl);(intro F w hS;exact atF HE.out HV.out HD.out hS);(refine frS ?_)
 iterate 2 (refine cR ?_)
 (refine zc1 ?_);refine zcN ?_;refine zcv ?_ (hs:=by(intro F w hS;(try clear hS0);exact EL7 Hx.out h0 h4 c0 c1 W w _ hS));refine zcv ?_ (hs:=by(intro F w hS;(try clear hS0);exact fx4 Hr.out Hq.out hS));refine cR ?_;refine zcs ?_;refine Ad7 ?_;intro w hS;have hS2:St W [atR _ eb m1 m2 m3 m4 D ak ⟨q,V.L,V.n⟩ (i+1),blk bR _ _,blk bO _ _,sats R] w:=hS;clear hS;have hS:=hS2.unpack [_,_,_];clear hS2;simp only[jK,jN]at hS;go_wp2_with fail;apply Ap7;rfl;rfl;rfl;exact hS;decide +kernel;(exact r6);kernel_rfl;obtain⟨vb,h1,hS3⟩:=cE4 hS;exact⟨vb,h1,rfl,hS3.s _⟩
theorem KB7{eb m1 m2 m3 m4:Nat}{E:Ev}{i:Nat}(hE:I8 E i)(kd cl sq:Int)(ak aw tk tw:ByteArray)(it ct pr:Int)(bu:Bool)(id:Int){r1 r2:Int}{V2:Vs}
  (h1:(x8 (vAt E ak) ⟨0,aw,bu,it,ct,pr⟩).1=r1) (h2:(x8 (vAt E ak) ⟨0,aw,bu,it,ct,pr⟩).2.1=r2) (h3:(x8 (vAt E ak) ⟨0,aw,bu,it,ct,pr⟩).2.2=V2) (W w:World) (R:List HP) (hS:St W (evP eb m1 m2 m3 m4 E::R) w):
  Calls Tryz.prog 67 #[.P eb,oV kd cl sq ak aw tk tw it ct pr bu id] w fun e w'=>∃vb,VOk V2.ps V2.n (i+1)/\e=.returned (rV r2 r1 0 0 0 0)/\St W (evP eb m1 m2 m3 m4 ((ak,(vb,V2))::i9 E ak)::R) w':=by
 obtain⟨V,hV⟩:∃V,vAt E ak=V:=⟨_,rfl⟩
 obtain⟨D,hD⟩:∃D,i9 E ak=D:=⟨_,rfl⟩
 rw[hV]at h1 h2 h3;rw[hD];have H1:=jH h1;have H2:=jH h2;have H3:=jH h3;clear h1 h2 h3;have HE:=jH hE;have HV:=jH hV;have HD:=jH hD;clear hE hV hD;go_enter Tryz.func67,Tryz.ntmps67;go_wp2_with(first|refine zbx hS ?_;clear hS;intro bO w hS|refine zal hS ?_;clear hS;intro bR w hS);have hS1:=hS.s (evP eb m1 m2 m3 m4 E::blk bR _ _::blk bO _ _::R);clear hS
 refine rf3 [0,0,2,6,15,0,32,96,0,256,0,1024,0,4096,0,16384,65504,131071,262143,524287,524287,1048575,4194303] (fun i=>i==4) (fun i=>if i==17 then some (.tuple #[.I r1,.I r2])else none)
  [⟨some 4,some 17,fun nd=>atR (nd 4) eb m1 m2 m3 m4 D ak V i⟩,⟨some 17,none,fun nd=>atR (nd 4) eb m1 m2 m3 m4 D ak V2 (i+1)⟩] [some 4,none,none] hS1 ?_
 clear hS1;intro nd
 repeat(first|refine zc1 ?_|apply Bb7;rfl;rfl;rfl;decide +kernel;(focus(simp only[fD,fI,fJ,Act.eval,fE,fF,fG,fH,fK];try rfl));intro _;rfl;intro F w hS;exact atF HE.out HV.out HD.out hS;refine frS ?_|refine zcv ?_ (hs:=by(intro F w hS;(try clear hS0);exact gr4 H1.out H2.out H3.out hS))|refine cR ?_)
 refine Ad7 ?_;intro w hS;have hS2:St W [atR _ eb m1 m2 m3 m4 D ak V2 (i+1),blk bR _ _,blk bO _ _,sats R] w:=hS;clear hS;have hS:=hS2.unpack [_,_,_];clear hS2;simp only[jK,jN]at hS;go_wp2_with(first|refine zsN hS ?_;clear hS;intro w hS);apply Ap7;rfl;rfl;rfl;exact hS;decide +kernel;(exact r6);kernel_rfl;obtain⟨vb,h1,hS3⟩:=cE4 (hS.s (atR _ eb m1 m2 m3 m4 D ak V2 (i+1)::R));exact⟨vb,h1,rfl,hS3⟩
theorem HE7{eb m1 m2 m3 m4:Nat}{E:Ev}{i:Nat}(hE:I8 E i)(kd cl sq:Int)(ak aw tk tw:ByteArray)(it ct pr:Int)(bu:Bool)(id:Int){r:Int}{V2:Vs}
  (h1:(B8 (vAt E ak) aw id).1=r) (h2:(B8 (vAt E ak) aw id).2=V2) (W w:World) (R:List HP) (hS:St W (evP eb m1 m2 m3 m4 E::R) w):
  Calls Tryz.prog 68 #[.P eb,oV kd cl sq ak aw tk tw it ct pr bu id] w fun e w'=>∃vb,VOk V2.ps V2.n (i+1)/\e=.returned (rV r 0 0 0 0 0)/\St W (evP eb m1 m2 m3 m4 ((ak,(vb,V2))::i9 E ak)::R) w':=by
 obtain⟨V,hV⟩:∃V,vAt E ak=V:=⟨_,rfl⟩
 obtain⟨D,hD⟩:∃D,i9 E ak=D:=⟨_,rfl⟩
 rw[hV]at h1 h2;rw[hD];have H1:=jH h1;have H2:=jH h2;clear h1 h2;have HE:=jH hE;have HV:=jH hV;have HD:=jH hD;clear hE hV hD;go_enter Tryz.func68,Tryz.ntmps68;go_wp2_with(first|refine zbx hS ?_;clear hS;intro bO w hS|refine zal hS ?_;clear hS;intro bR w hS);have hS1:=hS.s (evP eb m1 m2 m3 m4 E::blk bR _ _::blk bO _ _::R);clear hS
 refine rf3 [0,0,2,6,15,0,32,96,0,256,1023,2047,4095] (fun i=>i==4) (fun i=>if i==10 then some (.I r)else none)
  [⟨some 4,some 10,fun nd=>atR (nd 4) eb m1 m2 m3 m4 D ak V i⟩,⟨some 10,none,fun nd=>atR (nd 4) eb m1 m2 m3 m4 D ak V2 (i+1)⟩,⟨some 12,none,fun _=>blk bR [.I r,.I 0,.I 0,.I 0,.I 0,.I 0] 36⟩] [some 4,some 12,none] hS1 ?_
 clear hS1;intro nd
 repeat(first|refine zc1 ?_|apply Bb7;rfl;rfl;rfl;decide +kernel;(focus(simp only[fD,fI,fJ,Act.eval,fE,fF,fG,fH,fK];try rfl));intro _;rfl;intro F w hS;exact atF HE.out HV.out HD.out hS;refine frS ?_|refine zcv ?_ (hs:=by(intro F w hS;(try clear hS0);exact gs4 H1.out H2.out hS))|refine zcs ?_|refine cR ?_)
 refine Ad7 ?_;intro w hS;have hS2:St W [atR _ eb m1 m2 m3 m4 D ak V2 (i+1),blk bR _ _,blk bO _ _,sats R] w:=hS;clear hS;have hS:=hS2.unpack [_,_,_];clear hS2;simp only[jK,jN]at hS;go_wp2_with fail;apply Ap7;rfl;rfl;rfl;exact hS;decide +kernel;(exact r6);kernel_rfl;obtain⟨vb,h1,hS3⟩:=cE4 hS;exact⟨vb,h1,rfl,hS3.s _⟩
theorem IH7{eb m1 m2 m3 m4:Nat}{E:Ev}{i:Nat}(hE:I8 E i)(kd cl sq:Int)(ak aw tk tw:ByteArray)(it ct pr:Int)(bu:Bool)(id:Int)(ar:List ((Int×Int)×Unit))(h0:0<=it)(h4:it<4)(c0:1<=ct)(c1:ct<=1048576){q:Ps}
  (hq:F8 (vAt E ak).ps aw (p8 it ct)=q) (W w:World) (R:List HP) (hS:St W (evP eb m1 m2 m3 m4 E::d9 eW eU m4 ar::R) w):
  Calls Tryz.prog 70 #[.P eb,oV kd cl sq ak aw tk tw it ct pr bu id] w fun e w'=>∃vb,VOk q (vAt E ak).n (i+1)/\e=.returned (rV 0 0 0 0 0 0) /\
   St W (evP eb m1 m2 m3 m4 ((ak,(vb,⟨q,(vAt E ak).L,(vAt E ak).n⟩))::i9 E ak)::d9 eW eU m4 (((cl,sq),())::i9 ar (cl,sq))::R) w':=by
 obtain⟨V,hV⟩:∃V,vAt E ak=V:=⟨_,rfl⟩
 obtain⟨D,hD⟩:∃D,i9 E ak=D:=⟨_,rfl⟩
 obtain⟨x,hx⟩:∃x,p8 it ct=x:=⟨_,rfl⟩
 obtain⟨x0,x1,x2,x3⟩:=x;rw[hV,hx]at hq;obtain⟨r,hr⟩:∃r,J8 V.ps aw ⟨x0,x1,x2,x3⟩=r:=⟨_,rfl⟩
 rw[hV,hD];have Hx:=jH hx;have Hr:=jH hr;have Hq:=jH hq;clear hx hr hq;have HE:=jH hE;have HV:=jH hV;have HD:=jH hD;clear hE hV hD;go_enter Tryz.func70,Tryz.ntmps70;go_wp2_with(first|refine zbx hS ?_;clear hS;intro bO w hS|refine zal hS ?_;clear hS;intro bR w hS);have hS1:=hS.s (evP eb m1 m2 m3 m4 E::blk bR _ _::blk bO _ _::d9 eW eU m4 ar::R);clear hS
 refine rf3 [0,0,2,6,15,0,32,96,0,287,1023] (fun i=>i==4) (fun i=>if i==9 then some (.agg #[.I x0,.I x1,.I x2,.I x3])else if i==10 then some (.I r)else none)
  [⟨some 4,some 10,fun nd=>atR (nd 4) eb m1 m2 m3 m4 D ak V i⟩,⟨some 10,none,fun nd=>atR (nd 4) eb m1 m2 m3 m4 D ak ⟨q,V.L,V.n⟩ (i+1)⟩] [some 4,none,none] hS1 ?_
 clear hS1;intro nd
 repeat(first|refine zc1 ?_|refine zcN ?_|apply Bb7;rfl;rfl;rfl;decide +kernel;(focus(simp only[fD,fI,fJ,Act.eval,fE,fF,fG,fH,fK];try rfl));intro _;rfl;intro F w hS;exact atF HE.out HV.out HD.out hS;refine frS ?_|refine zcv ?_ (hs:=by(intro F w hS;(try clear hS0);exact EL7 Hx.out h0 h4 c0 c1 W w _ hS))|refine zcv ?_ (hs:=by(intro F w hS;(try clear hS0);exact fx4 Hr.out Hq.out hS))|refine cR ?_)
 refine Ad7 ?_;intro w hS;have hS2:St W [atR _ eb m1 m2 m3 m4 D ak ⟨q,V.L,V.n⟩ (i+1),blk bR _ _,blk bO _ _,sats (d9 eW eU m4 ar::R)] w:=hS;clear hS;have hS:=hS2.unpack [_,_,_];clear hS2;simp only[jK,jN]at hS;obtain⟨vb,h1,hS3⟩:=cE4 hS;clear hS;have H1:=jH h1;clear h1;have hS:=G8 hS3;clear hS3;go_wp2_with fail;refine rt 9 hS ?_
 repeat(first|refine zq1 ?_|refine zqn ?_|refine qR ?_)
 clear hS;intro w hS;simp only[jD,List.drop_zero];go_wp2_with(first|((with_reducible apply BA7 (ek:=eW) (ev:=eU) (k:=(cl,sq)) (u:=()) hS);rfl;rfl;rfl;rfl;exact i7;(focus(rfl));exact mAr;exact kW;clear hS;intro w hS;try(refine frS ?_))|refine zsN hS ?_;clear hS;intro w hS);apply Ap7;rfl;rfl;rfl;exact hS;decide +kernel;(exact r6);kernel_rfl;exact⟨vb,H1.out,rfl,(E7 (hS.s (ebB eb m1 m2 m3 m4::d9 eS eN m1 _::l9 _::d9 eW eU m4 _::R)))⟩
theorem Mn7{eb m1 m2 m3 m4:Nat}{E:Ev}(kd cl sq:Int)(ak aw tk tw:ByteArray)(it ct pr:Int)(bu:Bool)(id:Int)(ts:List ((Int×Int)×Tns))(W w:World)(R:List HP)(hS:St W (evP eb m1 m2 m3 m4 E::d9 eW eTn m3 ts::R) w):
  Calls Tryz.prog 71 #[.P eb,oV kd cl sq ak aw tk tw it ct pr bu id] w fun e w'=>e=.returned (rV 0 0 0 0 0 0)/\St W (evP eb m1 m2 m3 m4 E::d9 eW eTn m3 (i9 ts (cl,sq))::R) w':=by
 have hS1:=G8 hS;clear hS;have hS:=hS1;clear hS1;go_enter Tryz.func71,Tryz.ntmps71;go_wp2_with(first|refine zbx hS ?_;clear hS;intro bO w hS|refine zal hS ?_;clear hS;intro bR w hS);refine rt 9 hS ?_
 repeat(first|refine zq1 ?_|refine zqn ?_|refine qR ?_)
 clear hS;intro w hS;simp only[jD,List.drop_zero];go_wp2_with(first|((with_reducible apply Is7 (ek:=eW) (ev:=eTn) (k:=(cl,sq)) hS);rfl;rfl;rfl;rfl;exact i7;exact mT;exact kW;clear hS;intro w hS;try(refine frS ?_))|refine zsN hS ?_;clear hS;intro w hS);apply Ap7;rfl;rfl;rfl;exact hS;decide +kernel;(exact r6);kernel_rfl;exact⟨rfl,E7 (hS.s (ebB eb m1 m2 m3 m4::d9 eS eN m1 _::l9 _::d9 eW eTn m3 _::R))⟩
end Go.Proofs.YtienbkdjkjbelaaGreat
end
