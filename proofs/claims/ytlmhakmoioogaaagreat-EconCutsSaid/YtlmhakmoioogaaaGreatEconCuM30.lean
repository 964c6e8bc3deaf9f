/-
  Is a vault none.
-/
import Derived.Test.YtlmhakmoioogaaaGreatEconCuM5
import Derived.Test.YtlmhakmoioogaaaGreatEconCuM17
import Derived.Test.YtlmhakmoioogaaaGreatEconCuM21
import Derived.Test.YtlmhakmoioogaaaGreatEconCuM27
import Derived.Test.YtlmhakmoioogaaaGreatEconCuM28
import Derived.Test.YtlmhakmoioogaaaGreatEconCuM29
set_option maxHeartbeats 16000000
set_option maxRecDepth 100000
set_option linter.unusedSimpArgs false
set_option linter.unusedVariables false
section
namespace Go.Proofs.YtlmhakmoioogaaaGreat
open Go.RowKit Go.Sl
theorem Kf7(vb:Nat)(V:Vs){N:Nat}(hw:PsW V.ps N)(hN:N<=1000000000)(W w:World)(R:List HP)(hS:St W (H6 vb V::R) w):
  Calls Tryz.prog 107 #[.P vb] w fun e w'=>e=.returned (.bool (A6 V))/\St W (H6 vb V::R) w':=by
 obtain⟨mb,bb,hS⟩:=aY4 hS;have hl:=Cs7 V.ps;have hl32:=Cb7 hS.drop.drop;have hpl:=hw.len;go_enter Tryz.func107,Tryz.ntmps107;by_cases h0:V.ps.length+V.L.length=0
 ·have d0:(((hdL V.ps).length:Int)+(V.L.length:Int)==0)=true:=by simp;omega
  have e:A6 V=(V.n==1):=by unfold A6;rw[decide_eq_true (show V.ps.length=0 by omega),decide_eq_true (show V.L.length=0 by omega)];simp;rw[Bool.eq_iff_iff];simp
  rw[e];go_wp2_with(first|go_at_call 124;refine(Dq7 vb mb bb V.ps V.L V.n hw hN W _ _ hS).mono ?_;clear hS;rintro e w ⟨a,c,a2,c2,rfl,hS⟩);go_ret;exact⟨rfl,aC4 (hS.s _)⟩
 ·have d0:(((hdL V.ps).length:Int)+(V.L.length:Int)==0)=false:=by simp;omega
  have e:A6 V=false:=by
   cases hn:A6 V with
   | false=>rfl
   | true=>exact absurd (by rw[HJ7 hn];rfl) h0
  rw[e];go_wp2_with(first|go_at_call 124;refine(Dq7 vb mb bb V.ps V.L V.n hw hN W _ _ hS).mono ?_;clear hS;rintro e w ⟨a,c,a2,c2,rfl,hS⟩);go_ret;exact⟨rfl,aC4 (hS.s _)⟩
theorem IX7{V:Vs}{r:Bool}(h:A6 V=r)(vb:Nat){N:Nat}(hw:PsW V.ps N)(hN:N<=1000000000)(W w:World)(R:List HP)(hS:St W (H6 vb V::R) w):
  Calls Tryz.prog 107 #[.P vb] w fun e w'=>e=.returned (.bool r)/\St W (H6 vb V::R) w':=h▸Kf7 vb V hw hN W w R hS
def cN4(E:Ev)(k:ByteArray):Ev:=match i9 E k with
 | none=>E
 | some x=>if A6 x.2=true then j6 E k else E
theorem Ba7(eb m1 m2 m3 m4:Nat)(E:Ev)(k:ByteArray){N:Nat}(hw:∀x∈E,PsW x.2.2.ps N)(hN:N<=1000000000)(W w:World)(R:List HP)(hS:St W (ebB eb m1 m2 m3 m4::d8 eS eN m1 (i7 E)::j8 E::R) w):
  Calls Tryz.prog 43 #[.P eb,.string k] w fun e w'=>e=.returned (.tuple #[])/\St W (ebB eb m1 m2 m3 m4::d8 eS eN m1 (i7 (cN4 E k))::j8 (cN4 E k)::R) w':=by
 have hnd:(E.map (·.1)).Nodup:=by rw[<-AR7];exact A5 hS.drop
 cases hg:i9 E k with
 | none=>
  have hgl:i9 (i7 E) k=none:=by rw[BP7,hg];rfl
  have e:cN4 E k=E:=by unfold cN4;rw[hg]
  rw[e];go_enter Tryz.func43,Tryz.ntmps43;go_wp2_with(first|(with_reducible apply DU7 (ek:=eS) (ev:=eN) (k:=k) hS);rfl;rfl;rfl;rfl;exact i6;exact mV;exact kS;exact zV;exact hgl;refine frS ?_|refine zl1 hS ?_);go_end0;exact⟨rfl,hS⟩
 | some x=>
  obtain⟨vb,V⟩:=x;have hgl:i9 (i7 E) k=some vb:=by rw[BP7,hg];rfl
  have hp:=Bt7 hnd hg;have Hw:=jH (hw _ (AI7 hg));have hS1:St W (j8 E::ebB eb m1 m2 m3 m4::d8 eS eN m1 (i7 E)::R) w:=hS.s _;have hS2:=bW4 (aE4 hp hS1);clear hS hS1;have hS:=hS2;clear hS2 hw
  cases hn:A6 V with
  | true=>
   have e:cN4 E k=j6 E k:=by unfold cN4;rw[hg];exact if_pos hn
   rw[e];go_enter Tryz.func43,Tryz.ntmps43;go_wp2_with(first|(with_reducible apply BW7 (ek:=eS) (ev:=eN) (k:=k) hS);rfl;rfl;rfl;rfl;exact i6;exact mV;exact kS;exact zV;exact hgl;refine frS ?_|refine zl1 hS ?_|go_at_call 107;refine(IX7 hn vb Hw.out hN W _ _ (hS.s (H6 vb V::ebB eb m1 m2 m3 m4::d8 eS eN m1 (i7 E)::j8 (j6 E k)::R))).mono ?_;clear hS;rintro e w ⟨rfl,hS⟩|((with_reducible apply JI7 (ek:=eS) (ev:=eN) (k:=k) hS);rfl;rfl;rfl;rfl;exact i6;exact mV;exact kS;clear hS;intro w hS;try(refine frS ?_)));go_end0;rw[Lo7]at hS;exact⟨rfl,hS.s _⟩
  | false=>
   have e:cN4 E k=E:=by unfold cN4;rw[hg];exact if_neg (by rw[hn];exact Bool.noConfusion)
   rw[e];go_enter Tryz.func43,Tryz.ntmps43;go_wp2_with(first|(with_reducible apply BW7 (ek:=eS) (ev:=eN) (k:=k) hS);rfl;rfl;rfl;rfl;exact i6;exact mV;exact kS;exact zV;exact hgl;refine frS ?_|refine zl1 hS ?_|go_at_call 107;refine(IX7 hn vb Hw.out hN W _ _ (hS.s (H6 vb V::ebB eb m1 m2 m3 m4::d8 eS eN m1 (i7 E)::j8 (j6 E k)::R))).mono ?_;clear hS;rintro e w ⟨rfl,hS⟩);go_end0;have h1:=aE4 hp.symm (cu4 (x:=(k,(vb,V))) (hS.s (H6 vb V::j8 (j6 E k)::ebB eb m1 m2 m3 m4::d8 eS eN m1 (i7 E)::R)));exact⟨rfl,h1.s _⟩
theorem RE7{it ct x0 x1 x2 x3:Int}(h:r8 it ct=⟨x0,x1,x2,x3⟩)(h0:0<=it)(h4:it<4)(c0:1<=ct)(c1:ct<=1048576)(W w:World)(R:List HP)(hS:St W R w):
  Calls Tryz.prog 165 #[.I it,.I ct] w fun e w'=>e=.returned (.tuple #[.agg #[.I x0,.I x1,.I x2,.I x3],.bool true])/\St W R w':=by
 have d1:decide (ct<0)=false:=by simp;omega
 have d2:decide (1152921504606846976<ct)=false:=by simp;omega
 go_enter Tryz.func165,Tryz.ntmps165;have hk:it=0\/it=1\/it=2\/it=3:=by omega
 clear h0 h4
 rcases hk with rfl|rfl|rfl|rfl
 all_goals
  simp only[r8,aU4,it0,It.mk.injEq,Int.reduceEq,if_true,if_false]at h;obtain⟨rfl,rfl,rfl,rfl⟩:=h;go_wp2_with(first|(fail_if_success (have:=gA));(refine zal hS ?_;clear hS;have gA:Nat:=0;intro b1 w hS)|(have:=gA);refine zal hS ?_;clear hS;intro b2 w hS|refine zlN hS ?_|refine zsN hS ?_;clear hS;intro w hS|refine zs1 hS ?_;clear hS;intro w hS);apply Ac7;rfl;rfl;rfl;rfl;exact hS;decide +kernel;(exact n9);kernel_rfl;exact⟨rfl,hS.drop.drop⟩
theorem FB7{kd cl sq:Int}{ak aw tk tw:ByteArray}{it ct pr:Int}{bu:Bool}{i:Int}{x0 x1 x2 x3:Int}(h:r8 it ct=⟨x0,x1,x2,x3⟩)(h0:0<=it)(h4:it<4)(c0:1<=ct)(c1:ct<=1048576)(W w:World)(R:List HP)(hS:St W R w):
  Calls Tryz.prog 103 #[oV kd cl sq ak aw tk tw it ct pr bu i] w fun e w'=>e=.returned (.agg #[.I x0,.I x1,.I x2,.I x3])/\St W R w':=by
 go_enter Tryz.func103,Tryz.ntmps103;go_wp2_with(first|refine zbx hS ?_;clear hS;intro b w hS|(fail_if_success (have:=gA));(refine zal hS ?_;clear hS;have gA:Nat:=0;intro b1 w hS)|(have:=gA);refine zal hS ?_;clear hS;intro b2 w hS|refine zl1 hS ?_|refine zlN hS ?_|refine zsN hS ?_;clear hS;intro w hS|go_at_call 165;refine(RE7 h h0 h4 c0 c1 W _ _ hS).mono ?_;clear hS;rintro e w ⟨rfl,hS⟩);apply As7;rfl;rfl;rfl;exact hS;decide +kernel;(exact n9);kernel_rfl;exact⟨rfl,hS.drop.drop.drop⟩
def J6(E:Ev)(i:Nat):Prop:=∀x∈E,VOk x.2.2.ps x.2.2.n i
theorem HK7{p:Ps}{n:Int}{i j:Nat}(h:VOk p n i)(hij:i<=j):VOk p n j:=⟨h.ok,At7 h.w (Nat.mul_le_mul_left _ hij),h.n0,by have:=h.n1;omega⟩
theorem SH7{E:Ev}{i:Nat}(h:J6 E i)(k:ByteArray):VOk (vAt E k).ps (vAt E k).n i:=by
 unfold vAt
 cases hg:i9 E k with
 | none=>exact HK7 gf4 (Nat.zero_le _)
 | some x=>exact h _ (AI7 hg)
def evP(eb m1 m2 m3 m4:Nat)(E:Ev):HP:=sats [ebB eb m1 m2 m3 m4,d8 eS eN m1 (i7 E),j8 E]
def atR(v:Value)(eb m1 m2 m3 m4:Nat)(D:Ev)(k:ByteArray)(V:Vs)(i:Nat):HP:=fun f=>∃vb,(v=.P vb/\VOk V.ps V.n i)/\sats [ebB eb m1 m2 m3 m4,d8 eS eN m1 (i7 ((k,(vb,V))::D)),H6 vb V,j8 D] f
section
variable{W w:World}{R:List HP}{eb m1 m2 m3 m4:Nat}{E D:Ev}{k:ByteArray}{V:Vs}{i:Nat}{v:Value}
theorem B9(h:St W (evP eb m1 m2 m3 m4 E::R) w):St W (ebB eb m1 m2 m3 m4::d8 eS eN m1 (i7 E)::j8 E::R) w:=h.openS
theorem E7(h:St W (ebB eb m1 m2 m3 m4::d8 eS eN m1 (i7 E)::j8 E::R) w):St W (evP eb m1 m2 m3 m4 E::R) w:=St.shutS [_,_,_] h
theorem dw4(h:St W (atR v eb m1 m2 m3 m4 D k V i::R) w):∃vb mb bb,v=.P vb/\VOk V.ps V.n i/\St W (w5 vb mb bb V.ps V.L V.n (ebB eb m1 m2 m3 m4::d8 eS eN m1 (i7 ((k,(vb,V))::D))::j8 D::R)) w:=by obtain⟨vb,h⟩:=St.ex h;obtain⟨⟨h1,h2⟩,h⟩:=St.and h;have h3:St W (ebB eb m1 m2 m3 m4::d8 eS eN m1 (i7 ((k,(vb,V))::D))::H6 vb V::j8 D::R) w:=h.openS;obtain⟨mb,bb,h4⟩:=aY4 (h3.s (H6 vb V::ebB eb m1 m2 m3 m4::d8 eS eN m1 (i7 ((k,(vb,V))::D))::j8 D::R));exact⟨vb,mb,bb,h1,h2,h4⟩
theorem dx4{vb mb bb:Nat}{V':Vs}(h1:VOk V'.ps V'.n i)(h:St W (w5 vb mb bb V'.ps V'.L V'.n (ebB eb m1 m2 m3 m4::d8 eS eN m1 (i7 ((k,(vb,V))::D))::j8 D::R)) w):St W (atR (.P vb) eb m1 m2 m3 m4 D k V' i::R) w:=by have h2:=aC4 h;refine St.mkEx vb (St.mkAnd ⟨rfl,h1⟩ (St.shutS [_,_,_,_] ?_));have h3:St W (ebB eb m1 m2 m3 m4::d8 eS eN m1 (i7 ((k,(vb,V))::D))::H6 vb V'::j8 D::R) w:=h2.s _;exact h3
theorem dj4(h:St W (atR v eb m1 m2 m3 m4 D k V i::R) w):∃vb,VOk V.ps V.n i/\St W (evP eb m1 m2 m3 m4 ((k,(vb,V))::D)::R) w:=by obtain⟨vb,h⟩:=St.ex h;obtain⟨⟨_,h2⟩,h⟩:=St.and h;have h3:St W (ebB eb m1 m2 m3 m4::d8 eS eN m1 (i7 ((k,(vb,V))::D))::H6 vb V::j8 D::R) w:=h.openS;have h4:=cu4 (x:=(k,(vb,V))) (h3.s (H6 vb V::j8 D::ebB eb m1 m2 m3 m4::d8 eS eN m1 (i7 ((k,(vb,V))::D))::R));exact⟨vb,h2,E7 (h4.s _)⟩
theorem atF(hE:J6 E i){Va:Vs}{Da:Ev}(hV:vAt E k=Va)(hD:j6 E k=Da)(hS:St W (evP eb m1 m2 m3 m4 E::R) w):
  Calls Tryz.prog 101 #[.P eb,.string k] w fun e w'=>∃v,e=.returned v/\St W (atR v eb m1 m2 m3 m4 Da k Va i::R) w':=by
 subst hV hD;refine(RD7 eb m1 m2 m3 m4 E k W w R (B9 hS)).mono ?_;rintro e w' ⟨vb,rfl,hS⟩;exact⟨_,rfl,St.mkEx vb (St.mkAnd ⟨rfl,SH7 hE k⟩ (St.shutS [_,_,_,_] hS))⟩
theorem go4{who:ByteArray}{x0 x1 x2 x3 r:Int}{q:Ps}(hr:K7 V.ps who ⟨x0,x1,x2,x3⟩=r)(hq:F9 V.ps who ⟨x0,x1,x2,x3⟩=q)(hS:St W (atR v eb m1 m2 m3 m4 D k V i::R) w):
  Calls Tryz.prog 102 #[v,.string who,.agg #[.I x0,.I x1,.I x2,.I x3]] w fun e w'=>e=.returned (.I r)/\St W (atR v eb m1 m2 m3 m4 D k ⟨q,V.L,V.n⟩ (i+1)::R) w':=by
 obtain⟨vb,mb,bb,rfl,hok,hS⟩:=dw4 hS;refine(SC7 vb mb bb W w _ hok who ⟨x0,x1,x2,x3⟩ hS).mono ?_;rw[hr,hq];rintro e w' ⟨rfl,h1,hS⟩;exact⟨rfl,dx4 (V':=⟨q,V.L,V.n⟩) h1 hS⟩
theorem fp4{who:ByteArray}{x0 x1 x2 x3 r:Int}{q:Ps}(hr:m9 V.ps who ⟨x0,x1,x2,x3⟩=r)(hq:p9 V.ps who ⟨x0,x1,x2,x3⟩=q)(hS:St W (atR v eb m1 m2 m3 m4 D k V i::R) w):
  Calls Tryz.prog 104 #[v,.string who,.agg #[.I x0,.I x1,.I x2,.I x3]] w fun e w'=>e=.returned (.I r)/\St W (atR v eb m1 m2 m3 m4 D k ⟨q,V.L,V.n⟩ (i+1)::R) w':=by
 obtain⟨vb,mb,bb,rfl,hok,hS⟩:=dw4 hS;refine(Rr7 vb mb bb W w _ hok who ⟨x0,x1,x2,x3⟩ hS).mono ?_;rw[hr,hq];rintro e w' ⟨rfl,h1,hS⟩;exact⟨rfl,dx4 (V':=⟨q,V.L,V.n⟩) h1 hS⟩
theorem hh4{oi ot oc op:Int}{ou:ByteArray}{oy:Bool}{r1 r2:Int}{V2:Vs}(h1:(B6 V ⟨oi,ou,oy,ot,oc,op⟩).1=r1)(h2:(B6 V ⟨oi,ou,oy,ot,oc,op⟩).2.1=r2)(h3:(B6 V ⟨oi,ou,oy,ot,oc,op⟩).2.2=V2)(hS:St W (atR v eb m1 m2 m3 m4 D k V i::R) w):
  Calls Tryz.prog 105 #[v,.agg #[.I oi,.string ou,.bool oy,.I ot,.I oc,.I op]] w fun e w'=>e=.returned (.tuple #[.I r1,.I r2])/\St W (atR v eb m1 m2 m3 m4 D k V2 (i+1)::R) w':=by
 obtain⟨vb,mb,bb,rfl,hok,hS⟩:=dw4 hS;refine(Rs7 vb mb bb W w _ hok ⟨oi,ou,oy,ot,oc,op⟩ hS).mono ?_;subst h1 h2 h3;rintro e w' ⟨rfl,h1,hS⟩;exact⟨rfl,dx4 h1 hS⟩
theorem hm4{who:ByteArray}{id r:Int}{V2:Vs}(h1:(C7 V who id).1=r)(h2:(C7 V who id).2=V2)(hS:St W (atR v eb m1 m2 m3 m4 D k V i::R) w):
  Calls Tryz.prog 106 #[v,.string who,.I id] w fun e w'=>e=.returned (.I r)/\St W (atR v eb m1 m2 m3 m4 D k V2 (i+1)::R) w':=by
 obtain⟨vb,mb,bb,rfl,hok,hS⟩:=dw4 hS;obtain⟨p,L,n⟩:=V;have h3:(C7 ⟨p,L,n⟩ who id).2.n=n:=by unfold C7;split <;> rfl
 have e:(C7 ⟨p,L,n⟩ who id).2=⟨(C7 ⟨p,L,n⟩ who id).2.ps,(C7 ⟨p,L,n⟩ who id).2.L,n⟩:=by generalize C7 ⟨p,L,n⟩ who id=z at h3 ⊢;obtain⟨z1,z2,z3,z4⟩:=z;simp only at h3;rw[h3]
 refine(Rt7 vb mb bb W w _ hok who id hS).mono ?_;subst h1 h2;rintro e' w' ⟨rfl,h1,hS⟩;refine⟨rfl,?_⟩;rw[e];exact dx4 (V':=⟨(C7 ⟨p,L,n⟩ who id).2.ps,(C7 ⟨p,L,n⟩ who id).2.L,n⟩) h1 hS
end
abbrev rV(x0 x1:Int)(y0 y1 y2 y3:Int):Value:=.agg #[.I x0,.I x1,.I y0,.I y1,.I y2,.I y3]
theorem Oe7{eb m1 m2 m3 m4:Nat}{E:Ev}{i:Nat}(hE:J6 E i)(kd cl sq:Int)(ak aw tk tw:ByteArray)(it ct pr:Int)(bu:Bool)(id:Int)(h0:0<=it)(h4:it<4)(c0:1<=ct)(c1:ct<=1048576){r:Int}{q:Ps}
  (hr:K7 (vAt E ak).ps aw (r8 it ct)=r) (hq:F9 (vAt E ak).ps aw (r8 it ct)=q) (W w:World) (R:List HP) (hS:St W (evP eb m1 m2 m3 m4 E::R) w):
  Calls Tryz.prog 36 #[.P eb,oV kd cl sq ak aw tk tw it ct pr bu id] w fun e w'=>∃vb,VOk q (vAt E ak).n (i+1)/\e=.returned (rV r 0 0 0 0 0)/\St W (evP eb m1 m2 m3 m4 ((ak,(vb,⟨q,(vAt E ak).L,(vAt E ak).n⟩))::j6 E ak)::R) w':=by
 obtain⟨V,hV⟩:∃V,vAt E ak=V:=⟨_,rfl⟩
 obtain⟨D,hD⟩:∃D,j6 E ak=D:=⟨_,rfl⟩
 obtain⟨x,hx⟩:∃x,r8 it ct=x:=⟨_,rfl⟩
 obtain⟨x0,x1,x2,x3⟩:=x;rw[hV,hx]at hr hq;rw[hV,hD];have HE:=jH hE;have HV:=jH hV;have HD:=jH hD;have Hx:=jH hx;have Hr:=jH hr;have Hq:=jH hq;clear hE hV hD hx hr hq;go_enter Tryz.func36,Tryz.ntmps36;go_wp2_with(first|refine zbx hS ?_;clear hS;intro bO w hS|refine zal hS ?_;clear hS;intro bR w hS);have hS1:=hS.s (evP eb m1 m2 m3 m4 E::blk bR _ _::blk bO _ _::R);clear hS
 refine rf3 [0,0,2,6,15,0,32,96,0,287,1023,2047,4095] (fun i=>i==4) (fun i=>if i==9 then some (.agg #[.I x0,.I x1,.I x2,.I x3])else if i==10 then some (.I r)else none)
  [⟨some 4,some 10,fun nd=>atR (nd 4) eb m1 m2 m3 m4 D ak V i⟩,⟨some 10,none,fun nd=>atR (nd 4) eb m1 m2 m3 m4 D ak ⟨q,V.L,V.n⟩ (i+1)⟩,⟨some 12,none,fun _=>blk bR [.I r,.I 0,.I 0,.I 0,.I 0,.I 0] 31⟩] [some 4,some 12,none] hS1 ?_
 clear hS1;intro nd;refine cR ?_
 iterate 2 (refine cR ?_)
 (refine zc1 ?_);apply AA7;rfl;rfl;rfl;decide +kernel;(focus(simp only[fD,fI,fJ,Act.eval,fE,fF,fG,fH,fK];try rfl));(intro _;rfl);(intro F w hS;exact atF HE.out HV.out HD.out hS);(refine frS ?_)
 iterate 2 (refine cR ?_)
 (refine zc1 ?_);refine zcN ?_;refine zcv ?_ (hs:=by(intro F w hS;(try clear hS0);exact FB7 Hx.out h0 h4 c0 c1 W w _ hS));refine zcv ?_ (hs:=by(intro F w hS;(try clear hS0);exact go4 Hr.out Hq.out hS));refine cR ?_;refine zcs ?_;refine Ad7 ?_;intro w hS;have hS2:St W [atR _ eb m1 m2 m3 m4 D ak ⟨q,V.L,V.n⟩ (i+1),blk bR _ _,blk bO _ _,sats R] w:=hS;clear hS;have hS:=hS2.unpack [_,_,_];clear hS2;simp only[jK,jN]at hS;go_wp2_with fail;apply As7;rfl;rfl;rfl;exact hS;decide +kernel;(exact n9);kernel_rfl;obtain⟨vb,h1,hS3⟩:=dj4 hS;exact⟨vb,h1,rfl,hS3.s _⟩
structure RpOk(r:Rpl):Prop where
 e0:0<=r.err
 e1:r.err<=19
 i0:0<=r.id
 i1:r.id<=1099511627776
 has:s9 r.has=true
def rpB(r:Rpl):List Int:=m5 [r.err,r.id]++m5 [r.has.x0,r.has.x1,r.has.x2,r.has.x3]
theorem AL7(l:List Int):(m5 l).length<=l.length*9:=by
 induction l with
 | nil=>simp[m5]
 | cons x l ih=>
  have:=Ao7 x;unfold m5 at ih ⊢;rw[List.flatMap_cons,jA,jC];omega
theorem Gr7(r:Rpl):(rpB r).length<=54:=by have h1:=AL7 [r.err,r.id];have h2:=AL7 [r.has.x0,r.has.x1,r.has.x2,r.has.x3];unfold rpB;rw[jA];simp only[jC,List.length_nil]at h1 h2;omega
theorem RF7(r:Rpl):0<(rpB r).length:=by have:=Fz7 r.err;unfold rpB m5;rw[List.flatMap_cons,jS,jA];omega
theorem RG7{e i x0 x1 x2 x3:Int}(h:RpOk ⟨e,i,⟨x0,x1,x2,x3⟩⟩)(W w:World)(R:List HP)(hS:St W R w):
  Calls Tryz.prog 136 #[rV e i x0 x1 x2 x3] w fun x w'=>x=.returned (.bool true)/\St W R w':=by
 have d0:decide (0<=e)=true:=by simpa using h.e0
 have d1:decide (e<=19)=true:=by simpa using h.e1
 have d2:decide (0<=i)=true:=by simpa using h.i0
 have d3:decide (i<=1099511627776)=true:=by simpa using h.i1
 have Hi:=jH h.has;clear h;go_enter Tryz.func136,Tryz.ntmps136;go_wp2_with(first|refine zbx hS ?_;clear hS;intro bO w hS|refine zl1 hS ?_|refine zlN hS ?_ (vs:=[.I x0,.I x1,.I x2,.I x3]) (hc:=by exact i5.here rfl)|go_at_call 126;refine(aZ4 _ _ _ _ W _ _ hS).mono ?_;clear hS;rw[Hi.out];rintro e w ⟨rfl,hS⟩);go_ret;exact⟨rfl,hS.drop⟩
theorem cZ4(wb:Nat)(d:List Int)(x y:Int)(b c:Nat)(hd:d.length<=90000000)(hx : -9223372036854775808<=x/\x<=9223372036854775807)(hy : -9223372036854775808<=y/\y<=9223372036854775807)(W w:World)(R:List HP)(hS:St W (wrR wb d::blk b [.I x,.I y] 3::R) w):
  Calls Tryz.prog 65 #[.P wb,.S b 2 c] w fun e w'=>e=.returned (.tuple #[])/\St W (wrR wb (d++m5 [x,y])::blk b [.I x,.I y] 3::R) w':=
 Oa7 wb d [x,y] b c hd (by simp) (fun z hz=>by
  rcases List.mem_cons.1 hz with rfl|hz
  ·exact hx
  ·rw[List.mem_singleton.1 hz];exact hy) W w R hS
theorem Kg7{e i x0 x1 x2 x3:Int}(h:RpOk ⟨e,i,⟨x0,x1,x2,x3⟩⟩)(W w:World)(R:List HP)(hS:St W R w):
  Calls Tryz.prog 70 #[rV e i x0 x1 x2 x3] w fun x w'=>∃v,x=.returned (.tuple #[v,.I 0])/\St W (byR v (rpB ⟨e,i,⟨x0,x1,x2,x3⟩⟩)::R) w':=by
 have hl:=Gr7 ⟨e,i,⟨x0,x1,x2,x3⟩⟩;have hp:=RF7 ⟨e,i,⟨x0,x1,x2,x3⟩⟩;have he:rpB ⟨e,i,⟨x0,x1,x2,x3⟩⟩=m5 [e,i]++m5 [x0,x1,x2,x3]:=rfl;have hit:=Ah7.1 h.has;obtain⟨⟨a0,a1⟩,⟨b0,b1⟩,⟨c0,c1⟩,⟨f0,f1⟩⟩:=hit;simp only at a0 a1 b0 b1 c0 c1 f0 f1;have e0:=h.e0;have e1:=h.e1;have i0:=h.i0;have i1:=h.i1;simp only at e0 e1 i0 i1
 have hn4:∀x∈[x0,x1,x2,x3], -9223372036854775808<=x/\x<=9223372036854775807:=by
  intro x hx;simp only[List.mem_cons,List.not_mem_nil,or_false]at hx
  rcases hx with rfl|rfl|rfl|rfl <;> constructor <;> omega
 have hd2:(m5 [e,i]).length<=90000000:=by have:=AL7 [e,i];simp only[jC,List.length_nil]at this;omega
 have Hn4:=jH hn4;have He:=jH he;have Hd2:=jH hd2;have Hh:=jH h;rw[he]at hl hp;have Hl:=jH hl;have Hp:=jH hp;clear hn4 h hd2 he hl hp;go_enter Tryz.func70,Tryz.ntmps70;go_wp2_with(first|refine zbx hS ?_;clear hS;intro bO w hS|refine zl1 hS ?_|refine zlN hS ?_|go_at_call 136;refine(RG7 Hh.out W _ _ hS).mono ?_;clear hS;rintro x w ⟨rfl,hS⟩|refine zal hS ?_;clear hS;intro wb w hS|refine zbs hS ?_;clear hS;intro bS w hS|(fail_if_success (have:=mN));go_at_call 65;refine(cZ4 wb [] e i bS 2 (by simp) ⟨by omega,by omega⟩ ⟨by omega,by omega⟩ W _ _ (ex4 (hS.s (blk wb _ _::blk bS _ _::blk bO _ _::R)))).mono ?_;clear hS;rw[jN];rintro x w ⟨rfl,hS⟩;have mN:Nat:=0|(have:=mN);go_at_call 65;refine(du4 wb (m5 [e,i]) x0 x1 x2 x3 bO 2 4 Hd2.out Hn4.out W _ _ (i8.there (i8.here rfl)) (i8.there (i8.here rfl)) (i8.there (i8.here rfl)) (i8.there (i8.here rfl)) hS).mono ?_;clear hS;rintro x w ⟨rfl,hS⟩|go_at_call 72;refine(ew4 wb _ (by have:=Hl.out;omega) Hp.out W _ _ hS).mono ?_;clear hS;rintro x w ⟨v,rfl,hS⟩);go_ret2;refine⟨v,rfl,?_⟩;rw[He.out];exact hS.s _
theorem PJ7{e i x0 x1 x2 x3:Int}(h:RpOk ⟨e,i,⟨x0,x1,x2,x3⟩⟩)(W w:World)(R:List HP)(hS:St W R w):
  Calls Tryz.prog 193 #[rV e i x0 x1 x2 x3] w fun x w'=>x=.returned (.bool true)/\St W R w':=by
 have d0:decide (0<=e)=true:=by simpa using h.e0
 have d1:decide (e<=19)=true:=by simpa using h.e1
 have d2:decide (0<=i)=true:=by simpa using h.i0
 have d3:decide (i<=1099511627776)=true:=by simpa using h.i1
 have Hi:=jH h.has;clear h;go_enter Tryz.func193,Tryz.ntmps193;go_wp2_with(first|refine zbx hS ?_;clear hS;intro bO w hS|refine zl1 hS ?_|refine zlN hS ?_ (vs:=[.I x0,.I x1,.I x2,.I x3]) (hc:=by exact i5.here rfl)|go_at_call 116;refine(CB7 _ _ _ _ W _ _ hS).mono ?_;clear hS;rw[Hi.out];rintro e w ⟨rfl,hS⟩);go_ret;exact⟨rfl,hS.drop⟩
theorem Gs7{x y:Int}(hx : -9223372036854775808<=x/\x<=9223372036854775807)(hy : -9223372036854775808<=y/\y<=9223372036854775807){v:Value}{W w:World}{R:List HP}(hS:St W (G6 v 2 2 [.I x,.I y] 3::R) w):
  Calls Tryz.prog 144 #[v] w fun e w'=>∃v',e=.returned v'/\St W (byR v' (m5 [x,y])::R) w':=by
 obtain⟨b,rfl,hS1⟩:=hS.sl
 exact cE4 [x,y] b 2 (by simp) (fun z hz=>by
  rcases List.mem_cons.1 hz with rfl|hz
  ·exact hx
  ·rw[List.mem_singleton.1 hz];exact hy) W w R hS1
theorem IY7{e i x0 x1 x2 x3:Int}(h:RpOk ⟨e,i,⟨x0,x1,x2,x3⟩⟩)(W w:World)(R:List HP)(hS:St W R w):
  Calls Tryz.prog 143 #[rV e i x0 x1 x2 x3] w fun x w'=>∃v,x=.returned (.tuple #[v,.I 0])/\St W (byR v (rpB ⟨e,i,⟨x0,x1,x2,x3⟩⟩)::R) w':=by
 have e0:=h.e0;have e1:=h.e1;have i0:=h.i0;have i1:=h.i1;simp only at e0 e1 i0 i1;have l1:(m5 [e,i]).length<=18:=AL7 [e,i];have l2:(m5 [x0,x1,x2,x3]).length<=36:=AL7 [x0,x1,x2,x3];have hre : -9223372036854775808<=e/\e<=9223372036854775807:=⟨by omega,by omega⟩
 have hri : -9223372036854775808<=i/\i<=9223372036854775807:=⟨by omega,by omega⟩
 have Hre:=jH hre;have Hri:=jH hri;have Hit:=jH h.has;have Hh:=jH h;have He:=jH (show rpB ⟨e,i,⟨x0,x1,x2,x3⟩⟩=m5 [e,i]++m5 [x0,x1,x2,x3]from rfl);clear h hre hri;go_enter Tryz.func143,Tryz.ntmps143;go_wp2_with(first|refine zbx hS ?_;clear hS;intro bO w hS|refine zlN hS ?_|go_at_call 193;refine(PJ7 Hh.out W _ _ hS).mono ?_;clear hS;rintro x w ⟨rfl,hS⟩);refine rf2 [0,1,0,4,15,31,0,64,255,511,1023,2047] (fun i=>i==4||i==5||i==8||i==9) [⟨some 4,some 5,fun nd=>G6 (nd 4) 2 2 [.I e,.I i] 3⟩,⟨some 5,some 9,fun nd=>byR (nd 5) (m5 [e,i])⟩,⟨some 8,none,fun nd=>byR (nd 8) (m5 [x0,x1,x2,x3])⟩,⟨some 9,none,fun nd=>row (nd 9) 1 5 ((m5 [e,i]).length+(m5 [x0,x1,x2,x3]).length) (u8s (m5 [e,i])++u8s (m5 [x0,x1,x2,x3]))⟩] [none] hS ?_;clear hS;intro nd;refine cR ?_;refine zc1 ?_;refine cR ?_;refine zc1 ?_;apply M9;rfl;rfl;rfl;(focus(simp only[fD,fI,fJ,Act.eval,fE,fF,fG,fH,fK];try rfl));(exact esS);(exact rsS);rfl;rfl;rfl;rfl;(intro _;rfl);rfl;(intro _;rfl);(refine frS ?_);apply AA7;rfl;rfl;rfl;decide +kernel;(focus(simp only[fD,fI,fJ,Act.eval,fE,fF,fG,fH,fK];try rfl));(intro _;rfl);(intro F w hS;exact Gs7 Hre.out Hri.out hS);(refine frS ?_);refine cR ?_;refine zcN ?_ (vs:=[.I x0,.I x1,.I x2,.I x3]) (hc:=by(intro F;exact i5.here rfl));apply AA7;rfl;rfl;rfl;decide +kernel;(focus(simp only[fD,fI,fJ,Act.eval,fE,fF,fG,fH,fK];try rfl));(intro _;rfl);(intro F w hS;exact gj4 ⟨x0,x1,x2,x3⟩ Hit.out W w _ hS);(refine frS ?_);apply Af7;rfl;rfl;rfl;(focus((conv=>lhs;whnf);try rfl));(focus((conv=>lhs;whnf);try rfl));(exact esS);(exact rsS);rfl;decide;rfl;(intro F w hS;exact EH7 (k:=1) (by decide) hS (by exact r6));(focus(rw[AQ7,Nat.mul_one]));(focus(exact Be7 _));(focus(unfold maxLen;omega));(focus(omega));(intro _;rfl);(intro _;rfl);(refine frS ?_)
 iterate 2 (refine cR ?_)
 refine Ad7 ?_;intro w hS;have hS2:St W [byR (nd 8) _,row (nd 9) 1 5 _ _,blk bO _ _,sats R] w:=hS;clear hS;have hS:=hS2.unpack [_,_,_];clear hS2;simp only[jK,jN]at hS;generalize nd 9=v9 at *;go_wp2_with fail;go_ret2;refine⟨v9,rfl,?_⟩;have hS1:=hS.drop;rw[<-Az7]at hS1;rw[He.out];exact(AJ7 (by rw[jA]) hS1).s _
theorem Ms7{eb m1 m2 m3 m4:Nat}{E:Ev}{i:Nat}(hE:J6 E i)(kd cl sq:Int)(ak aw tk tw:ByteArray)(it ct pr:Int)(bu:Bool)(id:Int){r1 r2:Int}{V2:Vs}
  (h1:(B6 (vAt E ak) ⟨0,aw,bu,it,ct,pr⟩).1=r1) (h2:(B6 (vAt E ak) ⟨0,aw,bu,it,ct,pr⟩).2.1=r2) (h3:(B6 (vAt E ak) ⟨0,aw,bu,it,ct,pr⟩).2.2=V2) (W w:World) (R:List HP) (hS:St W (evP eb m1 m2 m3 m4 E::R) w):
  Calls Tryz.prog 38 #[.P eb,oV kd cl sq ak aw tk tw it ct pr bu id] w fun e w'=>∃vb,VOk V2.ps V2.n (i+1)/\e=.returned (rV r2 r1 0 0 0 0)/\St W (evP eb m1 m2 m3 m4 ((ak,(vb,V2))::j6 E ak)::R) w':=by
 obtain⟨V,hV⟩:∃V,vAt E ak=V:=⟨_,rfl⟩
 obtain⟨D,hD⟩:∃D,j6 E ak=D:=⟨_,rfl⟩
 rw[hV]at h1 h2 h3;rw[hD];have H1:=jH h1;have H2:=jH h2;have H3:=jH h3;clear h1 h2 h3;have HE:=jH hE;have HV:=jH hV;have HD:=jH hD;clear hE hV hD;go_enter Tryz.func38,Tryz.ntmps38;go_wp2_with(first|refine zbx hS ?_;clear hS;intro bO w hS|refine zal hS ?_;clear hS;intro bR w hS);have hS1:=hS.s (evP eb m1 m2 m3 m4 E::blk bR _ _::blk bO _ _::R);clear hS
 refine rf3 [0,0,2,6,15,0,32,96,0,256,0,1024,0,4096,0,16384,65504,131071,262143,524287,524287,1048575,4194303] (fun i=>i==4) (fun i=>if i==17 then some (.tuple #[.I r1,.I r2])else none)
  [⟨some 4,some 17,fun nd=>atR (nd 4) eb m1 m2 m3 m4 D ak V i⟩,⟨some 17,none,fun nd=>atR (nd 4) eb m1 m2 m3 m4 D ak V2 (i+1)⟩] [some 4,none,none] hS1 ?_
 clear hS1;intro nd
 repeat(first|refine zc1 ?_|apply AA7;rfl;rfl;rfl;decide +kernel;(focus(simp only[fD,fI,fJ,Act.eval,fE,fF,fG,fH,fK];try rfl));intro _;rfl;intro F w hS;exact atF HE.out HV.out HD.out hS;refine frS ?_|refine zcv ?_ (hs:=by(intro F w hS;(try clear hS0);exact hh4 H1.out H2.out H3.out hS))|refine cR ?_)
 refine Ad7 ?_;intro w hS;have hS2:St W [atR _ eb m1 m2 m3 m4 D ak V2 (i+1),blk bR _ _,blk bO _ _,sats R] w:=hS;clear hS;have hS:=hS2.unpack [_,_,_];clear hS2;simp only[jK,jN]at hS;go_wp2_with(first|refine zsN hS ?_;clear hS;intro w hS);apply As7;rfl;rfl;rfl;exact hS;decide +kernel;(exact n9);kernel_rfl;obtain⟨vb,h1,hS3⟩:=dj4 (hS.s (atR _ eb m1 m2 m3 m4 D ak V2 (i+1)::R));exact⟨vb,h1,rfl,hS3⟩
theorem IZ7{eb m1 m2 m3 m4:Nat}{E:Ev}{i:Nat}(hE:J6 E i)(kd cl sq:Int)(ak aw tk tw:ByteArray)(it ct pr:Int)(bu:Bool)(id:Int){r:Int}{V2:Vs}
  (h1:(C7 (vAt E ak) aw id).1=r) (h2:(C7 (vAt E ak) aw id).2=V2) (W w:World) (R:List HP) (hS:St W (evP eb m1 m2 m3 m4 E::R) w):
  Calls Tryz.prog 39 #[.P eb,oV kd cl sq ak aw tk tw it ct pr bu id] w fun e w'=>∃vb,VOk V2.ps V2.n (i+1)/\e=.returned (rV r 0 0 0 0 0)/\St W (evP eb m1 m2 m3 m4 ((ak,(vb,V2))::j6 E ak)::R) w':=by
 obtain⟨V,hV⟩:∃V,vAt E ak=V:=⟨_,rfl⟩
 obtain⟨D,hD⟩:∃D,j6 E ak=D:=⟨_,rfl⟩
 rw[hV]at h1 h2;rw[hD];have H1:=jH h1;have H2:=jH h2;clear h1 h2;have HE:=jH hE;have HV:=jH hV;have HD:=jH hD;clear hE hV hD;go_enter Tryz.func39,Tryz.ntmps39;go_wp2_with(first|refine zbx hS ?_;clear hS;intro bO w hS|refine zal hS ?_;clear hS;intro bR w hS);have hS1:=hS.s (evP eb m1 m2 m3 m4 E::blk bR _ _::blk bO _ _::R);clear hS
 refine rf3 [0,0,2,6,15,0,32,96,0,256,1023,2047,4095] (fun i=>i==4) (fun i=>if i==10 then some (.I r)else none)
  [⟨some 4,some 10,fun nd=>atR (nd 4) eb m1 m2 m3 m4 D ak V i⟩,⟨some 10,none,fun nd=>atR (nd 4) eb m1 m2 m3 m4 D ak V2 (i+1)⟩,⟨some 12,none,fun _=>blk bR [.I r,.I 0,.I 0,.I 0,.I 0,.I 0] 31⟩] [some 4,some 12,none] hS1 ?_
 clear hS1;intro nd
 repeat(first|refine zc1 ?_|apply AA7;rfl;rfl;rfl;decide +kernel;(focus(simp only[fD,fI,fJ,Act.eval,fE,fF,fG,fH,fK];try rfl));intro _;rfl;intro F w hS;exact atF HE.out HV.out HD.out hS;refine frS ?_|refine zcv ?_ (hs:=by(intro F w hS;(try clear hS0);exact hm4 H1.out H2.out hS))|refine zcs ?_|refine cR ?_)
 refine Ad7 ?_;intro w hS;have hS2:St W [atR _ eb m1 m2 m3 m4 D ak V2 (i+1),blk bR _ _,blk bO _ _,sats R] w:=hS;clear hS;have hS:=hS2.unpack [_,_,_];clear hS2;simp only[jK,jN]at hS;go_wp2_with fail;apply As7;rfl;rfl;rfl;exact hS;decide +kernel;(exact n9);kernel_rfl;obtain⟨vb,h1,hS3⟩:=dj4 hS;exact⟨vb,h1,rfl,hS3.s _⟩
theorem Kh7{eb m1 m2 m3 m4:Nat}{E:Ev}{i:Nat}(hE:J6 E i)(kd cl sq:Int)(ak aw tk tw:ByteArray)(it ct pr:Int)(bu:Bool)(id:Int)(ar:List ((Int×Int)×Unit))(h0:0<=it)(h4:it<4)(c0:1<=ct)(c1:ct<=1048576){q:Ps}
  (hq:F9 (vAt E ak).ps aw (r8 it ct)=q) (W w:World) (R:List HP) (hS:St W (evP eb m1 m2 m3 m4 E::d8 eW eU m4 ar::R) w):
  Calls Tryz.prog 41 #[.P eb,oV kd cl sq ak aw tk tw it ct pr bu id] w fun e w'=>∃vb,VOk q (vAt E ak).n (i+1)/\e=.returned (rV 0 0 0 0 0 0) /\
   St W (evP eb m1 m2 m3 m4 ((ak,(vb,⟨q,(vAt E ak).L,(vAt E ak).n⟩))::j6 E ak)::d8 eW eU m4 (((cl,sq),())::j6 ar (cl,sq))::R) w':=by
 obtain⟨V,hV⟩:∃V,vAt E ak=V:=⟨_,rfl⟩
 obtain⟨D,hD⟩:∃D,j6 E ak=D:=⟨_,rfl⟩
 obtain⟨x,hx⟩:∃x,r8 it ct=x:=⟨_,rfl⟩
 obtain⟨x0,x1,x2,x3⟩:=x;rw[hV,hx]at hq;obtain⟨r,hr⟩:∃r,K7 V.ps aw ⟨x0,x1,x2,x3⟩=r:=⟨_,rfl⟩
 rw[hV,hD];have Hx:=jH hx;have Hr:=jH hr;have Hq:=jH hq;clear hx hr hq;have HE:=jH hE;have HV:=jH hV;have HD:=jH hD;clear hE hV hD;go_enter Tryz.func41,Tryz.ntmps41;go_wp2_with(first|refine zbx hS ?_;clear hS;intro bO w hS|refine zal hS ?_;clear hS;intro bR w hS);have hS1:=hS.s (evP eb m1 m2 m3 m4 E::blk bR _ _::blk bO _ _::d8 eW eU m4 ar::R);clear hS
 refine rf3 [0,0,2,6,15,0,32,96,0,287,1023] (fun i=>i==4) (fun i=>if i==9 then some (.agg #[.I x0,.I x1,.I x2,.I x3])else if i==10 then some (.I r)else none)
  [⟨some 4,some 10,fun nd=>atR (nd 4) eb m1 m2 m3 m4 D ak V i⟩,⟨some 10,none,fun nd=>atR (nd 4) eb m1 m2 m3 m4 D ak ⟨q,V.L,V.n⟩ (i+1)⟩] [some 4,none,none] hS1 ?_
 clear hS1;intro nd
 repeat(first|refine zc1 ?_|refine zcN ?_|apply AA7;rfl;rfl;rfl;decide +kernel;(focus(simp only[fD,fI,fJ,Act.eval,fE,fF,fG,fH,fK];try rfl));intro _;rfl;intro F w hS;exact atF HE.out HV.out HD.out hS;refine frS ?_|refine zcv ?_ (hs:=by(intro F w hS;(try clear hS0);exact FB7 Hx.out h0 h4 c0 c1 W w _ hS))|refine zcv ?_ (hs:=by(intro F w hS;(try clear hS0);exact go4 Hr.out Hq.out hS))|refine cR ?_)
 refine Ad7 ?_;intro w hS;have hS2:St W [atR _ eb m1 m2 m3 m4 D ak ⟨q,V.L,V.n⟩ (i+1),blk bR _ _,blk bO _ _,sats (d8 eW eU m4 ar::R)] w:=hS;clear hS;have hS:=hS2.unpack [_,_,_];clear hS2;simp only[jK,jN]at hS;obtain⟨vb,h1,hS3⟩:=dj4 hS;clear hS;have H1:=jH h1;clear h1;have hS:=B9 hS3;clear hS3;go_wp2_with fail;refine rt 9 hS ?_
 repeat(first|refine zq1 ?_|refine zqn ?_|refine qR ?_)
 clear hS;intro w hS;simp only[jD,List.drop_zero];go_wp2_with(first|((with_reducible apply Bg7 (ek:=eW) (ev:=eU) (k:=(cl,sq)) (u:=()) hS);rfl;rfl;rfl;rfl;exact i6;(focus(rfl));exact mAr;exact kW;clear hS;intro w hS;try(refine frS ?_))|refine zsN hS ?_;clear hS;intro w hS);apply As7;rfl;rfl;rfl;exact hS;decide +kernel;(exact n9);kernel_rfl;exact⟨vb,H1.out,rfl,(E7 (hS.s (ebB eb m1 m2 m3 m4::d8 eS eN m1 _::j8 _::d8 eW eU m4 _::R)))⟩
theorem Of7{eb m1 m2 m3 m4:Nat}{E:Ev}(kd cl sq:Int)(ak aw tk tw:ByteArray)(it ct pr:Int)(bu:Bool)(id:Int)(ts:List ((Int×Int)×Tns))(W w:World)(R:List HP)(hS:St W (evP eb m1 m2 m3 m4 E::d8 eW eTn m3 ts::R) w):
  Calls Tryz.prog 42 #[.P eb,oV kd cl sq ak aw tk tw it ct pr bu id] w fun e w'=>e=.returned (rV 0 0 0 0 0 0)/\St W (evP eb m1 m2 m3 m4 E::d8 eW eTn m3 (j6 ts (cl,sq))::R) w':=by
 have hS1:=B9 hS;clear hS;have hS:=hS1;clear hS1;go_enter Tryz.func42,Tryz.ntmps42;go_wp2_with(first|refine zbx hS ?_;clear hS;intro bO w hS|refine zal hS ?_;clear hS;intro bR w hS);refine rt 9 hS ?_
 repeat(first|refine zq1 ?_|refine zqn ?_|refine qR ?_)
 clear hS;intro w hS;simp only[jD,List.drop_zero];go_wp2_with(first|((with_reducible apply JI7 (ek:=eW) (ev:=eTn) (k:=(cl,sq)) hS);rfl;rfl;rfl;rfl;exact i6;exact mT;exact kW;clear hS;intro w hS;try(refine frS ?_))|refine zsN hS ?_;clear hS;intro w hS);apply As7;rfl;rfl;rfl;exact hS;decide +kernel;(exact n9);kernel_rfl;exact⟨rfl,E7 (hS.s (ebB eb m1 m2 m3 m4::d8 eS eN m1 _::j8 _::d8 eW eTn m3 _::R))⟩
end Go.Proofs.YtlmhakmoioogaaaGreat
end
