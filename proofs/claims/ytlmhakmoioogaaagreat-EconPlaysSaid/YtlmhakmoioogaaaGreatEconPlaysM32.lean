/-
  The vault at a key, as what a call tells of; what is done to it; mint. For every economy.
  A reply as bytes, the program's. For every reply that may be.
  A reply as bytes, the document's. For every reply that may be.
  What is done to each kind of request: order, cancel, arrive, send, done. For every economy.
-/
import Derived.Test.YtlmhakmoioogaaaGreatEconPlaysM5
import Derived.Test.YtlmhakmoioogaaaGreatEconPlaysM18
import Derived.Test.YtlmhakmoioogaaaGreatEconPlaysM27
import Derived.Test.YtlmhakmoioogaaaGreatEconPlaysM28
import Derived.Test.YtlmhakmoioogaaaGreatEconPlaysM29
import Derived.Test.YtlmhakmoioogaaaGreatEconPlaysM31
set_option maxHeartbeats 16000000
set_option maxRecDepth 100000
set_option linter.unusedSimpArgs false
set_option linter.unusedVariables false
section
namespace Go.Proofs.YtlmhakmoioogaaaGreat
open Go.RowKit Go.Sl
def EvOk(E:Ev)(i:Nat):Prop:=∀x∈E,VOk x.2.2.ps x.2.2.n i
theorem Oo7{p:Ps}{n:Int}{i j:Nat}(h:VOk p n i)(hij:i≤j):VOk p n j:=⟨h.ok,Ap7 h.w (Nat.mul_le_mul_left _ hij),h.n0,by have:=h.n1;omega⟩
theorem QT7{E:Ev}{i:Nat}(h:EvOk E i)(k:ByteArray):VOk (vAt E k).ps (vAt E k).n i:=by
 unfold vAt
 cases hg:getL E k with
 | none=>exact Oo7 vOk0 (Nat.zero_le _)
 | some x=>exact h _ (AK7 hg)
def evP(eb m1 m2 m3 m4:Nat)(E:Ev):HP:=sats [ebB eb m1 m2 m3 m4,amap eS eN m1 (ptrsE E),vauP E]
def atR(v:Value)(eb m1 m2 m3 m4:Nat)(D:Ev)(k:ByteArray)(V:Vs)(i:Nat):HP:=fun f=>∃vb,(v=.pointer (some ⟨vb,0,none⟩)∧VOk V.ps V.n i)∧sats [ebB eb m1 m2 m3 m4,amap eS eN m1 (ptrsE ((k,(vb,V))::D)),vaultP vb V,vauP D] f
section
variable{W w:World}{R:List HP}{eb m1 m2 m3 m4:Nat}{E D:Ev}{k:ByteArray}{V:Vs}{i:Nat}{v:Value}
theorem evOpen(h:St W (evP eb m1 m2 m3 m4 E::R) w):St W (ebB eb m1 m2 m3 m4::amap eS eN m1 (ptrsE E)::vauP E::R) w:=h.openS
theorem evShut(h:St W (ebB eb m1 m2 m3 m4::amap eS eN m1 (ptrsE E)::vauP E::R) w):St W (evP eb m1 m2 m3 m4 E::R) w:=St.shutS [_,_,_] h
theorem atOpen(h:St W (atR v eb m1 m2 m3 m4 D k V i::R) w):∃vb mb bb,v=.pointer (some ⟨vb,0,none⟩)∧VOk V.ps V.n i∧St W (vaultL vb mb bb V.ps V.L V.n (ebB eb m1 m2 m3 m4::amap eS eN m1 (ptrsE ((k,(vb,V))::D))::vauP D::R)) w:=by
 obtain⟨vb,h⟩:=St.ex h
 obtain⟨⟨h1,h2⟩,h⟩:=St.and h
 have h3:St W (ebB eb m1 m2 m3 m4::amap eS eN m1 (ptrsE ((k,(vb,V))::D))::vaultP vb V::vauP D::R) w:=h.openS
 obtain⟨mb,bb,h4⟩:=vaultOpen (h3.s (vaultP vb V::ebB eb m1 m2 m3 m4::amap eS eN m1 (ptrsE ((k,(vb,V))::D))::vauP D::R))
 exact⟨vb,mb,bb,h1,h2,h4⟩
theorem atShut{vb mb bb:Nat}{V':Vs}(h1:VOk V'.ps V'.n i)(h:St W (vaultL vb mb bb V'.ps V'.L V'.n (ebB eb m1 m2 m3 m4::amap eS eN m1 (ptrsE ((k,(vb,V))::D))::vauP D::R)) w):St W (atR (.pointer (some ⟨vb,0,none⟩)) eb m1 m2 m3 m4 D k V' i::R) w:=by
 have h2:=vaultShut h
 refine St.mkEx vb (St.mkAnd ⟨rfl,h1⟩ (St.shutS [_,_,_,_] ?_))
 have h3:St W (ebB eb m1 m2 m3 m4::amap eS eN m1 (ptrsE ((k,(vb,V))::D))::vaultP vb V'::vauP D::R) w:=h2.s _
 exact h3
theorem atEnd(h:St W (atR v eb m1 m2 m3 m4 D k V i::R) w):∃vb,VOk V.ps V.n i∧St W (evP eb m1 m2 m3 m4 ((k,(vb,V))::D)::R) w:=by
 obtain⟨vb,h⟩:=St.ex h
 obtain⟨⟨_,h2⟩,h⟩:=St.and h
 have h3:St W (ebB eb m1 m2 m3 m4::amap eS eN m1 (ptrsE ((k,(vb,V))::D))::vaultP vb V::vauP D::R) w:=h.openS
 have h4:=vauShut (x:=(k,(vb,V))) (h3.s (vaultP vb V::vauP D::ebB eb m1 m2 m3 m4::amap eS eN m1 (ptrsE ((k,(vb,V))::D))::R))
 exact⟨vb,h2,evShut (h4.s _)⟩
theorem atF(hE:EvOk E i){Va:Vs}{Da:Ev}(hV:vAt E k=Va)(hD:delL E k=Da)(hS:St W (evP eb m1 m2 m3 m4 E::R) w):
  Calls Tryz.prog 101 #[.pointer (some ⟨eb,0,none⟩),.string k] w fun e w'=>∃v,e=.returned v∧St W (atR v eb m1 m2 m3 m4 Da k Va i::R) w':=by
 subst hV hD
 refine(PX7 eb m1 m2 m3 m4 E k W w R (evOpen hS)).mono ?_
 rintro e w' ⟨vb,rfl,hS⟩
 exact⟨_,rfl,St.mkEx vb (St.mkAnd ⟨rfl,QT7 hE k⟩ (St.shutS [_,_,_,_] hS))⟩
theorem putF{who:ByteArray}{x0 x1 x2 x3 r:Int}{q:Ps}(hr:putE V.ps who ⟨x0,x1,x2,x3⟩=r)(hq:putP V.ps who ⟨x0,x1,x2,x3⟩=q)(hS:St W (atR v eb m1 m2 m3 m4 D k V i::R) w):
  Calls Tryz.prog 102 #[v,.string who,.agg #[.int .i64 x0,.int .i64 x1,.int .i64 x2,.int .i64 x3]] w fun e w'=>e=.returned (.int .i64 r)∧St W (atR v eb m1 m2 m3 m4 D k ⟨q,V.L,V.n⟩ (i+1)::R) w':=by
 obtain⟨vb,mb,bb,rfl,hok,hS⟩:=atOpen hS
 refine(QP7 vb mb bb W w _ hok who ⟨x0,x1,x2,x3⟩ hS).mono ?_
 rw[hr,hq]
 rintro e w' ⟨rfl,h1,hS⟩
 exact⟨rfl,atShut (V':=⟨q,V.L,V.n⟩) h1 hS⟩
theorem takeF{who:ByteArray}{x0 x1 x2 x3 r:Int}{q:Ps}(hr:takeE V.ps who ⟨x0,x1,x2,x3⟩=r)(hq:takeP V.ps who ⟨x0,x1,x2,x3⟩=q)(hS:St W (atR v eb m1 m2 m3 m4 D k V i::R) w):
  Calls Tryz.prog 104 #[v,.string who,.agg #[.int .i64 x0,.int .i64 x1,.int .i64 x2,.int .i64 x3]] w fun e w'=>e=.returned (.int .i64 r)∧St W (atR v eb m1 m2 m3 m4 D k ⟨q,V.L,V.n⟩ (i+1)::R) w':=by
 obtain⟨vb,mb,bb,rfl,hok,hS⟩:=atOpen hS
 refine(PQ7 vb mb bb W w _ hok who ⟨x0,x1,x2,x3⟩ hS).mono ?_
 rw[hr,hq]
 rintro e w' ⟨rfl,h1,hS⟩
 exact⟨rfl,atShut (V':=⟨q,V.L,V.n⟩) h1 hS⟩
theorem ordF{oi ot oc op:Int}{ou:ByteArray}{oy:Bool}{r1 r2:Int}{V2:Vs}(h1:(ordV V ⟨oi,ou,oy,ot,oc,op⟩).1=r1)(h2:(ordV V ⟨oi,ou,oy,ot,oc,op⟩).2.1=r2)(h3:(ordV V ⟨oi,ou,oy,ot,oc,op⟩).2.2=V2)(hS:St W (atR v eb m1 m2 m3 m4 D k V i::R) w):
  Calls Tryz.prog 105 #[v,.agg #[.int .i64 oi,.string ou,.bool oy,.int .i64 ot,.int .i64 oc,.int .i64 op]] w fun e w'=>e=.returned (.tuple #[.int .i64 r1,.int .i64 r2])∧St W (atR v eb m1 m2 m3 m4 D k V2 (i+1)::R) w':=by
 obtain⟨vb,mb,bb,rfl,hok,hS⟩:=atOpen hS
 refine(PR7 vb mb bb W w _ hok ⟨oi,ou,oy,ot,oc,op⟩ hS).mono ?_
 subst h1 h2 h3
 rintro e w' ⟨rfl,h1,hS⟩
 exact⟨rfl,atShut h1 hS⟩
theorem canF{who:ByteArray}{id r:Int}{V2:Vs}(h1:(canV V who id).1=r)(h2:(canV V who id).2=V2)(hS:St W (atR v eb m1 m2 m3 m4 D k V i::R) w):
  Calls Tryz.prog 106 #[v,.string who,.int .i64 id] w fun e w'=>e=.returned (.int .i64 r)∧St W (atR v eb m1 m2 m3 m4 D k V2 (i+1)::R) w':=by
 obtain⟨vb,mb,bb,rfl,hok,hS⟩:=atOpen hS
 obtain⟨p,L,n⟩:=V
 have h3:(canV ⟨p,L,n⟩ who id).2.n=n:=by
  unfold canV
  split <;> rfl
 have e:(canV ⟨p,L,n⟩ who id).2=⟨(canV ⟨p,L,n⟩ who id).2.ps,(canV ⟨p,L,n⟩ who id).2.L,n⟩:=by
  generalize canV ⟨p,L,n⟩ who id=z at h3 ⊢
  obtain⟨z1,z2,z3,z4⟩:=z
  simp only at h3
  rw[h3]
 refine(PS7 vb mb bb W w _ hok who id hS).mono ?_
 subst h1 h2
 rintro e' w' ⟨rfl,h1,hS⟩
 refine⟨rfl,?_⟩
 rw[e]
 exact atShut (V':=⟨(canV ⟨p,L,n⟩ who id).2.ps,(canV ⟨p,L,n⟩ who id).2.L,n⟩) h1 hS
end
abbrev rV(x0 x1:Int)(y0 y1 y2 y3:Int):Value:=.agg #[.int .i64 x0,.int .i64 x1,.int .i64 y0,.int .i64 y1,.int .i64 y2,.int .i64 y3]
theorem MM7{eb m1 m2 m3 m4:Nat}{E:Ev}{i:Nat}(hE:EvOk E i)(kd cl sq:Int)(ak aw tk tw:ByteArray)(it ct pr:Int)(bu:Bool)(id:Int)(h0:0≤it)(h4:it<4)(c0:1≤ct)(c1:ct≤1048576){r:Int}{q:Ps}
  (hr:putE (vAt E ak).ps aw (oneI it ct)=r) (hq:putP (vAt E ak).ps aw (oneI it ct)=q) (W w:World) (R:List HP) (hS:St W (evP eb m1 m2 m3 m4 E::R) w):
  Calls Tryz.prog 36 #[.pointer (some ⟨eb,0,none⟩),oV kd cl sq ak aw tk tw it ct pr bu id] w fun e w'=>∃vb,VOk q (vAt E ak).n (i+1)∧e=.returned (rV r 0 0 0 0 0)∧St W (evP eb m1 m2 m3 m4 ((ak,(vb,⟨q,(vAt E ak).L,(vAt E ak).n⟩))::delL E ak)::R) w':=by
 obtain⟨V,hV⟩:∃V,vAt E ak=V:=⟨_,rfl⟩
 obtain⟨D,hD⟩:∃D,delL E ak=D:=⟨_,rfl⟩
 obtain⟨x,hx⟩:∃x,oneI it ct=x:=⟨_,rfl⟩
 obtain⟨x0,x1,x2,x3⟩:=x
 rw[hV,hx]at hr hq
 rw[hV,hD]
 have HE:=Lib.hid hE
 have HV:=Lib.hid hV
 have HD:=Lib.hid hD
 have Hx:=Lib.hid hx
 have Hr:=Lib.hid hr
 have Hq:=Lib.hid hq
 clear hE hV hD hx hr hq
 go_enter Tryz.func36,Tryz.ntmps36
 go_wp2_with(first|(refine zbx hS ?_;clear hS;intro bO w hS)|(refine zal hS ?_;clear hS;intro bR w hS))
 have hS1:=hS.s (evP eb m1 m2 m3 m4 E::blk bR _ _::blk bO _ _::R)
 clear hS
 refine rf3 [0,0,2,6,15,0,32,96,0,287,1023,2047,4095] (fun i=>i==4) (fun i=>if i==9 then some (.agg #[.int .i64 x0,.int .i64 x1,.int .i64 x2,.int .i64 x3])else if i==10 then some (.int .i64 r)else none)
  [⟨some 4,some 10,fun nd=>atR (nd 4) eb m1 m2 m3 m4 D ak V i⟩,⟨some 10,none,fun nd=>atR (nd 4) eb m1 m2 m3 m4 D ak ⟨q,V.L,V.n⟩ (i+1)⟩,⟨some 12,none,fun _=>blk bR [.int .i64 r,.int .i64 0,.int .i64 0,.int .i64 0,.int .i64 0,.int .i64 0] 31⟩] [some 4,some 12,none] hS1 ?_
 clear hS1
 intro nd
 (refine cR ?_)
 iterate 2 (refine cR ?_)
 (refine zc1 ?_)
 (apply AC7;rfl;rfl;(with_reducible rfl);decide +kernel;(focus(simp only[fD,fI,fJ,Act.eval,fE,fF,fG,fH,fK];try rfl));(intro _;rfl);(intro F w hS;exact atF HE.out HV.out HD.out hS);(refine frS ?_))
 iterate 2 (refine cR ?_)
 (refine zc1 ?_)
 (refine zcN ?_)
 (refine zcv ?_ (hs:=by(intro F w hS;(try clear hS0);exact EX7 Hx.out h0 h4 c0 c1 W w _ hS)))
 (refine zcv ?_ (hs:=by(intro F w hS;(try clear hS0);exact putF Hr.out Hq.out hS)))
 (refine cR ?_)
 (refine zcs ?_)
 refine Ad7 ?_
 intro w hS
 have hS2:St W [atR _ eb m1 m2 m3 m4 D ak ⟨q,V.L,V.n⟩ (i+1),blk bR _ _,blk bO _ _,sats R] w:=hS
 clear hS
 have hS:=hS2.unpack [_,_,_]
 clear hS2
 simp only[List.cons_append,List.nil_append]at hS
 go_wp2_with fail
 (apply Ao7;rfl;rfl;rfl;exact hS;decide +kernel;(exact cesS);kernel_rfl)
 obtain⟨vb,h1,hS3⟩:=atEnd hS
 exact⟨vb,h1,rfl,hS3.s _⟩
structure RpOk(r:Rpl):Prop where
 e0:0≤r.err
 e1:r.err≤19
 i0:0≤r.id
 i1:r.id≤1099511627776
 has:isIt r.has=true
def rpB(r:Rpl):List Int:=numsB [r.err,r.id]++numsB [r.has.x0,r.has.x1,r.has.x2,r.has.x3]
theorem AF7(l:List Int):(numsB l).length≤l.length*9:=by
 induction l with
 | nil=>simp[numsB]
 | cons x l ih=>
  have:=Am7 x
  unfold numsB at ih ⊢
  rw[List.flatMap_cons,List.length_append,List.length_cons]
  omega
theorem FI7(r:Rpl):(rpB r).length≤54:=by
 have h1:=AF7 [r.err,r.id]
 have h2:=AF7 [r.has.x0,r.has.x1,r.has.x2,r.has.x3]
 unfold rpB
 rw[List.length_append]
 simp only[List.length_cons,List.length_nil]at h1 h2
 omega
theorem PZ7(r:Rpl):0<(rpB r).length:=by
 have:=EV7 r.err
 unfold rpB numsB
 rw[List.flatMap_cons,List.append_assoc,List.length_append]
 omega
theorem Qa7{e i x0 x1 x2 x3:Int}(h:RpOk ⟨e,i,⟨x0,x1,x2,x3⟩⟩)(W w:World)(R:List HP)(hS:St W R w):
  Calls Tryz.prog 136 #[rV e i x0 x1 x2 x3] w fun x w'=>x=.returned (.bool true)∧St W R w':=by
 have d0:decide (0≤e)=true:=by simpa using h.e0
 have d1:decide (e≤19)=true:=by simpa using h.e1
 have d2:decide (0≤i)=true:=by simpa using h.i0
 have d3:decide (i≤1099511627776)=true:=by simpa using h.i1
 have Hi:=Lib.hid h.has
 clear h
 go_enter Tryz.func136,Tryz.ntmps136
 go_wp2_with(first|(refine zbx hS ?_;clear hS;intro bO w hS)|(refine zl1 hS ?_)|(refine zlN hS ?_ (vs:=[.int .i64 x0,.int .i64 x1,.int .i64 x2,.int .i64 x3]) (hc:=by exact Cells.here rfl))|(go_at_call 126;refine(is_at _ _ _ _ W _ _ hS).mono ?_;clear hS;rw[Hi.out];rintro e w ⟨rfl,hS⟩))
 go_ret
 exact⟨rfl,hS.drop⟩
theorem nums2E(wb:Nat)(d:List Int)(x y:Int)(b c:Nat)(hd:d.length≤90000000)(hx : -9223372036854775808≤x∧x≤9223372036854775807)(hy : -9223372036854775808≤y∧y≤9223372036854775807)(W w:World)(R:List HP)(hS:St W (wrR wb d::blk b [.int .i64 x,.int .i64 y] 3::R) w):
  Calls Tryz.prog 65 #[.pointer (some ⟨wb,0,none⟩),.slice (some ⟨b,0,none⟩) 2 c] w fun e w'=>e=.returned (.tuple #[])∧St W (wrR wb (d++numsB [x,y])::blk b [.int .i64 x,.int .i64 y] 3::R) w':=
 MJ7 wb d [x,y] b c hd (by simp) (fun z hz=>by
  rcases List.mem_cons.1 hz with rfl|hz
  ·exact hx
  ·rw[List.mem_singleton.1 hz];exact hy) W w R hS
theorem Jj7{e i x0 x1 x2 x3:Int}(h:RpOk ⟨e,i,⟨x0,x1,x2,x3⟩⟩)(W w:World)(R:List HP)(hS:St W R w):
  Calls Tryz.prog 70 #[rV e i x0 x1 x2 x3] w fun x w'=>∃v,x=.returned (.tuple #[v,.int .i64 0])∧St W (byR v (rpB ⟨e,i,⟨x0,x1,x2,x3⟩⟩)::R) w':=by
 have hl:=FI7 ⟨e,i,⟨x0,x1,x2,x3⟩⟩
 have hp:=PZ7 ⟨e,i,⟨x0,x1,x2,x3⟩⟩
 have he:rpB ⟨e,i,⟨x0,x1,x2,x3⟩⟩=numsB [e,i]++numsB [x0,x1,x2,x3]:=rfl
 have hit:=Ag7.1 h.has
 obtain⟨⟨a0,a1⟩,⟨b0,b1⟩,⟨c0,c1⟩,⟨f0,f1⟩⟩:=hit
 simp only at a0 a1 b0 b1 c0 c1 f0 f1
 have e0:=h.e0
 have e1:=h.e1
 have i0:=h.i0
 have i1:=h.i1
 simp only at e0 e1 i0 i1
 have hn4:∀x∈[x0,x1,x2,x3], -9223372036854775808≤x∧x≤9223372036854775807:=by
  intro x hx
  simp only[List.mem_cons,List.not_mem_nil,or_false]at hx
  rcases hx with rfl|rfl|rfl|rfl <;> constructor <;> omega
 have hd2:(numsB [e,i]).length≤90000000:=by have:=AF7 [e,i];simp only[List.length_cons,List.length_nil]at this;omega
 have Hn4:=Lib.hid hn4
 have He:=Lib.hid he
 have Hd2:=Lib.hid hd2
 have Hh:=Lib.hid h
 rw[he]at hl hp
 have Hl:=Lib.hid hl
 have Hp:=Lib.hid hp
 clear hn4 h hd2 he hl hp
 go_enter Tryz.func70,Tryz.ntmps70
 go_wp2_with(first|(refine zbx hS ?_;clear hS;intro bO w hS)|(refine zl1 hS ?_)|(refine zlN hS ?_)|(go_at_call 136;refine(Qa7 Hh.out W _ _ hS).mono ?_;clear hS;rintro x w ⟨rfl,hS⟩)|(refine zal hS ?_;clear hS;intro wb w hS)|(refine zbs hS ?_;clear hS;intro bS w hS)|((fail_if_success (have:=mN));go_at_call 65;refine(nums2E wb [] e i bS 2 (by simp) ⟨by omega,by omega⟩ ⟨by omega,by omega⟩ W _ _ (wrNew (hS.s (blk wb _ _::blk bS _ _::blk bO _ _::R)))).mono ?_;clear hS;rw[List.nil_append];rintro x w ⟨rfl,hS⟩;have mN:Nat:=0)|((have:=mN);go_at_call 65;refine(nums4E wb (numsB [e,i]) x0 x1 x2 x3 bO 2 4 Hd2.out Hn4.out W _ _ (Cell.there (Cell.here rfl)) (Cell.there (Cell.here rfl)) (Cell.there (Cell.here rfl)) (Cell.there (Cell.here rfl)) hS).mono ?_;clear hS;rintro x w ⟨rfl,hS⟩)|(go_at_call 72;refine(out_w wb _ (by have:=Hl.out;omega) Hp.out W _ _ hS).mono ?_;clear hS;rintro x w ⟨v,rfl,hS⟩))
 go_ret2
 refine⟨v,rfl,?_⟩
 rw[He.out]
 exact hS.s _
theorem Op7{e i x0 x1 x2 x3:Int}(h:RpOk ⟨e,i,⟨x0,x1,x2,x3⟩⟩)(W w:World)(R:List HP)(hS:St W R w):
  Calls Tryz.prog 193 #[rV e i x0 x1 x2 x3] w fun x w'=>x=.returned (.bool true)∧St W R w':=by
 have d0:decide (0≤e)=true:=by simpa using h.e0
 have d1:decide (e≤19)=true:=by simpa using h.e1
 have d2:decide (0≤i)=true:=by simpa using h.i0
 have d3:decide (i≤1099511627776)=true:=by simpa using h.i1
 have Hi:=Lib.hid h.has
 clear h
 go_enter Tryz.func193,Tryz.ntmps193
 go_wp2_with(first|(refine zbx hS ?_;clear hS;intro bO w hS)|(refine zl1 hS ?_)|(refine zlN hS ?_ (vs:=[.int .i64 x0,.int .i64 x1,.int .i64 x2,.int .i64 x3]) (hc:=by exact Cells.here rfl))|(go_at_call 116;refine(Ck7 _ _ _ _ W _ _ hS).mono ?_;clear hS;rw[Hi.out];rintro e w ⟨rfl,hS⟩))
 go_ret
 exact⟨rfl,hS.drop⟩
theorem FJ7{x y:Int}(hx : -9223372036854775808≤x∧x≤9223372036854775807)(hy : -9223372036854775808≤y∧y≤9223372036854775807){v:Value}{W w:World}{R:List HP}(hS:St W (slTo v 2 2 [.int .i64 x,.int .i64 y] 3::R) w):
  Calls Tryz.prog 144 #[v] w fun e w'=>∃v',e=.returned v'∧St W (byR v' (numsB [x,y])::R) w':=by
 obtain⟨b,rfl,hS1⟩:=hS.sl
 exact nums8E [x,y] b 2 (by simp) (fun z hz=>by
  rcases List.mem_cons.1 hz with rfl|hz
  ·exact hx
  ·rw[List.mem_singleton.1 hz];exact hy) W w R hS1
theorem Ii7{e i x0 x1 x2 x3:Int}(h:RpOk ⟨e,i,⟨x0,x1,x2,x3⟩⟩)(W w:World)(R:List HP)(hS:St W R w):
  Calls Tryz.prog 143 #[rV e i x0 x1 x2 x3] w fun x w'=>∃v,x=.returned (.tuple #[v,.int .i64 0])∧St W (byR v (rpB ⟨e,i,⟨x0,x1,x2,x3⟩⟩)::R) w':=by
 have e0:=h.e0
 have e1:=h.e1
 have i0:=h.i0
 have i1:=h.i1
 simp only at e0 e1 i0 i1
 have l1:(numsB [e,i]).length≤18:=AF7 [e,i]
 have l2:(numsB [x0,x1,x2,x3]).length≤36:=AF7 [x0,x1,x2,x3]
 have hre : -9223372036854775808≤e∧e≤9223372036854775807:=⟨by omega,by omega⟩
 have hri : -9223372036854775808≤i∧i≤9223372036854775807:=⟨by omega,by omega⟩
 have Hre:=Lib.hid hre
 have Hri:=Lib.hid hri
 have Hit:=Lib.hid h.has
 have Hh:=Lib.hid h
 have He:=Lib.hid (show rpB ⟨e,i,⟨x0,x1,x2,x3⟩⟩=numsB [e,i]++numsB [x0,x1,x2,x3]from rfl)
 clear h hre hri
 go_enter Tryz.func143,Tryz.ntmps143
 go_wp2_with(first|(refine zbx hS ?_;clear hS;intro bO w hS)|(refine zlN hS ?_)|(go_at_call 193;refine(Op7 Hh.out W _ _ hS).mono ?_;clear hS;rintro x w ⟨rfl,hS⟩))
 refine rf2 [0,1,0,4,15,31,0,64,255,511,1023,2047] (fun i=>i==4||i==5||i==8||i==9) [⟨some 4,some 5,fun nd=>slTo (nd 4) 2 2 [.int .i64 e,.int .i64 i] 3⟩,⟨some 5,some 9,fun nd=>byR (nd 5) (numsB [e,i])⟩,⟨some 8,none,fun nd=>byR (nd 8) (numsB [x0,x1,x2,x3])⟩,⟨some 9,none,fun nd=>row (nd 9) 1 5 ((numsB [e,i]).length+(numsB [x0,x1,x2,x3]).length) (u8s (numsB [e,i])++u8s (numsB [x0,x1,x2,x3]))⟩] [none] hS ?_
 clear hS
 intro nd
 (refine cR ?_)
 (refine zc1 ?_)
 (refine cR ?_)
 (refine zc1 ?_)
 (apply ch_bs;rfl;(with_reducible rfl);rfl;(focus(simp only[fD,fI,fJ,Act.eval,fE,fF,fG,fH,fK];try rfl));(exact esS);(exact rsS);rfl;rfl;rfl;rfl;(intro _;rfl);rfl;(intro _;rfl);(refine frS ?_))
 (apply AC7;rfl;rfl;(with_reducible rfl);decide +kernel;(focus(simp only[fD,fI,fJ,Act.eval,fE,fF,fG,fH,fK];try rfl));(intro _;rfl);(intro F w hS;exact FJ7 Hre.out Hri.out hS);(refine frS ?_))
 (refine cR ?_)
 (refine zcN ?_ (vs:=[.int .i64 x0,.int .i64 x1,.int .i64 x2,.int .i64 x3]) (hc:=by(intro F;exact Cells.here rfl)))
 (apply AC7;rfl;rfl;(with_reducible rfl);decide +kernel;(focus(simp only[fD,fI,fJ,Act.eval,fE,fF,fG,fH,fK];try rfl));(intro _;rfl);(intro F w hS;exact enc8 ⟨x0,x1,x2,x3⟩ Hit.out W w _ hS);(refine frS ?_))
 (apply Ai7;rfl;(with_reducible rfl);rfl;(focus((conv=>lhs;whnf);try rfl));(focus((conv=>lhs;whnf);try rfl));(exact esS);(exact rsS);rfl;decide;rfl;(intro F w hS;exact GM7 (k:=1) (by decide) hS (by exact takO));(focus(rw[AL7,Nat.mul_one]));(focus(exact AY7 _));(focus(unfold maxLen;omega));(focus(omega));(intro _;rfl);(intro _;rfl);(refine frS ?_))
 iterate 2 (refine cR ?_)
 refine Ad7 ?_
 intro w hS
 have hS2:St W [byR (nd 8) _,row (nd 9) 1 5 _ _,blk bO _ _,sats R] w:=hS
 clear hS
 have hS:=hS2.unpack [_,_,_]
 clear hS2
 simp only[List.cons_append,List.nil_append]at hS
 generalize nd 9=v9 at *
 go_wp2_with fail
 go_ret2
 refine⟨v9,rfl,?_⟩
 have hS1:=hS.drop
 rw[←Aw7]at hS1
 rw[He.out]
 exact(AD7 (by rw[List.length_append]) hS1).s _
theorem Lg7{eb m1 m2 m3 m4:Nat}{E:Ev}{i:Nat}(hE:EvOk E i)(kd cl sq:Int)(ak aw tk tw:ByteArray)(it ct pr:Int)(bu:Bool)(id:Int){r1 r2:Int}{V2:Vs}
  (h1:(ordV (vAt E ak) ⟨0,aw,bu,it,ct,pr⟩).1=r1) (h2:(ordV (vAt E ak) ⟨0,aw,bu,it,ct,pr⟩).2.1=r2) (h3:(ordV (vAt E ak) ⟨0,aw,bu,it,ct,pr⟩).2.2=V2) (W w:World) (R:List HP) (hS:St W (evP eb m1 m2 m3 m4 E::R) w):
  Calls Tryz.prog 38 #[.pointer (some ⟨eb,0,none⟩),oV kd cl sq ak aw tk tw it ct pr bu id] w fun e w'=>∃vb,VOk V2.ps V2.n (i+1)∧e=.returned (rV r2 r1 0 0 0 0)∧St W (evP eb m1 m2 m3 m4 ((ak,(vb,V2))::delL E ak)::R) w':=by
 obtain⟨V,hV⟩:∃V,vAt E ak=V:=⟨_,rfl⟩
 obtain⟨D,hD⟩:∃D,delL E ak=D:=⟨_,rfl⟩
 rw[hV]at h1 h2 h3
 rw[hD]
 have H1:=Lib.hid h1
 have H2:=Lib.hid h2
 have H3:=Lib.hid h3
 clear h1 h2 h3
 have HE:=Lib.hid hE
 have HV:=Lib.hid hV
 have HD:=Lib.hid hD
 clear hE hV hD
 go_enter Tryz.func38,Tryz.ntmps38
 go_wp2_with(first|(refine zbx hS ?_;clear hS;intro bO w hS)|(refine zal hS ?_;clear hS;intro bR w hS))
 have hS1:=hS.s (evP eb m1 m2 m3 m4 E::blk bR _ _::blk bO _ _::R)
 clear hS
 refine rf3 [0,0,2,6,15,0,32,96,0,256,0,1024,0,4096,0,16384,65504,131071,262143,524287,524287,1048575,4194303] (fun i=>i==4) (fun i=>if i==17 then some (.tuple #[.int .i64 r1,.int .i64 r2])else none)
  [⟨some 4,some 17,fun nd=>atR (nd 4) eb m1 m2 m3 m4 D ak V i⟩,⟨some 17,none,fun nd=>atR (nd 4) eb m1 m2 m3 m4 D ak V2 (i+1)⟩] [some 4,none,none] hS1 ?_
 clear hS1
 intro nd
 repeat(first|(refine zc1 ?_)|(apply AC7;rfl;rfl;(with_reducible rfl);decide +kernel;(focus(simp only[fD,fI,fJ,Act.eval,fE,fF,fG,fH,fK];try rfl));(intro _;rfl);(intro F w hS;exact atF HE.out HV.out HD.out hS);(refine frS ?_))|(refine zcv ?_ (hs:=by(intro F w hS;(try clear hS0);exact ordF H1.out H2.out H3.out hS)))|(refine cR ?_))
 refine Ad7 ?_
 intro w hS
 have hS2:St W [atR _ eb m1 m2 m3 m4 D ak V2 (i+1),blk bR _ _,blk bO _ _,sats R] w:=hS
 clear hS
 have hS:=hS2.unpack [_,_,_]
 clear hS2
 simp only[List.cons_append,List.nil_append]at hS
 go_wp2_with(first|(refine zsN hS ?_;clear hS;intro w hS))
 (apply Ao7;rfl;rfl;rfl;exact hS;decide +kernel;(exact cesS);kernel_rfl)
 obtain⟨vb,h1,hS3⟩:=atEnd (hS.s (atR _ eb m1 m2 m3 m4 D ak V2 (i+1)::R))
 exact⟨vb,h1,rfl,hS3⟩
theorem Ij7{eb m1 m2 m3 m4:Nat}{E:Ev}{i:Nat}(hE:EvOk E i)(kd cl sq:Int)(ak aw tk tw:ByteArray)(it ct pr:Int)(bu:Bool)(id:Int){r:Int}{V2:Vs}
  (h1:(canV (vAt E ak) aw id).1=r) (h2:(canV (vAt E ak) aw id).2=V2) (W w:World) (R:List HP) (hS:St W (evP eb m1 m2 m3 m4 E::R) w):
  Calls Tryz.prog 39 #[.pointer (some ⟨eb,0,none⟩),oV kd cl sq ak aw tk tw it ct pr bu id] w fun e w'=>∃vb,VOk V2.ps V2.n (i+1)∧e=.returned (rV r 0 0 0 0 0)∧St W (evP eb m1 m2 m3 m4 ((ak,(vb,V2))::delL E ak)::R) w':=by
 obtain⟨V,hV⟩:∃V,vAt E ak=V:=⟨_,rfl⟩
 obtain⟨D,hD⟩:∃D,delL E ak=D:=⟨_,rfl⟩
 rw[hV]at h1 h2
 rw[hD]
 have H1:=Lib.hid h1
 have H2:=Lib.hid h2
 clear h1 h2
 have HE:=Lib.hid hE
 have HV:=Lib.hid hV
 have HD:=Lib.hid hD
 clear hE hV hD
 go_enter Tryz.func39,Tryz.ntmps39
 go_wp2_with(first|(refine zbx hS ?_;clear hS;intro bO w hS)|(refine zal hS ?_;clear hS;intro bR w hS))
 have hS1:=hS.s (evP eb m1 m2 m3 m4 E::blk bR _ _::blk bO _ _::R)
 clear hS
 refine rf3 [0,0,2,6,15,0,32,96,0,256,1023,2047,4095] (fun i=>i==4) (fun i=>if i==10 then some (.int .i64 r)else none)
  [⟨some 4,some 10,fun nd=>atR (nd 4) eb m1 m2 m3 m4 D ak V i⟩,⟨some 10,none,fun nd=>atR (nd 4) eb m1 m2 m3 m4 D ak V2 (i+1)⟩,⟨some 12,none,fun _=>blk bR [.int .i64 r,.int .i64 0,.int .i64 0,.int .i64 0,.int .i64 0,.int .i64 0] 31⟩] [some 4,some 12,none] hS1 ?_
 clear hS1
 intro nd
 repeat(first|(refine zc1 ?_)|(apply AC7;rfl;rfl;(with_reducible rfl);decide +kernel;(focus(simp only[fD,fI,fJ,Act.eval,fE,fF,fG,fH,fK];try rfl));(intro _;rfl);(intro F w hS;exact atF HE.out HV.out HD.out hS);(refine frS ?_))|(refine zcv ?_ (hs:=by(intro F w hS;(try clear hS0);exact canF H1.out H2.out hS)))|(refine zcs ?_)|(refine cR ?_))
 refine Ad7 ?_
 intro w hS
 have hS2:St W [atR _ eb m1 m2 m3 m4 D ak V2 (i+1),blk bR _ _,blk bO _ _,sats R] w:=hS
 clear hS
 have hS:=hS2.unpack [_,_,_]
 clear hS2
 simp only[List.cons_append,List.nil_append]at hS
 go_wp2_with fail
 (apply Ao7;rfl;rfl;rfl;exact hS;decide +kernel;(exact cesS);kernel_rfl)
 obtain⟨vb,h1,hS3⟩:=atEnd hS
 exact⟨vb,h1,rfl,hS3.s _⟩
theorem Jk7{eb m1 m2 m3 m4:Nat}{E:Ev}{i:Nat}(hE:EvOk E i)(kd cl sq:Int)(ak aw tk tw:ByteArray)(it ct pr:Int)(bu:Bool)(id:Int)(ar:List ((Int×Int)×Unit))(h0:0≤it)(h4:it<4)(c0:1≤ct)(c1:ct≤1048576){q:Ps}
  (hq:putP (vAt E ak).ps aw (oneI it ct)=q) (W w:World) (R:List HP) (hS:St W (evP eb m1 m2 m3 m4 E::amap eW eU m4 ar::R) w):
  Calls Tryz.prog 41 #[.pointer (some ⟨eb,0,none⟩),oV kd cl sq ak aw tk tw it ct pr bu id] w fun e w'=>∃vb,VOk q (vAt E ak).n (i+1)∧e=.returned (rV 0 0 0 0 0 0) ∧
   St W (evP eb m1 m2 m3 m4 ((ak,(vb,⟨q,(vAt E ak).L,(vAt E ak).n⟩))::delL E ak)::amap eW eU m4 (((cl,sq),())::delL ar (cl,sq))::R) w':=by
 obtain⟨V,hV⟩:∃V,vAt E ak=V:=⟨_,rfl⟩
 obtain⟨D,hD⟩:∃D,delL E ak=D:=⟨_,rfl⟩
 obtain⟨x,hx⟩:∃x,oneI it ct=x:=⟨_,rfl⟩
 obtain⟨x0,x1,x2,x3⟩:=x
 rw[hV,hx]at hq
 obtain⟨r,hr⟩:∃r,putE V.ps aw ⟨x0,x1,x2,x3⟩=r:=⟨_,rfl⟩
 rw[hV,hD]
 have Hx:=Lib.hid hx
 have Hr:=Lib.hid hr
 have Hq:=Lib.hid hq
 clear hx hr hq
 have HE:=Lib.hid hE
 have HV:=Lib.hid hV
 have HD:=Lib.hid hD
 clear hE hV hD
 go_enter Tryz.func41,Tryz.ntmps41
 go_wp2_with(first|(refine zbx hS ?_;clear hS;intro bO w hS)|(refine zal hS ?_;clear hS;intro bR w hS))
 have hS1:=hS.s (evP eb m1 m2 m3 m4 E::blk bR _ _::blk bO _ _::amap eW eU m4 ar::R)
 clear hS
 refine rf3 [0,0,2,6,15,0,32,96,0,287,1023] (fun i=>i==4) (fun i=>if i==9 then some (.agg #[.int .i64 x0,.int .i64 x1,.int .i64 x2,.int .i64 x3])else if i==10 then some (.int .i64 r)else none)
  [⟨some 4,some 10,fun nd=>atR (nd 4) eb m1 m2 m3 m4 D ak V i⟩,⟨some 10,none,fun nd=>atR (nd 4) eb m1 m2 m3 m4 D ak ⟨q,V.L,V.n⟩ (i+1)⟩] [some 4,none,none] hS1 ?_
 clear hS1
 intro nd
 repeat(first|(refine zc1 ?_)|(refine zcN ?_)|(apply AC7;rfl;rfl;(with_reducible rfl);decide +kernel;(focus(simp only[fD,fI,fJ,Act.eval,fE,fF,fG,fH,fK];try rfl));(intro _;rfl);(intro F w hS;exact atF HE.out HV.out HD.out hS);(refine frS ?_))|(refine zcv ?_ (hs:=by(intro F w hS;(try clear hS0);exact EX7 Hx.out h0 h4 c0 c1 W w _ hS)))|(refine zcv ?_ (hs:=by(intro F w hS;(try clear hS0);exact putF Hr.out Hq.out hS)))|(refine cR ?_))
 refine Ad7 ?_
 intro w hS
 have hS2:St W [atR _ eb m1 m2 m3 m4 D ak ⟨q,V.L,V.n⟩ (i+1),blk bR _ _,blk bO _ _,sats (amap eW eU m4 ar::R)] w:=hS
 clear hS
 have hS:=hS2.unpack [_,_,_]
 clear hS2
 simp only[List.cons_append,List.nil_append]at hS
 obtain⟨vb,h1,hS3⟩:=atEnd hS
 clear hS
 have H1:=Lib.hid h1
 clear h1
 have hS:=evOpen hS3
 clear hS3
 go_wp2_with fail
 refine rt 9 hS ?_
 repeat(first|(refine zq1 ?_)|(refine zqn ?_)|(refine qR ?_))
 clear hS
 intro w hS
 simp only[List.drop_succ_cons,List.drop_zero]
 go_wp2_with(first|((with_reducible apply Cd7 (ek:=eW) (ev:=eU) (k:=(cl,sq)) (u:=()) hS);(with_reducible rfl);rfl;rfl;rfl;(exact takeS);(focus(rfl));exact mAr;exact kW;clear hS;intro w hS;try(refine frS ?_))|(refine zsN hS ?_;clear hS;intro w hS))
 (apply Ao7;rfl;rfl;rfl;exact hS;decide +kernel;(exact cesS);kernel_rfl)
 exact⟨vb,H1.out,rfl,(evShut (hS.s (ebB eb m1 m2 m3 m4::amap eS eN m1 _::vauP _::amap eW eU m4 _::R)))⟩
theorem MN7{eb m1 m2 m3 m4:Nat}{E:Ev}(kd cl sq:Int)(ak aw tk tw:ByteArray)(it ct pr:Int)(bu:Bool)(id:Int)(ts:List ((Int×Int)×Tns))(W w:World)(R:List HP)(hS:St W (evP eb m1 m2 m3 m4 E::amap eW eTn m3 ts::R) w):
  Calls Tryz.prog 42 #[.pointer (some ⟨eb,0,none⟩),oV kd cl sq ak aw tk tw it ct pr bu id] w fun e w'=>e=.returned (rV 0 0 0 0 0 0)∧St W (evP eb m1 m2 m3 m4 E::amap eW eTn m3 (delL ts (cl,sq))::R) w':=by
 have hS1:=evOpen hS
 clear hS
 have hS:=hS1
 clear hS1
 go_enter Tryz.func42,Tryz.ntmps42
 go_wp2_with(first|(refine zbx hS ?_;clear hS;intro bO w hS)|(refine zal hS ?_;clear hS;intro bR w hS))
 refine rt 9 hS ?_
 repeat(first|(refine zq1 ?_)|(refine zqn ?_)|(refine qR ?_))
 clear hS
 intro w hS
 simp only[List.drop_succ_cons,List.drop_zero]
 go_wp2_with(first|((with_reducible apply IL7 (ek:=eW) (ev:=eTn) (k:=(cl,sq)) hS);(with_reducible rfl);rfl;rfl;rfl;(exact takeS);exact mT;exact kW;clear hS;intro w hS;try(refine frS ?_))|(refine zsN hS ?_;clear hS;intro w hS))
 (apply Ao7;rfl;rfl;rfl;exact hS;decide +kernel;(exact cesS);kernel_rfl)
 exact⟨rfl,evShut (hS.s (ebB eb m1 m2 m3 m4::amap eS eN m1 _::vauP _::amap eW eTn m3 _::R))⟩
end Go.Proofs.YtlmhakmoioogaaaGreat
end
