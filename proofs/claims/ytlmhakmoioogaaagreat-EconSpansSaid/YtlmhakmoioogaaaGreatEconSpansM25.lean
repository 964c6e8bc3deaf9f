/-
  The vault at a key, as what a call tells of; what is done to it; mint. For every economy.
  What is done to each kind of request: order, cancel, arrive, send, done. For every economy.
  send, what a place has, look. For every economy.
-/
import Derived.Test.YtlmhakmoioogaaaGreatEconSpansM5
import Derived.Test.YtlmhakmoioogaaaGreatEconSpansM22
import Derived.Test.YtlmhakmoioogaaaGreatEconSpansM24
set_option maxHeartbeats 16000000
set_option maxRecDepth 100000
set_option linter.unusedSimpArgs false
set_option linter.unusedVariables false
section
namespace Go.Proofs.YtlmhakmoioogaaaGreat
open Go.RowKit Go.Sl
def EvOk (E : Ev) (i : Nat) : Prop := ∀ x ∈ E,VOk x.2.2.ps x.2.2.n i
theorem Mo7 {p : Ps} {n : Int} {i j : Nat} (h : VOk p n i) (hij : i ≤ j) : VOk p n j := ⟨h.ok,As7 h.w (Nat.mul_le_mul_left _ hij),h.n0,by have := h.n1;omega⟩
theorem Ot7 {E : Ev} {i : Nat} (h : EvOk E i) (k : ByteArray) : VOk (vAt E k).ps (vAt E k).n i := by
 unfold vAt
 cases hg : getL E k with
 | none => exact Mo7 vOk0 (Nat.zero_le _)
 | some x => exact h _ (AG7 hg)
def evP (eb m1 m2 m3 m4 : Nat) (E : Ev) : HP := sats [ebB eb m1 m2 m3 m4,amap eS eN m1 (ptrsE E),vauP E]
def atR (v : Value) (eb m1 m2 m3 m4 : Nat) (D : Ev) (k : ByteArray) (V : Vs) (i : Nat) : HP := fun f => ∃ vb,(v = .pointer (some ⟨vb,0,none⟩) ∧ VOk V.ps V.n i) ∧ sats [ebB eb m1 m2 m3 m4,amap eS eN m1 (ptrsE ((k,(vb,V)) :: D)),vaultP vb V,vauP D] f
section
variable {W w : World} {R : List HP} {eb m1 m2 m3 m4 : Nat} {E D : Ev} {k : ByteArray} {V : Vs} {i : Nat} {v : Value}
theorem evOpen (h : St W (evP eb m1 m2 m3 m4 E :: R) w) : St W (ebB eb m1 m2 m3 m4 :: amap eS eN m1 (ptrsE E) :: vauP E :: R) w := h.openS
theorem evShut (h : St W (ebB eb m1 m2 m3 m4 :: amap eS eN m1 (ptrsE E) :: vauP E :: R) w) : St W (evP eb m1 m2 m3 m4 E :: R) w := St.shutS [_,_,_] h
theorem atOpen (h : St W (atR v eb m1 m2 m3 m4 D k V i :: R) w) : ∃ vb mb bb,v = .pointer (some ⟨vb,0,none⟩) ∧ VOk V.ps V.n i ∧ St W (vaultL vb mb bb V.ps V.L V.n (ebB eb m1 m2 m3 m4 :: amap eS eN m1 (ptrsE ((k,(vb,V)) :: D)) :: vauP D :: R)) w := by
 obtain ⟨vb,h⟩ := St.ex h
 obtain ⟨⟨h1,h2⟩,h⟩ := St.and h
 have h3 : St W (ebB eb m1 m2 m3 m4 :: amap eS eN m1 (ptrsE ((k,(vb,V)) :: D)) :: vaultP vb V :: vauP D :: R) w := h.openS
 obtain ⟨mb,bb,h4⟩ := vaultOpen (h3.sel (L' := vaultP vb V :: ebB eb m1 m2 m3 m4 :: amap eS eN m1 (ptrsE ((k,(vb,V)) :: D)) :: vauP D :: R) (by exact selS))
 exact ⟨vb,mb,bb,h1,h2,h4⟩
theorem atShut {vb mb bb : Nat} {V' : Vs} (h1 : VOk V'.ps V'.n i) (h : St W (vaultL vb mb bb V'.ps V'.L V'.n (ebB eb m1 m2 m3 m4 :: amap eS eN m1 (ptrsE ((k,(vb,V)) :: D)) :: vauP D :: R)) w) : St W (atR (.pointer (some ⟨vb,0,none⟩)) eb m1 m2 m3 m4 D k V' i :: R) w := by
 have h2 := vaultShut h
 refine St.mkEx vb (St.mkAnd ⟨rfl,h1⟩ (St.shutS [_,_,_,_] ?_))
 have h3 : St W (ebB eb m1 m2 m3 m4 :: amap eS eN m1 (ptrsE ((k,(vb,V)) :: D)) :: vaultP vb V' :: vauP D :: R) w := h2.sel (by exact selS)
 exact h3
theorem atEnd (h : St W (atR v eb m1 m2 m3 m4 D k V i :: R) w) : ∃ vb,VOk V.ps V.n i ∧ St W (evP eb m1 m2 m3 m4 ((k,(vb,V)) :: D) :: R) w := by
 obtain ⟨vb,h⟩ := St.ex h
 obtain ⟨⟨_,h2⟩,h⟩ := St.and h
 have h3 : St W (ebB eb m1 m2 m3 m4 :: amap eS eN m1 (ptrsE ((k,(vb,V)) :: D)) :: vaultP vb V :: vauP D :: R) w := h.openS
 have h4 := vauShut (x := (k,(vb,V))) (h3.sel (L' := vaultP vb V :: vauP D :: ebB eb m1 m2 m3 m4 :: amap eS eN m1 (ptrsE ((k,(vb,V)) :: D)) :: R) (by exact selS))
 exact ⟨vb,h2,evShut (h4.sel (by exact selS))⟩
theorem atF (hE : EvOk E i) {Va : Vs} {Da : Ev} (hV : vAt E k = Va) (hD : delL E k = Da) (hS : St W (evP eb m1 m2 m3 m4 E :: R) w) :
  Calls Tryz.prog 101 #[.pointer (some ⟨eb,0,none⟩),.string k] w fun e w' => ∃ v,e = .returned v ∧ St W (atR v eb m1 m2 m3 m4 Da k Va i :: R) w' := by
 subst hV hD
 refine (NC7 eb m1 m2 m3 m4 E k W w R (evOpen hS)).mono ?_
 rintro e w' ⟨vb,rfl,hS⟩
 exact ⟨_,rfl,St.mkEx vb (St.mkAnd ⟨rfl,Ot7 hE k⟩ (St.shutS [_,_,_,_] hS))⟩
theorem putF {who : ByteArray} {x0 x1 x2 x3 r : Int} {q : Ps} (hr : putE V.ps who ⟨x0,x1,x2,x3⟩ = r) (hq : putP V.ps who ⟨x0,x1,x2,x3⟩ = q) (hS : St W (atR v eb m1 m2 m3 m4 D k V i :: R) w) :
  Calls Tryz.prog 102 #[v,.string who,.agg #[.int .i64 x0,.int .i64 x1,.int .i64 x2,.int .i64 x3]] w fun e w' => e = .returned (.int .i64 r) ∧ St W (atR v eb m1 m2 m3 m4 D k ⟨q,V.L,V.n⟩ (i + 1) :: R) w' := by
 obtain ⟨vb,mb,bb,rfl,hok,hS⟩ := atOpen hS
 refine (Oq7 vb mb bb W w _ hok who ⟨x0,x1,x2,x3⟩ hS).mono ?_
 rw [hr,hq]
 rintro e w' ⟨rfl,h1,hS⟩
 exact ⟨rfl,atShut (V' := ⟨q,V.L,V.n⟩) h1 hS⟩
theorem takeF {who : ByteArray} {x0 x1 x2 x3 r : Int} {q : Ps} (hr : takeE V.ps who ⟨x0,x1,x2,x3⟩ = r) (hq : takeP V.ps who ⟨x0,x1,x2,x3⟩ = q) (hS : St W (atR v eb m1 m2 m3 m4 D k V i :: R) w) :
  Calls Tryz.prog 104 #[v,.string who,.agg #[.int .i64 x0,.int .i64 x1,.int .i64 x2,.int .i64 x3]] w fun e w' => e = .returned (.int .i64 r) ∧ St W (atR v eb m1 m2 m3 m4 D k ⟨q,V.L,V.n⟩ (i + 1) :: R) w' := by
 obtain ⟨vb,mb,bb,rfl,hok,hS⟩ := atOpen hS
 refine (Nx7 vb mb bb W w _ hok who ⟨x0,x1,x2,x3⟩ hS).mono ?_
 rw [hr,hq]
 rintro e w' ⟨rfl,h1,hS⟩
 exact ⟨rfl,atShut (V' := ⟨q,V.L,V.n⟩) h1 hS⟩
theorem ordF {oi ot oc op : Int} {ou : ByteArray} {oy : Bool} {r1 r2 : Int} {V2 : Vs} (h1 : (ordV V ⟨oi,ou,oy,ot,oc,op⟩).1 = r1) (h2 : (ordV V ⟨oi,ou,oy,ot,oc,op⟩).2.1 = r2) (h3 : (ordV V ⟨oi,ou,oy,ot,oc,op⟩).2.2 = V2) (hS : St W (atR v eb m1 m2 m3 m4 D k V i :: R) w) :
  Calls Tryz.prog 105 #[v,.agg #[.int .i64 oi,.string ou,.bool oy,.int .i64 ot,.int .i64 oc,.int .i64 op]] w fun e w' => e = .returned (.tuple #[.int .i64 r1,.int .i64 r2]) ∧ St W (atR v eb m1 m2 m3 m4 D k V2 (i + 1) :: R) w' := by
 obtain ⟨vb,mb,bb,rfl,hok,hS⟩ := atOpen hS
 refine (Ny7 vb mb bb W w _ hok ⟨oi,ou,oy,ot,oc,op⟩ hS).mono ?_
 subst h1 h2 h3
 rintro e w' ⟨rfl,h1,hS⟩
 exact ⟨rfl,atShut h1 hS⟩
theorem canF {who : ByteArray} {id r : Int} {V2 : Vs} (h1 : (canV V who id).1 = r) (h2 : (canV V who id).2 = V2) (hS : St W (atR v eb m1 m2 m3 m4 D k V i :: R) w) :
  Calls Tryz.prog 106 #[v,.string who,.int .i64 id] w fun e w' => e = .returned (.int .i64 r) ∧ St W (atR v eb m1 m2 m3 m4 D k V2 (i + 1) :: R) w' := by
 obtain ⟨vb,mb,bb,rfl,hok,hS⟩ := atOpen hS
 obtain ⟨p,L,n⟩ := V
 have h3 : (canV ⟨p,L,n⟩ who id).2.n = n := by
  unfold canV
  split <;> rfl
 have e : (canV ⟨p,L,n⟩ who id).2 = ⟨(canV ⟨p,L,n⟩ who id).2.ps,(canV ⟨p,L,n⟩ who id).2.L,n⟩ := by
  generalize canV ⟨p,L,n⟩ who id = z at h3 ⊢
  obtain ⟨z1,z2,z3,z4⟩ := z
  simp only at h3
  rw [h3]
 refine (Nz7 vb mb bb W w _ hok who id hS).mono ?_
 subst h1 h2
 rintro e' w' ⟨rfl,h1,hS⟩
 refine ⟨rfl,?_⟩
 rw [e]
 exact atShut (V' := ⟨(canV ⟨p,L,n⟩ who id).2.ps,(canV ⟨p,L,n⟩ who id).2.L,n⟩) h1 hS
end
abbrev rV (x0 x1 : Int) (y0 y1 y2 y3 : Int) : Value := .agg #[.int .i64 x0,.int .i64 x1,.int .i64 y0,.int .i64 y1,.int .i64 y2,.int .i64 y3]
theorem KJ7 {eb m1 m2 m3 m4 : Nat} {E : Ev} {i : Nat} (hE : EvOk E i) (kd cl sq : Int) (ak aw tk tw : ByteArray) (it ct pr : Int) (bu : Bool) (id : Int) (h0 : 0 ≤ it) (h4 : it < 4) (c0 : 1 ≤ ct) (c1 : ct ≤ 1048576) {r : Int} {q : Ps}
  (hr : putE (vAt E ak).ps aw (oneI it ct) = r) (hq : putP (vAt E ak).ps aw (oneI it ct) = q) (W w : World) (R : List HP) (hS : St W (evP eb m1 m2 m3 m4 E :: R) w) :
  Calls Tryz.prog 36 #[.pointer (some ⟨eb,0,none⟩),oV kd cl sq ak aw tk tw it ct pr bu id] w fun e w' => ∃ vb,VOk q (vAt E ak).n (i + 1) ∧ e = .returned (rV r 0 0 0 0 0) ∧ St W (evP eb m1 m2 m3 m4 ((ak,(vb,⟨q,(vAt E ak).L,(vAt E ak).n⟩)) :: delL E ak) :: R) w' := by
 obtain ⟨V,hV⟩ : ∃ V,vAt E ak = V := ⟨_,rfl⟩
 obtain ⟨D,hD⟩ : ∃ D,delL E ak = D := ⟨_,rfl⟩
 obtain ⟨x,hx⟩ : ∃ x,oneI it ct = x := ⟨_,rfl⟩
 obtain ⟨x0,x1,x2,x3⟩ := x
 rw [hV,hx] at hr hq
 rw [hV,hD]
 have HE := Lib.hid hE
 have HV := Lib.hid hV
 have HD := Lib.hid hD
 have Hx := Lib.hid hx
 have Hr := Lib.hid hr
 have Hq := Lib.hid hq
 clear hE hV hD hx hr hq
 go_enter Tryz.func36,Tryz.ntmps36
 go_wp2_with (first|(refine zbx hS ?_;clear hS;intro bO w hS)|(refine zal hS ?_;clear hS;intro bR w hS))
 have hS1 := hS.sel (L' := evP eb m1 m2 m3 m4 E :: blk bR _ _ :: blk bO _ _ :: R) (by exact selS)
 clear hS
 refine Aa7 [0,0,2,6,15,0,32,96,0,287,1023,2047,4095] (fun i => i == 4) (fun i => if i == 9 then some (.agg #[.int .i64 x0,.int .i64 x1,.int .i64 x2,.int .i64 x3]) else if i == 10 then some (.int .i64 r) else none)
  [⟨some 4,some 10,fun nd => atR (nd 4) eb m1 m2 m3 m4 D ak V i⟩,⟨some 10,none,fun nd => atR (nd 4) eb m1 m2 m3 m4 D ak ⟨q,V.L,V.n⟩ (i + 1)⟩,⟨some 12,none,fun _ => blk bR [.int .i64 r,.int .i64 0,.int .i64 0,.int .i64 0,.int .i64 0,.int .i64 0] 31⟩] [some 4,some 12,none] (by kernel_rfl) (by kernel_rfl) rfl hS1 (CongOk.cons (fun nd nd' h => by dsimp only;rw [h 4 rfl rfl]) (CongOk.cons (fun nd nd' h => by dsimp only;rw [h 4 rfl rfl]) (CongOk.cons (fun _ _ _ => rfl) CongOk.nil))) ?_
 clear hS1
 intro nd
 (refine cQ ?_;intro K hK;go_big_quiet_op;go_big_quiet_on)
 iterate 2 (refine cQ ?_;intro K hK;go_big_quiet_op;go_big_quiet_on)
 (refine zc1 ?_)
 (apply AS7;rfl;rfl;(with_reducible rfl);decide +kernel;(focus (simp only [fD,fI,fJ,Act.eval,fE,fF,fG,fH,fK];try rfl));(intro _;rfl);(intro F w hS;exact atF HE.out HV.out HD.out hS);(refine frS ?_))
 iterate 2 (refine cQ ?_;intro K hK;go_big_quiet_op;go_big_quiet_on)
 (refine zc1 ?_)
 (refine zcN ?_)
 (refine zcv ?_ (hs := by (intro F w hS;(try clear hS0);exact Eg7 Hx.out h0 h4 c0 c1 W w _ hS)))
 (refine zcv ?_ (hs := by (intro F w hS;(try clear hS0);exact putF Hr.out Hq.out hS)))
 (refine cQ ?_;intro K hK;go_big_quiet_op;go_big_quiet_on)
 (refine zcs ?_)
 refine Ag7 ?_
 intro w hS
 have hS2 : St W [atR _ eb m1 m2 m3 m4 D ak ⟨q,V.L,V.n⟩ (i + 1),blk bR _ _,blk bO _ _,sats R] w := hS
 clear hS
 have hS := hS2.unpack [_,_,_]
 clear hS2
 simp only [fL,fM] at hS
 go_wp2_with fail
 (apply Ap7;rfl;rfl;rfl;exact hS;decide +kernel;(exact cesS);kernel_rfl)
 obtain ⟨vb,h1,hS3⟩ := atEnd hS
 exact ⟨vb,h1,rfl,hS3.sel (by exact selS)⟩
theorem Jt7 {eb m1 m2 m3 m4 : Nat} {E : Ev} {i : Nat} (hE : EvOk E i) (kd cl sq : Int) (ak aw tk tw : ByteArray) (it ct pr : Int) (bu : Bool) (id : Int) {r1 r2 : Int} {V2 : Vs}
  (h1 : (ordV (vAt E ak) ⟨0,aw,bu,it,ct,pr⟩).1 = r1) (h2 : (ordV (vAt E ak) ⟨0,aw,bu,it,ct,pr⟩).2.1 = r2) (h3 : (ordV (vAt E ak) ⟨0,aw,bu,it,ct,pr⟩).2.2 = V2) (W w : World) (R : List HP) (hS : St W (evP eb m1 m2 m3 m4 E :: R) w) :
  Calls Tryz.prog 38 #[.pointer (some ⟨eb,0,none⟩),oV kd cl sq ak aw tk tw it ct pr bu id] w fun e w' => ∃ vb,VOk V2.ps V2.n (i + 1) ∧ e = .returned (rV r2 r1 0 0 0 0) ∧ St W (evP eb m1 m2 m3 m4 ((ak,(vb,V2)) :: delL E ak) :: R) w' := by
 obtain ⟨V,hV⟩ : ∃ V,vAt E ak = V := ⟨_,rfl⟩
 obtain ⟨D,hD⟩ : ∃ D,delL E ak = D := ⟨_,rfl⟩
 rw [hV] at h1 h2 h3
 rw [hD]
 have H1 := Lib.hid h1
 have H2 := Lib.hid h2
 have H3 := Lib.hid h3
 clear h1 h2 h3
 have HE := Lib.hid hE
 have HV := Lib.hid hV
 have HD := Lib.hid hD
 clear hE hV hD
 go_enter Tryz.func38,Tryz.ntmps38
 go_wp2_with (first|(refine zbx hS ?_;clear hS;intro bO w hS)|(refine zal hS ?_;clear hS;intro bR w hS))
 have hS1 := hS.sel (L' := evP eb m1 m2 m3 m4 E :: blk bR _ _ :: blk bO _ _ :: R) (by exact selS)
 clear hS
 refine Aa7 [0,0,2,6,15,0,32,96,0,256,0,1024,0,4096,0,16384,65504,131071,262143,524287,524287,1048575,4194303] (fun i => i == 4) (fun i => if i == 17 then some (.tuple #[.int .i64 r1,.int .i64 r2]) else none)
  [⟨some 4,some 17,fun nd => atR (nd 4) eb m1 m2 m3 m4 D ak V i⟩,⟨some 17,none,fun nd => atR (nd 4) eb m1 m2 m3 m4 D ak V2 (i + 1)⟩] [some 4,none,none] (by kernel_rfl) (by kernel_rfl) rfl hS1 (CongOk.cons (fun nd nd' h => by dsimp only;rw [h 4 rfl rfl]) (CongOk.cons (fun nd nd' h => by dsimp only;rw [h 4 rfl rfl]) CongOk.nil)) ?_
 clear hS1
 intro nd
 repeat (first|(refine zc1 ?_)|(apply AS7;rfl;rfl;(with_reducible rfl);decide +kernel;(focus (simp only [fD,fI,fJ,Act.eval,fE,fF,fG,fH,fK];try rfl));(intro _;rfl);(intro F w hS;exact atF HE.out HV.out HD.out hS);(refine frS ?_))|(refine zcv ?_ (hs := by (intro F w hS;(try clear hS0);exact ordF H1.out H2.out H3.out hS)))|(refine cQ ?_;intro K hK;go_big_quiet_op;go_big_quiet_on))
 refine Ag7 ?_
 intro w hS
 have hS2 : St W [atR _ eb m1 m2 m3 m4 D ak V2 (i + 1),blk bR _ _,blk bO _ _,sats R] w := hS
 clear hS
 have hS := hS2.unpack [_,_,_]
 clear hS2
 simp only [fL,fM] at hS
 go_wp2_with (first|(refine zsN hS ?_;clear hS;intro w hS))
 (apply Ap7;rfl;rfl;rfl;exact hS;decide +kernel;(exact cesS);kernel_rfl)
 obtain ⟨vb,h1,hS3⟩ := atEnd (hS.sel (L' := atR _ eb m1 m2 m3 m4 D ak V2 (i + 1) :: R) (by exact selS))
 exact ⟨vb,h1,rfl,hS3⟩
theorem GS7 {eb m1 m2 m3 m4 : Nat} {E : Ev} {i : Nat} (hE : EvOk E i) (kd cl sq : Int) (ak aw tk tw : ByteArray) (it ct pr : Int) (bu : Bool) (id : Int) {r : Int} {V2 : Vs}
  (h1 : (canV (vAt E ak) aw id).1 = r) (h2 : (canV (vAt E ak) aw id).2 = V2) (W w : World) (R : List HP) (hS : St W (evP eb m1 m2 m3 m4 E :: R) w) :
  Calls Tryz.prog 39 #[.pointer (some ⟨eb,0,none⟩),oV kd cl sq ak aw tk tw it ct pr bu id] w fun e w' => ∃ vb,VOk V2.ps V2.n (i + 1) ∧ e = .returned (rV r 0 0 0 0 0) ∧ St W (evP eb m1 m2 m3 m4 ((ak,(vb,V2)) :: delL E ak) :: R) w' := by
 obtain ⟨V,hV⟩ : ∃ V,vAt E ak = V := ⟨_,rfl⟩
 obtain ⟨D,hD⟩ : ∃ D,delL E ak = D := ⟨_,rfl⟩
 rw [hV] at h1 h2
 rw [hD]
 have H1 := Lib.hid h1
 have H2 := Lib.hid h2
 clear h1 h2
 have HE := Lib.hid hE
 have HV := Lib.hid hV
 have HD := Lib.hid hD
 clear hE hV hD
 go_enter Tryz.func39,Tryz.ntmps39
 go_wp2_with (first|(refine zbx hS ?_;clear hS;intro bO w hS)|(refine zal hS ?_;clear hS;intro bR w hS))
 have hS1 := hS.sel (L' := evP eb m1 m2 m3 m4 E :: blk bR _ _ :: blk bO _ _ :: R) (by exact selS)
 clear hS
 refine Aa7 [0,0,2,6,15,0,32,96,0,256,1023,2047,4095] (fun i => i == 4) (fun i => if i == 10 then some (.int .i64 r) else none)
  [⟨some 4,some 10,fun nd => atR (nd 4) eb m1 m2 m3 m4 D ak V i⟩,⟨some 10,none,fun nd => atR (nd 4) eb m1 m2 m3 m4 D ak V2 (i + 1)⟩,⟨some 12,none,fun _ => blk bR [.int .i64 r,.int .i64 0,.int .i64 0,.int .i64 0,.int .i64 0,.int .i64 0] 31⟩] [some 4,some 12,none] (by kernel_rfl) (by kernel_rfl) rfl hS1 (CongOk.cons (fun nd nd' h => by dsimp only;rw [h 4 rfl rfl]) (CongOk.cons (fun nd nd' h => by dsimp only;rw [h 4 rfl rfl]) (CongOk.cons (fun _ _ _ => rfl) CongOk.nil))) ?_
 clear hS1
 intro nd
 repeat (first|(refine zc1 ?_)|(apply AS7;rfl;rfl;(with_reducible rfl);decide +kernel;(focus (simp only [fD,fI,fJ,Act.eval,fE,fF,fG,fH,fK];try rfl));(intro _;rfl);(intro F w hS;exact atF HE.out HV.out HD.out hS);(refine frS ?_))|(refine zcv ?_ (hs := by (intro F w hS;(try clear hS0);exact canF H1.out H2.out hS)))|(refine zcs ?_)|(refine cQ ?_;intro K hK;go_big_quiet_op;go_big_quiet_on))
 refine Ag7 ?_
 intro w hS
 have hS2 : St W [atR _ eb m1 m2 m3 m4 D ak V2 (i + 1),blk bR _ _,blk bO _ _,sats R] w := hS
 clear hS
 have hS := hS2.unpack [_,_,_]
 clear hS2
 simp only [fL,fM] at hS
 go_wp2_with fail
 (apply Ap7;rfl;rfl;rfl;exact hS;decide +kernel;(exact cesS);kernel_rfl)
 obtain ⟨vb,h1,hS3⟩ := atEnd hS
 exact ⟨vb,h1,rfl,hS3.sel (by exact selS)⟩
theorem HK7 {eb m1 m2 m3 m4 : Nat} {E : Ev} {i : Nat} (hE : EvOk E i) (kd cl sq : Int) (ak aw tk tw : ByteArray) (it ct pr : Int) (bu : Bool) (id : Int) (ar : List ((Int × Int) × Unit)) (h0 : 0 ≤ it) (h4 : it < 4) (c0 : 1 ≤ ct) (c1 : ct ≤ 1048576) {q : Ps}
  (hq : putP (vAt E ak).ps aw (oneI it ct) = q) (W w : World) (R : List HP) (hS : St W (evP eb m1 m2 m3 m4 E :: amap eW eU m4 ar :: R) w) :
  Calls Tryz.prog 41 #[.pointer (some ⟨eb,0,none⟩),oV kd cl sq ak aw tk tw it ct pr bu id] w fun e w' => ∃ vb,VOk q (vAt E ak).n (i + 1) ∧ e = .returned (rV 0 0 0 0 0 0) ∧
   St W (evP eb m1 m2 m3 m4 ((ak,(vb,⟨q,(vAt E ak).L,(vAt E ak).n⟩)) :: delL E ak) :: amap eW eU m4 (((cl,sq),()) :: delL ar (cl,sq)) :: R) w' := by
 obtain ⟨V,hV⟩ : ∃ V,vAt E ak = V := ⟨_,rfl⟩
 obtain ⟨D,hD⟩ : ∃ D,delL E ak = D := ⟨_,rfl⟩
 obtain ⟨x,hx⟩ : ∃ x,oneI it ct = x := ⟨_,rfl⟩
 obtain ⟨x0,x1,x2,x3⟩ := x
 rw [hV,hx] at hq
 obtain ⟨r,hr⟩ : ∃ r,putE V.ps aw ⟨x0,x1,x2,x3⟩ = r := ⟨_,rfl⟩
 rw [hV,hD]
 have Hx := Lib.hid hx
 have Hr := Lib.hid hr
 have Hq := Lib.hid hq
 clear hx hr hq
 have HE := Lib.hid hE
 have HV := Lib.hid hV
 have HD := Lib.hid hD
 clear hE hV hD
 go_enter Tryz.func41,Tryz.ntmps41
 go_wp2_with (first|(refine zbx hS ?_;clear hS;intro bO w hS)|(refine zal hS ?_;clear hS;intro bR w hS))
 have hS1 := hS.sel (L' := evP eb m1 m2 m3 m4 E :: blk bR _ _ :: blk bO _ _ :: amap eW eU m4 ar :: R) (by exact selS)
 clear hS
 refine Aa7 [0,0,2,6,15,0,32,96,0,287,1023] (fun i => i == 4) (fun i => if i == 9 then some (.agg #[.int .i64 x0,.int .i64 x1,.int .i64 x2,.int .i64 x3]) else if i == 10 then some (.int .i64 r) else none)
  [⟨some 4,some 10,fun nd => atR (nd 4) eb m1 m2 m3 m4 D ak V i⟩,⟨some 10,none,fun nd => atR (nd 4) eb m1 m2 m3 m4 D ak ⟨q,V.L,V.n⟩ (i + 1)⟩] [some 4,none,none] (by kernel_rfl) (by kernel_rfl) rfl hS1 (CongOk.cons (fun nd nd' h => by dsimp only;rw [h 4 rfl rfl]) (CongOk.cons (fun nd nd' h => by dsimp only;rw [h 4 rfl rfl]) CongOk.nil)) ?_
 clear hS1
 intro nd
 repeat (first|(refine zc1 ?_)|(refine zcN ?_)|(apply AS7;rfl;rfl;(with_reducible rfl);decide +kernel;(focus (simp only [fD,fI,fJ,Act.eval,fE,fF,fG,fH,fK];try rfl));(intro _;rfl);(intro F w hS;exact atF HE.out HV.out HD.out hS);(refine frS ?_))|(refine zcv ?_ (hs := by (intro F w hS;(try clear hS0);exact Eg7 Hx.out h0 h4 c0 c1 W w _ hS)))|(refine zcv ?_ (hs := by (intro F w hS;(try clear hS0);exact putF Hr.out Hq.out hS)))|(refine cQ ?_;intro K hK;go_big_quiet_op;go_big_quiet_on))
 refine Ag7 ?_
 intro w hS
 have hS2 : St W [atR _ eb m1 m2 m3 m4 D ak ⟨q,V.L,V.n⟩ (i + 1),blk bR _ _,blk bO _ _,sats (amap eW eU m4 ar :: R)] w := hS
 clear hS
 have hS := hS2.unpack [_,_,_]
 clear hS2
 simp only [fL,fM] at hS
 obtain ⟨vb,h1,hS3⟩ := atEnd hS
 clear hS
 have H1 := Lib.hid h1
 clear h1
 have hS := evOpen hS3
 clear hS3
 go_wp2_with fail
 refine Af7 9 (by kernel_rfl) (by kernel_rfl) hS ?_
 repeat (first|(refine zq1 ?_)|(refine zqn ?_)|(refine qQ ?_;intro K hK;go_big_quiet_op;go_big_quiet_on))
 clear hS
 intro w hS
 simp only [List.drop_succ_cons,List.drop_zero]
 go_wp2_with (first|((with_reducible apply Bi7 (ek := eW) (ev := eU) (k := (cl,sq)) (u := ()) hS);(with_reducible rfl);rfl;rfl;rfl;(exact takeS);(focus (rfl));exact mAr;exact kW;clear hS;intro w hS;try (refine frS ?_))|(refine zsN hS ?_;clear hS;intro w hS))
 (apply Ap7;rfl;rfl;rfl;exact hS;decide +kernel;(exact cesS);kernel_rfl)
 exact ⟨vb,H1.out,rfl,(evShut (hS.sel (L' := ebB eb m1 m2 m3 m4 :: amap eS eN m1 _ :: vauP _ :: amap eW eU m4 _ :: R) (by exact selS)))⟩
theorem KK7 {eb m1 m2 m3 m4 : Nat} {E : Ev} (kd cl sq : Int) (ak aw tk tw : ByteArray) (it ct pr : Int) (bu : Bool) (id : Int) (ts : List ((Int × Int) × Tns)) (W w : World) (R : List HP) (hS : St W (evP eb m1 m2 m3 m4 E :: amap eW eTn m3 ts :: R) w) :
  Calls Tryz.prog 42 #[.pointer (some ⟨eb,0,none⟩),oV kd cl sq ak aw tk tw it ct pr bu id] w fun e w' => e = .returned (rV 0 0 0 0 0 0) ∧ St W (evP eb m1 m2 m3 m4 E :: amap eW eTn m3 (delL ts (cl,sq)) :: R) w' := by
 have hS1 := evOpen hS
 clear hS
 have hS := hS1
 clear hS1
 go_enter Tryz.func42,Tryz.ntmps42
 go_wp2_with (first|(refine zbx hS ?_;clear hS;intro bO w hS)|(refine zal hS ?_;clear hS;intro bR w hS))
 refine Af7 9 (by kernel_rfl) (by kernel_rfl) hS ?_
 repeat (first|(refine zq1 ?_)|(refine zqn ?_)|(refine qQ ?_;intro K hK;go_big_quiet_op;go_big_quiet_on))
 clear hS
 intro w hS
 simp only [List.drop_succ_cons,List.drop_zero]
 go_wp2_with (first|((with_reducible apply Ht7 (ek := eW) (ev := eTn) (k := (cl,sq)) hS);(with_reducible rfl);rfl;rfl;rfl;(exact takeS);exact mT;exact kW;clear hS;intro w hS;try (refine frS ?_))|(refine zsN hS ?_;clear hS;intro w hS))
 (apply Ap7;rfl;rfl;rfl;exact hS;decide +kernel;(exact cesS);kernel_rfl)
 exact ⟨rfl,evShut (hS.sel (L' := ebB eb m1 m2 m3 m4 :: amap eS eN m1 _ :: vauP _ :: amap eW eTn m3 _ :: R) (by exact selS))⟩
end Go.Proofs.YtlmhakmoioogaaaGreat
end
section
namespace Go.Sl
open Go.RowKit
section
variable {κ ν : Type} [DecidableEq κ] {P : Program} {t K E : TypeId} {ek : κ → Value} {ev : ν → Value} {W w : World} {L R : List HP} {b : Nat} {l : List (κ × ν)} {ops : Array Oper} {a : Act} {rest : List Oper} {o : Oper}
theorem GT7 {Q : Act → Prop} {x y : Operand} {k : κ} {z v : Value} {ok : Bool} (ho : o.op = .lookup t x y ok) (hg : Region.wanted o (yielded ops a.tmps) = true) (hx : a.eval x = .map (some b)) (hy : a.eval y = ek k) (hu : Take L (amap ek ev b l) R)
  (ht : tyMap P t = some (K,E)) (hK : KeyOk P K ek) (hz : tyZeroV P E = some z) (hv : lookR ok z ((getL l k).map ev) = v) (h : wpQuiet P ops (St W L) Q rest (a.put o.dst v)) : wpQuiet P ops (St W L) Q (o :: rest) a :=
 Fc7 hg (fun w hS => by
  unfold execOp
  simp [ho,hx,hy,CP7 (hS.take hu) ht hK hz,hv]) h
theorem Az7 {tb : List Nat} {toks : List Tok} {fresh : Nat → Bool} {pin : Nat → Option Value} {Qf : Act → Prop} {nd : Nat → Value} {i : Nat} {x y : Operand} {k : κ} {z v : Value} {ok : Bool} (hf : fresh i = false) (hn : noTok toks i = true) (ho : o.op = .lookup t x y ok) (hg : Region.wanted o (yielded ops a.tmps) = true) (hx : a.eval x = .map (some b)) (hy : a.eval y = ek k)
  (hu : ∀ F, ∃ R,Take (kpL toks tb i nd ++ F) (amap ek ev b l) R) (ht : tyMap P t = some (K,E)) (hK : KeyOk P K ek) (hz : tyZeroV P E = some z) (hv : lookR ok z ((getL l k).map ev) = v) (h : Chain P W ops tb toks fresh pin Qf nd (i + 1) rest (a.put o.dst v)) : Chain P W ops tb toks fresh pin Qf nd i (o :: rest) a :=
 Fe7 hf hn hg (fun F w hS => by
  obtain ⟨R,hu⟩ := hu F
  unfold execOp
  simp [ho,hx,hy,CP7 (hS.take hu) ht hK hz,hv]) h
end
end Go.Sl
namespace Go.Proofs.YtlmhakmoioogaaaGreat
open Go.RowKit Go.Sl
theorem II7 {eb m1 m2 m3 m4 : Nat} {E : Ev} (k u : ByteArray) {x0 x1 x2 x3 : Int} (hx : purseA (vAt E k).ps u = ⟨x0,x1,x2,x3⟩) (W w : World) (R : List HP) (hS : St W (evP eb m1 m2 m3 m4 E :: R) w) :
  Calls Tryz.prog 18 #[.pointer (some ⟨eb,0,none⟩),.agg #[.string k,.string u]] w fun e w' => e = .returned (.agg #[.int .i64 x0,.int .i64 x1,.int .i64 x2,.int .i64 x3]) ∧ St W (evP eb m1 m2 m3 m4 E :: R) w' := by
 have hS1 := evOpen hS
 clear hS
 have hS := hS1
 clear hS1
 have hnd : (E.map (·.1)).Nodup := by rw [← AD7];exact amapKeys hS.drop
 cases hg : getL E k with
 | none =>
  have hgl : lookR false (.pointer none) ((getL (ptrsE E) k).map eN) = .pointer none := by rw [Cw7,hg];rfl
  have hv : vAt E k = vs0 := by unfold vAt;rw [hg];rfl
  rw [hv] at hx
  cases hx
  go_enter Tryz.func18,Tryz.ntmps18
  go_wp2_with (first|(refine zbx hS ?_;clear hS;intro bO w hS)|(refine zal hS ?_;clear hS;intro bR w hS))
  refine Af7 10 (by kernel_rfl) (by kernel_rfl) hS ?_
  repeat (first|(refine zq1 ?_)|(refine zqn ?_)|((apply GT7 (ek := eS) (ev := eN) (k := k));(with_reducible rfl);rfl;rfl;rfl;(exact takeS);exact mV;exact kS;exact zV;exact hgl;(refine frS ?_))|(apply Ar7;rfl;(intro w;apply Ai7;(with_reducible rfl);decide +kernel;(focus (simp only [fD,fI,fJ,Act.eval,fE,fF,fG,fH,fK];try rfl)));(intro w hS;exact Ns7 u W w _ hS);(refine frS ?_))|(refine qQ ?_;intro K hK;go_big_quiet_op;go_big_quiet_on))
  clear hS
  intro w hS
  simp only [List.drop_succ_cons,List.drop_zero]
  go_wp2_with (first|(refine zsN hS ?_;clear hS;intro w hS))
  (apply Ap7;rfl;rfl;rfl;exact hS;decide +kernel;(exact cesS);kernel_rfl)
  exact ⟨rfl,evShut (hS.sel (by exact selS))⟩
 | some x =>
  obtain ⟨vb,V⟩ := x
  have hgl : lookR false (.pointer none) ((getL (ptrsE E) k).map eN) = eN vb := by rw [Cw7,hg];rfl
  have hp := BW7 hnd hg
  have hv : vAt E k = V := by unfold vAt;rw [hg];rfl
  rw [hv] at hx
  have h1 : St W (vauP E :: ebB eb m1 m2 m3 m4 :: amap eS eN m1 (ptrsE E) :: R) w := hS.sel (by exact selS)
  have h2 := vauOpen (vauPerm hp h1)
  obtain ⟨mb,bb,h3⟩ := vaultOpen h2
  clear hS h1 h2
  have hS := h3
  clear h3
  go_enter Tryz.func18,Tryz.ntmps18
  go_wp2_with (first|(refine zbx hS ?_;clear hS;intro bO w hS)|(refine zal hS ?_;clear hS;intro bR w hS))
  have hS1 := hS.sel (L' := blk vb _ _ :: amap eS eP mb V.ps :: blk bR _ _ :: blk bO _ _ :: ebB eb m1 m2 m3 m4 :: amap eS eN m1 (ptrsE E) :: bookL bb V.L V.n :: vauP (delL E k) :: R) (by exact selS)
  clear hS
  refine Af7 10 (by kernel_rfl) (by kernel_rfl) hS1 ?_
  repeat (first|(refine zq1 ?_)|(refine zqn ?_)|((apply GT7 (ek := eS) (ev := eN) (k := k));(with_reducible rfl);rfl;rfl;rfl;(exact takeS);exact mV;exact kS;exact zV;exact hgl;(refine frS ?_))|(apply Ar7;rfl;(intro w;apply Ai7;(with_reducible rfl);decide +kernel;(focus (simp only [fD,fI,fJ,Act.eval,fE,fF,fG,fH,fK];try rfl)));(intro w hS;exact Or7 vb mb W w _ _ _ hx hS);(refine frS ?_))|(refine qQ ?_;intro K hK;go_big_quiet_op;go_big_quiet_on))
  clear hS1
  intro w hS
  simp only [List.drop_succ_cons,List.drop_zero]
  go_wp2_with (first|(refine zsN hS ?_;clear hS;intro w hS))
  (apply Ap7;rfl;rfl;rfl;exact hS;decide +kernel;(exact cesS);kernel_rfl)
  have h4 := vaultShut (V := V) (hS.sel (L' := vaultL vb mb bb V.ps V.L V.n (vauP (delL E k) :: ebB eb m1 m2 m3 m4 :: amap eS eN m1 (ptrsE E) :: R)) (by exact selS))
  have h5 := vauPerm hp.symm (vauShut (x := (k,(vb,V))) h4)
  exact ⟨rfl,evShut (h5.sel (by exact selS))⟩
theorem KL7 {eb m1 m2 m3 m4 : Nat} {E : Ev} (kd cl sq : Int) (ak aw tk tw : ByteArray) (it ct pr : Int) (bu : Bool) (id : Int) {x0 x1 x2 x3 : Int} (hx : purseA (vAt E ak).ps aw = ⟨x0,x1,x2,x3⟩) (W w : World) (R : List HP) (hS : St W (evP eb m1 m2 m3 m4 E :: R) w) :
  Calls Tryz.prog 40 #[.pointer (some ⟨eb,0,none⟩),oV kd cl sq ak aw tk tw it ct pr bu id] w fun e w' => e = .returned (rV 0 0 x0 x1 x2 x3) ∧ St W (evP eb m1 m2 m3 m4 E :: R) w' := by
 go_enter Tryz.func40,Tryz.ntmps40
 go_wp2_with (first|(refine zbx hS ?_;clear hS;intro bO w hS)|(refine zal hS ?_;clear hS;intro bR w hS)|(refine zlN hS ?_ (vs := [.string ak,.string aw]) (hc := by first|exact Cells.here rfl|exact Cells.there (Cells.here rfl)))|(refine zsN hS ?_;clear hS;intro w hS)|(go_at_call 18;refine (II7 ak aw hx W _ _ (hS.sel (L' := evP eb m1 m2 m3 m4 E :: blk bR _ _ :: blk bO _ _ :: R) (by exact selS))).mono ?_;clear hS;rintro e w ⟨rfl,hS⟩))
 (apply Ap7;rfl;rfl;rfl;exact hS;decide +kernel;(exact cesS);kernel_rfl)
 exact ⟨rfl,hS.sel (by exact selS)⟩
theorem NE7 {eb m1 m2 m3 m4 : Nat} {E : Ev} {i : Nat} (hE : EvOk E i) (kd cl sq : Int) (ak aw tk tw : ByteArray) (it ct pr : Int) (bu : Bool) (id : Int) (ts : List ((Int × Int) × Tns)) (h0 : 0 ≤ it) (h4 : it < 4) (c0 : 1 ≤ ct) (c1 : ct ≤ 1048576) {r : Int} {q : Ps}
  (hr : takeE (vAt E ak).ps aw (oneI it ct) = r) (hr0 : (r == 0) = false) (hq : takeP (vAt E ak).ps aw (oneI it ct) = q) (W w : World) (R : List HP) (hS : St W (evP eb m1 m2 m3 m4 E :: amap eW eTn m3 ts :: R) w) :
  Calls Tryz.prog 37 #[.pointer (some ⟨eb,0,none⟩),oV kd cl sq ak aw tk tw it ct pr bu id] w fun e w' => ∃ vb,VOk q (vAt E ak).n (i + 1) ∧ e = .returned (rV r 0 0 0 0 0) ∧
   St W (evP eb m1 m2 m3 m4 ((ak,(vb,⟨q,(vAt E ak).L,(vAt E ak).n⟩)) :: delL E ak) :: amap eW eTn m3 ts :: R) w' := by
 obtain ⟨V,hV⟩ : ∃ V,vAt E ak = V := ⟨_,rfl⟩
 obtain ⟨D,hD⟩ : ∃ D,delL E ak = D := ⟨_,rfl⟩
 obtain ⟨x,hx⟩ : ∃ x,oneI it ct = x := ⟨_,rfl⟩
 obtain ⟨x0,x1,x2,x3⟩ := x
 rw [hV,hx] at hr hq
 rw [hV,hD]
 have Hx := Lib.hid hx
 have Hr := Lib.hid hr
 have Hq := Lib.hid hq
 clear hx hr hq
 have HE := Lib.hid hE
 have HV := Lib.hid hV
 have HD := Lib.hid hD
 clear hE hV hD
 go_enter Tryz.func37,Tryz.ntmps37
 go_wp2_with (first|(refine zbx hS ?_;clear hS;intro bO w hS)|(refine zal hS ?_;clear hS;intro bR w hS))
 have hS1 := hS.sel (L' := evP eb m1 m2 m3 m4 E :: blk bR _ _ :: blk bO _ _ :: amap eW eTn m3 ts :: R) (by exact selS)
 clear hS
 refine Aa7 [0,0,2,6,15,0,32,96,0,287,1023,2047] (fun i => i == 4) (fun i => if i == 9 then some (.agg #[.int .i64 x0,.int .i64 x1,.int .i64 x2,.int .i64 x3]) else if i == 10 then some (.int .i64 r) else none)
  [⟨some 4,some 10,fun nd => atR (nd 4) eb m1 m2 m3 m4 D ak V i⟩,⟨some 10,none,fun nd => atR (nd 4) eb m1 m2 m3 m4 D ak ⟨q,V.L,V.n⟩ (i + 1)⟩] [some 4,none,none] (by kernel_rfl) (by kernel_rfl) rfl hS1 (CongOk.cons (fun nd nd' h => by dsimp only;rw [h 4 rfl rfl]) (CongOk.cons (fun nd nd' h => by dsimp only;rw [h 4 rfl rfl]) CongOk.nil)) ?_
 clear hS1
 intro nd
 repeat (first|(refine zc1 ?_)|(refine zcN ?_)|(apply AS7;rfl;rfl;(with_reducible rfl);decide +kernel;(focus (simp only [fD,fI,fJ,Act.eval,fE,fF,fG,fH,fK];try rfl));(intro _;rfl);(intro F w hS;exact atF HE.out HV.out HD.out hS);(refine frS ?_))|(refine zcv ?_ (hs := by (intro F w hS;(try clear hS0);exact Eg7 Hx.out h0 h4 c0 c1 W w _ hS)))|(refine zcv ?_ (hs := by (intro F w hS;(try clear hS0);exact takeF Hr.out Hq.out hS)))|(refine cQ ?_;intro K hK;go_big_quiet_op;go_big_quiet_on))
 refine Ag7 ?_
 intro w hS
 have hS2 : St W [atR _ eb m1 m2 m3 m4 D ak ⟨q,V.L,V.n⟩ (i + 1),blk bR _ _,blk bO _ _,sats (amap eW eTn m3 ts :: R)] w := hS
 clear hS
 have hS := hS2.unpack [_,_,_]
 clear hS2
 simp only [fL,fM] at hS
 obtain ⟨vb,h1,hS3⟩ := atEnd hS
 clear hS
 have H1 := Lib.hid h1
 clear h1
 have hS := evOpen hS3
 clear hS3
 go_wp2_with (first|(refine zsN hS ?_;clear hS;intro w hS))
 (apply Ap7;rfl;rfl;rfl;exact hS;decide +kernel;(exact cesS);kernel_rfl)
 exact ⟨H1.out,rfl,vb,evShut (hS.sel (L' := ebB eb m1 m2 m3 m4 :: amap eS eN m1 _ :: vauP _ :: amap eW eTn m3 ts :: R) (by exact selS))⟩
theorem Mp7 {eb m1 m2 m3 m4 : Nat} {E : Ev} {i : Nat} (hE : EvOk E i) (kd cl sq : Int) (ak aw tk tw : ByteArray) (it ct pr : Int) (bu : Bool) (id : Int) (ts : List ((Int × Int) × Tns)) (h0 : 0 ≤ it) (h4 : it < 4) (c0 : 1 ≤ ct) (c1 : ct ≤ 1048576) {q : Ps}
  (hr : takeE (vAt E ak).ps aw (oneI it ct) = 0) (hq : takeP (vAt E ak).ps aw (oneI it ct) = q) (W w : World) (R : List HP) (hS : St W (evP eb m1 m2 m3 m4 E :: amap eW eTn m3 ts :: R) w) :
  Calls Tryz.prog 37 #[.pointer (some ⟨eb,0,none⟩),oV kd cl sq ak aw tk tw it ct pr bu id] w fun e w' => ∃ vb,VOk q (vAt E ak).n (i + 1) ∧ e = .returned (rV 0 0 0 0 0 0) ∧
   St W (evP eb m1 m2 m3 m4 ((ak,(vb,⟨q,(vAt E ak).L,(vAt E ak).n⟩)) :: delL E ak) :: amap eW eTn m3 (((cl,sq),⟨cl,sq,ak,aw,tk,tw,it,ct⟩) :: delL ts (cl,sq)) :: R) w' := by
 obtain ⟨V,hV⟩ : ∃ V,vAt E ak = V := ⟨_,rfl⟩
 obtain ⟨D,hD⟩ : ∃ D,delL E ak = D := ⟨_,rfl⟩
 obtain ⟨x,hx⟩ : ∃ x,oneI it ct = x := ⟨_,rfl⟩
 obtain ⟨x0,x1,x2,x3⟩ := x
 rw [hV,hx] at hr hq
 rw [hV,hD]
 have Hx := Lib.hid hx
 have Hr := Lib.hid hr
 have Hq := Lib.hid hq
 clear hx hr hq
 have HE := Lib.hid hE
 have HV := Lib.hid hV
 have HD := Lib.hid hD
 clear hE hV hD
 go_enter Tryz.func37,Tryz.ntmps37
 go_wp2_with (first|(refine zbx hS ?_;clear hS;intro bO w hS)|(refine zal hS ?_;clear hS;intro bR w hS))
 have hS1 := hS.sel (L' := evP eb m1 m2 m3 m4 E :: blk bR _ _ :: blk bO _ _ :: amap eW eTn m3 ts :: R) (by exact selS)
 clear hS
 refine Aa7 [0,0,2,6,15,0,32,96,0,287,1023,2047] (fun i => i == 4) (fun i => if i == 9 then some (.agg #[.int .i64 x0,.int .i64 x1,.int .i64 x2,.int .i64 x3]) else if i == 10 then some (.int .i64 0) else none)
  [⟨some 4,some 10,fun nd => atR (nd 4) eb m1 m2 m3 m4 D ak V i⟩,⟨some 10,none,fun nd => atR (nd 4) eb m1 m2 m3 m4 D ak ⟨q,V.L,V.n⟩ (i + 1)⟩] [some 4,none,none] (by kernel_rfl) (by kernel_rfl) rfl hS1 (CongOk.cons (fun nd nd' h => by dsimp only;rw [h 4 rfl rfl]) (CongOk.cons (fun nd nd' h => by dsimp only;rw [h 4 rfl rfl]) CongOk.nil)) ?_
 clear hS1
 intro nd
 repeat (first|(refine zc1 ?_)|(refine zcN ?_)|(apply AS7;rfl;rfl;(with_reducible rfl);decide +kernel;(focus (simp only [fD,fI,fJ,Act.eval,fE,fF,fG,fH,fK];try rfl));(intro _;rfl);(intro F w hS;exact atF HE.out HV.out HD.out hS);(refine frS ?_))|(refine zcv ?_ (hs := by (intro F w hS;(try clear hS0);exact Eg7 Hx.out h0 h4 c0 c1 W w _ hS)))|(refine zcv ?_ (hs := by (intro F w hS;(try clear hS0);exact takeF Hr.out Hq.out hS)))|(refine cQ ?_;intro K hK;go_big_quiet_op;go_big_quiet_on))
 refine Ag7 ?_
 intro w hS
 have hS2 : St W [atR _ eb m1 m2 m3 m4 D ak ⟨q,V.L,V.n⟩ (i + 1),blk bR _ _,blk bO _ _,sats (amap eW eTn m3 ts :: R)] w := hS
 clear hS
 have hS := hS2.unpack [_,_,_]
 clear hS2
 simp only [fL,fM] at hS
 obtain ⟨vb,h1,hS3⟩ := atEnd hS
 clear hS
 have H1 := Lib.hid h1
 clear h1
 have hS := evOpen hS3
 clear hS3
 go_wp2_with fail
 refine Af7 22 (by kernel_rfl) (by kernel_rfl) hS ?_
 repeat (first|(refine zq1 ?_)|(refine zqN ?_ (hc := by first|exact Cells.here (vs := [.string ak,.string aw]) rfl|exact Cells.there (Cells.here (vs := [.string ak,.string aw]) rfl)|exact Cells.there (Cells.there (Cells.there (Cells.there (Cells.here (vs := [.string ak,.string aw]) rfl))))|exact Cells.there (Cells.there (Cells.there (Cells.here (vs := [.string ak,.string aw]) rfl)))))|(refine zqN ?_ (hc := by first|exact Cells.here (vs := [.string tk,.string tw]) rfl|exact Cells.there (Cells.here (vs := [.string tk,.string tw]) rfl)|exact Cells.there (Cells.there (Cells.there (Cells.there (Cells.here (vs := [.string tk,.string tw]) rfl))))|exact Cells.there (Cells.there (Cells.there (Cells.here (vs := [.string tk,.string tw]) rfl)))))|(refine zqn ?_)|(refine qQ ?_;intro K hK;go_big_quiet_op;go_big_quiet_on))
 clear hS
 intro w hS
 simp only [List.drop_succ_cons,List.drop_zero]
 go_wp2_with (first|((with_reducible apply Bi7 (ek := eW) (ev := eTn) (k := (cl,sq)) (u := (⟨cl,sq,ak,aw,tk,tw,it,ct⟩ : Tns)) hS);(with_reducible rfl);rfl;rfl;rfl;(exact takeS);(focus (rfl));exact mT;exact kW;clear hS;intro w hS;try (refine frS ?_))|(refine zsN hS ?_;clear hS;intro w hS))
 (apply Ap7;rfl;rfl;rfl;exact hS;decide +kernel;(exact cesS);kernel_rfl)
 exact ⟨vb,H1.out,rfl,evShut (hS.sel (L' := ebB eb m1 m2 m3 m4 :: amap eS eN m1 _ :: vauP _ :: amap eW eTn m3 _ :: R) (by exact selS))⟩
end Go.Proofs.YtlmhakmoioogaaaGreat
end
