/-
  An economy's maps: what their keys are, what is zero; New; the vault at a key. For every economy.
  Is a vault none; a vault that is none is taken out; so many of an item. For every economy.
  The vault at a key, as what a call tells of; what is done to it; mint. For every economy.
  What is done to each kind of request: order, cancel, arrive, send, done. For every economy.
-/
import Derived.Test.YtlmhakmoioogaaaGreatEconTotalM5
import Derived.Test.YtlmhakmoioogaaaGreatEconTotalM22
import Derived.Test.YtlmhakmoioogaaaGreatEconTotalM24
set_option maxHeartbeats 16000000
set_option linter.unusedSimpArgs false
set_option linter.unusedVariables false
section
namespace Go.Proofs.YtlmhakmoioogaaaGreat
open Go.RowKit Go.Sl
set_option maxRecDepth 100000 in
theorem eqWhich (a b : Int × Int) (w : World) : (Op.equal 94 (eW a) (eW b)).run Tryz.prog w = .ok (decide (a = b)) w := by
 have u3 := Tryz.underlying3
 have a3 := Tryz.isAgg3
 have z3 := Tryz.sizeOf3
 have hs : Tryz.prog.stoodInHeld 94 = false := by kernel_rfl
 obtain ⟨a0,a1⟩ := a
 obtain ⟨b0,b1⟩ := b
 have h : ∀ d : Nat,(Op.equalIn (d + 2) 94 (eW (a0,a1)) (eW (b0,b1))).run Tryz.prog w = .ok (decide ((a0,a1) = (b0,b1))) w := fun d => by
  rw [Op.equalIn]
  simp only [Sem.run_bind,run_underlying Tryz.underlying94,Result.andThen_ok,run_program,hs,Bool.false_eq_true,if_false]
  rw [← Array.forIn_toList]
  simp only [List.forIn_cons,List.forIn_nil]
  go_simp
  by_cases h1 : a0 = b0 <;> by_cases h2 : a1 = b1 <;> simp [h1,h2]
 exact h 9998
set_option maxRecDepth 100000 in
theorem chkWhich (e : Bool) (a : Int × Int) (w : World) : (Instr.checkKey e 10000 94 (eW a)).run Tryz.prog w = .ok () w := by
 have u3 := Tryz.underlying3
 have a3 := Tryz.isAgg3
 have z3 := Tryz.sizeOf3
 have h1 : ∀ (d : Nat) (x : Int),(Instr.checkKey e (d + 1) 3 (.int .i64 x)).run Tryz.prog w = .ok () w := fun d x => by
  rw [Instr.checkKey]
  simp [run_underlying u3]
 have h : ∀ d : Nat,(Instr.checkKey e (d + 2) 94 (eW a)).run Tryz.prog w = .ok () w := fun d => by
  rw [Instr.checkKey]
  simp only [Sem.run_bind,run_underlying Tryz.underlying94,Result.andThen_ok]
  rw [← Array.forIn_toList]
  simp only [List.forIn_cons,List.forIn_nil]
  go_simp
 exact h 9998
theorem kW : KeyOk Tryz.prog 94 eW := KeyOk.deep Tryz.underlying94 (fun _ _ => rfl) chkWhich eqWhich (fun k => by simp [Instr.sameBits])
theorem kEi : KeyOk Tryz.prog 3 eI := KeyOk.int Tryz.underlying3
theorem mV : tyMap Tryz.prog 79 = some (9,100) := by kernel_rfl
theorem mS : tyMap Tryz.prog 80 = some (3,90) := by kernel_rfl
theorem mT : tyMap Tryz.prog 81 = some (94,40) := by kernel_rfl
theorem mAr : tyMap Tryz.prog 82 = some (94,4) := by kernel_rfl
theorem zV : tyZeroV Tryz.prog 100 = some (.pointer none) := by kernel_rfl
theorem zS : tyZeroV Tryz.prog 90 = some (eSs (0,rp0)) := by kernel_rfl
theorem zT : tyZeroV Tryz.prog 40 = some (eTn ⟨0,0,⟨#[]⟩,⟨#[]⟩,⟨#[]⟩,⟨#[]⟩,0,0⟩) := by kernel_rfl
theorem zA : tyZeroV Tryz.prog 4 = some (.bool false) := by kernel_rfl
set_option maxRecDepth 100000 in
theorem newE_spec (W w : World) (R : List HP) (hS : St W R w) :
  Calls Tryz.prog 15 #[] w fun e w' => ∃ eb,e = .returned (.pointer (some ⟨eb,0,none⟩)) ∧ St W (ecP eb ec0 :: R) w' := by
 go_enter Tryz.func15,Tryz.ntmps15
 go_wp2_with (first|((with_reducible apply wl_amake (t := 79) eS eN hS);(with_reducible rfl);rfl;clear hS;intro m1 w hS;(refine frS ?_))|((with_reducible apply wl_amake (t := 80) eI eSs hS);(with_reducible rfl);rfl;clear hS;intro m2 w hS;(refine frS ?_))|((with_reducible apply wl_amake (t := 81) eW eTn hS);(with_reducible rfl);rfl;clear hS;intro m3 w hS;(refine frS ?_))|((with_reducible apply wl_amake (t := 82) eW eU hS);(with_reducible rfl);rfl;clear hS;intro m4 w hS;(refine frS ?_))|(refine zbx hS ?_;clear hS;intro eb w hS))
 go_ret
 have hS1 : St W (vauP [] :: _) w := St.shutS [] hS
 exact ⟨eb,rfl,ecShut (E := []) (e := ec0) (m1 := m1) (m2 := m2) (m3 := m3) (m4 := m4) (List.Perm.refl _) (hS1.sel (L' := blk eb _ _ :: amap eS eN m1 [] :: vauP [] :: amap eI eSs m2 [] :: amap eW eTn m3 [] :: amap eW eU m4 [] :: R) (by exact selS))⟩
abbrev ebB (eb m1 m2 m3 m4 : Nat) : HP := blk eb [.map (some m1),.map (some m2),.map (some m3),.map (some m4)] 84
def vAt (E : Ev) (k : ByteArray) : Vs := ((getL E k).map (·.2)).getD vs0
set_option maxRecDepth 100000 in
theorem at_spec (eb m1 m2 m3 m4 : Nat) (E : Ev) (k : ByteArray) (W w : World) (R : List HP) (hS : St W (ebB eb m1 m2 m3 m4 :: amap eS eN m1 (ptrsE E) :: vauP E :: R) w) :
  Calls Tryz.prog 101 #[.pointer (some ⟨eb,0,none⟩),.string k] w fun e w' => ∃ vb,e = .returned (.pointer (some ⟨vb,0,none⟩)) ∧
   St W (ebB eb m1 m2 m3 m4 :: amap eS eN m1 (ptrsE ((k,(vb,vAt E k)) :: delL E k)) :: vaultP vb (vAt E k) :: vauP (delL E k) :: R) w' := by
 have hnd : (E.map (·.1)).Nodup := by rw [← ptrs_keys];exact amapKeys hS.drop
 cases hg : getL E k with
 | some x =>
  obtain ⟨vb,V⟩ := x
  have hgl : getL (ptrsE E) k = some vb := by rw [ptrs_get,hg];rfl
  have hv : vAt E k = V := by unfold vAt;rw [hg];rfl
  have hp := perm_get hnd hg
  rw [hv]
  go_enter Tryz.func101,Tryz.ntmps101
  go_wp2_with (first|go_big_skip|((with_reducible apply wl_alook1 (ek := eS) (ev := eN) (k := k) hS);(with_reducible rfl);rfl;rfl;rfl;(exact takeS);exact mV;exact kS;exact zV;exact hgl;(refine frS ?_))|(refine zl1 hS ?_))
  go_ret
  refine ⟨vb,rfl,?_⟩
  have h1 := amapPerm (hp.map fun x => (x.1,x.2.1)) hS.swap
  have h2 : St W (vauP E :: amap eS eN m1 (ptrsE ((k,(vb,V)) :: delL E k)) :: ebB eb m1 m2 m3 m4 :: R) w := h1.sel (by exact selS)
  have h3 := vauOpen (vauPerm hp h2)
  exact h3.sel (L' := ebB eb m1 m2 m3 m4 :: amap eS eN m1 _ :: vaultP vb V :: vauP (delL E k) :: R) (by exact selS)
 | none =>
  have hgl : getL (ptrsE E) k = none := by rw [ptrs_get,hg];rfl
  have hv : vAt E k = vs0 := by unfold vAt;rw [hg];rfl
  have hd : delL E k = E := delL_no (getL_none hg)
  rw [hv,hd]
  go_enter Tryz.func101,Tryz.ntmps101
  go_wp2_with (first|go_big_skip|((with_reducible apply wl_alook0 (ek := eS) (ev := eN) (k := k) hS);(with_reducible rfl);rfl;rfl;rfl;(exact takeS);exact mV;exact kS;exact zV;exact hgl;(refine frS ?_))|(refine zl1 hS ?_)|(go_at_call 162;refine (newV_spec W _ _ hS).mono ?_;clear hS;rintro e w ⟨vb,mb,bb,rfl,hS⟩)|((with_reducible apply wl_aset (ek := eS) (ev := eN) (k := k) (u := vb) hS);(with_reducible rfl);rfl;rfl;rfl;(exact takeS);(focus (rfl));exact mV;exact kS;clear hS;intro w hS;try (refine frS ?_)))
  go_ret
  refine ⟨vb,rfl,?_⟩
  rw [ptrs_del,hd] at hS
  have h1 : St W (vaultL vb mb bb [] [] 1 (ebB eb m1 m2 m3 m4 :: amap eS eN m1 ((k,vb) :: ptrsE E) :: vauP E :: R)) w := hS.sel (by exact selS)
  have h2 := vaultShut (V := vs0) h1
  have h3 := h2.sel (L' := ebB eb m1 m2 m3 m4 :: amap eS eN m1 ((k,vb) :: ptrsE E) :: vaultP vb vs0 :: vauP E :: R) (by exact selS)
  exact h3
end Go.Proofs.YtlmhakmoioogaaaGreat
end
section
namespace Go.Proofs.YtlmhakmoioogaaaGreat
open Go.RowKit Go.Sl
set_option maxRecDepth 100000 in
theorem isNone_spec (vb : Nat) (V : Vs) {N : Nat} (hw : PsW V.ps N) (hN : N ≤ 1000000000) (W w : World) (R : List HP) (hS : St W (vaultP vb V :: R) w) :
  Calls Tryz.prog 107 #[.pointer (some ⟨vb,0,none⟩)] w fun e w' => e = .returned (.bool (noneV V)) ∧ St W (vaultP vb V :: R) w' := by
 obtain ⟨mb,bb,hS⟩ := vaultOpen hS
 have hl := hdL_len V.ps
 have hl32 := bookL_len hS.drop.drop
 have hpl := hw.len
 go_enter Tryz.func107,Tryz.ntmps107
 by_cases h0 : V.ps.length + V.L.length = 0
 ·have d0 : (((hdL V.ps).length : Int) + (V.L.length : Int) == 0) = true := by simp;omega
  have e : noneV V = (V.n == 1) := by
   unfold noneV
   rw [decide_eq_true (show V.ps.length = 0 by omega),decide_eq_true (show V.L.length = 0 by omega)]
   simp
   rw [Bool.eq_iff_iff]
   simp
  rw [e]
  go_wp2_with (first|go_big_skip|(go_at_call 124;refine (listV_spec vb mb bb V.ps V.L V.n hw hN W _ _ hS).mono ?_;clear hS;rintro e w ⟨a,c,a2,c2,rfl,hS⟩))
  go_ret
  exact ⟨rfl,vaultShut (hS.sel (by exact selS))⟩
 ·have d0 : (((hdL V.ps).length : Int) + (V.L.length : Int) == 0) = false := by simp;omega
  have e : noneV V = false := by
   cases hn : noneV V with
   | false => rfl
   | true => exact absurd (by rw [noneV_eq hn];rfl) h0
  rw [e]
  go_wp2_with (first|go_big_skip|(go_at_call 124;refine (listV_spec vb mb bb V.ps V.L V.n hw hN W _ _ hS).mono ?_;clear hS;rintro e w ⟨a,c,a2,c2,rfl,hS⟩))
  go_ret
  exact ⟨rfl,vaultShut (hS.sel (by exact selS))⟩
theorem isNone_at {V : Vs} {r : Bool} (h : noneV V = r) (vb : Nat) {N : Nat} (hw : PsW V.ps N) (hN : N ≤ 1000000000) (W w : World) (R : List HP) (hS : St W (vaultP vb V :: R) w) :
  Calls Tryz.prog 107 #[.pointer (some ⟨vb,0,none⟩)] w fun e w' => e = .returned (.bool r) ∧ St W (vaultP vb V :: R) w' := h ▸ isNone_spec vb V hw hN W w R hS
def tidE (E : Ev) (k : ByteArray) : Ev := match getL E k with
 | none => E
 | some x => if noneV x.2 = true then delL E k else E
set_option maxRecDepth 100000 in
theorem tidies_spec (eb m1 m2 m3 m4 : Nat) (E : Ev) (k : ByteArray) {N : Nat} (hw : ∀ x ∈ E,PsW x.2.2.ps N) (hN : N ≤ 1000000000) (W w : World) (R : List HP) (hS : St W (ebB eb m1 m2 m3 m4 :: amap eS eN m1 (ptrsE E) :: vauP E :: R) w) :
  Calls Tryz.prog 43 #[.pointer (some ⟨eb,0,none⟩),.string k] w fun e w' => e = .returned (.tuple #[]) ∧ St W (ebB eb m1 m2 m3 m4 :: amap eS eN m1 (ptrsE (tidE E k)) :: vauP (tidE E k) :: R) w' := by
 have hnd : (E.map (·.1)).Nodup := by rw [← ptrs_keys];exact amapKeys hS.drop
 cases hg : getL E k with
 | none =>
  have hgl : getL (ptrsE E) k = none := by rw [ptrs_get,hg];rfl
  have e : tidE E k = E := by unfold tidE;rw [hg]
  rw [e]
  go_enter Tryz.func43,Tryz.ntmps43
  go_wp2_with (first|go_big_skip|((with_reducible apply wl_alook0 (ek := eS) (ev := eN) (k := k) hS);(with_reducible rfl);rfl;rfl;rfl;(exact takeS);exact mV;exact kS;exact zV;exact hgl;(refine frS ?_))|(refine zl1 hS ?_))
  go_end0
  exact ⟨rfl,hS⟩
 | some x =>
  obtain ⟨vb,V⟩ := x
  have hgl : getL (ptrsE E) k = some vb := by rw [ptrs_get,hg];rfl
  have hp := perm_get hnd hg
  have Hw := Lib.hid (hw _ (getL_some hg))
  have hS1 : St W (vauP E :: ebB eb m1 m2 m3 m4 :: amap eS eN m1 (ptrsE E) :: R) w := hS.sel (by exact selS)
  have hS2 := vauOpen (vauPerm hp hS1)
  clear hS hS1
  have hS := hS2
  clear hS2 hw
  cases hn : noneV V with
  | true =>
   have e : tidE E k = delL E k := by unfold tidE;rw [hg];exact if_pos hn
   rw [e]
   go_enter Tryz.func43,Tryz.ntmps43
   go_wp2_with (first|go_big_skip|((with_reducible apply wl_alook1 (ek := eS) (ev := eN) (k := k) hS);(with_reducible rfl);rfl;rfl;rfl;(exact takeS);exact mV;exact kS;exact zV;exact hgl;(refine frS ?_))|(refine zl1 hS ?_)|(go_at_call 107;refine (isNone_at hn vb Hw.out hN W _ _ (hS.sel (L' := vaultP vb V :: ebB eb m1 m2 m3 m4 :: amap eS eN m1 (ptrsE E) :: vauP (delL E k) :: R) (by exact selS))).mono ?_;clear hS;rintro e w ⟨rfl,hS⟩)|((with_reducible apply wl_adel (ek := eS) (ev := eN) (k := k) hS);(with_reducible rfl);rfl;rfl;rfl;(exact takeS);exact mV;exact kS;clear hS;intro w hS;try (refine frS ?_)))
   go_end0
   rw [ptrs_del] at hS
   exact ⟨rfl,hS.sel (by exact selS)⟩
  | false =>
   have e : tidE E k = E := by unfold tidE;rw [hg];exact if_neg (by rw [hn];exact Bool.noConfusion)
   rw [e]
   go_enter Tryz.func43,Tryz.ntmps43
   go_wp2_with (first|go_big_skip|((with_reducible apply wl_alook1 (ek := eS) (ev := eN) (k := k) hS);(with_reducible rfl);rfl;rfl;rfl;(exact takeS);exact mV;exact kS;exact zV;exact hgl;(refine frS ?_))|(refine zl1 hS ?_)|(go_at_call 107;refine (isNone_at hn vb Hw.out hN W _ _ (hS.sel (L' := vaultP vb V :: ebB eb m1 m2 m3 m4 :: amap eS eN m1 (ptrsE E) :: vauP (delL E k) :: R) (by exact selS))).mono ?_;clear hS;rintro e w ⟨rfl,hS⟩)|((with_reducible apply wl_adel (ek := eS) (ev := eN) (k := k) hS);(with_reducible rfl);rfl;rfl;rfl;(exact takeS);exact mV;exact kS;clear hS;intro w hS;try (refine frS ?_)))
   go_end0
   have h1 := vauPerm hp.symm (vauShut (x := (k,(vb,V))) (hS.sel (L' := vaultP vb V :: vauP (delL E k) :: ebB eb m1 m2 m3 m4 :: amap eS eN m1 (ptrsE E) :: R) (by exact selS)))
   exact ⟨rfl,h1.sel (by exact selS)⟩
theorem oneI_at {it ct x0 x1 x2 x3 : Int} (h : oneI it ct = ⟨x0, x1, x2, x3⟩) (h0 : 0 ≤ it) (h4 : it < 4) (c0 : 1 ≤ ct) (c1 : ct ≤ 1048576) (W w : World) (R : List HP) (hS : St W R w) :
    Calls Tryz.prog 165 #[.int .i64 it, .int .i64 ct] w fun e w' => e = .returned (.tuple #[.agg #[.int .i64 x0, .int .i64 x1, .int .i64 x2, .int .i64 x3], .bool true]) ∧ St W R w' := by
  have d1 : decide (ct < 0) = false := by simp; omega
  have d2 : decide (1152921504606846976 < ct) = false := by simp; omega
  go_enter Tryz.func165, Tryz.ntmps165
  have hk : it = 0 ∨ it = 1 ∨ it = 2 ∨ it = 3 := by omega
  clear h0 h4
  rcases hk with rfl | rfl | rfl | rfl
  all_goals
    simp only [oneI, setK, it0, It.mk.injEq, Int.reduceEq, if_true, if_false] at h
    obtain ⟨rfl, rfl, rfl, rfl⟩ := h
    go_wp2_with (first | go_big_skip | ((fail_if_success (have := gA)); (refine zal hS ?_; clear hS; have gA : Nat := 0; intro b1 w hS)) | ((have := gA); (refine zal hS ?_; clear hS; intro b2 w hS)) | (refine zlN hS ?_) | (refine zsN hS ?_; clear hS; intro w hS) | (refine zs1 hS ?_; clear hS; intro w hS))
    (apply bp_cell_tmp; rfl; rfl; rfl; rfl; exact hS; decide +kernel; (exact cesS); kernel_rfl)
    exact ⟨rfl, hS.drop.drop⟩
set_option maxRecDepth 100000 in
theorem items_at {kd cl sq : Int} {ak aw tk tw : ByteArray} {it ct pr : Int} {bu : Bool} {i : Int} {x0 x1 x2 x3 : Int} (h : oneI it ct = ⟨x0,x1,x2,x3⟩) (h0 : 0 ≤ it) (h4 : it < 4) (c0 : 1 ≤ ct) (c1 : ct ≤ 1048576) (W w : World) (R : List HP) (hS : St W R w) :
  Calls Tryz.prog 103 #[oV kd cl sq ak aw tk tw it ct pr bu i] w fun e w' => e = .returned (.agg #[.int .i64 x0,.int .i64 x1,.int .i64 x2,.int .i64 x3]) ∧ St W R w' := by
 go_enter Tryz.func103,Tryz.ntmps103
 go_wp2_with (first|go_big_skip|(refine zbx hS ?_;clear hS;intro b w hS)|((fail_if_success (have := gA));(refine zal hS ?_;clear hS;have gA : Nat := 0;intro b1 w hS))|((have := gA);(refine zal hS ?_;clear hS;intro b2 w hS))|(refine zl1 hS ?_)|(refine zlN hS ?_)|(refine zsN hS ?_;clear hS;intro w hS)|(go_at_call 165;refine (oneI_at h h0 h4 c0 c1 W _ _ hS).mono ?_;clear hS;rintro e w ⟨rfl,hS⟩))
 (apply bp_cell;rfl;rfl;rfl;exact hS;decide +kernel;(exact cesS);kernel_rfl)
 exact ⟨rfl,hS.drop.drop.drop⟩
end Go.Proofs.YtlmhakmoioogaaaGreat
end
section
namespace Go.Proofs.YtlmhakmoioogaaaGreat
open Go.RowKit Go.Sl
def EvOk (E : Ev) (i : Nat) : Prop := ∀ x ∈ E,VOk x.2.2.ps x.2.2.n i
theorem vOk_mono {p : Ps} {n : Int} {i j : Nat} (h : VOk p n i) (hij : i ≤ j) : VOk p n j := ⟨h.ok,psW_mono h.w (Nat.mul_le_mul_left _ hij),h.n0,by have := h.n1;omega⟩
theorem vAt_ok {E : Ev} {i : Nat} (h : EvOk E i) (k : ByteArray) : VOk (vAt E k).ps (vAt E k).n i := by
 unfold vAt
 cases hg : getL E k with
 | none => exact vOk_mono vOk0 (Nat.zero_le _)
 | some x => exact h _ (getL_some hg)
def evP (eb m1 m2 m3 m4 : Nat) (E : Ev) : HP := sats [ebB eb m1 m2 m3 m4,amap eS eN m1 (ptrsE E),vauP E]
def atR (v : Value) (eb m1 m2 m3 m4 : Nat) (D : Ev) (k : ByteArray) (V : Vs) (i : Nat) : HP := fun f => ∃ vb,(v = .pointer (some ⟨vb,0,none⟩) ∧ VOk V.ps V.n i) ∧ sats [ebB eb m1 m2 m3 m4,amap eS eN m1 (ptrsE ((k,(vb,V)) :: D)),vaultP vb V,vauP D] f
section
variable {W w : World} {R : List HP} {eb m1 m2 m3 m4 : Nat} {E D : Ev} {k : ByteArray} {V : Vs} {i : Nat} {v : Value}
theorem evOpen (h : St W (evP eb m1 m2 m3 m4 E :: R) w) : St W (ebB eb m1 m2 m3 m4 :: amap eS eN m1 (ptrsE E) :: vauP E :: R) w := h.openS
theorem evShut (h : St W (ebB eb m1 m2 m3 m4 :: amap eS eN m1 (ptrsE E) :: vauP E :: R) w) : St W (evP eb m1 m2 m3 m4 E :: R) w := St.shutS [_,_,_] h
theorem atOpen (h : St W (atR v eb m1 m2 m3 m4 D k V i :: R) w) : ∃ vb mb bb,v = .pointer (some ⟨vb,0,none⟩) ∧ VOk V.ps V.n i ∧ St W (vaultL vb mb bb V.ps V.L V.n (ebB eb m1 m2 m3 m4 :: amap eS eN m1 (ptrsE ((k,(vb,V)) :: D)) :: vauP D :: R)) w := by
 obtain ⟨vb,h⟩ := St.ex h
 obtain ⟨⟨h1,h2⟩,h⟩ := St.and h
 have h3 : St W (ebB eb m1 m2 m3 m4 :: amap eS eN m1 (ptrsE ((k,(vb,V)) :: D)) :: vaultP vb V :: vauP D :: R) w := h.openS
 obtain ⟨mb,bb,h4⟩ := vaultOpen (h3.sel (L' := vaultP vb V :: ebB eb m1 m2 m3 m4 :: amap eS eN m1 (ptrsE ((k,(vb,V)) :: D)) :: vauP D :: R) (by exact selS))
 exact ⟨vb,mb,bb,h1,h2,h4⟩
theorem atShut {vb mb bb : Nat} {V' : Vs} (h1 : VOk V'.ps V'.n i) (h : St W (vaultL vb mb bb V'.ps V'.L V'.n (ebB eb m1 m2 m3 m4 :: amap eS eN m1 (ptrsE ((k,(vb,V)) :: D)) :: vauP D :: R)) w) : St W (atR (.pointer (some ⟨vb,0,none⟩)) eb m1 m2 m3 m4 D k V' i :: R) w := by
 have h2 := vaultShut h
 refine St.mkEx vb (St.mkAnd ⟨rfl,h1⟩ (St.shutS [_,_,_,_] ?_))
 have h3 : St W (ebB eb m1 m2 m3 m4 :: amap eS eN m1 (ptrsE ((k,(vb,V)) :: D)) :: vaultP vb V' :: vauP D :: R) w := h2.sel (by exact selS)
 exact h3
theorem atEnd (h : St W (atR v eb m1 m2 m3 m4 D k V i :: R) w) : ∃ vb,VOk V.ps V.n i ∧ St W (evP eb m1 m2 m3 m4 ((k,(vb,V)) :: D) :: R) w := by
 obtain ⟨vb,h⟩ := St.ex h
 obtain ⟨⟨_,h2⟩,h⟩ := St.and h
 have h3 : St W (ebB eb m1 m2 m3 m4 :: amap eS eN m1 (ptrsE ((k,(vb,V)) :: D)) :: vaultP vb V :: vauP D :: R) w := h.openS
 have h4 := vauShut (x := (k,(vb,V))) (h3.sel (L' := vaultP vb V :: vauP D :: ebB eb m1 m2 m3 m4 :: amap eS eN m1 (ptrsE ((k,(vb,V)) :: D)) :: R) (by exact selS))
 exact ⟨vb,h2,evShut (h4.sel (by exact selS))⟩
theorem atF (hE : EvOk E i) {Va : Vs} {Da : Ev} (hV : vAt E k = Va) (hD : delL E k = Da) (hS : St W (evP eb m1 m2 m3 m4 E :: R) w) :
  Calls Tryz.prog 101 #[.pointer (some ⟨eb,0,none⟩),.string k] w fun e w' => ∃ v,e = .returned v ∧ St W (atR v eb m1 m2 m3 m4 Da k Va i :: R) w' := by
 subst hV hD
 refine (at_spec eb m1 m2 m3 m4 E k W w R (evOpen hS)).mono ?_
 rintro e w' ⟨vb,rfl,hS⟩
 exact ⟨_,rfl,St.mkEx vb (St.mkAnd ⟨rfl,vAt_ok hE k⟩ (St.shutS [_,_,_,_] hS))⟩
theorem putF {who : ByteArray} {x0 x1 x2 x3 r : Int} {q : Ps} (hr : putE V.ps who ⟨x0,x1,x2,x3⟩ = r) (hq : putP V.ps who ⟨x0,x1,x2,x3⟩ = q) (hS : St W (atR v eb m1 m2 m3 m4 D k V i :: R) w) :
  Calls Tryz.prog 102 #[v,.string who,.agg #[.int .i64 x0,.int .i64 x1,.int .i64 x2,.int .i64 x3]] w fun e w' => e = .returned (.int .i64 r) ∧ St W (atR v eb m1 m2 m3 m4 D k ⟨q,V.L,V.n⟩ (i + 1) :: R) w' := by
 obtain ⟨vb,mb,bb,rfl,hok,hS⟩ := atOpen hS
 refine (put_st vb mb bb W w _ hok who ⟨x0,x1,x2,x3⟩ hS).mono ?_
 rw [hr,hq]
 rintro e w' ⟨rfl,h1,hS⟩
 exact ⟨rfl,atShut (V' := ⟨q,V.L,V.n⟩) h1 hS⟩
theorem takeF {who : ByteArray} {x0 x1 x2 x3 r : Int} {q : Ps} (hr : takeE V.ps who ⟨x0,x1,x2,x3⟩ = r) (hq : takeP V.ps who ⟨x0,x1,x2,x3⟩ = q) (hS : St W (atR v eb m1 m2 m3 m4 D k V i :: R) w) :
  Calls Tryz.prog 104 #[v,.string who,.agg #[.int .i64 x0,.int .i64 x1,.int .i64 x2,.int .i64 x3]] w fun e w' => e = .returned (.int .i64 r) ∧ St W (atR v eb m1 m2 m3 m4 D k ⟨q,V.L,V.n⟩ (i + 1) :: R) w' := by
 obtain ⟨vb,mb,bb,rfl,hok,hS⟩ := atOpen hS
 refine (take_st vb mb bb W w _ hok who ⟨x0,x1,x2,x3⟩ hS).mono ?_
 rw [hr,hq]
 rintro e w' ⟨rfl,h1,hS⟩
 exact ⟨rfl,atShut (V' := ⟨q,V.L,V.n⟩) h1 hS⟩
theorem ordF {oi ot oc op : Int} {ou : ByteArray} {oy : Bool} {r1 r2 : Int} {V2 : Vs} (h1 : (ordV V ⟨oi,ou,oy,ot,oc,op⟩).1 = r1) (h2 : (ordV V ⟨oi,ou,oy,ot,oc,op⟩).2.1 = r2) (h3 : (ordV V ⟨oi,ou,oy,ot,oc,op⟩).2.2 = V2) (hS : St W (atR v eb m1 m2 m3 m4 D k V i :: R) w) :
  Calls Tryz.prog 105 #[v,.agg #[.int .i64 oi,.string ou,.bool oy,.int .i64 ot,.int .i64 oc,.int .i64 op]] w fun e w' => e = .returned (.tuple #[.int .i64 r1,.int .i64 r2]) ∧ St W (atR v eb m1 m2 m3 m4 D k V2 (i + 1) :: R) w' := by
 obtain ⟨vb,mb,bb,rfl,hok,hS⟩ := atOpen hS
 refine (ord_all vb mb bb W w _ hok ⟨oi,ou,oy,ot,oc,op⟩ hS).mono ?_
 subst h1 h2 h3
 rintro e w' ⟨rfl,h1,hS⟩
 exact ⟨rfl,atShut h1 hS⟩
theorem canF {who : ByteArray} {id r : Int} {V2 : Vs} (h1 : (canV V who id).1 = r) (h2 : (canV V who id).2 = V2) (hS : St W (atR v eb m1 m2 m3 m4 D k V i :: R) w) :
  Calls Tryz.prog 106 #[v,.string who,.int .i64 id] w fun e w' => e = .returned (.int .i64 r) ∧ St W (atR v eb m1 m2 m3 m4 D k V2 (i + 1) :: R) w' := by
 obtain ⟨vb,mb,bb,rfl,hok,hS⟩ := atOpen hS
 obtain ⟨p,L,n⟩ := V
 have h3 : (canV ⟨p,L,n⟩ who id).2.n = n := by
  unfold canV
  split <;> rfl
 have e : (canV ⟨p,L,n⟩ who id).2 = ⟨(canV ⟨p,L,n⟩ who id).2.ps,(canV ⟨p,L,n⟩ who id).2.L,n⟩ := by
  generalize canV ⟨p,L,n⟩ who id = z at h3 ⊢
  obtain ⟨z1,z2,z3,z4⟩ := z
  simp only at h3
  rw [h3]
 refine (can_all vb mb bb W w _ hok who id hS).mono ?_
 subst h1 h2
 rintro e' w' ⟨rfl,h1,hS⟩
 refine ⟨rfl,?_⟩
 rw [e]
 exact atShut (V' := ⟨(canV ⟨p,L,n⟩ who id).2.ps,(canV ⟨p,L,n⟩ who id).2.L,n⟩) h1 hS
end
abbrev rV (x0 x1 : Int) (y0 y1 y2 y3 : Int) : Value := .agg #[.int .i64 x0,.int .i64 x1,.int .i64 y0,.int .i64 y1,.int .i64 y2,.int .i64 y3]
set_option maxRecDepth 100000 in
theorem mint_spec {eb m1 m2 m3 m4 : Nat} {E : Ev} {i : Nat} (hE : EvOk E i) (kd cl sq : Int) (ak aw tk tw : ByteArray) (it ct pr : Int) (bu : Bool) (id : Int) (h0 : 0 ≤ it) (h4 : it < 4) (c0 : 1 ≤ ct) (c1 : ct ≤ 1048576) {r : Int} {q : Ps}
    (hr : putE (vAt E ak).ps aw (oneI it ct) = r) (hq : putP (vAt E ak).ps aw (oneI it ct) = q) (W w : World) (R : List HP) (hS : St W (evP eb m1 m2 m3 m4 E :: R) w) :
    Calls Tryz.prog 36 #[.pointer (some ⟨eb, 0, none⟩), oV kd cl sq ak aw tk tw it ct pr bu id] w fun e w' => ∃ vb, VOk q (vAt E ak).n (i + 1) ∧ e = .returned (rV r 0 0 0 0 0) ∧ St W (evP eb m1 m2 m3 m4 ((ak, (vb, ⟨q, (vAt E ak).L, (vAt E ak).n⟩)) :: delL E ak) :: R) w' := by
  obtain ⟨V, hV⟩ : ∃ V, vAt E ak = V := ⟨_, rfl⟩
  obtain ⟨D, hD⟩ : ∃ D, delL E ak = D := ⟨_, rfl⟩
  obtain ⟨x, hx⟩ : ∃ x, oneI it ct = x := ⟨_, rfl⟩
  obtain ⟨x0, x1, x2, x3⟩ := x
  rw [hV, hx] at hr hq
  rw [hV, hD]
  have HE := Lib.hid hE
  have HV := Lib.hid hV
  have HD := Lib.hid hD
  have Hx := Lib.hid hx
  have Hr := Lib.hid hr
  have Hq := Lib.hid hq
  clear hE hV hD hx hr hq
  go_enter Tryz.func36, Tryz.ntmps36
  go_wp2_with (first | (refine zbx hS ?_; clear hS; intro bO w hS) | (refine zal hS ?_; clear hS; intro bR w hS))
  have hS1 := hS.sel (L' := evP eb m1 m2 m3 m4 E :: blk bR _ _ :: blk bO _ _ :: R) (by exact selS)
  clear hS
  refine wp_region_flow3 [0, 0, 2, 6, 15, 0, 32, 96, 0, 287, 1023, 2047, 4095] (fun i => i == 4) (fun i => if i == 9 then some (.agg #[.int .i64 x0, .int .i64 x1, .int .i64 x2, .int .i64 x3]) else if i == 10 then some (.int .i64 r) else none)
    [⟨some 4, some 10, fun nd => atR (nd 4) eb m1 m2 m3 m4 D ak V i⟩, ⟨some 10, none, fun nd => atR (nd 4) eb m1 m2 m3 m4 D ak ⟨q, V.L, V.n⟩ (i + 1)⟩, ⟨some 12, none, fun _ => blk bR [.int .i64 r, .int .i64 0, .int .i64 0, .int .i64 0, .int .i64 0, .int .i64 0] 31⟩] [some 4, some 12, none] (by kernel_rfl) (by kernel_rfl) rfl hS1 (CongOk.cons (fun nd nd' h => by dsimp only; rw [h 4 rfl rfl]) (CongOk.cons (fun nd nd' h => by dsimp only; rw [h 4 rfl rfl]) (CongOk.cons (fun _ _ _ => rfl) CongOk.nil))) ?_
  clear hS1
  intro nd
  (refine ch_pure rfl (by kernel_rfl) rfl rfl ?_; intro K hK; go_big_quiet_op; go_big_quiet_on)
  iterate 2 (refine ch_pure rfl (by kernel_rfl) rfl rfl ?_; intro K hK; go_big_quiet_op; go_big_quiet_on)
  (refine zc1 ?_)
  (apply ch_callN; rfl; rfl; (with_reducible rfl); decide +kernel; (focus (simp only [fD, List.map_cons, List.map_nil, Act.eval, fE, fF, fG, fH, Option.getD_some]; try rfl)); (intro _; rfl); (intro F w hS; exact atF HE.out HV.out HD.out hS); (refine frS ?_))
  iterate 2 (refine ch_pure rfl (by kernel_rfl) rfl rfl ?_; intro K hK; go_big_quiet_op; go_big_quiet_on)
  (refine zc1 ?_)
  (refine zcN ?_)
  (refine zcv ?_ (hs := by (intro F w hS; (try clear hS0); exact items_at Hx.out h0 h4 c0 c1 W w _ hS)))
  (refine zcv ?_ (hs := by (intro F w hS; (try clear hS0); exact putF Hr.out Hq.out hS)))
  (refine ch_pure rfl (by kernel_rfl) rfl rfl ?_; intro K hK; go_big_quiet_op; go_big_quiet_on)
  (refine zcs ?_)
  refine ch_end ?_
  intro w hS
  have hS2 : St W [atR _ eb m1 m2 m3 m4 D ak ⟨q, V.L, V.n⟩ (i + 1), blk bR _ _, blk bO _ _, sats R] w := hS
  clear hS
  have hS := hS2.unpack [_, _, _]
  clear hS2
  simp only [List.cons_append, List.nil_append] at hS
  go_wp2_with fail
  (apply bp_cell; rfl; rfl; rfl; exact hS; decide +kernel; (exact cesS); kernel_rfl)
  obtain ⟨vb, h1, hS3⟩ := atEnd hS
  exact ⟨vb, h1, rfl, hS3.sel (by exact selS)⟩
end Go.Proofs.YtlmhakmoioogaaaGreat
end
section
namespace Go.Proofs.YtlmhakmoioogaaaGreat
open Go.RowKit Go.Sl
set_option maxRecDepth 100000 in
theorem order_spec {eb m1 m2 m3 m4 : Nat} {E : Ev} {i : Nat} (hE : EvOk E i) (kd cl sq : Int) (ak aw tk tw : ByteArray) (it ct pr : Int) (bu : Bool) (id : Int) {r1 r2 : Int} {V2 : Vs}
    (h1 : (ordV (vAt E ak) ⟨0, aw, bu, it, ct, pr⟩).1 = r1) (h2 : (ordV (vAt E ak) ⟨0, aw, bu, it, ct, pr⟩).2.1 = r2) (h3 : (ordV (vAt E ak) ⟨0, aw, bu, it, ct, pr⟩).2.2 = V2) (W w : World) (R : List HP) (hS : St W (evP eb m1 m2 m3 m4 E :: R) w) :
    Calls Tryz.prog 38 #[.pointer (some ⟨eb, 0, none⟩), oV kd cl sq ak aw tk tw it ct pr bu id] w fun e w' => ∃ vb, VOk V2.ps V2.n (i + 1) ∧ e = .returned (rV r2 r1 0 0 0 0) ∧ St W (evP eb m1 m2 m3 m4 ((ak, (vb, V2)) :: delL E ak) :: R) w' := by
  obtain ⟨V, hV⟩ : ∃ V, vAt E ak = V := ⟨_, rfl⟩
  obtain ⟨D, hD⟩ : ∃ D, delL E ak = D := ⟨_, rfl⟩
  rw [hV] at h1 h2 h3
  rw [hD]
  have H1 := Lib.hid h1
  have H2 := Lib.hid h2
  have H3 := Lib.hid h3
  clear h1 h2 h3
  have HE := Lib.hid hE
  have HV := Lib.hid hV
  have HD := Lib.hid hD
  clear hE hV hD
  go_enter Tryz.func38, Tryz.ntmps38
  go_wp2_with (first | (refine zbx hS ?_; clear hS; intro bO w hS) | (refine zal hS ?_; clear hS; intro bR w hS))
  have hS1 := hS.sel (L' := evP eb m1 m2 m3 m4 E :: blk bR _ _ :: blk bO _ _ :: R) (by exact selS)
  clear hS
  refine wp_region_flow3 [0, 0, 2, 6, 15, 0, 32, 96, 0, 256, 0, 1024, 0, 4096, 0, 16384, 65504, 131071, 262143, 524287, 524287, 1048575, 4194303] (fun i => i == 4) (fun i => if i == 17 then some (.tuple #[.int .i64 r1, .int .i64 r2]) else none)
    [⟨some 4, some 17, fun nd => atR (nd 4) eb m1 m2 m3 m4 D ak V i⟩, ⟨some 17, none, fun nd => atR (nd 4) eb m1 m2 m3 m4 D ak V2 (i + 1)⟩] [some 4, none, none] (by kernel_rfl) (by kernel_rfl) rfl hS1 (CongOk.cons (fun nd nd' h => by dsimp only; rw [h 4 rfl rfl]) (CongOk.cons (fun nd nd' h => by dsimp only; rw [h 4 rfl rfl]) CongOk.nil)) ?_
  clear hS1
  intro nd
  repeat (first | (refine zc1 ?_) | (apply ch_callN; rfl; rfl; (with_reducible rfl); decide +kernel; (focus (simp only [fD, List.map_cons, List.map_nil, Act.eval, fE, fF, fG, fH, Option.getD_some]; try rfl)); (intro _; rfl); (intro F w hS; exact atF HE.out HV.out HD.out hS); (refine frS ?_)) | (refine zcv ?_ (hs := by (intro F w hS; (try clear hS0); exact ordF H1.out H2.out H3.out hS))) | (refine ch_pure rfl (by kernel_rfl) rfl rfl ?_; intro K hK; go_big_quiet_op; go_big_quiet_on))
  refine ch_end ?_
  intro w hS
  have hS2 : St W [atR _ eb m1 m2 m3 m4 D ak V2 (i + 1), blk bR _ _, blk bO _ _, sats R] w := hS
  clear hS
  have hS := hS2.unpack [_, _, _]
  clear hS2
  simp only [List.cons_append, List.nil_append] at hS
  go_wp2_with (first | (refine zsN hS ?_; clear hS; intro w hS))
  (apply bp_cell; rfl; rfl; rfl; exact hS; decide +kernel; (exact cesS); kernel_rfl)
  obtain ⟨vb, h1, hS3⟩ := atEnd (hS.sel (L' := atR _ eb m1 m2 m3 m4 D ak V2 (i + 1) :: R) (by exact selS))
  exact ⟨vb, h1, rfl, hS3⟩
set_option maxRecDepth 100000 in
theorem cancelE_spec {eb m1 m2 m3 m4 : Nat} {E : Ev} {i : Nat} (hE : EvOk E i) (kd cl sq : Int) (ak aw tk tw : ByteArray) (it ct pr : Int) (bu : Bool) (id : Int) {r : Int} {V2 : Vs}
    (h1 : (canV (vAt E ak) aw id).1 = r) (h2 : (canV (vAt E ak) aw id).2 = V2) (W w : World) (R : List HP) (hS : St W (evP eb m1 m2 m3 m4 E :: R) w) :
    Calls Tryz.prog 39 #[.pointer (some ⟨eb, 0, none⟩), oV kd cl sq ak aw tk tw it ct pr bu id] w fun e w' => ∃ vb, VOk V2.ps V2.n (i + 1) ∧ e = .returned (rV r 0 0 0 0 0) ∧ St W (evP eb m1 m2 m3 m4 ((ak, (vb, V2)) :: delL E ak) :: R) w' := by
  obtain ⟨V, hV⟩ : ∃ V, vAt E ak = V := ⟨_, rfl⟩
  obtain ⟨D, hD⟩ : ∃ D, delL E ak = D := ⟨_, rfl⟩
  rw [hV] at h1 h2
  rw [hD]
  have H1 := Lib.hid h1
  have H2 := Lib.hid h2
  clear h1 h2
  have HE := Lib.hid hE
  have HV := Lib.hid hV
  have HD := Lib.hid hD
  clear hE hV hD
  go_enter Tryz.func39, Tryz.ntmps39
  go_wp2_with (first | (refine zbx hS ?_; clear hS; intro bO w hS) | (refine zal hS ?_; clear hS; intro bR w hS))
  have hS1 := hS.sel (L' := evP eb m1 m2 m3 m4 E :: blk bR _ _ :: blk bO _ _ :: R) (by exact selS)
  clear hS
  refine wp_region_flow3 [0, 0, 2, 6, 15, 0, 32, 96, 0, 256, 1023, 2047, 4095] (fun i => i == 4) (fun i => if i == 10 then some (.int .i64 r) else none)
    [⟨some 4, some 10, fun nd => atR (nd 4) eb m1 m2 m3 m4 D ak V i⟩, ⟨some 10, none, fun nd => atR (nd 4) eb m1 m2 m3 m4 D ak V2 (i + 1)⟩, ⟨some 12, none, fun _ => blk bR [.int .i64 r, .int .i64 0, .int .i64 0, .int .i64 0, .int .i64 0, .int .i64 0] 31⟩] [some 4, some 12, none] (by kernel_rfl) (by kernel_rfl) rfl hS1 (CongOk.cons (fun nd nd' h => by dsimp only; rw [h 4 rfl rfl]) (CongOk.cons (fun nd nd' h => by dsimp only; rw [h 4 rfl rfl]) (CongOk.cons (fun _ _ _ => rfl) CongOk.nil))) ?_
  clear hS1
  intro nd
  repeat (first | (refine zc1 ?_) | (apply ch_callN; rfl; rfl; (with_reducible rfl); decide +kernel; (focus (simp only [fD, List.map_cons, List.map_nil, Act.eval, fE, fF, fG, fH, Option.getD_some]; try rfl)); (intro _; rfl); (intro F w hS; exact atF HE.out HV.out HD.out hS); (refine frS ?_)) | (refine zcv ?_ (hs := by (intro F w hS; (try clear hS0); exact canF H1.out H2.out hS))) | (refine zcs ?_) | (refine ch_pure rfl (by kernel_rfl) rfl rfl ?_; intro K hK; go_big_quiet_op; go_big_quiet_on))
  refine ch_end ?_
  intro w hS
  have hS2 : St W [atR _ eb m1 m2 m3 m4 D ak V2 (i + 1), blk bR _ _, blk bO _ _, sats R] w := hS
  clear hS
  have hS := hS2.unpack [_, _, _]
  clear hS2
  simp only [List.cons_append, List.nil_append] at hS
  go_wp2_with fail
  (apply bp_cell; rfl; rfl; rfl; exact hS; decide +kernel; (exact cesS); kernel_rfl)
  obtain ⟨vb, h1, hS3⟩ := atEnd hS
  exact ⟨vb, h1, rfl, hS3.sel (by exact selS)⟩
set_option maxRecDepth 100000 in
theorem arrive_spec {eb m1 m2 m3 m4 : Nat} {E : Ev} {i : Nat} (hE : EvOk E i) (kd cl sq : Int) (ak aw tk tw : ByteArray) (it ct pr : Int) (bu : Bool) (id : Int) (ar : List ((Int × Int) × Unit)) (h0 : 0 ≤ it) (h4 : it < 4) (c0 : 1 ≤ ct) (c1 : ct ≤ 1048576) {q : Ps}
    (hq : putP (vAt E ak).ps aw (oneI it ct) = q) (W w : World) (R : List HP) (hS : St W (evP eb m1 m2 m3 m4 E :: amap eW eU m4 ar :: R) w) :
    Calls Tryz.prog 41 #[.pointer (some ⟨eb, 0, none⟩), oV kd cl sq ak aw tk tw it ct pr bu id] w fun e w' => ∃ vb, VOk q (vAt E ak).n (i + 1) ∧ e = .returned (rV 0 0 0 0 0 0) ∧
      St W (evP eb m1 m2 m3 m4 ((ak, (vb, ⟨q, (vAt E ak).L, (vAt E ak).n⟩)) :: delL E ak) :: amap eW eU m4 (((cl, sq), ()) :: delL ar (cl, sq)) :: R) w' := by
  obtain ⟨V, hV⟩ : ∃ V, vAt E ak = V := ⟨_, rfl⟩
  obtain ⟨D, hD⟩ : ∃ D, delL E ak = D := ⟨_, rfl⟩
  obtain ⟨x, hx⟩ : ∃ x, oneI it ct = x := ⟨_, rfl⟩
  obtain ⟨x0, x1, x2, x3⟩ := x
  rw [hV, hx] at hq
  obtain ⟨r, hr⟩ : ∃ r, putE V.ps aw ⟨x0, x1, x2, x3⟩ = r := ⟨_, rfl⟩
  rw [hV, hD]
  have Hx := Lib.hid hx
  have Hr := Lib.hid hr
  have Hq := Lib.hid hq
  clear hx hr hq
  have HE := Lib.hid hE
  have HV := Lib.hid hV
  have HD := Lib.hid hD
  clear hE hV hD
  go_enter Tryz.func41, Tryz.ntmps41
  go_wp2_with (first | (refine zbx hS ?_; clear hS; intro bO w hS) | (refine zal hS ?_; clear hS; intro bR w hS))
  have hS1 := hS.sel (L' := evP eb m1 m2 m3 m4 E :: blk bR _ _ :: blk bO _ _ :: amap eW eU m4 ar :: R) (by exact selS)
  clear hS
  refine wp_region_flow3 [0, 0, 2, 6, 15, 0, 32, 96, 0, 287, 1023] (fun i => i == 4) (fun i => if i == 9 then some (.agg #[.int .i64 x0, .int .i64 x1, .int .i64 x2, .int .i64 x3]) else if i == 10 then some (.int .i64 r) else none)
    [⟨some 4, some 10, fun nd => atR (nd 4) eb m1 m2 m3 m4 D ak V i⟩, ⟨some 10, none, fun nd => atR (nd 4) eb m1 m2 m3 m4 D ak ⟨q, V.L, V.n⟩ (i + 1)⟩] [some 4, none, none] (by kernel_rfl) (by kernel_rfl) rfl hS1 (CongOk.cons (fun nd nd' h => by dsimp only; rw [h 4 rfl rfl]) (CongOk.cons (fun nd nd' h => by dsimp only; rw [h 4 rfl rfl]) CongOk.nil)) ?_
  clear hS1
  intro nd
  repeat (first | (refine zc1 ?_) | (refine zcN ?_) | (apply ch_callN; rfl; rfl; (with_reducible rfl); decide +kernel; (focus (simp only [fD, List.map_cons, List.map_nil, Act.eval, fE, fF, fG, fH, Option.getD_some]; try rfl)); (intro _; rfl); (intro F w hS; exact atF HE.out HV.out HD.out hS); (refine frS ?_)) | (refine zcv ?_ (hs := by (intro F w hS; (try clear hS0); exact items_at Hx.out h0 h4 c0 c1 W w _ hS))) | (refine zcv ?_ (hs := by (intro F w hS; (try clear hS0); exact putF Hr.out Hq.out hS))) | (refine ch_pure rfl (by kernel_rfl) rfl rfl ?_; intro K hK; go_big_quiet_op; go_big_quiet_on))
  refine ch_end ?_
  intro w hS
  have hS2 : St W [atR _ eb m1 m2 m3 m4 D ak ⟨q, V.L, V.n⟩ (i + 1), blk bR _ _, blk bO _ _, sats (amap eW eU m4 ar :: R)] w := hS
  clear hS
  have hS := hS2.unpack [_, _, _]
  clear hS2
  simp only [List.cons_append, List.nil_append] at hS
  obtain ⟨vb, h1, hS3⟩ := atEnd hS
  clear hS
  have H1 := Lib.hid h1
  clear h1
  have hS := evOpen hS3
  clear hS3
  go_wp2_with fail
  refine wp_region_tail 9 (by kernel_rfl) (by kernel_rfl) hS ?_
  repeat (first | go_big_quiet_skip | (refine zq1 ?_) | (refine zqN ?_) | (refine zqn ?_) | (refine wq_pure rfl rfl ?_; intro K hK; go_big_quiet_op; go_big_quiet_on))
  clear hS
  intro w hS
  simp only [List.drop_succ_cons, List.drop_zero]
  go_wp2_with (first | ((with_reducible apply wl_aset (ek := eW) (ev := eU) (k := (cl, sq)) (u := ()) hS); (with_reducible rfl); rfl; rfl; rfl; (exact takeS); (focus (rfl)); exact mAr; exact kW; clear hS; intro w hS; try (refine frS ?_)) | (refine zsN hS ?_; clear hS; intro w hS))
  (apply bp_cell; rfl; rfl; rfl; exact hS; decide +kernel; (exact cesS); kernel_rfl)
  exact ⟨vb, H1.out, rfl, (evShut (hS.sel (L' := ebB eb m1 m2 m3 m4 :: amap eS eN m1 _ :: vauP _ :: amap eW eU m4 _ :: R) (by exact selS)))⟩
set_option maxRecDepth 100000 in
theorem done_spec {eb m1 m2 m3 m4 : Nat} {E : Ev} (kd cl sq : Int) (ak aw tk tw : ByteArray) (it ct pr : Int) (bu : Bool) (id : Int) (ts : List ((Int × Int) × Tns)) (W w : World) (R : List HP) (hS : St W (evP eb m1 m2 m3 m4 E :: amap eW eTn m3 ts :: R) w) :
  Calls Tryz.prog 42 #[.pointer (some ⟨eb,0,none⟩),oV kd cl sq ak aw tk tw it ct pr bu id] w fun e w' => e = .returned (rV 0 0 0 0 0 0) ∧ St W (evP eb m1 m2 m3 m4 E :: amap eW eTn m3 (delL ts (cl,sq)) :: R) w' := by
 have hS1 := evOpen hS
 clear hS
 have hS := hS1
 clear hS1
 go_enter Tryz.func42,Tryz.ntmps42
 go_wp2_with (first|(refine zbx hS ?_;clear hS;intro bO w hS)|(refine zal hS ?_;clear hS;intro bR w hS))
 refine wp_region_tail 9 (by kernel_rfl) (by kernel_rfl) hS ?_
 repeat (first|go_big_quiet_skip|(refine zq1 ?_)|(refine zqN ?_)|(refine zqn ?_)|(refine wq_pure rfl rfl ?_;intro K hK;go_big_quiet_op;go_big_quiet_on))
 clear hS
 intro w hS
 simp only [List.drop_succ_cons,List.drop_zero]
 go_wp2_with (first|((with_reducible apply wl_adel (ek := eW) (ev := eTn) (k := (cl,sq)) hS);(with_reducible rfl);rfl;rfl;rfl;(exact takeS);exact mT;exact kW;clear hS;intro w hS;try (refine frS ?_))|(refine zsN hS ?_;clear hS;intro w hS))
 (apply bp_cell;rfl;rfl;rfl;exact hS;decide +kernel;(exact cesS);kernel_rfl)
 exact ⟨rfl,evShut (hS.sel (L' := ebB eb m1 m2 m3 m4 :: amap eS eN m1 _ :: vauP _ :: amap eW eTn m3 _ :: R) (by exact selS))⟩
end Go.Proofs.YtlmhakmoioogaaaGreat
end
