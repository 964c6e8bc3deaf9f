/-
  A nil vault; the law's own known.
  The vault's Cancel: who looks for an order. For every vault.
  The vault's Cancel: the walk. For every vault.
-/
import Derived.Test.YtbcokphjpllbiaaGreatVaultPlaysM24

section
set_option linter.unusedSimpArgs false
set_option linter.unusedVariables false
namespace Go.Proofs.YtbcokphjpllbiaaGreat
open Go.RowKit Go.Sl
section
variable (k : ByteArray) (W w : World) (R : List HP)
def ka : ByteArray := ⟨#[97]⟩
theorem ka_put : putE [] ka ⟨0, 5, 0, 0⟩ = 0 ∧ putP [] ka ⟨0, 5, 0, 0⟩ = [(ka, ⟨0, 5, 0, 0⟩)] := ⟨by kernel_rfl, by kernel_rfl⟩
def kaO : Ord := ⟨0, ka, false, 1, 3, 2⟩
theorem ka_take : takeE [(ka, ⟨0, 5, 0, 0⟩)] ka (holdsF kaO) = 0 ∧ takeP [(ka, ⟨0, 5, 0, 0⟩)] ka (holdsF kaO) = [(ka, ⟨0, 2, 0, 0⟩)] := ⟨by kernel_rfl, by kernel_rfl⟩
theorem ka_run : runT [] { kaO with id := 1 } = [] := rfl
theorem ka_has : purseA [(ka, ⟨0, 2, 0, 0⟩)] ka = ⟨0, 2, 0, 0⟩ := by kernel_rfl
theorem ka_ok : PsOk [(ka, ⟨0, 5, 0, 0⟩)] := by
  have := psOk_put psOk_nil ka ⟨0, 5, 0, 0⟩
  rw [ka_put.2] at this
  exact this
theorem ka_order (vb mb bb : Nat) (W w : World) (R : List HP) (hS : St W (vaultL vb mb bb [(ka, ⟨0, 5, 0, 0⟩)] [] 1 R) w) :
    Calls Tryz.prog 13 #[.pointer (some ⟨vb, 0, none⟩), .agg #[.int .i64 0, .string ⟨#[97]⟩, .bool false, .int .i64 1, .int .i64 3, .int .i64 2]] w fun e w' => e = .returned (.tuple #[.int .i64 1, .int .i64 0]) ∧ St W (blk vb [.map (some mb), .pointer (some ⟨bb, 0, none⟩), .int .i64 (1 + 1)] 80 :: amap eS eP mb [(ka, ⟨0, 2, 0, 0⟩)] :: R) w' := by
  refine (order_ok vb mb bb _ [] 1 kaO W w R ka_ok (by kernel_rfl) (by decide) (by decide) (by decide) ka_take.1 hS).mono ?_
  rintro e w' ⟨he, hS⟩
  refine ⟨he, ?_⟩
  have e1 : kaO.who = ka := rfl
  rw [ka_run, e1, ka_take.2] at hS
  have hS2 : St W (blk vb [.map (some mb), .pointer (some ⟨bb, 0, none⟩), .int .i64 (1 + 1)] 80 :: amap eS eP mb [(ka, ⟨0, 2, 0, 0⟩)] :: _ :: R) w' := hS
  exact hS2.sel (by (repeat' (first | (with_reducible first | exact Sel.done Suf.refl | exact Sel.done (Suf.tail Suf.refl) | exact Sel.done (Suf.tail (Suf.tail Suf.refl)) | exact Sel.done (Suf.tail (Suf.tail (Suf.tail Suf.refl))) | (apply Sel.done; (focus((repeat(first|exact Suf.refl | apply Suf.tail)); done)))) | (refine Sel.cons (by with_reducible (focus((repeat(first|exact .head|apply Take.tail));done))) ?_))))
theorem ka_puts (vb mb : Nat) (u1 u2 : Value) (W w : World) (R : List HP) (hS : St W (blk vb [.map (some mb), u1, u2] 80 :: amap eS eP mb [] :: R) w) :
    Calls Tryz.prog 17 #[.pointer (some ⟨vb, 0, none⟩), .string ⟨#[97]⟩, .agg #[.int .i64 0, .int .i64 5, .int .i64 0, .int .i64 0]] w fun e w' => e = .returned (.int .i64 0) ∧ St W (blk vb [.map (some mb), u1, u2] 80 :: amap eS eP mb [(ka, ⟨0, 5, 0, 0⟩)] :: R) w' := by
  refine (put_spec vb mb [] ka u1 u2 ⟨0, 5, 0, 0⟩ W w R hS).mono ?_
  rw [ka_put.1, ka_put.2]
  exact fun e w' h => h
theorem ka_hass (vb mb : Nat) (u1 u2 : Value) (W w : World) (R : List HP) (hS : St W (blk vb [.map (some mb), u1, u2] 80 :: amap eS eP mb [(ka, ⟨0, 2, 0, 0⟩)] :: R) w) :
    Calls Tryz.prog 23 #[.pointer (some ⟨vb, 0, none⟩), .string ⟨#[97]⟩] w fun e w' => e = .returned (.agg #[.int .i64 0, .int .i64 2, .int .i64 0, .int .i64 0]) ∧ St W R w' := by
  refine (has_spec vb mb _ ka u1 u2 W w R hS).mono ?_
  rw [ka_has]
  exact fun e w' h => ⟨h.1, h.2.drop.drop⟩
set_option maxRecDepth 100000 in
set_option maxHeartbeats 4000000 in
theorem knownV_spec (hS : St W R w) : Calls Tryz.prog 9 #[] w fun e w' => e = .returned (.bool true) ∧ St W R w' := by
  have h4 : (((0 : Int) == 0) && (((2 : Int) == 2) && (((0 : Int) == 0) && ((0 : Int) == 0)))) = true := rfl
  go_enter Tryz.func9, Tryz.ntmps9
  go_wp2_with (first | go_big_skip | (go_at_call 15; refine (newV_spec W _ _ hS).mono ?_; clear hS; rintro e w ⟨vb, mb, bb, rfl, hS⟩) | (go_at_call 17; refine (ka_puts vb mb _ _ W _ _ hS).mono ?_; clear hS; rintro e w ⟨rfl, hS⟩) | (go_at_call 13; refine (ka_order vb mb bb W _ _ hS).mono ?_; clear hS; rintro e w ⟨rfl, hS⟩) | (go_at_call 23; refine (ka_hass vb mb _ _ W _ _ hS).mono ?_; clear hS; rintro e w ⟨rfl, hS⟩) | ((with_reducible apply wl_eqA); (with_reducible rfl); rfl; rfl; rfl; kernel_rfl; exact eqI _ _ _ _ _ _ _ _; rw [h4]; (simp only [Act.put, fA, fB, fC, Nat.reduceAdd, eP, It.cells])) | ((with_reducible apply wl_ld1 hS); (with_reducible rfl); rfl; rfl; decide +kernel; (first | (focus((repeat(first|exact Cell.here rfl | apply Cell.there)); done)) | assumption); (simp only [Act.put, fA, fB, fC, Nat.reduceAdd])) | ((with_reducible apply wl_ldN hS); (with_reducible rfl); rfl; rfl; decide +kernel; (first | (focus((repeat(first|exact Cells.whole | apply Cells.there)); done)) | assumption); kernel_rfl; (simp only [Act.put, fA, fB, fC, Nat.reduceAdd])) | ((with_reducible apply wl_st1 hS); (with_reducible rfl); rfl; rfl; (focus ((conv => lhs; whnf); try rfl)); kernel_rfl; rfl; rfl; ((focus((repeat(first|exact Upd.head | apply Upd.tail)); done))); (simp only [List.length_cons, List.length_nil]; omega); ((simp only [List.set_cons_zero, List.set_cons_succ, setAll]); rfl); clear hS; intro w hS; try (simp only [Act.put, fA, fB, fC, Nat.reduceAdd])) | ((with_reducible apply wl_stN hS); (with_reducible rfl); rfl; rfl; (focus ((conv => lhs; whnf); try rfl)); kernel_rfl; rfl; ((focus((repeat(first|exact Upd.head | apply Upd.tail)); done))); (simp only [List.length_cons, List.length_nil]; omega); ((simp only [List.set_cons_zero, List.set_cons_succ, setAll]); rfl); clear hS; intro w hS; try (simp only [Act.put, fA, fB, fC, Nat.reduceAdd])) | ((with_reducible apply wl_box hS); (with_reducible rfl); rfl; rfl; rfl; clear hS; intro b w hS; (simp only [Act.put, fA, fB, fC, Nat.reduceAdd])) | ((with_reducible apply wl_alloc hS); (with_reducible rfl); rfl; (fail); clear hS; intro b w hS; (simp only [Act.put, fA, fB, fC, Nat.reduceAdd])))
  go_ret
  exact ⟨rfl, hS⟩
end
end Go.Proofs.YtbcokphjpllbiaaGreat
end
section
set_option linter.unusedSimpArgs false
set_option linter.unusedVariables false
namespace Go.Proofs.YtbcokphjpllbiaaGreat
open Go.RowKit Go.Sl
def hitC (id : Int) (who : ByteArray) (x : Ord) : Bool := (x.id == id) && (x.who.toList == who.toList)
set_option maxHeartbeats 1000000 in
theorem cancelC_spec (x : Ord) (B C : Nat) (id : Int) (who : ByteArray) (W w : World) (L : List HP) (hS : St W (blk B [.int .i64 id] 3 :: blk C [.string who] 9 :: L) w) :
    Calls Tryz.prog 69 #[.agg x.cells.toArray, .pointer (some ⟨B, 0, none⟩), .pointer (some ⟨C, 0, none⟩)] w fun e w' => e = .returned (.bool (hitC id who x)) ∧ St W (blk B [.int .i64 id] 3 :: blk C [.string who] 9 :: L) w' := by
  obtain ⟨i, u, y, t, c, p⟩ := x
  unfold hitC
  simp only [Ord.cells]
  cases hi : i == id with
  | true =>
    rw [Bool.true_and]
    go_enter Tryz.func69, Tryz.ntmps69
    go_wp2_with (first | go_big_skip | ((with_reducible apply wl_ld1 hS); (with_reducible rfl); rfl; rfl; decide +kernel; (first | (focus((repeat(first|exact Cell.here rfl | apply Cell.there)); done)) | assumption); (simp only [Act.put, fA, fB, fC, Nat.reduceAdd])) | ((with_reducible apply wl_ldN hS); (with_reducible rfl); rfl; rfl; decide +kernel; (first | (focus((repeat(first|exact Cells.whole | apply Cells.there)); done)) | assumption); kernel_rfl; (simp only [Act.put, fA, fB, fC, Nat.reduceAdd])) | ((with_reducible apply wl_st1 hS); (with_reducible rfl); rfl; rfl; (focus ((conv => lhs; whnf); try rfl)); kernel_rfl; rfl; rfl; ((focus((repeat(first|exact Upd.head | apply Upd.tail)); done))); (simp only [List.length_cons, List.length_nil]; omega); ((simp only [List.set_cons_zero, List.set_cons_succ, setAll]); rfl); clear hS; intro w hS; try (simp only [Act.put, fA, fB, fC, Nat.reduceAdd])) | ((with_reducible apply wl_stN hS); (with_reducible rfl); rfl; rfl; (focus ((conv => lhs; whnf); try rfl)); kernel_rfl; rfl; ((focus((repeat(first|exact Upd.head | apply Upd.tail)); done))); (simp only [List.length_cons, List.length_nil]; omega); ((simp only [List.set_cons_zero, List.set_cons_succ, setAll]); rfl); clear hS; intro w hS; try (simp only [Act.put, fA, fB, fC, Nat.reduceAdd])) | ((with_reducible apply wl_box hS); (with_reducible rfl); rfl; rfl; rfl; clear hS; intro b w hS; (simp only [Act.put, fA, fB, fC, Nat.reduceAdd])) | ((with_reducible apply wl_alloc hS); (with_reducible rfl); rfl; (fail); clear hS; intro b w hS; (simp only [Act.put, fA, fB, fC, Nat.reduceAdd])))
    go_ret
    exact ⟨rfl, hS.drop⟩
  | false =>
    rw [Bool.false_and]
    go_enter Tryz.func69, Tryz.ntmps69
    go_wp2_with (first | go_big_skip | ((with_reducible apply wl_ld1 hS); (with_reducible rfl); rfl; rfl; decide +kernel; (first | (focus((repeat(first|exact Cell.here rfl | apply Cell.there)); done)) | assumption); (simp only [Act.put, fA, fB, fC, Nat.reduceAdd])) | ((with_reducible apply wl_ldN hS); (with_reducible rfl); rfl; rfl; decide +kernel; (first | (focus((repeat(first|exact Cells.whole | apply Cells.there)); done)) | assumption); kernel_rfl; (simp only [Act.put, fA, fB, fC, Nat.reduceAdd])) | ((with_reducible apply wl_st1 hS); (with_reducible rfl); rfl; rfl; (focus ((conv => lhs; whnf); try rfl)); kernel_rfl; rfl; rfl; ((focus((repeat(first|exact Upd.head | apply Upd.tail)); done))); (simp only [List.length_cons, List.length_nil]; omega); ((simp only [List.set_cons_zero, List.set_cons_succ, setAll]); rfl); clear hS; intro w hS; try (simp only [Act.put, fA, fB, fC, Nat.reduceAdd])) | ((with_reducible apply wl_stN hS); (with_reducible rfl); rfl; rfl; (focus ((conv => lhs; whnf); try rfl)); kernel_rfl; rfl; ((focus((repeat(first|exact Upd.head | apply Upd.tail)); done))); (simp only [List.length_cons, List.length_nil]; omega); ((simp only [List.set_cons_zero, List.set_cons_succ, setAll]); rfl); clear hS; intro w hS; try (simp only [Act.put, fA, fB, fC, Nat.reduceAdd])) | ((with_reducible apply wl_box hS); (with_reducible rfl); rfl; rfl; rfl; clear hS; intro b w hS; (simp only [Act.put, fA, fB, fC, Nat.reduceAdd])) | ((with_reducible apply wl_alloc hS); (with_reducible rfl); rfl; (fail); clear hS; intro b w hS; (simp only [Act.put, fA, fB, fC, Nat.reduceAdd])))
    go_ret
    exact ⟨rfl, hS.drop⟩
def idxC (id : Int) (who : ByteArray) (p : List Ord) : Int := match p.findIdx? (hitC id who) with
  | some i => i
  | none => -1
def IdxC (W : World) (L : List HP) (p : List Ord) (id : Int) (who : ByteArray) (v8 : Value) (w : World) : Prop :=
  ∃ k : Nat, v8 = .int .i64 k ∧ k ≤ p.length ∧ (∀ j, j < k → ∀ x, p[j]? = some x → hitC id who x = false) ∧ St W L w
theorem idxC_end (p : List Ord) (id : Int) (who : ByteArray) (h : ∀ j, j < p.length → ∀ x, p[j]? = some x → hitC id who x = false) : idxC id who p = -1 := by
  unfold idxC
  rw [List.findIdx?_eq_none_iff.2]
  intro x hx
  obtain ⟨j, hj, rfl⟩ := List.mem_iff_getElem.1 hx
  exact h j hj _ (List.getElem?_eq_getElem hj)
theorem idxC_at (p : List Ord) (id : Int) (who : ByteArray) (k : Nat) (hk : k < p.length) (h : ∀ j, j < k → ∀ x, p[j]? = some x → hitC id who x = false) (hx : hitC id who p[k] = true) : idxC id who p = k := by
  unfold idxC
  rw [List.findIdx?_eq_some_iff_getElem.2 ⟨hk, hx, fun j hj => by rw [h j hj _ (List.getElem?_eq_getElem (by omega))]; exact Bool.false_ne_true⟩]
set_option maxRecDepth 100000 in
set_option maxHeartbeats 1000000 in
theorem indexC_spec (p : List Ord) (v : Value) (B C : Nat) (id : Int) (who : ByteArray) (h63 : p.length ≤ 4294967296) (W w : World) (L : List HP) (hS : St W (blk B [.int .i64 id] 3 :: blk C [.string who] 9 :: pileR v p :: L) w) :
    Calls Tryz.prog 96 #[v, .func (.func 69) #[] #[.pointer (some ⟨B, 0, none⟩), .pointer (some ⟨C, 0, none⟩)]] w fun e w' => e = .returned (.int .i64 (idxC id who p)) ∧ St W (blk B [.int .i64 id] 3 :: blk C [.string who] 9 :: pileR v p :: L) w' := by
  obtain ⟨a, cap, rfl⟩ := hS.drop.drop.rowVal
  go_enter Tryz.func96, Tryz.ntmps96
  go_wp2_with fail
  go_loopw [8] (fun v wr => IdxC W (blk B [.int .i64 id] 3 :: blk C [.string who] 9 :: pileR (.slice a p.length cap) p :: L) p id who v wr) (fun v _ => p.length - (intOf v).toNat)
  case atStart => exact ⟨0, rfl, by omega, fun j hj => by omega, hS⟩
  case round =>
    clear hS
    obtain ⟨k, rfl, hk, hno, hS⟩ := hrel
    by_cases hkn : k = p.length
    · have Hr := Lib.hid (idxC_end p id who (hkn ▸ hno))
      clear hno
      subst hkn
      go_wp2_with fail
      go_ret
      rw [Hr.out]
      exact ⟨rfl, hS⟩
    · have hkl : k < p.length := by omega
      clear hkn hk
      obtain ⟨⟨g, rfl⟩, hcap, hcn⟩ := St.rowAddr hS.drop.drop (by omega)
      have Hno := Lib.hid hno
      clear hno
      cases hb : hitC id who p[k] with
      | false =>
        go_wp2_with (first | ((with_reducible apply wl_ldN hS); (with_reducible rfl); rfl; rfl; decide +kernel; (exact Cells.there (Cells.there (Cells.rowE Ord.len hkl))); kernel_rfl; (simp only [Act.put, fA, fB, fC, Nat.reduceAdd])) | ((with_reducible apply wl_ldN hS); (with_reducible rfl); rfl; rfl; decide +kernel; (exact Cells.there (Cells.there (Cells.there (Cells.rowE Ord.len hkl)))); kernel_rfl; (simp only [Act.put, fA, fB, fC, Nat.reduceAdd])) | (go_at_call 69; refine (cancelC_spec p[k] B C id who W _ _ hS).mono ?_; clear hS; rw [hb]; rintro e w ⟨rfl, hS⟩) | ((with_reducible apply wl_ld1 hS); (with_reducible rfl); rfl; rfl; decide +kernel; (first | (focus((repeat(first|exact Cell.here rfl | apply Cell.there)); done)) | assumption); (simp only [Act.put, fA, fB, fC, Nat.reduceAdd])) | ((with_reducible apply wl_ldN hS); (with_reducible rfl); rfl; rfl; decide +kernel; (first | (focus((repeat(first|exact Cells.whole | apply Cells.there)); done)) | assumption); kernel_rfl; (simp only [Act.put, fA, fB, fC, Nat.reduceAdd])) | ((with_reducible apply wl_st1 hS); (with_reducible rfl); rfl; rfl; (focus ((conv => lhs; whnf); try rfl)); kernel_rfl; rfl; rfl; ((focus((repeat(first|exact Upd.head | apply Upd.tail)); done))); (simp only [List.length_cons, List.length_nil]; omega); ((simp only [List.set_cons_zero, List.set_cons_succ, setAll]); rfl); clear hS; intro w hS; try (simp only [Act.put, fA, fB, fC, Nat.reduceAdd])) | ((with_reducible apply wl_stN hS); (with_reducible rfl); rfl; rfl; (focus ((conv => lhs; whnf); try rfl)); kernel_rfl; rfl; ((focus((repeat(first|exact Upd.head | apply Upd.tail)); done))); (simp only [List.length_cons, List.length_nil]; omega); ((simp only [List.set_cons_zero, List.set_cons_succ, setAll]); rfl); clear hS; intro w hS; try (simp only [Act.put, fA, fB, fC, Nat.reduceAdd])) | ((with_reducible apply wl_box hS); (with_reducible rfl); rfl; rfl; rfl; clear hS; intro b w hS; (simp only [Act.put, fA, fB, fC, Nat.reduceAdd])) | ((with_reducible apply wl_alloc hS); (with_reducible rfl); rfl; (fail); clear hS; intro b w hS; (simp only [Act.put, fA, fB, fC, Nat.reduceAdd])))
        go_roundw
        case rel =>
          refine ⟨k + 1, rfl, hkl, ?_, hS⟩
          intro j hj x hx
          by_cases hjk : j = k
          · subst hjk
            rw [List.getElem?_eq_getElem hkl] at hx
            cases hx
            exact hb
          · exact Hno.out j (by omega) x hx
        case measure => simp [intOf]; omega
      | true =>
        go_wp2_with (first | ((with_reducible apply wl_ldN hS); (with_reducible rfl); rfl; rfl; decide +kernel; (exact Cells.there (Cells.there (Cells.rowE Ord.len hkl))); kernel_rfl; (simp only [Act.put, fA, fB, fC, Nat.reduceAdd])) | ((with_reducible apply wl_ldN hS); (with_reducible rfl); rfl; rfl; decide +kernel; (exact Cells.there (Cells.there (Cells.there (Cells.rowE Ord.len hkl)))); kernel_rfl; (simp only [Act.put, fA, fB, fC, Nat.reduceAdd])) | (go_at_call 69; refine (cancelC_spec p[k] B C id who W _ _ hS).mono ?_; clear hS; rw [hb]; rintro e w ⟨rfl, hS⟩) | ((with_reducible apply wl_ld1 hS); (with_reducible rfl); rfl; rfl; decide +kernel; (first | (focus((repeat(first|exact Cell.here rfl | apply Cell.there)); done)) | assumption); (simp only [Act.put, fA, fB, fC, Nat.reduceAdd])) | ((with_reducible apply wl_ldN hS); (with_reducible rfl); rfl; rfl; decide +kernel; (first | (focus((repeat(first|exact Cells.whole | apply Cells.there)); done)) | assumption); kernel_rfl; (simp only [Act.put, fA, fB, fC, Nat.reduceAdd])) | ((with_reducible apply wl_st1 hS); (with_reducible rfl); rfl; rfl; (focus ((conv => lhs; whnf); try rfl)); kernel_rfl; rfl; rfl; ((focus((repeat(first|exact Upd.head | apply Upd.tail)); done))); (simp only [List.length_cons, List.length_nil]; omega); ((simp only [List.set_cons_zero, List.set_cons_succ, setAll]); rfl); clear hS; intro w hS; try (simp only [Act.put, fA, fB, fC, Nat.reduceAdd])) | ((with_reducible apply wl_stN hS); (with_reducible rfl); rfl; rfl; (focus ((conv => lhs; whnf); try rfl)); kernel_rfl; rfl; ((focus((repeat(first|exact Upd.head | apply Upd.tail)); done))); (simp only [List.length_cons, List.length_nil]; omega); ((simp only [List.set_cons_zero, List.set_cons_succ, setAll]); rfl); clear hS; intro w hS; try (simp only [Act.put, fA, fB, fC, Nat.reduceAdd])) | ((with_reducible apply wl_box hS); (with_reducible rfl); rfl; rfl; rfl; clear hS; intro b w hS; (simp only [Act.put, fA, fB, fC, Nat.reduceAdd])) | ((with_reducible apply wl_alloc hS); (with_reducible rfl); rfl; (fail); clear hS; intro b w hS; (simp only [Act.put, fA, fB, fC, Nat.reduceAdd])))
        go_ret
        rw [idxC_at p id who k hkl Hno.out hb]
        exact ⟨rfl, hS⟩
theorem idxC_any (id : Int) (who : ByteArray) (p : List Ord) : decide (0 ≤ idxC id who p) = p.any (hitC id who) := by
  unfold idxC
  cases h : p.findIdx? (hitC id who) with
  | none =>
    have := List.findIdx?_eq_none_iff.1 h
    have e : p.any (hitC id who) = false := by
      rw [List.any_eq_false]
      intro x hx
      rw [this x hx]; exact Bool.false_ne_true
    rw [e]; rfl
  | some i =>
    obtain ⟨hi, hx, _⟩ := List.findIdx?_eq_some_iff_getElem.1 h
    have e : p.any (hitC id who) = true := List.any_eq_true.2 ⟨_, List.getElem_mem hi, hx⟩
    rw [e]; simp
theorem containsC_spec (p : List Ord) (v : Value) (B C : Nat) (id : Int) (who : ByteArray) {r : Bool} (hr : p.any (hitC id who) = r) (h63 : p.length ≤ 4294967296) (W w : World) (L : List HP) (hS : St W (blk B [.int .i64 id] 3 :: blk C [.string who] 9 :: pileR v p :: L) w) :
    Calls Tryz.prog 67 #[v, .func (.func 69) #[] #[.pointer (some ⟨B, 0, none⟩), .pointer (some ⟨C, 0, none⟩)]] w fun e w' => e = .returned (.bool r) ∧ St W (blk B [.int .i64 id] 3 :: blk C [.string who] 9 :: pileR v p :: L) w' := by
  have hz := idxC_any id who p
  rw [hr] at hz
  obtain ⟨q, hq⟩ : ∃ q, idxC id who p = q := ⟨_, rfl⟩
  rw [hq] at hz
  have Hq := Lib.hid hq
  clear hq hr
  go_enter Tryz.func67, Tryz.ntmps67
  go_wp2_with (first | (go_at_call 96; refine (indexC_spec p v B C id who h63 W _ _ hS).mono ?_; clear hS; rw [Hq.out]; rintro e w ⟨rfl, hS⟩) | ((with_reducible apply wl_ld1 hS); (with_reducible rfl); rfl; rfl; decide +kernel; (first | (focus((repeat(first|exact Cell.here rfl | apply Cell.there)); done)) | assumption); (simp only [Act.put, fA, fB, fC, Nat.reduceAdd])) | ((with_reducible apply wl_ldN hS); (with_reducible rfl); rfl; rfl; decide +kernel; (first | (focus((repeat(first|exact Cells.whole | apply Cells.there)); done)) | assumption); kernel_rfl; (simp only [Act.put, fA, fB, fC, Nat.reduceAdd])) | ((with_reducible apply wl_st1 hS); (with_reducible rfl); rfl; rfl; (focus ((conv => lhs; whnf); try rfl)); kernel_rfl; rfl; rfl; ((focus((repeat(first|exact Upd.head | apply Upd.tail)); done))); (simp only [List.length_cons, List.length_nil]; omega); ((simp only [List.set_cons_zero, List.set_cons_succ, setAll]); rfl); clear hS; intro w hS; try (simp only [Act.put, fA, fB, fC, Nat.reduceAdd])) | ((with_reducible apply wl_stN hS); (with_reducible rfl); rfl; rfl; (focus ((conv => lhs; whnf); try rfl)); kernel_rfl; rfl; ((focus((repeat(first|exact Upd.head | apply Upd.tail)); done))); (simp only [List.length_cons, List.length_nil]; omega); ((simp only [List.set_cons_zero, List.set_cons_succ, setAll]); rfl); clear hS; intro w hS; try (simp only [Act.put, fA, fB, fC, Nat.reduceAdd])) | ((with_reducible apply wl_box hS); (with_reducible rfl); rfl; rfl; rfl; clear hS; intro b w hS; (simp only [Act.put, fA, fB, fC, Nat.reduceAdd])) | ((with_reducible apply wl_alloc hS); (with_reducible rfl); rfl; (fail); clear hS; intro b w hS; (simp only [Act.put, fA, fB, fC, Nat.reduceAdd])))
  go_ret
  exact ⟨by first | rfl | (rw [← hz]; rfl), hS⟩
end Go.Proofs.YtbcokphjpllbiaaGreat
end
section
set_option linter.unusedSimpArgs false
set_option linter.unusedVariables false
namespace Go.Proofs.YtbcokphjpllbiaaGreat
open Go.RowKit Go.Sl
section
variable {W w : World} {R : List HP} {bb : Nat} {L : List Ord} {n : Int}
theorem listL_spec (hS : St W (bookL bb L n :: R) w) :
    Calls Tryz.prog 68 #[.pointer (some ⟨bb, 0, none⟩)] w fun e w' => ∃ a c, e = .returned (.slice a L.length c) ∧ St W (bookL bb L n :: pileR (.slice a L.length c) L :: R) w' := by
  obtain ⟨b, hr, hl, hS⟩ := bookLOpen hS
  refine (list_at bb hr W w R hS).mono ?_
  rintro e w' ⟨a, c, rfl, hS⟩
  exact ⟨a, c, rfl, bookLShut hr hl hS⟩
theorem cancelL_spec {id : Int} {x : Ord} {L2 : List Ord} (h1 : (cancelR L id).o = x) (h2 : (cancelR L id).errno = 0) (h3 : (cancelR L id).L = L2) (hS : St W (bookL bb L n :: R) w) :
    Calls Tryz.prog 70 #[.pointer (some ⟨bb, 0, none⟩), .int .i64 id] w fun e w' => e = .returned (.tuple #[.agg x.cells.toArray, .int .i64 0]) ∧ St W (bookL bb L2 n :: R) w' := by
  obtain ⟨b, hr, hl, hS⟩ := bookLOpen hS
  refine (cancel_at bb hr id W w R hS).mono ?_
  rintro e w' ⟨b', ⟨hla, hrep⟩, rfl, hS⟩
  rw [h1, h2]
  rw [h3] at hrep
  exact ⟨rfl, bookLShut hrep (by omega) hS⟩
end
def backP (p : Ps) (who : ByteArray) (i : It) : Ps := giveP (giveP (giveP (giveP p who 0 i.x0) who 1 i.x1) who 2 i.x2) who 3 i.x3
def Cn4 (W : World) (F : Ps → List HP) (p : Ps) (who : ByteArray) (i : It) (v : Value) (w : World) : Prop :=
  (v = .int .i64 0 ∧ St W (F p) w) ∨ (v = .int .i64 1 ∧ St W (F (giveP p who 0 i.x0)) w) ∨ (v = .int .i64 2 ∧ St W (F (giveP (giveP p who 0 i.x0) who 1 i.x1)) w) ∨ (v = .int .i64 3 ∧ St W (F (giveP (giveP (giveP p who 0 i.x0) who 1 i.x1) who 2 i.x2)) w) ∨ (v = .int .i64 4 ∧ St W (F (backP p who i)) w)
section
variable (vb mb bb : Nat) (p : Ps) (L : List Ord) (n : Int) (who : ByteArray) (id : Int) (W w : World) (R : List HP)
set_option maxRecDepth 100000 in
set_option maxHeartbeats 4000000 in
theorem cancelV_no (hr : L.any (hitC id who) = false) (hS : St W (vaultL vb mb bb p L n R) w) :
    Calls Tryz.prog 21 #[.pointer (some ⟨vb, 0, none⟩), .string who, .int .i64 id] w fun e w' => e = .returned (.int .i64 7) ∧ St W (vaultL vb mb bb p L n R) w' := by
  have hL := bookL_len hS.drop.drop
  go_enter Tryz.func21, Tryz.ntmps21
  go_wp2_with (first | (go_at_call 68; refine (listL_spec (hS.sel (L' := bookL bb L n :: blk bQ2 _ _ :: blk bQ1 _ _ :: blk vb _ _ :: amap eS eP mb p :: R) (by (repeat' (first | (with_reducible first | exact Sel.done Suf.refl | exact Sel.done (Suf.tail Suf.refl) | exact Sel.done (Suf.tail (Suf.tail Suf.refl)) | exact Sel.done (Suf.tail (Suf.tail (Suf.tail Suf.refl))) | (apply Sel.done; (focus((repeat(first|exact Suf.refl | apply Suf.tail)); done)))) | (refine Sel.cons (by with_reducible (focus((repeat(first|exact .head|apply Take.tail));done))) ?_)))))).mono ?_; clear hS; rintro e w ⟨la, lc, rfl, hS⟩) | (go_at_call 67; (try simp only [Act.eval, Array.getD_eq_getD_getElem?, List.getElem?_toArray, List.getElem?_cons_succ, List.getElem?_cons_zero, Option.getD_some] at hS); refine (containsC_spec L _ bQ2 bQ1 id who hr (by omega) W _ _ (hS.sel (L' := blk bQ2 _ _ :: blk bQ1 _ _ :: pileR (.slice la L.length lc) L :: bookL bb L n :: blk vb _ _ :: amap eS eP mb p :: R) (by (repeat' (first | (with_reducible first | exact Sel.done Suf.refl | exact Sel.done (Suf.tail Suf.refl) | exact Sel.done (Suf.tail (Suf.tail Suf.refl)) | exact Sel.done (Suf.tail (Suf.tail (Suf.tail Suf.refl))) | (apply Sel.done; (focus((repeat(first|exact Suf.refl | apply Suf.tail)); done)))) | (refine Sel.cons (by with_reducible (focus((repeat(first|exact .head|apply Take.tail));done))) ?_)))))).mono ?_; clear hS; rintro e w ⟨rfl, hS⟩) | ((fail_if_success (have := bQ1)); (with_reducible apply wl_box hS); (with_reducible rfl); rfl; rfl; rfl; clear hS; intro bQ1 w hS; (simp only [Act.put, fA, fB, fC, Nat.reduceAdd])) | ((fail_if_success (have := bQ2)); (with_reducible apply wl_box hS); (with_reducible rfl); rfl; rfl; rfl; clear hS; intro bQ2 w hS; (simp only [Act.put, fA, fB, fC, Nat.reduceAdd])) | ((with_reducible apply wl_ld1 hS); (with_reducible rfl); rfl; rfl; decide +kernel; (first | (focus((repeat(first|exact Cell.here rfl | apply Cell.there)); done)) | assumption); (simp only [Act.put, fA, fB, fC, Nat.reduceAdd])))
  go_ret
  exact ⟨rfl, hS.sel (by (repeat' (first | (with_reducible first | exact Sel.done Suf.refl | exact Sel.done (Suf.tail Suf.refl) | exact Sel.done (Suf.tail (Suf.tail Suf.refl)) | exact Sel.done (Suf.tail (Suf.tail (Suf.tail Suf.refl))) | (apply Sel.done; (focus((repeat(first|exact Suf.refl | apply Suf.tail)); done)))) | (refine Sel.cons (by with_reducible (focus((repeat(first|exact .head|apply Take.tail));done))) ?_))))⟩
set_option maxRecDepth 100000 in
set_option maxHeartbeats 8000000 in
theorem cancelV_yes (hp : PsOk p) (x : Ord) (L2 : List Ord) (hx : MayP x) (hr : L.any (hitC id who) = true) (h1 : (cancelR L id).o = x) (h2 : (cancelR L id).errno = 0) (h3 : (cancelR L id).L = L2) (hS : St W (vaultL vb mb bb p L n R) w) :
    Calls Tryz.prog 21 #[.pointer (some ⟨vb, 0, none⟩), .string who, .int .i64 id] w fun e w' => e = .returned (.int .i64 0) ∧ St W (vaultL vb mb bb (backP p who (holdsF x)) L2 n R) w' := by
  have hL := bookL_len hS.drop.drop
  have hm := mul_in (by have := hx.cnt0; omega) hx.cnt1 (by have := hx.price0; omega) hx.price1
  have hit : isIt (holdsF x) = true := by
    unfold holdsF
    split
    · exact isIt_true.2 ⟨⟨hm.1, by simp only; omega⟩, ⟨by simp only; omega, by simp only; omega⟩, ⟨by simp only; omega, by simp only; omega⟩, by simp only; omega, by simp only; omega⟩
    · exact isIt_set (by rfl) _ ⟨by have := hx.cnt0; omega, by have := hx.cnt1; omega⟩
  clear hm
  obtain ⟨i, hi⟩ : ∃ i, holdsF x = i := ⟨_, rfl⟩
  rw [hi] at hit ⊢
  obtain ⟨h0, h1', h2', h3'⟩ := i
  obtain ⟨xi, xu, xy, xt, xc, xp⟩ := x
  have Hi := Lib.hid hi
  have Hx := Lib.hid hx
  have H1 := Lib.hid h1
  have H2 := Lib.hid h2
  have H3 := Lib.hid h3
  obtain ⟨a0, a1, a2, a3⟩ := isIt_true.1 hit
  simp only at a0 a1 a2 a3
  have G0 := Lib.hid (show ∀ y, isIt (purseA p y) = true from hp)
  have G1 := Lib.hid (show ∀ y, isIt (purseA (giveP p who 0 h0) y) = true from psOk_give hp _ _ a0.1)
  have G2 := Lib.hid (show ∀ y, isIt (purseA (giveP (giveP p who 0 h0) who 1 h1') y) = true from psOk_give (psOk_give hp _ _ a0.1) _ _ a1.1)
  have G3 := Lib.hid (show ∀ y, isIt (purseA (giveP (giveP (giveP p who 0 h0) who 1 h1') who 2 h2') y) = true from psOk_give (psOk_give (psOk_give hp _ _ a0.1) _ _ a1.1) _ _ a2.1)
  clear hi hx h1 h2 h3 hit hp
  go_enter Tryz.func21, Tryz.ntmps21
  go_wp2_with (first | (go_at_call 68; refine (listL_spec (hS.sel (L' := bookL bb L n :: blk bQ2 _ _ :: blk bQ1 _ _ :: blk vb _ _ :: amap eS eP mb p :: R) (by (repeat' (first | (with_reducible first | exact Sel.done Suf.refl | exact Sel.done (Suf.tail Suf.refl) | exact Sel.done (Suf.tail (Suf.tail Suf.refl)) | exact Sel.done (Suf.tail (Suf.tail (Suf.tail Suf.refl))) | (apply Sel.done; (focus((repeat(first|exact Suf.refl | apply Suf.tail)); done)))) | (refine Sel.cons (by with_reducible (focus((repeat(first|exact .head|apply Take.tail));done))) ?_)))))).mono ?_; clear hS; rintro e w ⟨la, lc, rfl, hS⟩) | (go_at_call 67; (try simp only [Act.eval, Array.getD_eq_getD_getElem?, List.getElem?_toArray, List.getElem?_cons_succ, List.getElem?_cons_zero, Option.getD_some] at hS); refine (containsC_spec L _ bQ2 bQ1 id who hr (by omega) W _ _ (hS.sel (L' := blk bQ2 _ _ :: blk bQ1 _ _ :: pileR (.slice la L.length lc) L :: bookL bb L n :: blk vb _ _ :: amap eS eP mb p :: R) (by (repeat' (first | (with_reducible first | exact Sel.done Suf.refl | exact Sel.done (Suf.tail Suf.refl) | exact Sel.done (Suf.tail (Suf.tail Suf.refl)) | exact Sel.done (Suf.tail (Suf.tail (Suf.tail Suf.refl))) | (apply Sel.done; (focus((repeat(first|exact Suf.refl | apply Suf.tail)); done)))) | (refine Sel.cons (by with_reducible (focus((repeat(first|exact .head|apply Take.tail));done))) ?_)))))).mono ?_; clear hS; rintro e w ⟨rfl, hS⟩) | ((fail_if_success (have := bQ1)); (with_reducible apply wl_box hS); (with_reducible rfl); rfl; rfl; rfl; clear hS; intro bQ1 w hS; (simp only [Act.put, fA, fB, fC, Nat.reduceAdd])) | ((fail_if_success (have := bQ2)); (with_reducible apply wl_box hS); (with_reducible rfl); rfl; rfl; rfl; clear hS; intro bQ2 w hS; (simp only [Act.put, fA, fB, fC, Nat.reduceAdd])) | ((with_reducible apply wl_ld1 hS); (with_reducible rfl); rfl; rfl; decide +kernel; (first | (focus((repeat(first|exact Cell.here rfl | apply Cell.there)); done)) | assumption); (simp only [Act.put, fA, fB, fC, Nat.reduceAdd])))
  have hS := hS.sel (L' := bookL bb L n :: blk bQ2 _ _ :: blk bQ1 _ _ :: blk vb _ _ :: amap eS eP mb p :: R) (by (repeat' (first | (with_reducible first | exact Sel.done Suf.refl | exact Sel.done (Suf.tail Suf.refl) | exact Sel.done (Suf.tail (Suf.tail Suf.refl)) | exact Sel.done (Suf.tail (Suf.tail (Suf.tail Suf.refl))) | (apply Sel.done; (focus((repeat(first|exact Suf.refl | apply Suf.tail)); done)))) | (refine Sel.cons (by with_reducible (focus((repeat(first|exact .head|apply Take.tail));done))) ?_))))
  refine wp_region_flow3 [0, 1, 3, 7, 0, 31, 63, 127, 127, 0, 767, 2047] (fun i => i == 9) (fun i => if i == 5 then some (.tuple #[.agg #[.int .i64 xi, .string xu, .bool xy, .int .i64 xt, .int .i64 xc, .int .i64 xp], .int .i64 0]) else none) [⟨some 5, none, fun _ => bookL bb L2 n⟩, ⟨some 9, some 10, fun nd => ptrTo (nd 9) [.int .i64 0, .string ⟨#[]⟩, .bool false, .int .i64 0, .int .i64 0, .int .i64 0] 41⟩, ⟨some 10, none, fun nd => ptrTo (nd 9) [.int .i64 xi, .string xu, .bool xy, .int .i64 xt, .int .i64 xc, .int .i64 xp] 41⟩] [some 5, none, none, none, none] (by kernel_rfl) (by kernel_rfl) rfl hS (CongOk.cons (fun _ _ _ => rfl) (CongOk.cons (fun nd nd' h => by dsimp only; rw [h 9 rfl rfl]) (CongOk.cons (fun nd nd' h => by dsimp only; rw [h 9 rfl rfl]) CongOk.nil))) ?_
  intro nd
  (refine ch_pure rfl (by kernel_rfl) rfl rfl ?_; intro K hK; go_big_quiet_op; go_big_quiet_on)
  (apply ch_nil; rfl; kernel_rfl; (with_reducible rfl); rfl; rfl; (simp only [Act.put, fA, fB, fC, Nat.reduceAdd]))
  (refine ch_pure rfl (by kernel_rfl) rfl rfl ?_; intro K hK; go_big_quiet_op; go_big_quiet_on)
  (apply ch_ld1; rfl; kernel_rfl; (with_reducible rfl); rfl; rfl; decide +kernel; (intro F; first | exact Cell.here rfl | exact Cell.there (Cell.here rfl) | exact Cell.there (Cell.there (Cell.here rfl)) | exact Cell.there (Cell.there (Cell.there (Cell.here rfl))) | exact Cell.there (Cell.there (Cell.there (Cell.there (Cell.here rfl)))) | exact Cell.there (Cell.there (Cell.there (Cell.there (Cell.there (Cell.here rfl))))) | exact Cell.there (Cell.there (Cell.there (Cell.there (Cell.there (Cell.there (Cell.here rfl)))))) | assumption); (simp only [Act.put, fA, fB, fC, Nat.reduceAdd]))
  (apply ch_ld1; rfl; kernel_rfl; (with_reducible rfl); rfl; rfl; decide +kernel; (intro F; first | exact Cell.here rfl | exact Cell.there (Cell.here rfl) | exact Cell.there (Cell.there (Cell.here rfl)) | exact Cell.there (Cell.there (Cell.there (Cell.here rfl))) | exact Cell.there (Cell.there (Cell.there (Cell.there (Cell.here rfl)))) | exact Cell.there (Cell.there (Cell.there (Cell.there (Cell.there (Cell.here rfl))))) | exact Cell.there (Cell.there (Cell.there (Cell.there (Cell.there (Cell.there (Cell.here rfl)))))) | assumption); (simp only [Act.put, fA, fB, fC, Nat.reduceAdd]))
  (apply ch_callF; rfl; rfl; rfl; (with_reducible rfl); decide +kernel; (focus (simp only [fD, List.map_cons, List.map_nil, Act.eval, fE, fF, fG, fH, Option.getD_some]; try rfl)); (intro F w hS; (try clear hS0); exact cancelL_spec H1.out H2.out H3.out hS); (simp only [Act.put, fA, fB, fC, Nat.reduceAdd]))
  iterate 3 (refine ch_pure rfl (by kernel_rfl) rfl rfl ?_; intro K hK; go_big_quiet_op; go_big_quiet_on)
  (apply ch_alloc; rfl; (with_reducible rfl); rfl; (intro _; rfl); (exact Ty.z41); rfl; (intro _; rfl); (simp only [Act.put, fA, fB, fC, Nat.reduceAdd]))
  (apply ch_stTo; rfl; (with_reducible rfl); rfl; (focus ((conv => lhs; whnf); try rfl)); (focus ((conv => lhs; whnf); try rfl)); (focus ((conv => lhs; whnf); try rfl)); kernel_rfl; rfl; rfl; (simp only [List.length_cons, List.length_nil]; omega); rfl; rfl; try (simp only [Act.put, fA, fB, fC, Nat.reduceAdd]))
  (refine ch_pure rfl (by kernel_rfl) rfl rfl ?_; intro K hK; go_big_quiet_op; go_big_quiet_on)
  refine ch_end ?_
  clear hS
  intro w hS
  have hS2 : St W [bookL bb L2 n, ptrTo (nd 9) _ _, blk bQ2 _ _, blk bQ1 _ _, blk vb _ _, amap eS eP mb p, sats R] w := hS
  clear hS
  have hS := hS2.unpack [_, _, _, _, _, _]
  clear hS2
  simp only [List.cons_append, List.nil_append] at hS
  generalize nd 9 = v9 at *
  have hS7 := hS.swap
  clear hS
  have h1 := hS7.ptr
  clear hS7
  obtain ⟨b9, rfl, hS⟩ := h1
  go_wp2_with (first | (go_at_call 52; refine (holds_at Hx.out Hi.out W _ _ hS).mono ?_; clear hS; rintro e w ⟨rfl, hS⟩) | ((with_reducible apply wl_ld1 hS); (with_reducible rfl); rfl; rfl; decide +kernel; (first | (focus((repeat(first|exact Cell.here rfl | apply Cell.there)); done)) | assumption); (simp only [Act.put, fA, fB, fC, Nat.reduceAdd])) | ((with_reducible apply wl_ldN hS); (with_reducible rfl); rfl; rfl; decide +kernel; (first | (focus((repeat(first|exact Cells.whole | apply Cells.there)); done)) | assumption); kernel_rfl; (simp only [Act.put, fA, fB, fC, Nat.reduceAdd])))
  have hS := hS.sel (L' := blk vb _ _ :: amap eS eP mb p :: bookL bb L2 n :: R) (by (repeat' (first | (with_reducible first | exact Sel.done Suf.refl | exact Sel.done (Suf.tail Suf.refl) | exact Sel.done (Suf.tail (Suf.tail Suf.refl)) | exact Sel.done (Suf.tail (Suf.tail (Suf.tail Suf.refl))) | (apply Sel.done; (focus((repeat(first|exact Suf.refl | apply Suf.tail)); done)))) | (refine Sel.cons (by with_reducible (focus((repeat(first|exact .head|apply Take.tail));done))) ?_))))
  go_loopw [37] (fun v wr => Cn4 W (fun q => [blk vb [.map (some mb), .pointer (some ⟨bb, 0, none⟩), .int .i64 n] 80, amap eS eP mb q, bookL bb L2 n] ++ R) p who ⟨h0, h1', h2', h3'⟩ v wr) (fun v _ => 4 - (intOf v).toNat)
  case atStart => exact .inl ⟨rfl, hS⟩
  case round =>
    clear hS
    simp only [Cn4, backP, List.cons_append, List.nil_append] at hrel
    rcases hrel with ⟨rfl, hS⟩ | ⟨rfl, hS⟩ | ⟨rfl, hS⟩ | ⟨rfl, hS⟩ | ⟨rfl, hS⟩
    · go_wp2_with (first | ((with_reducible apply wl_idx); (with_reducible rfl); rfl; rfl; rfl; (first | exact idx0 _ _ _ _ | exact idx1 _ _ _ _ | exact idx2 _ _ _ _ | exact idx3 _ _ _ _); (simp only [Act.put, fA, fB, fC, Nat.reduceAdd])) | (go_at_call 54; refine (gets_spec vb mb _ _ _ _ _ _ ?_ ?_ ?_ W _ _ hS).mono ?_; (focus (exact G0.out _)); (focus decide); (focus (exact ⟨by omega, by omega⟩)); clear hS; rintro e w ⟨rfl, hS⟩))
      go_roundw
      case rel => exact .inr (.inl ⟨rfl, hS⟩)
      case measure => simp [intOf]
    · go_wp2_with (first | ((with_reducible apply wl_idx); (with_reducible rfl); rfl; rfl; rfl; (first | exact idx0 _ _ _ _ | exact idx1 _ _ _ _ | exact idx2 _ _ _ _ | exact idx3 _ _ _ _); (simp only [Act.put, fA, fB, fC, Nat.reduceAdd])) | (go_at_call 54; refine (gets_spec vb mb _ _ _ _ _ _ ?_ ?_ ?_ W _ _ hS).mono ?_; (focus (exact G1.out _)); (focus decide); (focus (exact ⟨by omega, by omega⟩)); clear hS; rintro e w ⟨rfl, hS⟩))
      go_roundw
      case rel => exact .inr (.inr (.inl ⟨rfl, hS⟩))
      case measure => simp [intOf]
    · go_wp2_with (first | ((with_reducible apply wl_idx); (with_reducible rfl); rfl; rfl; rfl; (first | exact idx0 _ _ _ _ | exact idx1 _ _ _ _ | exact idx2 _ _ _ _ | exact idx3 _ _ _ _); (simp only [Act.put, fA, fB, fC, Nat.reduceAdd])) | (go_at_call 54; refine (gets_spec vb mb _ _ _ _ _ _ ?_ ?_ ?_ W _ _ hS).mono ?_; (focus (exact G2.out _)); (focus decide); (focus (exact ⟨by omega, by omega⟩)); clear hS; rintro e w ⟨rfl, hS⟩))
      go_roundw
      case rel => exact .inr (.inr (.inr (.inl ⟨rfl, hS⟩)))
      case measure => simp [intOf]
    · go_wp2_with (first | ((with_reducible apply wl_idx); (with_reducible rfl); rfl; rfl; rfl; (first | exact idx0 _ _ _ _ | exact idx1 _ _ _ _ | exact idx2 _ _ _ _ | exact idx3 _ _ _ _); (simp only [Act.put, fA, fB, fC, Nat.reduceAdd])) | (go_at_call 54; refine (gets_spec vb mb _ _ _ _ _ _ ?_ ?_ ?_ W _ _ hS).mono ?_; (focus (exact G3.out _)); (focus decide); (focus (exact ⟨by omega, by omega⟩)); clear hS; rintro e w ⟨rfl, hS⟩))
      go_roundw
      case rel => exact .inr (.inr (.inr (.inr ⟨rfl, hS⟩)))
      case measure => simp [intOf]
    · go_wp2_with (fail)
      go_ret
      exact ⟨rfl, hS⟩
end
end Go.Proofs.YtbcokphjpllbiaaGreat
end
