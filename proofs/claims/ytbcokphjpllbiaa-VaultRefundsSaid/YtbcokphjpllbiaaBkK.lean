/-
  Cancel: which order is taken out, what the book is then. For every book and every ID.
-/
import Derived.Test.YtbcokphjpllbiaaBkI
set_option linter.unusedSimpArgs false
set_option linter.unusedVariables false
namespace Go.Proofs.Ytbcokphjpllbiaa
open Go.RowKit Go.Sl
/-- Above place j nothing is touched on the way up. -/
theorem upF_behind : ∀ (f : Nat) (xs : List Ord) (j k : Nat), j < k → (upF f xs j)[k]? = xs[k]?
  | 0, _, _, _, _ => rfl
  | f + 1, xs, j, k, hk => by
    rw [upF]
    split
    · rename_i h
      split
      · rw [upF_behind f _ _ _ (by omega)]
        simp only [swapL]
        rw [List.getElem?_set_ne (by omega), List.getElem?_set_ne (by omega)]
      · rfl
    · rfl
theorem remF_last (xs : List Ord) (i n : Nat) (h : xs.length = n + 1) (hi : i ≤ n) : (remF xs i n h hi)[n]? = xs[i]? := by
  have hsw : (swapL xs i n (by omega) (by omega))[n]? = xs[i]? := by
    rw [List.getElem?_eq_getElem (by rw [swapL_length]; omega), swapL_get, if_pos rfl, List.getElem?_eq_getElem (by omega)]
  unfold remF
  split
  · rename_i he; rw [he]
  · split
    · rw [downF_behind _ _ _ _ _ (Nat.le_refl _), hsw]
    · rw [upF_behind _ _ _ _ (by omega), downF_behind _ _ _ _ _ (Nat.le_refl _), hsw]
theorem remF_perm (xs : List Ord) (i n : Nat) (h : xs.length = n + 1) (hi : i ≤ n) : (remF xs i n h hi).Perm xs := by
  unfold remF
  split
  · exact .refl _
  · split
    · exact (downF_perm _ _ _ _).trans (swapL_perm _ _ _ _ _)
    · exact (upF_perm _ _ _).trans ((downF_perm _ _ _ _).trans (swapL_perm _ _ _ _ _))
/-- Take the one at place i out of a heap. -/
def remT (xs : List Ord) (i : Nat) : List Ord := if h : i < xs.length then (remF xs i (xs.length - 1) (by omega) (by omega)).take (xs.length - 1) else xs
theorem remT_length (xs : List Ord) (i : Nat) (h : i < xs.length) : (remT xs i).length = xs.length - 1 := by
  unfold remT
  rw [dif_pos h, List.length_take, remF_length]
  omega
theorem remT_perm (xs : List Ord) (i : Nat) (h : i < xs.length) : (xs[i] :: remT xs i).Perm xs := by
  unfold remT
  rw [dif_pos h]
  obtain ⟨n, hn⟩ : ∃ n, xs.length = n + 1 := ⟨xs.length - 1, by omega⟩
  have h1 := remF_perm xs i n hn (by omega)
  have h2 := remF_last xs i n hn (by omega)
  have h3 := remF_length (xs := xs) (i := i) hn (by omega)
  rw [List.getElem?_eq_getElem (by rw [h3]; omega), List.getElem?_eq_getElem h] at h2
  have h4 : (remF xs i n hn (by omega)) = (remF xs i n hn (by omega)).take n ++ [xs[i]] := by
    have h5 : (remF xs i n hn (by omega)).drop n = [xs[i]] := by
      rw [List.drop_eq_getElem_cons (by rw [h3]; omega), List.drop_eq_nil_of_le (by rw [h3]; omega)]
      simp only [Option.some.injEq] at h2
      rw [h2]
    rw [← h5, List.take_append_drop]
  simp only [hn, Nat.add_sub_cancel]
  rw [h4] at h1
  exact (List.perm_append_singleton _ _).symm.trans h1
/-- Where an order of this ID stands: pile and place. -/
def findAt (ps : List (List Ord)) (id : Int) : List Nat → Option (Nat × Nat)
  | [] => none
  | k :: ks => match (ps.getD k []).findIdx? (fun o => o.id == id) with
    | some i => some (k, i)
    | none => findAt ps id ks
def o0 : Ord := ⟨0, ⟨#[]⟩, false, 0, 0, 0⟩
structure Cancelled where
  o : Ord
  errno : Int
  book : Bk
def cancelB (b : Bk) (id : Int) : Cancelled :=
  match findAt b.ps id offs with
  | none => ⟨o0, 7, b⟩
  | some (k, i) => ⟨(b.pile k).getD i o0, 0, ⟨b.ps.set k (remT (b.pile k) i), b.last⟩⟩
def idxI (id : Int) (p : List Ord) : Int := match p.findIdx? (fun o => o.id == id) with
  | some i => i
  | none => -1

set_option maxHeartbeats 1000000 in
theorem cancel1_spec (x : Ord) (B : Nat) (id : Int) (W w : World) (L : List HP) (hS : St W (blk B [.int .i64 id] 3 :: L) w) :
    Calls Try.prog 51 #[.agg x.cells.toArray, .pointer (some ⟨B, 0, none⟩)] w fun e w' => e = .returned (.bool (x.id == id)) ∧ St W (blk B [.int .i64 id] 3 :: L) w' := by
  obtain ⟨i, u, y, t, c, p⟩ := x
  simp only [Ord.cells]
  go_enter Try.func51, Try.ntmps51
  go_wp2_with (first | ((with_reducible apply wl_ld1 hS); (with_reducible rfl); rfl; rfl; decide +kernel; (first | exact Cell.here rfl | exact Cell.there (Cell.here rfl) | exact Cell.there (Cell.there (Cell.here rfl)) | exact Cell.there (Cell.there (Cell.there (Cell.here rfl))) | exact Cell.there (Cell.there (Cell.there (Cell.there (Cell.here rfl)))) | exact Cell.there (Cell.there (Cell.there (Cell.there (Cell.there (Cell.here rfl))))) | exact Cell.there (Cell.there (Cell.there (Cell.there (Cell.there (Cell.there (Cell.here rfl)))))) | assumption); (simp only [Act.put, List.setIfInBounds_toArray, List.set_cons_succ, List.set_cons_zero, Nat.reduceAdd])) | ((with_reducible apply wl_ldN hS); (with_reducible rfl); rfl; rfl; decide +kernel; (first | exact Cells.whole | exact Cells.there Cells.whole | exact Cells.there (Cells.there Cells.whole) | exact Cells.there (Cells.there (Cells.there Cells.whole)) | exact Cells.there (Cells.there (Cells.there (Cells.there Cells.whole))) | exact Cells.there (Cells.there (Cells.there (Cells.there (Cells.there Cells.whole)))) | exact Cells.there (Cells.there (Cells.there (Cells.there (Cells.there (Cells.there Cells.whole))))) | assumption); kernel_rfl; (simp only [Act.put, List.setIfInBounds_toArray, List.set_cons_succ, List.set_cons_zero, Nat.reduceAdd])) | ((with_reducible apply wl_st1 hS); (with_reducible rfl); rfl; rfl; (focus ((conv => lhs; whnf); try rfl)); kernel_rfl; rfl; rfl; (first | exact Upd.head | exact Upd.tail Upd.head | exact Upd.tail (Upd.tail Upd.head) | exact Upd.tail (Upd.tail (Upd.tail Upd.head)) | exact Upd.tail (Upd.tail (Upd.tail (Upd.tail Upd.head))) | exact Upd.tail (Upd.tail (Upd.tail (Upd.tail (Upd.tail Upd.head)))) | exact Upd.tail (Upd.tail (Upd.tail (Upd.tail (Upd.tail (Upd.tail Upd.head)))))); (simp only [List.length_cons, List.length_nil]; omega); ((simp only [List.set_cons_zero, List.set_cons_succ, setAll]); rfl); clear hS; intro w hS; try (simp only [Act.put, List.setIfInBounds_toArray, List.set_cons_succ, List.set_cons_zero, Nat.reduceAdd])) | ((with_reducible apply wl_stN hS); (with_reducible rfl); rfl; rfl; (focus ((conv => lhs; whnf); try rfl)); kernel_rfl; rfl; (first | exact Upd.head | exact Upd.tail Upd.head | exact Upd.tail (Upd.tail Upd.head) | exact Upd.tail (Upd.tail (Upd.tail Upd.head)) | exact Upd.tail (Upd.tail (Upd.tail (Upd.tail Upd.head))) | exact Upd.tail (Upd.tail (Upd.tail (Upd.tail (Upd.tail Upd.head)))) | exact Upd.tail (Upd.tail (Upd.tail (Upd.tail (Upd.tail (Upd.tail Upd.head)))))); (simp only [List.length_cons, List.length_nil]; omega); ((simp only [List.set_cons_zero, List.set_cons_succ, setAll]); rfl); clear hS; intro w hS; try (simp only [Act.put, List.setIfInBounds_toArray, List.set_cons_succ, List.set_cons_zero, Nat.reduceAdd])) | ((with_reducible apply wl_box hS); (with_reducible rfl); rfl; rfl; rfl; clear hS; intro b w hS; (simp only [Act.put, List.setIfInBounds_toArray, List.set_cons_succ, List.set_cons_zero, Nat.reduceAdd])) | ((with_reducible apply wl_alloc hS); (with_reducible rfl); rfl; (with_reducible first | exact Ty.z3 | exact Ty.z28 | exact Ty.z32 | exact Ty.z40 | exact Ty.z46 | exact Ty.z69 | exact Ty.z86 | exact Ty.z146); clear hS; intro b w hS; (simp only [Act.put, List.setIfInBounds_toArray, List.set_cons_succ, List.set_cons_zero, Nat.reduceAdd])))
  go_ret
  exact ⟨rfl, hS.drop⟩
def IdxRel (W : World) (L : List HP) (v : Value) (p : List Ord) (id : Int) (r : Int) (v8 : Value) (w : World) : Prop :=
  ∃ k : Nat, v8 = .int .i64 k ∧ k ≤ p.length ∧ (∀ j, j < k → ∀ x, p[j]? = some x → (x.id == id) = false) ∧ St W L w
theorem idxI_end (p : List Ord) (id : Int) (h : ∀ j, j < p.length → ∀ x, p[j]? = some x → (x.id == id) = false) : idxI id p = -1 := by
  unfold idxI
  rw [List.findIdx?_eq_none_iff.2]
  intro x hx
  obtain ⟨j, hj, rfl⟩ := List.mem_iff_getElem.1 hx
  exact h j hj _ (List.getElem?_eq_getElem hj)
theorem idxI_at (p : List Ord) (id : Int) (k : Nat) (hk : k < p.length) (h : ∀ j, j < k → ∀ x, p[j]? = some x → (x.id == id) = false) (hx : (p[k].id == id) = true) : idxI id p = k := by
  unfold idxI
  rw [List.findIdx?_eq_some_iff_getElem.2 ⟨hk, hx, fun j hj => by rw [h j hj _ (List.getElem?_eq_getElem (by omega))]; exact Bool.false_ne_true⟩]
set_option maxRecDepth 100000 in
set_option maxHeartbeats 1000000 in
theorem indexf_spec (p : List Ord) (v : Value) (B : Nat) (id : Int) (h63 : p.length ≤ 4294967296) (W w : World) (L : List HP) (hS : St W (blk B [.int .i64 id] 3 :: pileR v p :: L) w) :
    Calls Try.prog 50 #[v, .func (.func 51) #[] #[.pointer (some ⟨B, 0, none⟩)]] w fun e w' => e = .returned (.int .i64 (idxI id p)) ∧ St W (blk B [.int .i64 id] 3 :: pileR v p :: L) w' := by
  rcases hS.swap.rowOpen with ⟨rfl, h0, _, _⟩ | ⟨g, cap, junk, rfl, hn1, hm1, hj1, hl1, hS0⟩
  · obtain rfl : p = [] := List.eq_nil_of_length_eq_zero h0
    go_enter Try.func50, Try.ntmps50
    go_wp2_with fail
    go_loopw [8] (fun v wr => v = .int .i64 0 ∧ St W (blk B [.int .i64 id] 3 :: pileR (.slice none 0 0) [] :: L) wr) (fun v _ => 0)
    case atStart => exact ⟨rfl, hS⟩
    case round =>
      clear hS
      obtain ⟨rfl, hS⟩ := hrel
      go_wp2_with fail
      go_ret
      exact ⟨rfl, hS⟩
  · clear hS
    have hm' : cap ≤ 9223372036854775807 := by unfold maxLen at hm1; omega
    go_enter Try.func50, Try.ntmps50
    go_wp2_with fail
    go_loopw [8] (fun v wr => IdxRel W (blk B [.int .i64 id] 3 :: blk g (p.flatMap Ord.cells ++ junk) 32 :: L) (.slice (some ⟨g, 0, none⟩) p.length cap) p id (idxI id p) v wr) (fun v _ => p.length - (intOf v).toNat)
    case atStart => exact ⟨0, rfl, by omega, fun j hj => by omega, hS0.swap⟩
    case round =>
      clear hS0
      obtain ⟨k, rfl, hk, hno, hS⟩ := hrel
      by_cases hkn : k = p.length
      · have Hr := Lib.hid (idxI_end p id (hkn ▸ hno))
        clear hno
        subst hkn
        go_wp2_with fail
        go_ret
        rw [Hr.out]
        exact ⟨rfl, (St.rowShut hS.swap hn1 hm1 hj1 hl1).swap⟩
      · have hkl : k < p.length := by omega
        clear hkn hk
        have Hno := Lib.hid hno
        clear hno
        cases hb : (p[k].id == id)
        · go_wp2_with (first | ((with_reducible apply wl_ldN hS); (with_reducible rfl); rfl; rfl; decide +kernel; (exact Cells.there (Cells.elem Ord.len hkl)); kernel_rfl; (simp only [Act.put, List.setIfInBounds_toArray, List.set_cons_succ, List.set_cons_zero, Nat.reduceAdd])) | (go_at_call 51; refine (cancel1_spec p[k] B id W _ _ hS).mono ?_; clear hS; rw [hb]; rintro e w ⟨rfl, hS⟩) | ((with_reducible apply wl_ld1 hS); (with_reducible rfl); rfl; rfl; decide +kernel; (first | exact Cell.here rfl | exact Cell.there (Cell.here rfl) | exact Cell.there (Cell.there (Cell.here rfl)) | exact Cell.there (Cell.there (Cell.there (Cell.here rfl))) | exact Cell.there (Cell.there (Cell.there (Cell.there (Cell.here rfl)))) | exact Cell.there (Cell.there (Cell.there (Cell.there (Cell.there (Cell.here rfl))))) | exact Cell.there (Cell.there (Cell.there (Cell.there (Cell.there (Cell.there (Cell.here rfl)))))) | assumption); (simp only [Act.put, List.setIfInBounds_toArray, List.set_cons_succ, List.set_cons_zero, Nat.reduceAdd])) | ((with_reducible apply wl_ldN hS); (with_reducible rfl); rfl; rfl; decide +kernel; (first | exact Cells.whole | exact Cells.there Cells.whole | exact Cells.there (Cells.there Cells.whole) | exact Cells.there (Cells.there (Cells.there Cells.whole)) | exact Cells.there (Cells.there (Cells.there (Cells.there Cells.whole))) | exact Cells.there (Cells.there (Cells.there (Cells.there (Cells.there Cells.whole)))) | exact Cells.there (Cells.there (Cells.there (Cells.there (Cells.there (Cells.there Cells.whole))))) | assumption); kernel_rfl; (simp only [Act.put, List.setIfInBounds_toArray, List.set_cons_succ, List.set_cons_zero, Nat.reduceAdd])) | ((with_reducible apply wl_st1 hS); (with_reducible rfl); rfl; rfl; (focus ((conv => lhs; whnf); try rfl)); kernel_rfl; rfl; rfl; (first | exact Upd.head | exact Upd.tail Upd.head | exact Upd.tail (Upd.tail Upd.head) | exact Upd.tail (Upd.tail (Upd.tail Upd.head)) | exact Upd.tail (Upd.tail (Upd.tail (Upd.tail Upd.head))) | exact Upd.tail (Upd.tail (Upd.tail (Upd.tail (Upd.tail Upd.head)))) | exact Upd.tail (Upd.tail (Upd.tail (Upd.tail (Upd.tail (Upd.tail Upd.head)))))); (simp only [List.length_cons, List.length_nil]; omega); ((simp only [List.set_cons_zero, List.set_cons_succ, setAll]); rfl); clear hS; intro w hS; try (simp only [Act.put, List.setIfInBounds_toArray, List.set_cons_succ, List.set_cons_zero, Nat.reduceAdd])) | ((with_reducible apply wl_stN hS); (with_reducible rfl); rfl; rfl; (focus ((conv => lhs; whnf); try rfl)); kernel_rfl; rfl; (first | exact Upd.head | exact Upd.tail Upd.head | exact Upd.tail (Upd.tail Upd.head) | exact Upd.tail (Upd.tail (Upd.tail Upd.head)) | exact Upd.tail (Upd.tail (Upd.tail (Upd.tail Upd.head))) | exact Upd.tail (Upd.tail (Upd.tail (Upd.tail (Upd.tail Upd.head)))) | exact Upd.tail (Upd.tail (Upd.tail (Upd.tail (Upd.tail (Upd.tail Upd.head)))))); (simp only [List.length_cons, List.length_nil]; omega); ((simp only [List.set_cons_zero, List.set_cons_succ, setAll]); rfl); clear hS; intro w hS; try (simp only [Act.put, List.setIfInBounds_toArray, List.set_cons_succ, List.set_cons_zero, Nat.reduceAdd])) | ((with_reducible apply wl_box hS); (with_reducible rfl); rfl; rfl; rfl; clear hS; intro b w hS; (simp only [Act.put, List.setIfInBounds_toArray, List.set_cons_succ, List.set_cons_zero, Nat.reduceAdd])) | ((with_reducible apply wl_alloc hS); (with_reducible rfl); rfl; (with_reducible first | exact Ty.z3 | exact Ty.z28 | exact Ty.z32 | exact Ty.z40 | exact Ty.z46 | exact Ty.z69 | exact Ty.z86 | exact Ty.z146); clear hS; intro b w hS; (simp only [Act.put, List.setIfInBounds_toArray, List.set_cons_succ, List.set_cons_zero, Nat.reduceAdd])))
          go_roundw
          case rel =>
            refine ⟨k + 1, rfl, hkl, ?_, hS⟩
            intro j hj x hx
            by_cases hjk : j = k
            · subst hjk
              rw [List.getElem?_eq_getElem hkl] at hx
              cases hx
              exact hb
            · exact Hno.out j (by omega) x hx
          case measure => simp [intOf]; omega
        · go_wp2_with (first | ((with_reducible apply wl_ldN hS); (with_reducible rfl); rfl; rfl; decide +kernel; (exact Cells.there (Cells.elem Ord.len hkl)); kernel_rfl; (simp only [Act.put, List.setIfInBounds_toArray, List.set_cons_succ, List.set_cons_zero, Nat.reduceAdd])) | (go_at_call 51; refine (cancel1_spec p[k] B id W _ _ hS).mono ?_; clear hS; rw [hb]; rintro e w ⟨rfl, hS⟩) | ((with_reducible apply wl_ld1 hS); (with_reducible rfl); rfl; rfl; decide +kernel; (first | exact Cell.here rfl | exact Cell.there (Cell.here rfl) | exact Cell.there (Cell.there (Cell.here rfl)) | exact Cell.there (Cell.there (Cell.there (Cell.here rfl))) | exact Cell.there (Cell.there (Cell.there (Cell.there (Cell.here rfl)))) | exact Cell.there (Cell.there (Cell.there (Cell.there (Cell.there (Cell.here rfl))))) | exact Cell.there (Cell.there (Cell.there (Cell.there (Cell.there (Cell.there (Cell.here rfl)))))) | assumption); (simp only [Act.put, List.setIfInBounds_toArray, List.set_cons_succ, List.set_cons_zero, Nat.reduceAdd])) | ((with_reducible apply wl_ldN hS); (with_reducible rfl); rfl; rfl; decide +kernel; (first | exact Cells.whole | exact Cells.there Cells.whole | exact Cells.there (Cells.there Cells.whole) | exact Cells.there (Cells.there (Cells.there Cells.whole)) | exact Cells.there (Cells.there (Cells.there (Cells.there Cells.whole))) | exact Cells.there (Cells.there (Cells.there (Cells.there (Cells.there Cells.whole)))) | exact Cells.there (Cells.there (Cells.there (Cells.there (Cells.there (Cells.there Cells.whole))))) | assumption); kernel_rfl; (simp only [Act.put, List.setIfInBounds_toArray, List.set_cons_succ, List.set_cons_zero, Nat.reduceAdd])) | ((with_reducible apply wl_st1 hS); (with_reducible rfl); rfl; rfl; (focus ((conv => lhs; whnf); try rfl)); kernel_rfl; rfl; rfl; (first | exact Upd.head | exact Upd.tail Upd.head | exact Upd.tail (Upd.tail Upd.head) | exact Upd.tail (Upd.tail (Upd.tail Upd.head)) | exact Upd.tail (Upd.tail (Upd.tail (Upd.tail Upd.head))) | exact Upd.tail (Upd.tail (Upd.tail (Upd.tail (Upd.tail Upd.head)))) | exact Upd.tail (Upd.tail (Upd.tail (Upd.tail (Upd.tail (Upd.tail Upd.head)))))); (simp only [List.length_cons, List.length_nil]; omega); ((simp only [List.set_cons_zero, List.set_cons_succ, setAll]); rfl); clear hS; intro w hS; try (simp only [Act.put, List.setIfInBounds_toArray, List.set_cons_succ, List.set_cons_zero, Nat.reduceAdd])) | ((with_reducible apply wl_stN hS); (with_reducible rfl); rfl; rfl; (focus ((conv => lhs; whnf); try rfl)); kernel_rfl; rfl; (first | exact Upd.head | exact Upd.tail Upd.head | exact Upd.tail (Upd.tail Upd.head) | exact Upd.tail (Upd.tail (Upd.tail Upd.head)) | exact Upd.tail (Upd.tail (Upd.tail (Upd.tail Upd.head))) | exact Upd.tail (Upd.tail (Upd.tail (Upd.tail (Upd.tail Upd.head)))) | exact Upd.tail (Upd.tail (Upd.tail (Upd.tail (Upd.tail (Upd.tail Upd.head)))))); (simp only [List.length_cons, List.length_nil]; omega); ((simp only [List.set_cons_zero, List.set_cons_succ, setAll]); rfl); clear hS; intro w hS; try (simp only [Act.put, List.setIfInBounds_toArray, List.set_cons_succ, List.set_cons_zero, Nat.reduceAdd])) | ((with_reducible apply wl_box hS); (with_reducible rfl); rfl; rfl; rfl; clear hS; intro b w hS; (simp only [Act.put, List.setIfInBounds_toArray, List.set_cons_succ, List.set_cons_zero, Nat.reduceAdd])) | ((with_reducible apply wl_alloc hS); (with_reducible rfl); rfl; (with_reducible first | exact Ty.z3 | exact Ty.z28 | exact Ty.z32 | exact Ty.z40 | exact Ty.z46 | exact Ty.z69 | exact Ty.z86 | exact Ty.z146); clear hS; intro b w hS; (simp only [Act.put, List.setIfInBounds_toArray, List.set_cons_succ, List.set_cons_zero, Nat.reduceAdd])))
          go_ret
          rw [idxI_at p id k hkl Hno.out hb]
          exact ⟨rfl, (St.rowShut hS.swap hn1 hm1 hj1 hl1).swap⟩
end Go.Proofs.Ytbcokphjpllbiaa
