/-
  BookGone: the walk. For all prices, all that are cancelled, every order.
-/
import Derived.Test.YtihciopankhjgaaBkU
import Derived.Test.YtihciopankhjgaaInts
set_option linter.unusedSimpArgs false
set_option linter.unusedVariables false
namespace Go.Proofs.Ytihciopankhjgaa
open Go.RowKit Go.Sl
theorem IntsV.flat {V : World} {v : Value} {zs : List Int} (h : IntsV V v zs) : ∃ a cap, v = .slice a zs.length cap ∧ zs.length ≤ 9223372036854775807 ∧ ∀ i, i < zs.length → ∃ b off, a = some ⟨b, off, none⟩ ∧ V.cell? ⟨b, off + i, none⟩ = some (.int .i64 (zs.getD i 0)) := by
  rcases h with ⟨rfl, a, cap, rfl⟩ | ⟨b, off, cap, rfl, _, h63, hc⟩
  · exact ⟨a, cap, rfl, by simp, fun i hi => absurd hi (Nat.not_lt_zero _)⟩
  · exact ⟨_, cap, rfl, h63, fun i hi => ⟨b, off, rfl, hc i hi⟩⟩
/-! A row that is only read. -/
section
variable {W w : World} {L : List HP} {a : Option Addr} {v : Value} {k n c g off : Nat} {T : TypeId} {cs : List Value}
theorem St.rowAddr (h : St W (row (.slice a n c) k T n cs :: L) w) (hn : 0 < n) : (∃ g, a = some ⟨g, 0, none⟩) ∧ c ≤ 9223372036854775807 ∧ n ≤ c := by
  rcases h.rowOpen with ⟨_, h0, _⟩ | ⟨g, cap, junk, hv, hn1, hm1, _⟩
  · omega
  · injection hv with e1 e2 e3
    subst e3
    exact ⟨⟨g, e1⟩, hm1, hn1⟩
theorem Cell.row (hn : 0 < n) (h : cs[off]? = some v) : Cell (Sl.row (.slice (some ⟨g, 0, none⟩) n c) k T n cs :: L) g off v := fun W w hS => by
  rcases hS.rowOpen with ⟨_, h0, _⟩ | ⟨g', cap, junk, hv, hn1, hm1, hj1, hl1, hS'⟩
  · omega
  · injection hv with e1 e2 e3
    injection e1 with e1
    injection e1 with e1
    subst e1
    exact hS'.cell .head (by rw [List.getElem?_append_left (List.getElem?_eq_some_iff.1 h).1]; exact h)
theorem Cells.rowE {α : Type} {enc : α → List Value} (henc : ∀ x, (enc x).length = k) {xs : List α} {i : Nat} (h : i < xs.length) : Cells (Sl.row (.slice (some ⟨g, 0, none⟩) xs.length c) k T xs.length (xs.flatMap enc) :: L) g (i * k) (enc xs[i]) := fun j v hj => by
  refine Cell.row (by omega) ?_
  have hl : j < (enc xs[i]).length := (List.getElem?_eq_some_iff.1 hj).1
  have := flat_get henc xs [] i h j (by rwa [henc] at hl)
  rw [List.append_nil] at this
  rw [this]
  exact hj
theorem Cell.rowE {α : Type} {enc : α → List Value} (henc : ∀ x, (enc x).length = k) {xs : List α} {i j : Nat} (h : i < xs.length) (hv : (enc xs[i])[j]? = some v) : Cell (Sl.row (.slice (some ⟨g, 0, none⟩) xs.length c) k T xs.length (xs.flatMap enc) :: L) g (i * k + j) v :=
  Cells.rowE henc h j v hv
end
def intsR (v : Value) (ks : List Int) : HP := row v 1 3 ks.length (ks.map (Value.int .i64))
def Gone1 (W : World) (L : List HP) (zs : List Int) (bb : Nat) (v8 : Value) (w : World) : Prop :=
  ∃ (k : Nat) (q : List Ord), v8 = .int .i64 k ∧ k ≤ zs.length ∧ q.length = k ∧ GoneQ k q ∧ St W (bookP bb (bG q k) :: L) w
def Gone2 (W : World) (L : List HP) (n m : Nat) (bb : Nat) (v9 v10 : Value) (w : World) : Prop :=
  ∃ (k : Nat) (q : List Ord) (gone : List Int), v10 = .int .i64 k ∧ k ≤ m ∧ q.length ≤ 20 ∧ GoneQ n q ∧ gone.length = k ∧ (∀ x ∈ q, x.id ∉ gone) ∧ (∀ x ∈ gone, x ≤ 32) ∧ St W (bookP bb (bG q n) :: intsR v9 gone :: L) w
def Gone3 (W : World) (L : List HP) (n : Nat) (v : Value) (w : World) : Prop := ∃ i : Nat, v = .int .i64 i ∧ i ≤ n ∧ St W L w
set_option maxRecDepth 100000 in
set_option maxHeartbeats 4000000 in
theorem gone_out (zs cs : List Int) (a c : Option Addr) (cap cap' : Nat) (o : Ord) (ho : 20 < zs.length ∨ 40 < cs.length ∨ o.id ≤ 40 ∨ 1000 < o.id) (h1 : zs.length ≤ 9223372036854775807) (h2 : cs.length ≤ 9223372036854775807) (W w : World) (L : List HP) (hS : St W L w) :
    Calls Try.prog 5 #[.slice a zs.length cap, .slice c cs.length cap', .agg o.cells.toArray] w fun e w' => e = .returned (.bool true) ∧ St W L w' := by
  obtain ⟨i, u, y, t, n, p⟩ := o
  simp only [Ord.cells]
  simp only at ho
  go_enter Try.func5, Try.ntmps5
  by_cases h20 : 20 < zs.length
  · go_wp2_with (first | ((with_reducible apply wl_ld1 hS); (with_reducible rfl); rfl; rfl; decide +kernel; (first | exact Cell.here rfl | exact Cell.there (Cell.here rfl) | exact Cell.there (Cell.there (Cell.here rfl)) | exact Cell.there (Cell.there (Cell.there (Cell.here rfl))) | exact Cell.there (Cell.there (Cell.there (Cell.there (Cell.here rfl)))) | exact Cell.there (Cell.there (Cell.there (Cell.there (Cell.there (Cell.here rfl))))) | exact Cell.there (Cell.there (Cell.there (Cell.there (Cell.there (Cell.there (Cell.here rfl)))))) | assumption); (simp only [Act.put, List.setIfInBounds_toArray, List.set_cons_succ, List.set_cons_zero, Nat.reduceAdd])) | ((with_reducible apply wl_ldN hS); (with_reducible rfl); rfl; rfl; decide +kernel; (first | exact Cells.whole | exact Cells.there Cells.whole | exact Cells.there (Cells.there Cells.whole) | exact Cells.there (Cells.there (Cells.there Cells.whole)) | exact Cells.there (Cells.there (Cells.there (Cells.there Cells.whole))) | exact Cells.there (Cells.there (Cells.there (Cells.there (Cells.there Cells.whole)))) | exact Cells.there (Cells.there (Cells.there (Cells.there (Cells.there (Cells.there Cells.whole))))) | assumption); kernel_rfl; (simp only [Act.put, List.setIfInBounds_toArray, List.set_cons_succ, List.set_cons_zero, Nat.reduceAdd])) | ((with_reducible apply wl_st1 hS); (with_reducible rfl); rfl; rfl; (focus ((conv => lhs; whnf); try rfl)); kernel_rfl; rfl; rfl; (first | exact Upd.head | exact Upd.tail Upd.head | exact Upd.tail (Upd.tail Upd.head) | exact Upd.tail (Upd.tail (Upd.tail Upd.head)) | exact Upd.tail (Upd.tail (Upd.tail (Upd.tail Upd.head))) | exact Upd.tail (Upd.tail (Upd.tail (Upd.tail (Upd.tail Upd.head)))) | exact Upd.tail (Upd.tail (Upd.tail (Upd.tail (Upd.tail (Upd.tail Upd.head)))))); (simp only [List.length_cons, List.length_nil]; omega); ((simp only [List.set_cons_zero, List.set_cons_succ, setAll]); rfl); clear hS; intro w hS; try (simp only [Act.put, List.setIfInBounds_toArray, List.set_cons_succ, List.set_cons_zero, Nat.reduceAdd])) | ((with_reducible apply wl_stN hS); (with_reducible rfl); rfl; rfl; (focus ((conv => lhs; whnf); try rfl)); kernel_rfl; rfl; (first | exact Upd.head | exact Upd.tail Upd.head | exact Upd.tail (Upd.tail Upd.head) | exact Upd.tail (Upd.tail (Upd.tail Upd.head)) | exact Upd.tail (Upd.tail (Upd.tail (Upd.tail Upd.head))) | exact Upd.tail (Upd.tail (Upd.tail (Upd.tail (Upd.tail Upd.head)))) | exact Upd.tail (Upd.tail (Upd.tail (Upd.tail (Upd.tail (Upd.tail Upd.head)))))); (simp only [List.length_cons, List.length_nil]; omega); ((simp only [List.set_cons_zero, List.set_cons_succ, setAll]); rfl); clear hS; intro w hS; try (simp only [Act.put, List.setIfInBounds_toArray, List.set_cons_succ, List.set_cons_zero, Nat.reduceAdd])) | ((with_reducible apply wl_box hS); (with_reducible rfl); rfl; rfl; rfl; clear hS; intro b w hS; (simp only [Act.put, List.setIfInBounds_toArray, List.set_cons_succ, List.set_cons_zero, Nat.reduceAdd])) | ((with_reducible apply wl_alloc hS); (with_reducible rfl); rfl; (with_reducible first | exact Ty.z3 | exact Ty.z31 | exact Ty.z33 | exact Ty.z59 | exact Ty.z79 | exact Ty.z110); clear hS; intro b w hS; (simp only [Act.put, List.setIfInBounds_toArray, List.set_cons_succ, List.set_cons_zero, Nat.reduceAdd])))
    all_goals go_ret
    all_goals exact ⟨rfl, hS.drop⟩
  · by_cases h40 : 40 < cs.length
    · go_wp2_with (first | ((with_reducible apply wl_ld1 hS); (with_reducible rfl); rfl; rfl; decide +kernel; (first | exact Cell.here rfl | exact Cell.there (Cell.here rfl) | exact Cell.there (Cell.there (Cell.here rfl)) | exact Cell.there (Cell.there (Cell.there (Cell.here rfl))) | exact Cell.there (Cell.there (Cell.there (Cell.there (Cell.here rfl)))) | exact Cell.there (Cell.there (Cell.there (Cell.there (Cell.there (Cell.here rfl))))) | exact Cell.there (Cell.there (Cell.there (Cell.there (Cell.there (Cell.there (Cell.here rfl)))))) | assumption); (simp only [Act.put, List.setIfInBounds_toArray, List.set_cons_succ, List.set_cons_zero, Nat.reduceAdd])) | ((with_reducible apply wl_ldN hS); (with_reducible rfl); rfl; rfl; decide +kernel; (first | exact Cells.whole | exact Cells.there Cells.whole | exact Cells.there (Cells.there Cells.whole) | exact Cells.there (Cells.there (Cells.there Cells.whole)) | exact Cells.there (Cells.there (Cells.there (Cells.there Cells.whole))) | exact Cells.there (Cells.there (Cells.there (Cells.there (Cells.there Cells.whole)))) | exact Cells.there (Cells.there (Cells.there (Cells.there (Cells.there (Cells.there Cells.whole))))) | assumption); kernel_rfl; (simp only [Act.put, List.setIfInBounds_toArray, List.set_cons_succ, List.set_cons_zero, Nat.reduceAdd])) | ((with_reducible apply wl_st1 hS); (with_reducible rfl); rfl; rfl; (focus ((conv => lhs; whnf); try rfl)); kernel_rfl; rfl; rfl; (first | exact Upd.head | exact Upd.tail Upd.head | exact Upd.tail (Upd.tail Upd.head) | exact Upd.tail (Upd.tail (Upd.tail Upd.head)) | exact Upd.tail (Upd.tail (Upd.tail (Upd.tail Upd.head))) | exact Upd.tail (Upd.tail (Upd.tail (Upd.tail (Upd.tail Upd.head)))) | exact Upd.tail (Upd.tail (Upd.tail (Upd.tail (Upd.tail (Upd.tail Upd.head)))))); (simp only [List.length_cons, List.length_nil]; omega); ((simp only [List.set_cons_zero, List.set_cons_succ, setAll]); rfl); clear hS; intro w hS; try (simp only [Act.put, List.setIfInBounds_toArray, List.set_cons_succ, List.set_cons_zero, Nat.reduceAdd])) | ((with_reducible apply wl_stN hS); (with_reducible rfl); rfl; rfl; (focus ((conv => lhs; whnf); try rfl)); kernel_rfl; rfl; (first | exact Upd.head | exact Upd.tail Upd.head | exact Upd.tail (Upd.tail Upd.head) | exact Upd.tail (Upd.tail (Upd.tail Upd.head)) | exact Upd.tail (Upd.tail (Upd.tail (Upd.tail Upd.head))) | exact Upd.tail (Upd.tail (Upd.tail (Upd.tail (Upd.tail Upd.head)))) | exact Upd.tail (Upd.tail (Upd.tail (Upd.tail (Upd.tail (Upd.tail Upd.head)))))); (simp only [List.length_cons, List.length_nil]; omega); ((simp only [List.set_cons_zero, List.set_cons_succ, setAll]); rfl); clear hS; intro w hS; try (simp only [Act.put, List.setIfInBounds_toArray, List.set_cons_succ, List.set_cons_zero, Nat.reduceAdd])) | ((with_reducible apply wl_box hS); (with_reducible rfl); rfl; rfl; rfl; clear hS; intro b w hS; (simp only [Act.put, List.setIfInBounds_toArray, List.set_cons_succ, List.set_cons_zero, Nat.reduceAdd])) | ((with_reducible apply wl_alloc hS); (with_reducible rfl); rfl; (with_reducible first | exact Ty.z3 | exact Ty.z31 | exact Ty.z33 | exact Ty.z59 | exact Ty.z79 | exact Ty.z110); clear hS; intro b w hS; (simp only [Act.put, List.setIfInBounds_toArray, List.set_cons_succ, List.set_cons_zero, Nat.reduceAdd])))
      all_goals go_ret
      all_goals exact ⟨rfl, hS.drop⟩
    · have d1 : decide ((20 : Int) < (zs.length : Int)) = false := by simp; omega
      have d2 : decide ((40 : Int) < (cs.length : Int)) = false := by simp; omega
      by_cases hi : i ≤ 40
      · go_wp2_with (first | ((with_reducible apply wl_ld1 hS); (with_reducible rfl); rfl; rfl; decide +kernel; (first | exact Cell.here rfl | exact Cell.there (Cell.here rfl) | exact Cell.there (Cell.there (Cell.here rfl)) | exact Cell.there (Cell.there (Cell.there (Cell.here rfl))) | exact Cell.there (Cell.there (Cell.there (Cell.there (Cell.here rfl)))) | exact Cell.there (Cell.there (Cell.there (Cell.there (Cell.there (Cell.here rfl))))) | exact Cell.there (Cell.there (Cell.there (Cell.there (Cell.there (Cell.there (Cell.here rfl)))))) | assumption); (simp only [Act.put, List.setIfInBounds_toArray, List.set_cons_succ, List.set_cons_zero, Nat.reduceAdd])) | ((with_reducible apply wl_ldN hS); (with_reducible rfl); rfl; rfl; decide +kernel; (first | exact Cells.whole | exact Cells.there Cells.whole | exact Cells.there (Cells.there Cells.whole) | exact Cells.there (Cells.there (Cells.there Cells.whole)) | exact Cells.there (Cells.there (Cells.there (Cells.there Cells.whole))) | exact Cells.there (Cells.there (Cells.there (Cells.there (Cells.there Cells.whole)))) | exact Cells.there (Cells.there (Cells.there (Cells.there (Cells.there (Cells.there Cells.whole))))) | assumption); kernel_rfl; (simp only [Act.put, List.setIfInBounds_toArray, List.set_cons_succ, List.set_cons_zero, Nat.reduceAdd])) | ((with_reducible apply wl_st1 hS); (with_reducible rfl); rfl; rfl; (focus ((conv => lhs; whnf); try rfl)); kernel_rfl; rfl; rfl; (first | exact Upd.head | exact Upd.tail Upd.head | exact Upd.tail (Upd.tail Upd.head) | exact Upd.tail (Upd.tail (Upd.tail Upd.head)) | exact Upd.tail (Upd.tail (Upd.tail (Upd.tail Upd.head))) | exact Upd.tail (Upd.tail (Upd.tail (Upd.tail (Upd.tail Upd.head)))) | exact Upd.tail (Upd.tail (Upd.tail (Upd.tail (Upd.tail (Upd.tail Upd.head)))))); (simp only [List.length_cons, List.length_nil]; omega); ((simp only [List.set_cons_zero, List.set_cons_succ, setAll]); rfl); clear hS; intro w hS; try (simp only [Act.put, List.setIfInBounds_toArray, List.set_cons_succ, List.set_cons_zero, Nat.reduceAdd])) | ((with_reducible apply wl_stN hS); (with_reducible rfl); rfl; rfl; (focus ((conv => lhs; whnf); try rfl)); kernel_rfl; rfl; (first | exact Upd.head | exact Upd.tail Upd.head | exact Upd.tail (Upd.tail Upd.head) | exact Upd.tail (Upd.tail (Upd.tail Upd.head)) | exact Upd.tail (Upd.tail (Upd.tail (Upd.tail Upd.head))) | exact Upd.tail (Upd.tail (Upd.tail (Upd.tail (Upd.tail Upd.head)))) | exact Upd.tail (Upd.tail (Upd.tail (Upd.tail (Upd.tail (Upd.tail Upd.head)))))); (simp only [List.length_cons, List.length_nil]; omega); ((simp only [List.set_cons_zero, List.set_cons_succ, setAll]); rfl); clear hS; intro w hS; try (simp only [Act.put, List.setIfInBounds_toArray, List.set_cons_succ, List.set_cons_zero, Nat.reduceAdd])) | ((with_reducible apply wl_box hS); (with_reducible rfl); rfl; rfl; rfl; clear hS; intro b w hS; (simp only [Act.put, List.setIfInBounds_toArray, List.set_cons_succ, List.set_cons_zero, Nat.reduceAdd])) | ((with_reducible apply wl_alloc hS); (with_reducible rfl); rfl; (with_reducible first | exact Ty.z3 | exact Ty.z31 | exact Ty.z33 | exact Ty.z59 | exact Ty.z79 | exact Ty.z110); clear hS; intro b w hS; (simp only [Act.put, List.setIfInBounds_toArray, List.set_cons_succ, List.set_cons_zero, Nat.reduceAdd])))
        all_goals go_ret
        all_goals exact ⟨rfl, hS.drop⟩
      · have hi2 : 1000 < i := by omega
        have d3 : decide (i ≤ 40) = false := by simp; omega
        go_wp2_with (first | ((with_reducible apply wl_ld1 hS); (with_reducible rfl); rfl; rfl; decide +kernel; (first | exact Cell.here rfl | exact Cell.there (Cell.here rfl) | exact Cell.there (Cell.there (Cell.here rfl)) | exact Cell.there (Cell.there (Cell.there (Cell.here rfl))) | exact Cell.there (Cell.there (Cell.there (Cell.there (Cell.here rfl)))) | exact Cell.there (Cell.there (Cell.there (Cell.there (Cell.there (Cell.here rfl))))) | exact Cell.there (Cell.there (Cell.there (Cell.there (Cell.there (Cell.there (Cell.here rfl)))))) | assumption); (simp only [Act.put, List.setIfInBounds_toArray, List.set_cons_succ, List.set_cons_zero, Nat.reduceAdd])) | ((with_reducible apply wl_ldN hS); (with_reducible rfl); rfl; rfl; decide +kernel; (first | exact Cells.whole | exact Cells.there Cells.whole | exact Cells.there (Cells.there Cells.whole) | exact Cells.there (Cells.there (Cells.there Cells.whole)) | exact Cells.there (Cells.there (Cells.there (Cells.there Cells.whole))) | exact Cells.there (Cells.there (Cells.there (Cells.there (Cells.there Cells.whole)))) | exact Cells.there (Cells.there (Cells.there (Cells.there (Cells.there (Cells.there Cells.whole))))) | assumption); kernel_rfl; (simp only [Act.put, List.setIfInBounds_toArray, List.set_cons_succ, List.set_cons_zero, Nat.reduceAdd])) | ((with_reducible apply wl_st1 hS); (with_reducible rfl); rfl; rfl; (focus ((conv => lhs; whnf); try rfl)); kernel_rfl; rfl; rfl; (first | exact Upd.head | exact Upd.tail Upd.head | exact Upd.tail (Upd.tail Upd.head) | exact Upd.tail (Upd.tail (Upd.tail Upd.head)) | exact Upd.tail (Upd.tail (Upd.tail (Upd.tail Upd.head))) | exact Upd.tail (Upd.tail (Upd.tail (Upd.tail (Upd.tail Upd.head)))) | exact Upd.tail (Upd.tail (Upd.tail (Upd.tail (Upd.tail (Upd.tail Upd.head)))))); (simp only [List.length_cons, List.length_nil]; omega); ((simp only [List.set_cons_zero, List.set_cons_succ, setAll]); rfl); clear hS; intro w hS; try (simp only [Act.put, List.setIfInBounds_toArray, List.set_cons_succ, List.set_cons_zero, Nat.reduceAdd])) | ((with_reducible apply wl_stN hS); (with_reducible rfl); rfl; rfl; (focus ((conv => lhs; whnf); try rfl)); kernel_rfl; rfl; (first | exact Upd.head | exact Upd.tail Upd.head | exact Upd.tail (Upd.tail Upd.head) | exact Upd.tail (Upd.tail (Upd.tail Upd.head)) | exact Upd.tail (Upd.tail (Upd.tail (Upd.tail Upd.head))) | exact Upd.tail (Upd.tail (Upd.tail (Upd.tail (Upd.tail Upd.head)))) | exact Upd.tail (Upd.tail (Upd.tail (Upd.tail (Upd.tail (Upd.tail Upd.head)))))); (simp only [List.length_cons, List.length_nil]; omega); ((simp only [List.set_cons_zero, List.set_cons_succ, setAll]); rfl); clear hS; intro w hS; try (simp only [Act.put, List.setIfInBounds_toArray, List.set_cons_succ, List.set_cons_zero, Nat.reduceAdd])) | ((with_reducible apply wl_box hS); (with_reducible rfl); rfl; rfl; rfl; clear hS; intro b w hS; (simp only [Act.put, List.setIfInBounds_toArray, List.set_cons_succ, List.set_cons_zero, Nat.reduceAdd])) | ((with_reducible apply wl_alloc hS); (with_reducible rfl); rfl; (with_reducible first | exact Ty.z3 | exact Ty.z31 | exact Ty.z33 | exact Ty.z59 | exact Ty.z79 | exact Ty.z110); clear hS; intro b w hS; (simp only [Act.put, List.setIfInBounds_toArray, List.set_cons_succ, List.set_cons_zero, Nat.reduceAdd])))
        all_goals go_ret
        all_goals exact ⟨rfl, hS.drop⟩
set_option maxRecDepth 100000 in
set_option maxHeartbeats 4000000 in
theorem gone_in (zs cs : List Int) (a c : Option Addr) (cap cap' : Nat) (o : Ord) (h20 : zs.length ≤ 20) (h40 : cs.length ≤ 40) (hi1 : 40 < o.id) (hi2 : o.id ≤ 1000) (V : World)
    (hz : ∀ i, i < zs.length → ∃ b off, a = some ⟨b, off, none⟩ ∧ V.cell? ⟨b, off + i, none⟩ = some (.int .i64 (zs.getD i 0)))
    (hc : ∀ i, i < cs.length → ∃ b off, c = some ⟨b, off, none⟩ ∧ V.cell? ⟨b, off + i, none⟩ = some (.int .i64 (cs.getD i 0))) (W w : World) (L : List HP) (hS : St W (Old V :: L) w) :
    Calls Try.prog 5 #[.slice a zs.length cap, .slice c cs.length cap', .agg o.cells.toArray] w fun e w' => e = .returned (.bool true) ∧ St W (Old V :: L) w' := by
  obtain ⟨i, u, y, t, n, p⟩ := o
  simp only [Ord.cells]
  simp only at hi1 hi2
  have Hz := Lib.hid hz
  have Hc := Lib.hid hc
  clear hz hc
  have d1 : decide ((20 : Int) < (zs.length : Int)) = false := by simp; omega
  have d2 : decide ((40 : Int) < (cs.length : Int)) = false := by simp; omega
  have d3 : decide (i ≤ 40) = false := by simp; omega
  have d4 : decide (1000 < i) = false := by simp; omega
  go_enter Try.func5, Try.ntmps5
  go_wp2_with (first | (go_at_call 13; refine (new_book W _ _ hS).mono ?_; clear hS; rintro e w ⟨b2, rfl, hS⟩) | ((with_reducible apply wl_ld1 hS); (with_reducible rfl); rfl; rfl; decide +kernel; (first | exact Cell.here rfl | exact Cell.there (Cell.here rfl) | exact Cell.there (Cell.there (Cell.here rfl)) | exact Cell.there (Cell.there (Cell.there (Cell.here rfl))) | exact Cell.there (Cell.there (Cell.there (Cell.there (Cell.here rfl)))) | exact Cell.there (Cell.there (Cell.there (Cell.there (Cell.there (Cell.here rfl))))) | exact Cell.there (Cell.there (Cell.there (Cell.there (Cell.there (Cell.there (Cell.here rfl)))))) | assumption); (simp only [Act.put, List.setIfInBounds_toArray, List.set_cons_succ, List.set_cons_zero, Nat.reduceAdd])) | ((with_reducible apply wl_ldN hS); (with_reducible rfl); rfl; rfl; decide +kernel; (first | exact Cells.whole | exact Cells.there Cells.whole | exact Cells.there (Cells.there Cells.whole) | exact Cells.there (Cells.there (Cells.there Cells.whole)) | exact Cells.there (Cells.there (Cells.there (Cells.there Cells.whole))) | exact Cells.there (Cells.there (Cells.there (Cells.there (Cells.there Cells.whole)))) | exact Cells.there (Cells.there (Cells.there (Cells.there (Cells.there (Cells.there Cells.whole))))) | assumption); kernel_rfl; (simp only [Act.put, List.setIfInBounds_toArray, List.set_cons_succ, List.set_cons_zero, Nat.reduceAdd])) | ((with_reducible apply wl_st1 hS); (with_reducible rfl); rfl; rfl; (focus ((conv => lhs; whnf); try rfl)); kernel_rfl; rfl; rfl; (first | exact Upd.head | exact Upd.tail Upd.head | exact Upd.tail (Upd.tail Upd.head) | exact Upd.tail (Upd.tail (Upd.tail Upd.head)) | exact Upd.tail (Upd.tail (Upd.tail (Upd.tail Upd.head))) | exact Upd.tail (Upd.tail (Upd.tail (Upd.tail (Upd.tail Upd.head)))) | exact Upd.tail (Upd.tail (Upd.tail (Upd.tail (Upd.tail (Upd.tail Upd.head)))))); (simp only [List.length_cons, List.length_nil]; omega); ((simp only [List.set_cons_zero, List.set_cons_succ, setAll]); rfl); clear hS; intro w hS; try (simp only [Act.put, List.setIfInBounds_toArray, List.set_cons_succ, List.set_cons_zero, Nat.reduceAdd])) | ((with_reducible apply wl_stN hS); (with_reducible rfl); rfl; rfl; (focus ((conv => lhs; whnf); try rfl)); kernel_rfl; rfl; (first | exact Upd.head | exact Upd.tail Upd.head | exact Upd.tail (Upd.tail Upd.head) | exact Upd.tail (Upd.tail (Upd.tail Upd.head)) | exact Upd.tail (Upd.tail (Upd.tail (Upd.tail Upd.head))) | exact Upd.tail (Upd.tail (Upd.tail (Upd.tail (Upd.tail Upd.head)))) | exact Upd.tail (Upd.tail (Upd.tail (Upd.tail (Upd.tail (Upd.tail Upd.head)))))); (simp only [List.length_cons, List.length_nil]; omega); ((simp only [List.set_cons_zero, List.set_cons_succ, setAll]); rfl); clear hS; intro w hS; try (simp only [Act.put, List.setIfInBounds_toArray, List.set_cons_succ, List.set_cons_zero, Nat.reduceAdd])) | ((with_reducible apply wl_box hS); (with_reducible rfl); rfl; rfl; rfl; clear hS; intro b w hS; (simp only [Act.put, List.setIfInBounds_toArray, List.set_cons_succ, List.set_cons_zero, Nat.reduceAdd])) | ((with_reducible apply wl_alloc hS); (with_reducible rfl); rfl; (with_reducible first | exact Ty.z3 | exact Ty.z31 | exact Ty.z33 | exact Ty.z59 | exact Ty.z79 | exact Ty.z110); clear hS; intro b w hS; (simp only [Act.put, List.setIfInBounds_toArray, List.set_cons_succ, List.set_cons_zero, Nat.reduceAdd])))
  go_loopw [8] (fun v wr => Gone1 W (blk b [.int .i64 i, .string u, .bool y, .int .i64 t, .int .i64 n, .int .i64 p] 31 :: Old V :: L) zs b2 v wr) (fun v _ => zs.length - (intOf v).toNat)
  case atStart => exact ⟨0, [], rfl, by omega, rfl, ⟨.nil, fun x hx => (by cases hx)⟩, hS⟩
  case round =>
    clear hS
    obtain ⟨k, q, rfl, hk, hql, hq, hS⟩ := hrel
    have hok : BkOk (bG q k) := bG_ok (by omega) hq (by omega)
    by_cases hkn : k = zs.length
    · have Hq := Lib.hid hq
      subst hkn
      clear hq hk
      go_wp2_with fail
      replace hS := (hS.rowNil (k := 1) (T := 3)).swap
      go_loopw [9, 10] (fun v9 v10 wr => Gone2 W (blk b [.int .i64 i, .string u, .bool y, .int .i64 t, .int .i64 n, .int .i64 p] 31 :: Old V :: L) zs.length cs.length b2 v9 v10 wr) (fun _ v _ => cs.length - (intOf v).toNat)
      case atStart => exact ⟨0, q, [], rfl, by omega, by omega, Hq.out, rfl, fun x _ hx => (by cases hx), fun x hx => (by cases hx), hS⟩
      case round =>
        clear hS Hq
        obtain ⟨k, q, gone, rfl, hk, hql2, hq, hgl, hqg, hg32, hS⟩ := hrel
        have hok : BkOk (bG q zs.length) := bG_ok (by omega) hq (by omega)
        have Hq := Lib.hid hq
        have Hqg := Lib.hid hqg
        have Hg32 := Lib.hid hg32
        clear hq hqg hg32
        by_cases hkn : k = cs.length
        · have hT := gone_final q zs.length ⟨i, u, y, t, n, p⟩ gone Hqg.out (fun h => by have := Hg32.out _ h; simp only at this; omega)
          generalize hPP : placeB (bG q zs.length) ⟨i, u, y, t, n, p⟩ = PP at hT
          have HPP := Lib.hid hPP
          clear hPP
          obtain ⟨ts, left, errno, bk2⟩ := PP
          have HT := Lib.hid hT
          clear hT hk
          subst hkn
          obtain ⟨ga, gc, rfl⟩ := hS.drop.rowVal
          go_wp2_with (first | ((with_reducible apply wl_ldN hS); (with_reducible rfl); rfl; rfl; decide +kernel; (exact Cells.there (Cells.there Cells.whole)); kernel_rfl; (simp only [Act.put, List.setIfInBounds_toArray, List.set_cons_succ, List.set_cons_zero, Nat.reduceAdd])) | (go_at_call 14; refine (place_spec b2 (bG q zs.length) ⟨i, u, y, t, n, p⟩ hok W _ _ hS).mono ?_; clear hS; rw [HPP.out]; rintro e w ⟨v, rfl, hS1⟩; have hS := hS1.drop; clear hS1; obtain ⟨ta, tc, rfl⟩ := hS.rowVal; replace hS := ((hS.take .t2).drop)))
          go_loopw [19] (fun v wr => Gone3 W (tradesR (.slice ta ts.length tc) ts :: intsR (.slice ga gone.length gc) gone :: Old V :: L) ts.length v wr) (fun v _ => ts.length - (intOf v).toNat)
          case atStart => exact ⟨0, rfl, by omega, hS⟩
          case round =>
            clear hS
            obtain ⟨j, rfl, hj, hS⟩ := hrel
            by_cases hjn : j = ts.length
            · subst hjn
              go_wp2_with (first | (go_at_call 12; refine (known_spec W _ _ hS).mono ?_; clear hS; rintro e w ⟨rfl, hS⟩))
              go_ret
              exact ⟨rfl, hS.drop.drop⟩
            · have hjl : j < ts.length := by omega
              clear hjn hj
              obtain ⟨⟨tg, rfl⟩, htc, htn⟩ := St.rowAddr hS (by omega)
              go_wp2_with fail
              go_loopw [20] (fun v wr => Gone3 W (tradesR (.slice (some ⟨tg, 0, none⟩) ts.length tc) ts :: intsR (.slice ga gone.length gc) gone :: Old V :: L) gone.length v wr) (fun v _ => gone.length - (intOf v).toNat)
              case atStart => exact ⟨0, rfl, by omega, hS⟩
              case round =>
                clear hS
                obtain ⟨m, rfl, hm, hS⟩ := hrel
                by_cases hmn : m = gone.length
                · subst hmn
                  go_wp2_with fail
                  go_roundw
                  case rel => exact ⟨j + 1, rfl, hjl, hS⟩
                  case measure => simp [intOf]; omega
                · have hml : m < gone.length := by omega
                  clear hmn hm
                  obtain ⟨⟨gg, rfl⟩, hgc, hgn⟩ := St.rowAddr hS.drop (by omega)
                  obtain ⟨n1, n2⟩ := HT.out ts[j] (List.getElem_mem hjl) gone[m] (List.getElem_mem hml)
                  have f3 : (Trd.cells ts[j])[3]? = some (.int .i64 ts[j].sell) := rfl
                  have f2 : (Trd.cells ts[j])[2]? = some (.int .i64 ts[j].buy) := rfl
                  have f0 : (gone.map (Value.int .i64))[m]? = some (.int .i64 gone[m]) := by simp [hml]
                  generalize ts[j].sell = s1 at f3 n1
                  generalize ts[j].buy = s2 at f2 n2
                  generalize gone[m] = s3 at f0 n1 n2
                  have b1 : (s1 == s3) = false := by simpa using n1
                  have b2 : (s2 == s3) = false := by simpa using n2
                  clear n1 n2
                  go_wp2_with fail
                  refine wp_region_flow2 [0, 0, 3, 7, 15, 0, 0, 96, 224, 511, 1023, 2047, 2047, 8191, 16383, 32767, 2047, 2047, 198655, 460799, 1048575, 2097151] (fun _ => false) [] [none, none] (by kernel_rfl) (by kernel_rfl) rfl hS CongOk.nil ?_
                  intro nd
                  iterate 4 (refine ch_pure rfl (by kernel_rfl) rfl rfl ?_; intro K hK; go_big_quiet_op; go_big_quiet_on)
                  (apply ch_ld1; rfl; kernel_rfl; (with_reducible rfl); rfl; rfl; decide +kernel; (intro F; exact Cell.rowE Trd.len hjl f3); (simp only [Act.put, List.setIfInBounds_toArray, List.set_cons_succ, List.set_cons_zero, Nat.reduceAdd]))
                  iterate 3 (refine ch_pure rfl (by kernel_rfl) rfl rfl ?_; intro K hK; go_big_quiet_op; go_big_quiet_on)
                  (apply ch_ld1; rfl; kernel_rfl; (with_reducible rfl); rfl; rfl; decide +kernel; (intro F; exact Cell.there (Cell.row (by omega) f0)); (simp only [Act.put, List.setIfInBounds_toArray, List.set_cons_succ, List.set_cons_zero, Nat.reduceAdd]))
                  iterate 6 (refine ch_pure rfl (by kernel_rfl) rfl rfl ?_; intro K hK; go_big_quiet_op; go_big_quiet_on)
                  (apply ch_ld1; rfl; kernel_rfl; (with_reducible rfl); rfl; rfl; decide +kernel; (intro F; exact Cell.rowE Trd.len hjl f2); (simp only [Act.put, List.setIfInBounds_toArray, List.set_cons_succ, List.set_cons_zero, Nat.reduceAdd]))
                  iterate 3 (refine ch_pure rfl (by kernel_rfl) rfl rfl ?_; intro K hK; go_big_quiet_op; go_big_quiet_on)
                  (apply ch_ld1; rfl; kernel_rfl; (with_reducible rfl); rfl; rfl; decide +kernel; (intro F; exact Cell.there (Cell.row (by omega) f0)); (simp only [Act.put, List.setIfInBounds_toArray, List.set_cons_succ, List.set_cons_zero, Nat.reduceAdd]))
                  iterate 2 (refine ch_pure rfl (by kernel_rfl) rfl rfl ?_; intro K hK; go_big_quiet_op; go_big_quiet_on)
                  refine ch_end ?_
                  clear hS
                  intro w hS
                  have hS2 : St W [tradesR _ _, intsR _ _, sats (Old V :: L)] w := hS
                  clear hS
                  have hS := hS2.unpack [_, _]
                  clear hS2
                  simp only [List.cons_append, List.nil_append] at hS
                  go_wp2_with fail
                  go_roundw
                  case rel => exact ⟨m + 1, rfl, hml, hS⟩
                  case measure => simp [intOf]; omega
        · have hkl : k < cs.length := by omega
          obtain ⟨pb, poff, rfl, hcz⟩ := Hc.out k hkl
          generalize cs.getD k 0 = z at hcz
          have hz8 := and31 z
          have hlen : (bG q zs.length).len ≤ 32 := by rw [bG_len]; omega
          obtain ⟨oo, e1, q1, hC1, he1, hq1, hm1, hl1⟩ := cancel_gone (n := zs.length) (z % 32 + 1) Hq.out
          have hC2 : cancelB (bG q1 zs.length) (z % 32 + 1) = ⟨o0, 7, bG q1 zs.length⟩ := cancel_none (fun x hx => (hm1 x hx).2)
          have hlen1 : (bG q1 zs.length).len ≤ 32 := by rw [bG_len]; omega
          have HC1 := Lib.hid hC1
          have HC2 := Lib.hid hC2
          have Hq1 := Lib.hid hq1
          have Hm1 := Lib.hid hm1
          obtain ⟨oi, ou, oy, ot, oc, op⟩ := oo
          have hg40 : gone.length < 40 := by omega
          have hz1 : z % 32 + 1 ≤ 32 := by omega
          clear hkn hk hC1 hC2 hq1 hm1
          rcases he1 with rfl | rfl
          · skip
            go_wp2_with (first | ((with_reducible apply wl_ld1 hS); (with_reducible rfl); rfl; rfl; decide +kernel; (exact Cell.there (Cell.there (Cell.there (Cell.old .head hcz)))); (simp only [Act.put, List.setIfInBounds_toArray, List.set_cons_succ, List.set_cons_zero, Nat.reduceAdd])) | (go_at_call 17; refine (cancel_spec b2 (bG q zs.length) (z % 32 + 1) hlen W _ _ hS).mono ?_; clear hS; rw [HC1.out]; simp only [Ord.cells]; rintro e w ⟨rfl, hS⟩) | (go_at_call 17; refine (cancel_spec b2 (bG q1 zs.length) (z % 32 + 1) hlen1 W _ _ hS.swap).mono ?_; clear hS; rw [HC2.out]; simp only [o0, Ord.cells]; rintro e w ⟨rfl, hS⟩) | ((with_reducible apply wl_bs hS); (with_reducible rfl); rfl; (focus (simp only [List.map_toArray, List.map_cons, List.map_nil, Act.eval, Array.getD_eq_getD_getElem?, List.getElem?_toArray, List.getElem?_cons_succ, List.getElem?_cons_zero, Option.getD_some]; try rfl)); (with_reducible first | exact Ty.e22 | exact Ty.e26 | exact Ty.e40 | exact Ty.e46 | exact Ty.e74); (with_reducible first | exact Ty.r3 | exact Ty.r31 | exact Ty.r33 | exact Ty.r67 | exact Ty.r79); rfl; rfl; rfl; rfl; clear hS; intro bS w hS; (simp only [Act.put, List.setIfInBounds_toArray, List.set_cons_succ, List.set_cons_zero, Nat.reduceAdd])) | ((with_reducible apply wl_append hS); (with_reducible rfl); rfl; rfl; rfl; (with_reducible first | exact Ty.e22 | exact Ty.e26 | exact Ty.e40 | exact Ty.e46 | exact Ty.e74); (with_reducible first | exact Ty.r3 | exact Ty.r31 | exact Ty.r33 | exact Ty.r67 | exact Ty.r79); rfl; decide; (first | exact Take.head | exact Take.tail Take.head | exact Take.tail (Take.tail Take.head) | exact Take.tail (Take.tail (Take.tail Take.head)) | exact Take.tail (Take.tail (Take.tail (Take.tail Take.head))) | exact Take.tail (Take.tail (Take.tail (Take.tail (Take.tail Take.head)))) | exact Take.tail (Take.tail (Take.tail (Take.tail (Take.tail (Take.tail Take.head)))))); (exact Src.mk Cells.whole); (focus (try rfl)); rfl; (focus (unfold maxLen; omega)); (focus (omega)); clear hS; intro v w hS; (simp only [Act.put, List.setIfInBounds_toArray, List.set_cons_succ, List.set_cons_zero, Nat.reduceAdd])) | ((with_reducible apply wl_ld1 hS); (with_reducible rfl); rfl; rfl; decide +kernel; (first | exact Cell.here rfl | exact Cell.there (Cell.here rfl) | exact Cell.there (Cell.there (Cell.here rfl)) | exact Cell.there (Cell.there (Cell.there (Cell.here rfl))) | exact Cell.there (Cell.there (Cell.there (Cell.there (Cell.here rfl)))) | exact Cell.there (Cell.there (Cell.there (Cell.there (Cell.there (Cell.here rfl))))) | exact Cell.there (Cell.there (Cell.there (Cell.there (Cell.there (Cell.there (Cell.here rfl)))))) | assumption); (simp only [Act.put, List.setIfInBounds_toArray, List.set_cons_succ, List.set_cons_zero, Nat.reduceAdd])) | ((with_reducible apply wl_ldN hS); (with_reducible rfl); rfl; rfl; decide +kernel; (first | exact Cells.whole | exact Cells.there Cells.whole | exact Cells.there (Cells.there Cells.whole) | exact Cells.there (Cells.there (Cells.there Cells.whole)) | exact Cells.there (Cells.there (Cells.there (Cells.there Cells.whole))) | exact Cells.there (Cells.there (Cells.there (Cells.there (Cells.there Cells.whole)))) | exact Cells.there (Cells.there (Cells.there (Cells.there (Cells.there (Cells.there Cells.whole))))) | assumption); kernel_rfl; (simp only [Act.put, List.setIfInBounds_toArray, List.set_cons_succ, List.set_cons_zero, Nat.reduceAdd])) | ((with_reducible apply wl_st1 hS); (with_reducible rfl); rfl; rfl; (focus ((conv => lhs; whnf); try rfl)); kernel_rfl; rfl; rfl; (first | exact Upd.head | exact Upd.tail Upd.head | exact Upd.tail (Upd.tail Upd.head) | exact Upd.tail (Upd.tail (Upd.tail Upd.head)) | exact Upd.tail (Upd.tail (Upd.tail (Upd.tail Upd.head))) | exact Upd.tail (Upd.tail (Upd.tail (Upd.tail (Upd.tail Upd.head)))) | exact Upd.tail (Upd.tail (Upd.tail (Upd.tail (Upd.tail (Upd.tail Upd.head)))))); (simp only [List.length_cons, List.length_nil]; omega); ((simp only [List.set_cons_zero, List.set_cons_succ, setAll]); rfl); clear hS; intro w hS; try (simp only [Act.put, List.setIfInBounds_toArray, List.set_cons_succ, List.set_cons_zero, Nat.reduceAdd])) | ((with_reducible apply wl_stN hS); (with_reducible rfl); rfl; rfl; (focus ((conv => lhs; whnf); try rfl)); kernel_rfl; rfl; (first | exact Upd.head | exact Upd.tail Upd.head | exact Upd.tail (Upd.tail Upd.head) | exact Upd.tail (Upd.tail (Upd.tail Upd.head)) | exact Upd.tail (Upd.tail (Upd.tail (Upd.tail Upd.head))) | exact Upd.tail (Upd.tail (Upd.tail (Upd.tail (Upd.tail Upd.head)))) | exact Upd.tail (Upd.tail (Upd.tail (Upd.tail (Upd.tail (Upd.tail Upd.head)))))); (simp only [List.length_cons, List.length_nil]; omega); ((simp only [List.set_cons_zero, List.set_cons_succ, setAll]); rfl); clear hS; intro w hS; try (simp only [Act.put, List.setIfInBounds_toArray, List.set_cons_succ, List.set_cons_zero, Nat.reduceAdd])) | ((with_reducible apply wl_box hS); (with_reducible rfl); rfl; rfl; rfl; clear hS; intro b w hS; (simp only [Act.put, List.setIfInBounds_toArray, List.set_cons_succ, List.set_cons_zero, Nat.reduceAdd])) | ((with_reducible apply wl_alloc hS); (with_reducible rfl); rfl; (with_reducible first | exact Ty.z3 | exact Ty.z31 | exact Ty.z33 | exact Ty.z59 | exact Ty.z79 | exact Ty.z110); clear hS; intro b w hS; (simp only [Act.put, List.setIfInBounds_toArray, List.set_cons_succ, List.set_cons_zero, Nat.reduceAdd])))
            go_roundw
            case rel =>
              refine ⟨k + 1, q1, gone ++ [z % 32 + 1], rfl, hkl, by omega, Hq1.out, by simp [hgl], ?_, ?_, ?_⟩
              · intro x hx hmem
                rcases List.mem_append.1 hmem with hmem | hmem
                · exact Hqg.out x (Hm1.out x hx).1 hmem
                · exact (Hm1.out x hx).2 (List.mem_singleton.1 hmem)
              · intro x hx
                rcases List.mem_append.1 hx with hx | hx
                · exact Hg32.out x hx
                · rw [List.mem_singleton.1 hx]; exact hz1
              · have h1 := ((((((hS.take .t3).take .t2).drop).take .t2).drop).take .t2).drop
                unfold intsR
                rw [List.length_append, List.map_append]
                exact h1
            case measure => simp [intOf]; omega
          · skip
            go_wp2_with (first | ((with_reducible apply wl_ld1 hS); (with_reducible rfl); rfl; rfl; decide +kernel; (exact Cell.there (Cell.there (Cell.there (Cell.old .head hcz)))); (simp only [Act.put, List.setIfInBounds_toArray, List.set_cons_succ, List.set_cons_zero, Nat.reduceAdd])) | (go_at_call 17; refine (cancel_spec b2 (bG q zs.length) (z % 32 + 1) hlen W _ _ hS).mono ?_; clear hS; rw [HC1.out]; simp only [Ord.cells]; rintro e w ⟨rfl, hS⟩) | (go_at_call 17; refine (cancel_spec b2 (bG q1 zs.length) (z % 32 + 1) hlen1 W _ _ hS.swap).mono ?_; clear hS; rw [HC2.out]; simp only [o0, Ord.cells]; rintro e w ⟨rfl, hS⟩) | ((with_reducible apply wl_bs hS); (with_reducible rfl); rfl; (focus (simp only [List.map_toArray, List.map_cons, List.map_nil, Act.eval, Array.getD_eq_getD_getElem?, List.getElem?_toArray, List.getElem?_cons_succ, List.getElem?_cons_zero, Option.getD_some]; try rfl)); (with_reducible first | exact Ty.e22 | exact Ty.e26 | exact Ty.e40 | exact Ty.e46 | exact Ty.e74); (with_reducible first | exact Ty.r3 | exact Ty.r31 | exact Ty.r33 | exact Ty.r67 | exact Ty.r79); rfl; rfl; rfl; rfl; clear hS; intro bS w hS; (simp only [Act.put, List.setIfInBounds_toArray, List.set_cons_succ, List.set_cons_zero, Nat.reduceAdd])) | ((with_reducible apply wl_append hS); (with_reducible rfl); rfl; rfl; rfl; (with_reducible first | exact Ty.e22 | exact Ty.e26 | exact Ty.e40 | exact Ty.e46 | exact Ty.e74); (with_reducible first | exact Ty.r3 | exact Ty.r31 | exact Ty.r33 | exact Ty.r67 | exact Ty.r79); rfl; decide; (first | exact Take.head | exact Take.tail Take.head | exact Take.tail (Take.tail Take.head) | exact Take.tail (Take.tail (Take.tail Take.head)) | exact Take.tail (Take.tail (Take.tail (Take.tail Take.head))) | exact Take.tail (Take.tail (Take.tail (Take.tail (Take.tail Take.head)))) | exact Take.tail (Take.tail (Take.tail (Take.tail (Take.tail (Take.tail Take.head)))))); (exact Src.mk Cells.whole); (focus (try rfl)); rfl; (focus (unfold maxLen; omega)); (focus (omega)); clear hS; intro v w hS; (simp only [Act.put, List.setIfInBounds_toArray, List.set_cons_succ, List.set_cons_zero, Nat.reduceAdd])) | ((with_reducible apply wl_ld1 hS); (with_reducible rfl); rfl; rfl; decide +kernel; (first | exact Cell.here rfl | exact Cell.there (Cell.here rfl) | exact Cell.there (Cell.there (Cell.here rfl)) | exact Cell.there (Cell.there (Cell.there (Cell.here rfl))) | exact Cell.there (Cell.there (Cell.there (Cell.there (Cell.here rfl)))) | exact Cell.there (Cell.there (Cell.there (Cell.there (Cell.there (Cell.here rfl))))) | exact Cell.there (Cell.there (Cell.there (Cell.there (Cell.there (Cell.there (Cell.here rfl)))))) | assumption); (simp only [Act.put, List.setIfInBounds_toArray, List.set_cons_succ, List.set_cons_zero, Nat.reduceAdd])) | ((with_reducible apply wl_ldN hS); (with_reducible rfl); rfl; rfl; decide +kernel; (first | exact Cells.whole | exact Cells.there Cells.whole | exact Cells.there (Cells.there Cells.whole) | exact Cells.there (Cells.there (Cells.there Cells.whole)) | exact Cells.there (Cells.there (Cells.there (Cells.there Cells.whole))) | exact Cells.there (Cells.there (Cells.there (Cells.there (Cells.there Cells.whole)))) | exact Cells.there (Cells.there (Cells.there (Cells.there (Cells.there (Cells.there Cells.whole))))) | assumption); kernel_rfl; (simp only [Act.put, List.setIfInBounds_toArray, List.set_cons_succ, List.set_cons_zero, Nat.reduceAdd])) | ((with_reducible apply wl_st1 hS); (with_reducible rfl); rfl; rfl; (focus ((conv => lhs; whnf); try rfl)); kernel_rfl; rfl; rfl; (first | exact Upd.head | exact Upd.tail Upd.head | exact Upd.tail (Upd.tail Upd.head) | exact Upd.tail (Upd.tail (Upd.tail Upd.head)) | exact Upd.tail (Upd.tail (Upd.tail (Upd.tail Upd.head))) | exact Upd.tail (Upd.tail (Upd.tail (Upd.tail (Upd.tail Upd.head)))) | exact Upd.tail (Upd.tail (Upd.tail (Upd.tail (Upd.tail (Upd.tail Upd.head)))))); (simp only [List.length_cons, List.length_nil]; omega); ((simp only [List.set_cons_zero, List.set_cons_succ, setAll]); rfl); clear hS; intro w hS; try (simp only [Act.put, List.setIfInBounds_toArray, List.set_cons_succ, List.set_cons_zero, Nat.reduceAdd])) | ((with_reducible apply wl_stN hS); (with_reducible rfl); rfl; rfl; (focus ((conv => lhs; whnf); try rfl)); kernel_rfl; rfl; (first | exact Upd.head | exact Upd.tail Upd.head | exact Upd.tail (Upd.tail Upd.head) | exact Upd.tail (Upd.tail (Upd.tail Upd.head)) | exact Upd.tail (Upd.tail (Upd.tail (Upd.tail Upd.head))) | exact Upd.tail (Upd.tail (Upd.tail (Upd.tail (Upd.tail Upd.head)))) | exact Upd.tail (Upd.tail (Upd.tail (Upd.tail (Upd.tail (Upd.tail Upd.head)))))); (simp only [List.length_cons, List.length_nil]; omega); ((simp only [List.set_cons_zero, List.set_cons_succ, setAll]); rfl); clear hS; intro w hS; try (simp only [Act.put, List.setIfInBounds_toArray, List.set_cons_succ, List.set_cons_zero, Nat.reduceAdd])) | ((with_reducible apply wl_box hS); (with_reducible rfl); rfl; rfl; rfl; clear hS; intro b w hS; (simp only [Act.put, List.setIfInBounds_toArray, List.set_cons_succ, List.set_cons_zero, Nat.reduceAdd])) | ((with_reducible apply wl_alloc hS); (with_reducible rfl); rfl; (with_reducible first | exact Ty.z3 | exact Ty.z31 | exact Ty.z33 | exact Ty.z59 | exact Ty.z79 | exact Ty.z110); clear hS; intro b w hS; (simp only [Act.put, List.setIfInBounds_toArray, List.set_cons_succ, List.set_cons_zero, Nat.reduceAdd])))
            go_roundw
            case rel =>
              refine ⟨k + 1, q1, gone ++ [z % 32 + 1], rfl, hkl, by omega, Hq1.out, by simp [hgl], ?_, ?_, ?_⟩
              · intro x hx hmem
                rcases List.mem_append.1 hmem with hmem | hmem
                · exact Hqg.out x (Hm1.out x hx).1 hmem
                · exact (Hm1.out x hx).2 (List.mem_singleton.1 hmem)
              · intro x hx
                rcases List.mem_append.1 hx with hx | hx
                · exact Hg32.out x hx
                · rw [List.mem_singleton.1 hx]; exact hz1
              · have h1 := ((((((hS.take .t3).take .t2).drop).take .t2).drop).take .t2).drop
                unfold intsR
                rw [List.length_append, List.map_append]
                exact h1
            case measure => simp [intOf]; omega
    · have hkl : k < zs.length := by omega
      obtain ⟨pb, poff, rfl, hcz⟩ := Hz.out k hkl
      have hso : sg zs k = ⟨(k : Int) + 1, ⟨#[115]⟩, false, 1, 2, 1 + (zs.getD k 0) % 8⟩ := rfl
      generalize zs.getD k 0 = z at hcz hso
      have hz8 := and7 z
      clear hkn hk
      have Hq := Lib.hid hq
      clear hq
      go_wp2_with (first | ((with_reducible apply wl_ld1 hS); (with_reducible rfl); rfl; rfl; decide +kernel; (exact Cell.there (Cell.there (Cell.old .head hcz))); (simp only [Act.put, List.setIfInBounds_toArray, List.set_cons_succ, List.set_cons_zero, Nat.reduceAdd])) | (go_at_call 14; refine (place_spec b2 (bG q k) ⟨(k : Int) + 1, ⟨#[115]⟩, false, 1, 2, 1 + z % 8⟩ hok W _ _ hS).mono ?_; clear hS; rw [← hso, gone_step zs q k (by omega) hql]; rintro e w ⟨v, rfl, hS1⟩; have hS := hS1.swap.drop; clear hS1))
      go_roundw
      case rel => exact ⟨k + 1, pushT q (sg zs k), rfl, hkl, by rw [pushT_length, hql], gone_push Hq.out, hS⟩
      case measure => simp [intOf]; omega
theorem gone_spec (zs cs : List Int) (v v' : Value) (o : Ord) (V : World) (hz : IntsV V v zs) (hc : IntsV V v' cs) (W w : World) (L : List HP) (hS : St W (Old V :: L) w) :
    Calls Try.prog 5 #[v, v', .agg o.cells.toArray] w fun e w' => e = .returned (.bool true) ∧ St W (Old V :: L) w' := by
  obtain ⟨a, cap, rfl, h1, hz⟩ := hz.flat
  obtain ⟨c, cap', rfl, h2, hc⟩ := hc.flat
  by_cases h : 20 < zs.length ∨ 40 < cs.length ∨ o.id ≤ 40 ∨ 1000 < o.id
  · exact gone_out zs cs a c cap cap' o h h1 h2 W w _ hS
  · exact gone_in zs cs a c cap cap' o (by omega) (by omega) (by omega) (by omega) V hz hc W w L hS
end Go.Proofs.Ytihciopankhjgaa
