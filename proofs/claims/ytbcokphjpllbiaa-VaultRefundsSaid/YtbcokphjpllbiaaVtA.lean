/-
  Purses: what may be in one, less, without. For every purse.
-/
import Derived.Test.YtbcokphjpllbiaaBkA
set_option linter.unusedSimpArgs false
set_option linter.unusedVariables false
namespace Go.Sl
open Go.RowKit
section
variable {P : Program} {ops : Array Oper} {Q : Exit → Act → World → Prop} {a : Act} {w : World} {rest : List Oper} {o : Oper}
/-- An element of an array that is a value. -/
theorem wl_idx {t : TypeId} {x y : Operand} {u i v : Value} (ho : o.op = .index t x y) (hg : Region.wanted o (yielded ops a.tmps) = true) (hx : a.eval x = u) (hy : a.eval y = i) (hr : ∀ w : World, (Instr.index t u i).run P w = .ok v w)
    (h : wpList P ops Q rest (a.put o.dst v) w) : wpList P ops Q (o :: rest) a w := by
  refine wpList_run hg (v := v) (w' := w) ?_ h
  unfold execOp
  simp only [ho, hx, hy, Sem.run_bind, hr, Result.andThen_ok, Sem.run_pure]
end
end Go.Sl
namespace Go.Proofs.Ytbcokphjpllbiaa
open Go.RowKit Go.Sl
theorem idx0 (a0 a1 a2 a3 : Value) (w : World) : (Instr.index 28 (.agg #[a0, a1, a2, a3]) (.int .i64 0)).run Try.prog w = .ok a0 w := by kernel_rfl
theorem idx1 (a0 a1 a2 a3 : Value) (w : World) : (Instr.index 28 (.agg #[a0, a1, a2, a3]) (.int .i64 1)).run Try.prog w = .ok a1 w := by kernel_rfl
theorem idx2 (a0 a1 a2 a3 : Value) (w : World) : (Instr.index 28 (.agg #[a0, a1, a2, a3]) (.int .i64 2)).run Try.prog w = .ok a2 w := by kernel_rfl
theorem idx3 (a0 a1 a2 a3 : Value) (w : World) : (Instr.index 28 (.agg #[a0, a1, a2, a3]) (.int .i64 3)).run Try.prog w = .ok a3 w := by kernel_rfl
structure It where
  x0 : Int
  x1 : Int
  x2 : Int
  x3 : Int
def It.cells (i : It) : List Value := [.int .i64 i.x0, .int .i64 i.x1, .int .i64 i.x2, .int .i64 i.x3]
theorem It.len (i : It) : i.cells.length = 4 := rfl
def it0 : It := ⟨0, 0, 0, 0⟩
def inH (n : Int) : Bool := decide (0 ≤ n) && decide (n ≤ 1152921504606846976)
theorem inH_true {n : Int} : inH n = true ↔ 0 ≤ n ∧ n ≤ 1152921504606846976 := by unfold inH; simp
theorem inH_low {n : Int} (h : n < 0) : inH n = false := by unfold inH; simp; omega
theorem inH_high {n : Int} (h : 1152921504606846976 < n) : inH n = false := by unfold inH; simp; omega
def isIt (i : It) : Bool := inH i.x0 && (inH i.x1 && (inH i.x2 && inH i.x3))
def IsR (W : World) (L : List HP) (i : It) (v : Value) (w : World) : Prop :=
  St W L w ∧ (v = .int .i64 0 ∨ (v = .int .i64 1 ∧ inH i.x0 = true) ∨ (v = .int .i64 2 ∧ inH i.x0 = true ∧ inH i.x1 = true) ∨ (v = .int .i64 3 ∧ inH i.x0 = true ∧ inH i.x1 = true ∧ inH i.x2 = true) ∨ (v = .int .i64 4 ∧ inH i.x0 = true ∧ inH i.x1 = true ∧ inH i.x2 = true ∧ inH i.x3 = true))
set_option maxRecDepth 100000 in
set_option maxHeartbeats 4000000 in
theorem is_spec (i : It) (W w : World) (R : List HP) (hS : St W R w) :
    Calls Try.prog 21 #[.agg i.cells.toArray] w fun e w' => e = .returned (.bool (isIt i)) ∧ St W R w' := by
  obtain ⟨x0, x1, x2, x3⟩ := i
  simp only [It.cells]
  go_enter Try.func21, Try.ntmps21
  go_wp2_with (first | ((with_reducible apply wl_ld1 hS); (with_reducible rfl); rfl; rfl; decide +kernel; (first | exact Cell.here rfl | exact Cell.there (Cell.here rfl) | exact Cell.there (Cell.there (Cell.here rfl)) | exact Cell.there (Cell.there (Cell.there (Cell.here rfl))) | exact Cell.there (Cell.there (Cell.there (Cell.there (Cell.here rfl)))) | exact Cell.there (Cell.there (Cell.there (Cell.there (Cell.there (Cell.here rfl))))) | exact Cell.there (Cell.there (Cell.there (Cell.there (Cell.there (Cell.there (Cell.here rfl)))))) | assumption); (simp only [Act.put, List.setIfInBounds_toArray, List.set_cons_succ, List.set_cons_zero, Nat.reduceAdd])) | ((with_reducible apply wl_ldN hS); (with_reducible rfl); rfl; rfl; decide +kernel; (first | exact Cells.whole | exact Cells.there Cells.whole | exact Cells.there (Cells.there Cells.whole) | exact Cells.there (Cells.there (Cells.there Cells.whole)) | exact Cells.there (Cells.there (Cells.there (Cells.there Cells.whole))) | exact Cells.there (Cells.there (Cells.there (Cells.there (Cells.there Cells.whole)))) | exact Cells.there (Cells.there (Cells.there (Cells.there (Cells.there (Cells.there Cells.whole))))) | assumption); kernel_rfl; (simp only [Act.put, List.setIfInBounds_toArray, List.set_cons_succ, List.set_cons_zero, Nat.reduceAdd])) | ((with_reducible apply wl_st1 hS); (with_reducible rfl); rfl; rfl; (focus ((conv => lhs; whnf); try rfl)); kernel_rfl; rfl; rfl; (first | exact Upd.head | exact Upd.tail Upd.head | exact Upd.tail (Upd.tail Upd.head) | exact Upd.tail (Upd.tail (Upd.tail Upd.head)) | exact Upd.tail (Upd.tail (Upd.tail (Upd.tail Upd.head))) | exact Upd.tail (Upd.tail (Upd.tail (Upd.tail (Upd.tail Upd.head)))) | exact Upd.tail (Upd.tail (Upd.tail (Upd.tail (Upd.tail (Upd.tail Upd.head)))))); (simp only [List.length_cons, List.length_nil]; omega); ((simp only [List.set_cons_zero, List.set_cons_succ, setAll]); rfl); clear hS; intro w hS; try (simp only [Act.put, List.setIfInBounds_toArray, List.set_cons_succ, List.set_cons_zero, Nat.reduceAdd])) | ((with_reducible apply wl_stN hS); (with_reducible rfl); rfl; rfl; (focus ((conv => lhs; whnf); try rfl)); kernel_rfl; rfl; (first | exact Upd.head | exact Upd.tail Upd.head | exact Upd.tail (Upd.tail Upd.head) | exact Upd.tail (Upd.tail (Upd.tail Upd.head)) | exact Upd.tail (Upd.tail (Upd.tail (Upd.tail Upd.head))) | exact Upd.tail (Upd.tail (Upd.tail (Upd.tail (Upd.tail Upd.head)))) | exact Upd.tail (Upd.tail (Upd.tail (Upd.tail (Upd.tail (Upd.tail Upd.head)))))); (simp only [List.length_cons, List.length_nil]; omega); ((simp only [List.set_cons_zero, List.set_cons_succ, setAll]); rfl); clear hS; intro w hS; try (simp only [Act.put, List.setIfInBounds_toArray, List.set_cons_succ, List.set_cons_zero, Nat.reduceAdd])) | ((with_reducible apply wl_box hS); (with_reducible rfl); rfl; rfl; rfl; clear hS; intro b w hS; (simp only [Act.put, List.setIfInBounds_toArray, List.set_cons_succ, List.set_cons_zero, Nat.reduceAdd])) | ((with_reducible apply wl_alloc hS); (with_reducible rfl); rfl; (with_reducible first | exact Ty.z3 | exact Ty.z28 | exact Ty.z32 | exact Ty.z40 | exact Ty.z46 | exact Ty.z69 | exact Ty.z86 | exact Ty.z146); clear hS; intro b w hS; (simp only [Act.put, List.setIfInBounds_toArray, List.set_cons_succ, List.set_cons_zero, Nat.reduceAdd])))
  go_loopw [6] (fun v wr => IsR W (blk b [.int .i64 x0, .int .i64 x1, .int .i64 x2, .int .i64 x3] 28 :: R) ⟨x0, x1, x2, x3⟩ v wr) (fun v _ => 4 - (intOf v).toNat)
  case atStart => exact ⟨hS, .inl rfl⟩
  case round =>
    clear hS
    obtain ⟨hS, hk⟩ := hrel
    simp only at hk
    rcases hk with rfl | ⟨rfl, q0⟩ | ⟨rfl, q0, q1⟩ | ⟨rfl, q0, q1, q2⟩ | ⟨rfl, q0, q1, q2, q3⟩
    · skip
      by_cases h1 : x0 < 0
      · have hx := inH_low h1
        go_wp2_with (first | go_big_skip | ((with_reducible apply wl_idx); (with_reducible rfl); rfl; rfl; rfl; (first | exact idx0 _ _ _ _ | exact idx1 _ _ _ _ | exact idx2 _ _ _ _ | exact idx3 _ _ _ _); (simp only [Act.put, List.setIfInBounds_toArray, List.set_cons_succ, List.set_cons_zero, Nat.reduceAdd])))
        go_ret
        refine ⟨by simp only [isIt, hx, Bool.false_and, Bool.and_false, hx]; rfl, hS.drop⟩
      · have d1 : decide (x0 < 0) = false := by simpa using h1
        by_cases h2 : 1152921504606846976 < x0
        · have hx := inH_high h2
          go_wp2_with (first | go_big_skip | ((with_reducible apply wl_idx); (with_reducible rfl); rfl; rfl; rfl; (first | exact idx0 _ _ _ _ | exact idx1 _ _ _ _ | exact idx2 _ _ _ _ | exact idx3 _ _ _ _); (simp only [Act.put, List.setIfInBounds_toArray, List.set_cons_succ, List.set_cons_zero, Nat.reduceAdd])))
          go_ret
          refine ⟨by simp only [isIt, hx, Bool.false_and, Bool.and_false, hx]; rfl, hS.drop⟩
        · have d2 : decide (1152921504606846976 < x0) = false := by simpa using h2
          have hx : inH x0 = true := inH_true.2 ⟨by omega, by omega⟩
          clear h1 h2
          go_wp2_with (first | go_big_skip | ((with_reducible apply wl_idx); (with_reducible rfl); rfl; rfl; rfl; (first | exact idx0 _ _ _ _ | exact idx1 _ _ _ _ | exact idx2 _ _ _ _ | exact idx3 _ _ _ _); (simp only [Act.put, List.setIfInBounds_toArray, List.set_cons_succ, List.set_cons_zero, Nat.reduceAdd])))
          go_roundw
          case rel => exact ⟨hS, .inr (.inl ⟨rfl, hx⟩)⟩
          case measure => simp [intOf]
    · skip
      by_cases h1 : x1 < 0
      · have hx := inH_low h1
        go_wp2_with (first | go_big_skip | ((with_reducible apply wl_idx); (with_reducible rfl); rfl; rfl; rfl; (first | exact idx0 _ _ _ _ | exact idx1 _ _ _ _ | exact idx2 _ _ _ _ | exact idx3 _ _ _ _); (simp only [Act.put, List.setIfInBounds_toArray, List.set_cons_succ, List.set_cons_zero, Nat.reduceAdd])))
        go_ret
        refine ⟨by simp only [isIt, hx, Bool.false_and, Bool.and_false, q0]; rfl, hS.drop⟩
      · have d1 : decide (x1 < 0) = false := by simpa using h1
        by_cases h2 : 1152921504606846976 < x1
        · have hx := inH_high h2
          go_wp2_with (first | go_big_skip | ((with_reducible apply wl_idx); (with_reducible rfl); rfl; rfl; rfl; (first | exact idx0 _ _ _ _ | exact idx1 _ _ _ _ | exact idx2 _ _ _ _ | exact idx3 _ _ _ _); (simp only [Act.put, List.setIfInBounds_toArray, List.set_cons_succ, List.set_cons_zero, Nat.reduceAdd])))
          go_ret
          refine ⟨by simp only [isIt, hx, Bool.false_and, Bool.and_false, q0]; rfl, hS.drop⟩
        · have d2 : decide (1152921504606846976 < x1) = false := by simpa using h2
          have hx : inH x1 = true := inH_true.2 ⟨by omega, by omega⟩
          clear h1 h2
          go_wp2_with (first | go_big_skip | ((with_reducible apply wl_idx); (with_reducible rfl); rfl; rfl; rfl; (first | exact idx0 _ _ _ _ | exact idx1 _ _ _ _ | exact idx2 _ _ _ _ | exact idx3 _ _ _ _); (simp only [Act.put, List.setIfInBounds_toArray, List.set_cons_succ, List.set_cons_zero, Nat.reduceAdd])))
          go_roundw
          case rel => exact ⟨hS, .inr (.inr (.inl ⟨rfl, q0, hx⟩))⟩
          case measure => simp [intOf]
    · skip
      by_cases h1 : x2 < 0
      · have hx := inH_low h1
        go_wp2_with (first | go_big_skip | ((with_reducible apply wl_idx); (with_reducible rfl); rfl; rfl; rfl; (first | exact idx0 _ _ _ _ | exact idx1 _ _ _ _ | exact idx2 _ _ _ _ | exact idx3 _ _ _ _); (simp only [Act.put, List.setIfInBounds_toArray, List.set_cons_succ, List.set_cons_zero, Nat.reduceAdd])))
        go_ret
        refine ⟨by simp only [isIt, hx, Bool.false_and, Bool.and_false, q0]; rfl, hS.drop⟩
      · have d1 : decide (x2 < 0) = false := by simpa using h1
        by_cases h2 : 1152921504606846976 < x2
        · have hx := inH_high h2
          go_wp2_with (first | go_big_skip | ((with_reducible apply wl_idx); (with_reducible rfl); rfl; rfl; rfl; (first | exact idx0 _ _ _ _ | exact idx1 _ _ _ _ | exact idx2 _ _ _ _ | exact idx3 _ _ _ _); (simp only [Act.put, List.setIfInBounds_toArray, List.set_cons_succ, List.set_cons_zero, Nat.reduceAdd])))
          go_ret
          refine ⟨by simp only [isIt, hx, Bool.false_and, Bool.and_false, q0]; rfl, hS.drop⟩
        · have d2 : decide (1152921504606846976 < x2) = false := by simpa using h2
          have hx : inH x2 = true := inH_true.2 ⟨by omega, by omega⟩
          clear h1 h2
          go_wp2_with (first | go_big_skip | ((with_reducible apply wl_idx); (with_reducible rfl); rfl; rfl; rfl; (first | exact idx0 _ _ _ _ | exact idx1 _ _ _ _ | exact idx2 _ _ _ _ | exact idx3 _ _ _ _); (simp only [Act.put, List.setIfInBounds_toArray, List.set_cons_succ, List.set_cons_zero, Nat.reduceAdd])))
          go_roundw
          case rel => exact ⟨hS, .inr (.inr (.inr (.inl ⟨rfl, q0, q1, hx⟩)))⟩
          case measure => simp [intOf]
    · skip
      by_cases h1 : x3 < 0
      · have hx := inH_low h1
        go_wp2_with (first | go_big_skip | ((with_reducible apply wl_idx); (with_reducible rfl); rfl; rfl; rfl; (first | exact idx0 _ _ _ _ | exact idx1 _ _ _ _ | exact idx2 _ _ _ _ | exact idx3 _ _ _ _); (simp only [Act.put, List.setIfInBounds_toArray, List.set_cons_succ, List.set_cons_zero, Nat.reduceAdd])))
        go_ret
        refine ⟨by simp only [isIt, hx, Bool.false_and, Bool.and_false, q0]; rfl, hS.drop⟩
      · have d1 : decide (x3 < 0) = false := by simpa using h1
        by_cases h2 : 1152921504606846976 < x3
        · have hx := inH_high h2
          go_wp2_with (first | go_big_skip | ((with_reducible apply wl_idx); (with_reducible rfl); rfl; rfl; rfl; (first | exact idx0 _ _ _ _ | exact idx1 _ _ _ _ | exact idx2 _ _ _ _ | exact idx3 _ _ _ _); (simp only [Act.put, List.setIfInBounds_toArray, List.set_cons_succ, List.set_cons_zero, Nat.reduceAdd])))
          go_ret
          refine ⟨by simp only [isIt, hx, Bool.false_and, Bool.and_false, q0]; rfl, hS.drop⟩
        · have d2 : decide (1152921504606846976 < x3) = false := by simpa using h2
          have hx : inH x3 = true := inH_true.2 ⟨by omega, by omega⟩
          clear h1 h2
          go_wp2_with (first | go_big_skip | ((with_reducible apply wl_idx); (with_reducible rfl); rfl; rfl; rfl; (first | exact idx0 _ _ _ _ | exact idx1 _ _ _ _ | exact idx2 _ _ _ _ | exact idx3 _ _ _ _); (simp only [Act.put, List.setIfInBounds_toArray, List.set_cons_succ, List.set_cons_zero, Nat.reduceAdd])))
          go_roundw
          case rel => exact ⟨hS, .inr (.inr (.inr (.inr ⟨rfl, q0, q1, q2, hx⟩)))⟩
          case measure => simp [intOf]
    · go_wp2_with (first | go_big_skip | ((with_reducible apply wl_idx); (with_reducible rfl); rfl; rfl; rfl; (first | exact idx0 _ _ _ _ | exact idx1 _ _ _ _ | exact idx2 _ _ _ _ | exact idx3 _ _ _ _); (simp only [Act.put, List.setIfInBounds_toArray, List.set_cons_succ, List.set_cons_zero, Nat.reduceAdd])) | ((with_reducible apply wl_ld1 hS); (with_reducible rfl); rfl; rfl; decide +kernel; (first | exact Cell.here rfl | exact Cell.there (Cell.here rfl) | exact Cell.there (Cell.there (Cell.here rfl)) | exact Cell.there (Cell.there (Cell.there (Cell.here rfl))) | exact Cell.there (Cell.there (Cell.there (Cell.there (Cell.here rfl)))) | exact Cell.there (Cell.there (Cell.there (Cell.there (Cell.there (Cell.here rfl))))) | exact Cell.there (Cell.there (Cell.there (Cell.there (Cell.there (Cell.there (Cell.here rfl)))))) | assumption); (simp only [Act.put, List.setIfInBounds_toArray, List.set_cons_succ, List.set_cons_zero, Nat.reduceAdd])) | ((with_reducible apply wl_ldN hS); (with_reducible rfl); rfl; rfl; decide +kernel; (first | exact Cells.whole | exact Cells.there Cells.whole | exact Cells.there (Cells.there Cells.whole) | exact Cells.there (Cells.there (Cells.there Cells.whole)) | exact Cells.there (Cells.there (Cells.there (Cells.there Cells.whole))) | exact Cells.there (Cells.there (Cells.there (Cells.there (Cells.there Cells.whole)))) | exact Cells.there (Cells.there (Cells.there (Cells.there (Cells.there (Cells.there Cells.whole))))) | assumption); kernel_rfl; (simp only [Act.put, List.setIfInBounds_toArray, List.set_cons_succ, List.set_cons_zero, Nat.reduceAdd])) | ((with_reducible apply wl_st1 hS); (with_reducible rfl); rfl; rfl; (focus ((conv => lhs; whnf); try rfl)); kernel_rfl; rfl; rfl; (first | exact Upd.head | exact Upd.tail Upd.head | exact Upd.tail (Upd.tail Upd.head) | exact Upd.tail (Upd.tail (Upd.tail Upd.head)) | exact Upd.tail (Upd.tail (Upd.tail (Upd.tail Upd.head))) | exact Upd.tail (Upd.tail (Upd.tail (Upd.tail (Upd.tail Upd.head)))) | exact Upd.tail (Upd.tail (Upd.tail (Upd.tail (Upd.tail (Upd.tail Upd.head)))))); (simp only [List.length_cons, List.length_nil]; omega); ((simp only [List.set_cons_zero, List.set_cons_succ, setAll]); rfl); clear hS; intro w hS; try (simp only [Act.put, List.setIfInBounds_toArray, List.set_cons_succ, List.set_cons_zero, Nat.reduceAdd])) | ((with_reducible apply wl_stN hS); (with_reducible rfl); rfl; rfl; (focus ((conv => lhs; whnf); try rfl)); kernel_rfl; rfl; (first | exact Upd.head | exact Upd.tail Upd.head | exact Upd.tail (Upd.tail Upd.head) | exact Upd.tail (Upd.tail (Upd.tail Upd.head)) | exact Upd.tail (Upd.tail (Upd.tail (Upd.tail Upd.head))) | exact Upd.tail (Upd.tail (Upd.tail (Upd.tail (Upd.tail Upd.head)))) | exact Upd.tail (Upd.tail (Upd.tail (Upd.tail (Upd.tail (Upd.tail Upd.head)))))); (simp only [List.length_cons, List.length_nil]; omega); ((simp only [List.set_cons_zero, List.set_cons_succ, setAll]); rfl); clear hS; intro w hS; try (simp only [Act.put, List.setIfInBounds_toArray, List.set_cons_succ, List.set_cons_zero, Nat.reduceAdd])) | ((with_reducible apply wl_box hS); (with_reducible rfl); rfl; rfl; rfl; clear hS; intro b w hS; (simp only [Act.put, List.setIfInBounds_toArray, List.set_cons_succ, List.set_cons_zero, Nat.reduceAdd])) | ((with_reducible apply wl_alloc hS); (with_reducible rfl); rfl; (with_reducible first | exact Ty.z3 | exact Ty.z28 | exact Ty.z32 | exact Ty.z40 | exact Ty.z46 | exact Ty.z69 | exact Ty.z86 | exact Ty.z146); clear hS; intro b w hS; (simp only [Act.put, List.setIfInBounds_toArray, List.set_cons_succ, List.set_cons_zero, Nat.reduceAdd])))
      go_ret
      refine ⟨by simp only [isIt, q0, q1, q2, q3]; rfl, hS.drop⟩
def lessIt (a b : It) : Bool := decide (a.x0 < b.x0) || (decide (a.x1 < b.x1) || (decide (a.x2 < b.x2) || decide (a.x3 < b.x3)))
def LsR (W : World) (L : List HP) (a b : It) (v : Value) (w : World) : Prop :=
  St W L w ∧ (v = .int .i64 0 ∨ (v = .int .i64 1 ∧ decide (a.x0 < b.x0) = false) ∨ (v = .int .i64 2 ∧ decide (a.x0 < b.x0) = false ∧ decide (a.x1 < b.x1) = false) ∨ (v = .int .i64 3 ∧ decide (a.x0 < b.x0) = false ∧ decide (a.x1 < b.x1) = false ∧ decide (a.x2 < b.x2) = false) ∨ (v = .int .i64 4 ∧ decide (a.x0 < b.x0) = false ∧ decide (a.x1 < b.x1) = false ∧ decide (a.x2 < b.x2) = false ∧ decide (a.x3 < b.x3) = false))
set_option maxRecDepth 100000 in
set_option maxHeartbeats 4000000 in
theorem less_it (i j : It) (W w : World) (R : List HP) (hS : St W R w) :
    Calls Try.prog 53 #[.agg i.cells.toArray, .agg j.cells.toArray] w fun e w' => e = .returned (.bool (lessIt i j)) ∧ St W R w' := by
  obtain ⟨x0, x1, x2, x3⟩ := i
  obtain ⟨y0, y1, y2, y3⟩ := j
  simp only [It.cells]
  go_enter Try.func53, Try.ntmps53
  go_wp2_with (first | ((with_reducible apply wl_ld1 hS); (with_reducible rfl); rfl; rfl; decide +kernel; (first | exact Cell.here rfl | exact Cell.there (Cell.here rfl) | exact Cell.there (Cell.there (Cell.here rfl)) | exact Cell.there (Cell.there (Cell.there (Cell.here rfl))) | exact Cell.there (Cell.there (Cell.there (Cell.there (Cell.here rfl)))) | exact Cell.there (Cell.there (Cell.there (Cell.there (Cell.there (Cell.here rfl))))) | exact Cell.there (Cell.there (Cell.there (Cell.there (Cell.there (Cell.there (Cell.here rfl)))))) | assumption); (simp only [Act.put, List.setIfInBounds_toArray, List.set_cons_succ, List.set_cons_zero, Nat.reduceAdd])) | ((with_reducible apply wl_ldN hS); (with_reducible rfl); rfl; rfl; decide +kernel; (first | exact Cells.whole | exact Cells.there Cells.whole | exact Cells.there (Cells.there Cells.whole) | exact Cells.there (Cells.there (Cells.there Cells.whole)) | exact Cells.there (Cells.there (Cells.there (Cells.there Cells.whole))) | exact Cells.there (Cells.there (Cells.there (Cells.there (Cells.there Cells.whole)))) | exact Cells.there (Cells.there (Cells.there (Cells.there (Cells.there (Cells.there Cells.whole))))) | assumption); kernel_rfl; (simp only [Act.put, List.setIfInBounds_toArray, List.set_cons_succ, List.set_cons_zero, Nat.reduceAdd])) | ((with_reducible apply wl_st1 hS); (with_reducible rfl); rfl; rfl; (focus ((conv => lhs; whnf); try rfl)); kernel_rfl; rfl; rfl; (first | exact Upd.head | exact Upd.tail Upd.head | exact Upd.tail (Upd.tail Upd.head) | exact Upd.tail (Upd.tail (Upd.tail Upd.head)) | exact Upd.tail (Upd.tail (Upd.tail (Upd.tail Upd.head))) | exact Upd.tail (Upd.tail (Upd.tail (Upd.tail (Upd.tail Upd.head)))) | exact Upd.tail (Upd.tail (Upd.tail (Upd.tail (Upd.tail (Upd.tail Upd.head)))))); (simp only [List.length_cons, List.length_nil]; omega); ((simp only [List.set_cons_zero, List.set_cons_succ, setAll]); rfl); clear hS; intro w hS; try (simp only [Act.put, List.setIfInBounds_toArray, List.set_cons_succ, List.set_cons_zero, Nat.reduceAdd])) | ((with_reducible apply wl_stN hS); (with_reducible rfl); rfl; rfl; (focus ((conv => lhs; whnf); try rfl)); kernel_rfl; rfl; (first | exact Upd.head | exact Upd.tail Upd.head | exact Upd.tail (Upd.tail Upd.head) | exact Upd.tail (Upd.tail (Upd.tail Upd.head)) | exact Upd.tail (Upd.tail (Upd.tail (Upd.tail Upd.head))) | exact Upd.tail (Upd.tail (Upd.tail (Upd.tail (Upd.tail Upd.head)))) | exact Upd.tail (Upd.tail (Upd.tail (Upd.tail (Upd.tail (Upd.tail Upd.head)))))); (simp only [List.length_cons, List.length_nil]; omega); ((simp only [List.set_cons_zero, List.set_cons_succ, setAll]); rfl); clear hS; intro w hS; try (simp only [Act.put, List.setIfInBounds_toArray, List.set_cons_succ, List.set_cons_zero, Nat.reduceAdd])) | ((with_reducible apply wl_box hS); (with_reducible rfl); rfl; rfl; rfl; clear hS; intro b w hS; (simp only [Act.put, List.setIfInBounds_toArray, List.set_cons_succ, List.set_cons_zero, Nat.reduceAdd])) | ((with_reducible apply wl_alloc hS); (with_reducible rfl); rfl; (with_reducible first | exact Ty.z3 | exact Ty.z28 | exact Ty.z32 | exact Ty.z40 | exact Ty.z46 | exact Ty.z69 | exact Ty.z86 | exact Ty.z146); clear hS; intro b w hS; (simp only [Act.put, List.setIfInBounds_toArray, List.set_cons_succ, List.set_cons_zero, Nat.reduceAdd])))
  rename_i bA w1 K1 hK1
  go_loopw [8] (fun v wr => LsR W (blk b [.int .i64 y0, .int .i64 y1, .int .i64 y2, .int .i64 y3] 28 :: blk bA [.int .i64 x0, .int .i64 x1, .int .i64 x2, .int .i64 x3] 28 :: R) ⟨x0, x1, x2, x3⟩ ⟨y0, y1, y2, y3⟩ v wr) (fun v _ => 4 - (intOf v).toNat)
  case atStart => exact ⟨hS, .inl rfl⟩
  case round =>
    clear hS
    obtain ⟨hS, hk⟩ := hrel
    simp only at hk
    rcases hk with rfl | ⟨rfl, q0⟩ | ⟨rfl, q0, q1⟩ | ⟨rfl, q0, q1, q2⟩ | ⟨rfl, q0, q1, q2, q3⟩
    · skip
      by_cases h1 : x0 < y0
      · have hx : decide (x0 < y0) = true := by simpa using h1
        go_wp2_with (first | go_big_skip | ((with_reducible apply wl_idx); (with_reducible rfl); rfl; rfl; rfl; (first | exact idx0 _ _ _ _ | exact idx1 _ _ _ _ | exact idx2 _ _ _ _ | exact idx3 _ _ _ _); (simp only [Act.put, List.setIfInBounds_toArray, List.set_cons_succ, List.set_cons_zero, Nat.reduceAdd])) | ((with_reducible apply wl_ld1 hS); (with_reducible rfl); rfl; rfl; decide +kernel; (first | exact Cell.here rfl | exact Cell.there (Cell.here rfl) | exact Cell.there (Cell.there (Cell.here rfl)) | exact Cell.there (Cell.there (Cell.there (Cell.here rfl))) | exact Cell.there (Cell.there (Cell.there (Cell.there (Cell.here rfl)))) | exact Cell.there (Cell.there (Cell.there (Cell.there (Cell.there (Cell.here rfl))))) | exact Cell.there (Cell.there (Cell.there (Cell.there (Cell.there (Cell.there (Cell.here rfl)))))) | assumption); (simp only [Act.put, List.setIfInBounds_toArray, List.set_cons_succ, List.set_cons_zero, Nat.reduceAdd])))
        go_ret
        refine ⟨by simp only [lessIt, hx, Bool.true_or, Bool.or_true]; rfl, hS.drop.drop⟩
      · have hx : decide (x0 < y0) = false := by simpa using h1
        clear h1
        go_wp2_with (first | go_big_skip | ((with_reducible apply wl_idx); (with_reducible rfl); rfl; rfl; rfl; (first | exact idx0 _ _ _ _ | exact idx1 _ _ _ _ | exact idx2 _ _ _ _ | exact idx3 _ _ _ _); (simp only [Act.put, List.setIfInBounds_toArray, List.set_cons_succ, List.set_cons_zero, Nat.reduceAdd])) | ((with_reducible apply wl_ld1 hS); (with_reducible rfl); rfl; rfl; decide +kernel; (first | exact Cell.here rfl | exact Cell.there (Cell.here rfl) | exact Cell.there (Cell.there (Cell.here rfl)) | exact Cell.there (Cell.there (Cell.there (Cell.here rfl))) | exact Cell.there (Cell.there (Cell.there (Cell.there (Cell.here rfl)))) | exact Cell.there (Cell.there (Cell.there (Cell.there (Cell.there (Cell.here rfl))))) | exact Cell.there (Cell.there (Cell.there (Cell.there (Cell.there (Cell.there (Cell.here rfl)))))) | assumption); (simp only [Act.put, List.setIfInBounds_toArray, List.set_cons_succ, List.set_cons_zero, Nat.reduceAdd])))
        go_roundw
        case rel => exact ⟨hS, .inr (.inl ⟨rfl, hx⟩)⟩
        case measure => simp [intOf]
    · skip
      by_cases h1 : x1 < y1
      · have hx : decide (x1 < y1) = true := by simpa using h1
        go_wp2_with (first | go_big_skip | ((with_reducible apply wl_idx); (with_reducible rfl); rfl; rfl; rfl; (first | exact idx0 _ _ _ _ | exact idx1 _ _ _ _ | exact idx2 _ _ _ _ | exact idx3 _ _ _ _); (simp only [Act.put, List.setIfInBounds_toArray, List.set_cons_succ, List.set_cons_zero, Nat.reduceAdd])) | ((with_reducible apply wl_ld1 hS); (with_reducible rfl); rfl; rfl; decide +kernel; (first | exact Cell.here rfl | exact Cell.there (Cell.here rfl) | exact Cell.there (Cell.there (Cell.here rfl)) | exact Cell.there (Cell.there (Cell.there (Cell.here rfl))) | exact Cell.there (Cell.there (Cell.there (Cell.there (Cell.here rfl)))) | exact Cell.there (Cell.there (Cell.there (Cell.there (Cell.there (Cell.here rfl))))) | exact Cell.there (Cell.there (Cell.there (Cell.there (Cell.there (Cell.there (Cell.here rfl)))))) | assumption); (simp only [Act.put, List.setIfInBounds_toArray, List.set_cons_succ, List.set_cons_zero, Nat.reduceAdd])))
        go_ret
        refine ⟨by simp only [lessIt, hx, Bool.true_or, Bool.or_true]; rfl, hS.drop.drop⟩
      · have hx : decide (x1 < y1) = false := by simpa using h1
        clear h1
        go_wp2_with (first | go_big_skip | ((with_reducible apply wl_idx); (with_reducible rfl); rfl; rfl; rfl; (first | exact idx0 _ _ _ _ | exact idx1 _ _ _ _ | exact idx2 _ _ _ _ | exact idx3 _ _ _ _); (simp only [Act.put, List.setIfInBounds_toArray, List.set_cons_succ, List.set_cons_zero, Nat.reduceAdd])) | ((with_reducible apply wl_ld1 hS); (with_reducible rfl); rfl; rfl; decide +kernel; (first | exact Cell.here rfl | exact Cell.there (Cell.here rfl) | exact Cell.there (Cell.there (Cell.here rfl)) | exact Cell.there (Cell.there (Cell.there (Cell.here rfl))) | exact Cell.there (Cell.there (Cell.there (Cell.there (Cell.here rfl)))) | exact Cell.there (Cell.there (Cell.there (Cell.there (Cell.there (Cell.here rfl))))) | exact Cell.there (Cell.there (Cell.there (Cell.there (Cell.there (Cell.there (Cell.here rfl)))))) | assumption); (simp only [Act.put, List.setIfInBounds_toArray, List.set_cons_succ, List.set_cons_zero, Nat.reduceAdd])))
        go_roundw
        case rel => exact ⟨hS, .inr (.inr (.inl ⟨rfl, q0, hx⟩))⟩
        case measure => simp [intOf]
    · skip
      by_cases h1 : x2 < y2
      · have hx : decide (x2 < y2) = true := by simpa using h1
        go_wp2_with (first | go_big_skip | ((with_reducible apply wl_idx); (with_reducible rfl); rfl; rfl; rfl; (first | exact idx0 _ _ _ _ | exact idx1 _ _ _ _ | exact idx2 _ _ _ _ | exact idx3 _ _ _ _); (simp only [Act.put, List.setIfInBounds_toArray, List.set_cons_succ, List.set_cons_zero, Nat.reduceAdd])) | ((with_reducible apply wl_ld1 hS); (with_reducible rfl); rfl; rfl; decide +kernel; (first | exact Cell.here rfl | exact Cell.there (Cell.here rfl) | exact Cell.there (Cell.there (Cell.here rfl)) | exact Cell.there (Cell.there (Cell.there (Cell.here rfl))) | exact Cell.there (Cell.there (Cell.there (Cell.there (Cell.here rfl)))) | exact Cell.there (Cell.there (Cell.there (Cell.there (Cell.there (Cell.here rfl))))) | exact Cell.there (Cell.there (Cell.there (Cell.there (Cell.there (Cell.there (Cell.here rfl)))))) | assumption); (simp only [Act.put, List.setIfInBounds_toArray, List.set_cons_succ, List.set_cons_zero, Nat.reduceAdd])))
        go_ret
        refine ⟨by simp only [lessIt, hx, Bool.true_or, Bool.or_true]; rfl, hS.drop.drop⟩
      · have hx : decide (x2 < y2) = false := by simpa using h1
        clear h1
        go_wp2_with (first | go_big_skip | ((with_reducible apply wl_idx); (with_reducible rfl); rfl; rfl; rfl; (first | exact idx0 _ _ _ _ | exact idx1 _ _ _ _ | exact idx2 _ _ _ _ | exact idx3 _ _ _ _); (simp only [Act.put, List.setIfInBounds_toArray, List.set_cons_succ, List.set_cons_zero, Nat.reduceAdd])) | ((with_reducible apply wl_ld1 hS); (with_reducible rfl); rfl; rfl; decide +kernel; (first | exact Cell.here rfl | exact Cell.there (Cell.here rfl) | exact Cell.there (Cell.there (Cell.here rfl)) | exact Cell.there (Cell.there (Cell.there (Cell.here rfl))) | exact Cell.there (Cell.there (Cell.there (Cell.there (Cell.here rfl)))) | exact Cell.there (Cell.there (Cell.there (Cell.there (Cell.there (Cell.here rfl))))) | exact Cell.there (Cell.there (Cell.there (Cell.there (Cell.there (Cell.there (Cell.here rfl)))))) | assumption); (simp only [Act.put, List.setIfInBounds_toArray, List.set_cons_succ, List.set_cons_zero, Nat.reduceAdd])))
        go_roundw
        case rel => exact ⟨hS, .inr (.inr (.inr (.inl ⟨rfl, q0, q1, hx⟩)))⟩
        case measure => simp [intOf]
    · skip
      by_cases h1 : x3 < y3
      · have hx : decide (x3 < y3) = true := by simpa using h1
        go_wp2_with (first | go_big_skip | ((with_reducible apply wl_idx); (with_reducible rfl); rfl; rfl; rfl; (first | exact idx0 _ _ _ _ | exact idx1 _ _ _ _ | exact idx2 _ _ _ _ | exact idx3 _ _ _ _); (simp only [Act.put, List.setIfInBounds_toArray, List.set_cons_succ, List.set_cons_zero, Nat.reduceAdd])) | ((with_reducible apply wl_ld1 hS); (with_reducible rfl); rfl; rfl; decide +kernel; (first | exact Cell.here rfl | exact Cell.there (Cell.here rfl) | exact Cell.there (Cell.there (Cell.here rfl)) | exact Cell.there (Cell.there (Cell.there (Cell.here rfl))) | exact Cell.there (Cell.there (Cell.there (Cell.there (Cell.here rfl)))) | exact Cell.there (Cell.there (Cell.there (Cell.there (Cell.there (Cell.here rfl))))) | exact Cell.there (Cell.there (Cell.there (Cell.there (Cell.there (Cell.there (Cell.here rfl)))))) | assumption); (simp only [Act.put, List.setIfInBounds_toArray, List.set_cons_succ, List.set_cons_zero, Nat.reduceAdd])))
        go_ret
        refine ⟨by simp only [lessIt, hx, Bool.true_or, Bool.or_true]; rfl, hS.drop.drop⟩
      · have hx : decide (x3 < y3) = false := by simpa using h1
        clear h1
        go_wp2_with (first | go_big_skip | ((with_reducible apply wl_idx); (with_reducible rfl); rfl; rfl; rfl; (first | exact idx0 _ _ _ _ | exact idx1 _ _ _ _ | exact idx2 _ _ _ _ | exact idx3 _ _ _ _); (simp only [Act.put, List.setIfInBounds_toArray, List.set_cons_succ, List.set_cons_zero, Nat.reduceAdd])) | ((with_reducible apply wl_ld1 hS); (with_reducible rfl); rfl; rfl; decide +kernel; (first | exact Cell.here rfl | exact Cell.there (Cell.here rfl) | exact Cell.there (Cell.there (Cell.here rfl)) | exact Cell.there (Cell.there (Cell.there (Cell.here rfl))) | exact Cell.there (Cell.there (Cell.there (Cell.there (Cell.here rfl)))) | exact Cell.there (Cell.there (Cell.there (Cell.there (Cell.there (Cell.here rfl))))) | exact Cell.there (Cell.there (Cell.there (Cell.there (Cell.there (Cell.there (Cell.here rfl)))))) | assumption); (simp only [Act.put, List.setIfInBounds_toArray, List.set_cons_succ, List.set_cons_zero, Nat.reduceAdd])))
        go_roundw
        case rel => exact ⟨hS, .inr (.inr (.inr (.inr ⟨rfl, q0, q1, q2, hx⟩)))⟩
        case measure => simp [intOf]
    · go_wp2_with (first | go_big_skip | ((with_reducible apply wl_ld1 hS); (with_reducible rfl); rfl; rfl; decide +kernel; (first | exact Cell.here rfl | exact Cell.there (Cell.here rfl) | exact Cell.there (Cell.there (Cell.here rfl)) | exact Cell.there (Cell.there (Cell.there (Cell.here rfl))) | exact Cell.there (Cell.there (Cell.there (Cell.there (Cell.here rfl)))) | exact Cell.there (Cell.there (Cell.there (Cell.there (Cell.there (Cell.here rfl))))) | exact Cell.there (Cell.there (Cell.there (Cell.there (Cell.there (Cell.there (Cell.here rfl)))))) | assumption); (simp only [Act.put, List.setIfInBounds_toArray, List.set_cons_succ, List.set_cons_zero, Nat.reduceAdd])) | ((with_reducible apply wl_ldN hS); (with_reducible rfl); rfl; rfl; decide +kernel; (first | exact Cells.whole | exact Cells.there Cells.whole | exact Cells.there (Cells.there Cells.whole) | exact Cells.there (Cells.there (Cells.there Cells.whole)) | exact Cells.there (Cells.there (Cells.there (Cells.there Cells.whole))) | exact Cells.there (Cells.there (Cells.there (Cells.there (Cells.there Cells.whole)))) | exact Cells.there (Cells.there (Cells.there (Cells.there (Cells.there (Cells.there Cells.whole))))) | assumption); kernel_rfl; (simp only [Act.put, List.setIfInBounds_toArray, List.set_cons_succ, List.set_cons_zero, Nat.reduceAdd])) | ((with_reducible apply wl_st1 hS); (with_reducible rfl); rfl; rfl; (focus ((conv => lhs; whnf); try rfl)); kernel_rfl; rfl; rfl; (first | exact Upd.head | exact Upd.tail Upd.head | exact Upd.tail (Upd.tail Upd.head) | exact Upd.tail (Upd.tail (Upd.tail Upd.head)) | exact Upd.tail (Upd.tail (Upd.tail (Upd.tail Upd.head))) | exact Upd.tail (Upd.tail (Upd.tail (Upd.tail (Upd.tail Upd.head)))) | exact Upd.tail (Upd.tail (Upd.tail (Upd.tail (Upd.tail (Upd.tail Upd.head)))))); (simp only [List.length_cons, List.length_nil]; omega); ((simp only [List.set_cons_zero, List.set_cons_succ, setAll]); rfl); clear hS; intro w hS; try (simp only [Act.put, List.setIfInBounds_toArray, List.set_cons_succ, List.set_cons_zero, Nat.reduceAdd])) | ((with_reducible apply wl_stN hS); (with_reducible rfl); rfl; rfl; (focus ((conv => lhs; whnf); try rfl)); kernel_rfl; rfl; (first | exact Upd.head | exact Upd.tail Upd.head | exact Upd.tail (Upd.tail Upd.head) | exact Upd.tail (Upd.tail (Upd.tail Upd.head)) | exact Upd.tail (Upd.tail (Upd.tail (Upd.tail Upd.head))) | exact Upd.tail (Upd.tail (Upd.tail (Upd.tail (Upd.tail Upd.head)))) | exact Upd.tail (Upd.tail (Upd.tail (Upd.tail (Upd.tail (Upd.tail Upd.head)))))); (simp only [List.length_cons, List.length_nil]; omega); ((simp only [List.set_cons_zero, List.set_cons_succ, setAll]); rfl); clear hS; intro w hS; try (simp only [Act.put, List.setIfInBounds_toArray, List.set_cons_succ, List.set_cons_zero, Nat.reduceAdd])) | ((with_reducible apply wl_box hS); (with_reducible rfl); rfl; rfl; rfl; clear hS; intro b w hS; (simp only [Act.put, List.setIfInBounds_toArray, List.set_cons_succ, List.set_cons_zero, Nat.reduceAdd])) | ((with_reducible apply wl_alloc hS); (with_reducible rfl); rfl; (with_reducible first | exact Ty.z3 | exact Ty.z28 | exact Ty.z32 | exact Ty.z40 | exact Ty.z46 | exact Ty.z69 | exact Ty.z86 | exact Ty.z146); clear hS; intro b w hS; (simp only [Act.put, List.setIfInBounds_toArray, List.set_cons_succ, List.set_cons_zero, Nat.reduceAdd])))
      go_ret
      refine ⟨by simp only [lessIt, q0, q1, q2, q3]; rfl, hS.drop.drop⟩
end Go.Proofs.Ytbcokphjpllbiaa
