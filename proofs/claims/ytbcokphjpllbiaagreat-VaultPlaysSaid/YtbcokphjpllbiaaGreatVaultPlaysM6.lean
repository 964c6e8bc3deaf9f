/-
  Purses: what may be in one, less, without. For every purse.
  A row that is only read; a slice literal as an owned row; a part of a row as a source of append. Over any program.
  Resources picked out of a list, in another order, others let go. Over any program.
  Rows that are read and copied in parts: the walk's rules. Over any program.
-/
import Derived.Test.YtbcokphjpllbiaaGreatVaultPlaysM4
import Derived.Test.YtbcokphjpllbiaaGreatVaultPlaysM5

section
set_option linter.unusedSimpArgs false
set_option linter.unusedVariables false
namespace Go.Sl
open Go.RowKit
section
variable {P : Program} {ops : Array Oper} {Q : Exit → Act → World → Prop} {a : Act} {w : World} {rest : List Oper} {o : Oper}
/-- An element of an array that is a value. -/
theorem wl_idx {t : TypeId} {x y : Operand} {u i v : Value} (ho : o.op = .index t x y) (hg : Region.wanted o (yielded ops a.tmps) = true) (hx : a.eval x = u) (hy : a.eval y = i) (hr : ∀ w : World, (Instr.index t u i).run P w = .ok v w)
    (h : wpList P ops Q rest (a.put o.dst v) w) : wpList P ops Q (o :: rest) a w := by
  refine wpList_run hg (v := v) (w' := w) ?_ h
  unfold execOp
  simp only [ho, hx, hy, Sem.run_bind, hr, Result.andThen_ok, Sem.run_pure]
end
end Go.Sl
namespace Go.Proofs.YtbcokphjpllbiaaGreat
open Go.RowKit Go.Sl
theorem idx0 (a0 a1 a2 a3 : Value) (w : World) : (Instr.index 39 (.agg #[a0, a1, a2, a3]) (.int .i64 0)).run Tryz.prog w = .ok a0 w := by kernel_rfl
theorem idx1 (a0 a1 a2 a3 : Value) (w : World) : (Instr.index 39 (.agg #[a0, a1, a2, a3]) (.int .i64 1)).run Tryz.prog w = .ok a1 w := by kernel_rfl
theorem idx2 (a0 a1 a2 a3 : Value) (w : World) : (Instr.index 39 (.agg #[a0, a1, a2, a3]) (.int .i64 2)).run Tryz.prog w = .ok a2 w := by kernel_rfl
theorem idx3 (a0 a1 a2 a3 : Value) (w : World) : (Instr.index 39 (.agg #[a0, a1, a2, a3]) (.int .i64 3)).run Tryz.prog w = .ok a3 w := by kernel_rfl
structure It where
  x0 : Int
  x1 : Int
  x2 : Int
  x3 : Int
def It.cells (i : It) : List Value := [.int .i64 i.x0, .int .i64 i.x1, .int .i64 i.x2, .int .i64 i.x3]
theorem It.len (i : It) : i.cells.length = 4 := rfl
def it0 : It := ⟨0, 0, 0, 0⟩
def inH (n : Int) : Bool := decide (0 ≤ n) && decide (n ≤ 1152921504606846976)
theorem inH_true {n : Int} : inH n = true ↔ 0 ≤ n ∧ n ≤ 1152921504606846976 := by unfold inH; simp
theorem inH_low {n : Int} (h : n < 0) : inH n = false := by unfold inH; simp; omega
theorem inH_high {n : Int} (h : 1152921504606846976 < n) : inH n = false := by unfold inH; simp; omega
def isIt (i : It) : Bool := inH i.x0 && (inH i.x1 && (inH i.x2 && inH i.x3))
def IsR (W : World) (L : List HP) (i : It) (v : Value) (w : World) : Prop :=
  St W L w ∧ (v = .int .i64 0 ∨ (v = .int .i64 1 ∧ inH i.x0 = true) ∨ (v = .int .i64 2 ∧ inH i.x0 = true ∧ inH i.x1 = true) ∨ (v = .int .i64 3 ∧ inH i.x0 = true ∧ inH i.x1 = true ∧ inH i.x2 = true) ∨ (v = .int .i64 4 ∧ inH i.x0 = true ∧ inH i.x1 = true ∧ inH i.x2 = true ∧ inH i.x3 = true))
set_option maxRecDepth 100000 in
set_option maxHeartbeats 4000000 in
theorem is_spec (i : It) (W w : World) (R : List HP) (hS : St W R w) :
    Calls Tryz.prog 37 #[.agg i.cells.toArray] w fun e w' => e = .returned (.bool (isIt i)) ∧ St W R w' := by
  obtain ⟨x0, x1, x2, x3⟩ := i
  simp only [It.cells]
  go_enter Tryz.func37, Tryz.ntmps37
  go_wp2_with (first | ((with_reducible apply wl_ld1 hS); (with_reducible rfl); rfl; rfl; decide +kernel; (first | (focus((repeat(first|exact Cell.here rfl | apply Cell.there)); done)) | assumption); (simp only [Act.put, fA, fB, fC, Nat.reduceAdd])) | ((with_reducible apply wl_ldN hS); (with_reducible rfl); rfl; rfl; decide +kernel; (first | (focus((repeat(first|exact Cells.whole | apply Cells.there)); done)) | assumption); kernel_rfl; (simp only [Act.put, fA, fB, fC, Nat.reduceAdd])) | ((with_reducible apply wl_st1 hS); (with_reducible rfl); rfl; rfl; (focus ((conv => lhs; whnf); try rfl)); kernel_rfl; rfl; rfl; ((focus((repeat(first|exact Upd.head | apply Upd.tail)); done))); (simp only [List.length_cons, List.length_nil]; omega); ((simp only [List.set_cons_zero, List.set_cons_succ, setAll]); rfl); clear hS; intro w hS; try (simp only [Act.put, fA, fB, fC, Nat.reduceAdd])) | ((with_reducible apply wl_stN hS); (with_reducible rfl); rfl; rfl; (focus ((conv => lhs; whnf); try rfl)); kernel_rfl; rfl; ((focus((repeat(first|exact Upd.head | apply Upd.tail)); done))); (simp only [List.length_cons, List.length_nil]; omega); ((simp only [List.set_cons_zero, List.set_cons_succ, setAll]); rfl); clear hS; intro w hS; try (simp only [Act.put, fA, fB, fC, Nat.reduceAdd])) | ((with_reducible apply wl_box hS); (with_reducible rfl); rfl; rfl; rfl; clear hS; intro b w hS; (simp only [Act.put, fA, fB, fC, Nat.reduceAdd])) | ((with_reducible apply wl_alloc hS); (with_reducible rfl); rfl; (fail); clear hS; intro b w hS; (simp only [Act.put, fA, fB, fC, Nat.reduceAdd])))
  go_loopw [6] (fun v wr => IsR W (blk b [.int .i64 x0, .int .i64 x1, .int .i64 x2, .int .i64 x3] 39 :: R) ⟨x0, x1, x2, x3⟩ v wr) (fun v _ => 4 - (intOf v).toNat)
  case atStart => exact ⟨hS, .inl rfl⟩
  case round =>
    clear hS
    obtain ⟨hS, hk⟩ := hrel
    simp only at hk
    rcases hk with rfl | ⟨rfl, q0⟩ | ⟨rfl, q0, q1⟩ | ⟨rfl, q0, q1, q2⟩ | ⟨rfl, q0, q1, q2, q3⟩
    · skip
      by_cases h1 : x0 < 0
      · have hx := inH_low h1
        go_wp2_with (first | go_big_skip | ((with_reducible apply wl_idx); (with_reducible rfl); rfl; rfl; rfl; (first | exact idx0 _ _ _ _ | exact idx1 _ _ _ _ | exact idx2 _ _ _ _ | exact idx3 _ _ _ _); (simp only [Act.put, fA, fB, fC, Nat.reduceAdd])))
        go_ret
        refine ⟨by simp only [isIt, hx, Bool.false_and, Bool.and_false, hx]; rfl, hS.drop⟩
      · have d1 : decide (x0 < 0) = false := by simpa using h1
        by_cases h2 : 1152921504606846976 < x0
        · have hx := inH_high h2
          go_wp2_with (first | go_big_skip | ((with_reducible apply wl_idx); (with_reducible rfl); rfl; rfl; rfl; (first | exact idx0 _ _ _ _ | exact idx1 _ _ _ _ | exact idx2 _ _ _ _ | exact idx3 _ _ _ _); (simp only [Act.put, fA, fB, fC, Nat.reduceAdd])))
          go_ret
          refine ⟨by simp only [isIt, hx, Bool.false_and, Bool.and_false, hx]; rfl, hS.drop⟩
        · have d2 : decide (1152921504606846976 < x0) = false := by simpa using h2
          have hx : inH x0 = true := inH_true.2 ⟨by omega, by omega⟩
          clear h1 h2
          go_wp2_with (first | go_big_skip | ((with_reducible apply wl_idx); (with_reducible rfl); rfl; rfl; rfl; (first | exact idx0 _ _ _ _ | exact idx1 _ _ _ _ | exact idx2 _ _ _ _ | exact idx3 _ _ _ _); (simp only [Act.put, fA, fB, fC, Nat.reduceAdd])))
          go_roundw
          case rel => exact ⟨hS, .inr (.inl ⟨rfl, hx⟩)⟩
          case measure => simp [intOf]
    · skip
      by_cases h1 : x1 < 0
      · have hx := inH_low h1
        go_wp2_with (first | go_big_skip | ((with_reducible apply wl_idx); (with_reducible rfl); rfl; rfl; rfl; (first | exact idx0 _ _ _ _ | exact idx1 _ _ _ _ | exact idx2 _ _ _ _ | exact idx3 _ _ _ _); (simp only [Act.put, fA, fB, fC, Nat.reduceAdd])))
        go_ret
        refine ⟨by simp only [isIt, hx, Bool.false_and, Bool.and_false, q0]; rfl, hS.drop⟩
      · have d1 : decide (x1 < 0) = false := by simpa using h1
        by_cases h2 : 1152921504606846976 < x1
        · have hx := inH_high h2
          go_wp2_with (first | go_big_skip | ((with_reducible apply wl_idx); (with_reducible rfl); rfl; rfl; rfl; (first | exact idx0 _ _ _ _ | exact idx1 _ _ _ _ | exact idx2 _ _ _ _ | exact idx3 _ _ _ _); (simp only [Act.put, fA, fB, fC, Nat.reduceAdd])))
          go_ret
          refine ⟨by simp only [isIt, hx, Bool.false_and, Bool.and_false, q0]; rfl, hS.drop⟩
        · have d2 : decide (1152921504606846976 < x1) = false := by simpa using h2
          have hx : inH x1 = true := inH_true.2 ⟨by omega, by omega⟩
          clear h1 h2
          go_wp2_with (first | go_big_skip | ((with_reducible apply wl_idx); (with_reducible rfl); rfl; rfl; rfl; (first | exact idx0 _ _ _ _ | exact idx1 _ _ _ _ | exact idx2 _ _ _ _ | exact idx3 _ _ _ _); (simp only [Act.put, fA, fB, fC, Nat.reduceAdd])))
          go_roundw
          case rel => exact ⟨hS, .inr (.inr (.inl ⟨rfl, q0, hx⟩))⟩
          case measure => simp [intOf]
    · skip
      by_cases h1 : x2 < 0
      · have hx := inH_low h1
        go_wp2_with (first | go_big_skip | ((with_reducible apply wl_idx); (with_reducible rfl); rfl; rfl; rfl; (first | exact idx0 _ _ _ _ | exact idx1 _ _ _ _ | exact idx2 _ _ _ _ | exact idx3 _ _ _ _); (simp only [Act.put, fA, fB, fC, Nat.reduceAdd])))
        go_ret
        refine ⟨by simp only [isIt, hx, Bool.false_and, Bool.and_false, q0]; rfl, hS.drop⟩
      · have d1 : decide (x2 < 0) = false := by simpa using h1
        by_cases h2 : 1152921504606846976 < x2
        · have hx := inH_high h2
          go_wp2_with (first | go_big_skip | ((with_reducible apply wl_idx); (with_reducible rfl); rfl; rfl; rfl; (first | exact idx0 _ _ _ _ | exact idx1 _ _ _ _ | exact idx2 _ _ _ _ | exact idx3 _ _ _ _); (simp only [Act.put, fA, fB, fC, Nat.reduceAdd])))
          go_ret
          refine ⟨by simp only [isIt, hx, Bool.false_and, Bool.and_false, q0]; rfl, hS.drop⟩
        · have d2 : decide (1152921504606846976 < x2) = false := by simpa using h2
          have hx : inH x2 = true := inH_true.2 ⟨by omega, by omega⟩
          clear h1 h2
          go_wp2_with (first | go_big_skip | ((with_reducible apply wl_idx); (with_reducible rfl); rfl; rfl; rfl; (first | exact idx0 _ _ _ _ | exact idx1 _ _ _ _ | exact idx2 _ _ _ _ | exact idx3 _ _ _ _); (simp only [Act.put, fA, fB, fC, Nat.reduceAdd])))
          go_roundw
          case rel => exact ⟨hS, .inr (.inr (.inr (.inl ⟨rfl, q0, q1, hx⟩)))⟩
          case measure => simp [intOf]
    · skip
      by_cases h1 : x3 < 0
      · have hx := inH_low h1
        go_wp2_with (first | go_big_skip | ((with_reducible apply wl_idx); (with_reducible rfl); rfl; rfl; rfl; (first | exact idx0 _ _ _ _ | exact idx1 _ _ _ _ | exact idx2 _ _ _ _ | exact idx3 _ _ _ _); (simp only [Act.put, fA, fB, fC, Nat.reduceAdd])))
        go_ret
        refine ⟨by simp only [isIt, hx, Bool.false_and, Bool.and_false, q0]; rfl, hS.drop⟩
      · have d1 : decide (x3 < 0) = false := by simpa using h1
        by_cases h2 : 1152921504606846976 < x3
        · have hx := inH_high h2
          go_wp2_with (first | go_big_skip | ((with_reducible apply wl_idx); (with_reducible rfl); rfl; rfl; rfl; (first | exact idx0 _ _ _ _ | exact idx1 _ _ _ _ | exact idx2 _ _ _ _ | exact idx3 _ _ _ _); (simp only [Act.put, fA, fB, fC, Nat.reduceAdd])))
          go_ret
          refine ⟨by simp only [isIt, hx, Bool.false_and, Bool.and_false, q0]; rfl, hS.drop⟩
        · have d2 : decide (1152921504606846976 < x3) = false := by simpa using h2
          have hx : inH x3 = true := inH_true.2 ⟨by omega, by omega⟩
          clear h1 h2
          go_wp2_with (first | go_big_skip | ((with_reducible apply wl_idx); (with_reducible rfl); rfl; rfl; rfl; (first | exact idx0 _ _ _ _ | exact idx1 _ _ _ _ | exact idx2 _ _ _ _ | exact idx3 _ _ _ _); (simp only [Act.put, fA, fB, fC, Nat.reduceAdd])))
          go_roundw
          case rel => exact ⟨hS, .inr (.inr (.inr (.inr ⟨rfl, q0, q1, q2, hx⟩)))⟩
          case measure => simp [intOf]
    · go_wp2_with (first | go_big_skip | ((with_reducible apply wl_idx); (with_reducible rfl); rfl; rfl; rfl; (first | exact idx0 _ _ _ _ | exact idx1 _ _ _ _ | exact idx2 _ _ _ _ | exact idx3 _ _ _ _); (simp only [Act.put, fA, fB, fC, Nat.reduceAdd])) | ((with_reducible apply wl_ld1 hS); (with_reducible rfl); rfl; rfl; decide +kernel; (first | (focus((repeat(first|exact Cell.here rfl | apply Cell.there)); done)) | assumption); (simp only [Act.put, fA, fB, fC, Nat.reduceAdd])) | ((with_reducible apply wl_ldN hS); (with_reducible rfl); rfl; rfl; decide +kernel; (first | (focus((repeat(first|exact Cells.whole | apply Cells.there)); done)) | assumption); kernel_rfl; (simp only [Act.put, fA, fB, fC, Nat.reduceAdd])) | ((with_reducible apply wl_st1 hS); (with_reducible rfl); rfl; rfl; (focus ((conv => lhs; whnf); try rfl)); kernel_rfl; rfl; rfl; ((focus((repeat(first|exact Upd.head | apply Upd.tail)); done))); (simp only [List.length_cons, List.length_nil]; omega); ((simp only [List.set_cons_zero, List.set_cons_succ, setAll]); rfl); clear hS; intro w hS; try (simp only [Act.put, fA, fB, fC, Nat.reduceAdd])) | ((with_reducible apply wl_stN hS); (with_reducible rfl); rfl; rfl; (focus ((conv => lhs; whnf); try rfl)); kernel_rfl; rfl; ((focus((repeat(first|exact Upd.head | apply Upd.tail)); done))); (simp only [List.length_cons, List.length_nil]; omega); ((simp only [List.set_cons_zero, List.set_cons_succ, setAll]); rfl); clear hS; intro w hS; try (simp only [Act.put, fA, fB, fC, Nat.reduceAdd])) | ((with_reducible apply wl_box hS); (with_reducible rfl); rfl; rfl; rfl; clear hS; intro b w hS; (simp only [Act.put, fA, fB, fC, Nat.reduceAdd])) | ((with_reducible apply wl_alloc hS); (with_reducible rfl); rfl; (fail); clear hS; intro b w hS; (simp only [Act.put, fA, fB, fC, Nat.reduceAdd])))
      go_ret
      refine ⟨by simp only [isIt, q0, q1, q2, q3]; rfl, hS.drop⟩
def lessIt (a b : It) : Bool := decide (a.x0 < b.x0) || (decide (a.x1 < b.x1) || (decide (a.x2 < b.x2) || decide (a.x3 < b.x3)))
def LsR (W : World) (L : List HP) (a b : It) (v : Value) (w : World) : Prop :=
  St W L w ∧ (v = .int .i64 0 ∨ (v = .int .i64 1 ∧ decide (a.x0 < b.x0) = false) ∨ (v = .int .i64 2 ∧ decide (a.x0 < b.x0) = false ∧ decide (a.x1 < b.x1) = false) ∨ (v = .int .i64 3 ∧ decide (a.x0 < b.x0) = false ∧ decide (a.x1 < b.x1) = false ∧ decide (a.x2 < b.x2) = false) ∨ (v = .int .i64 4 ∧ decide (a.x0 < b.x0) = false ∧ decide (a.x1 < b.x1) = false ∧ decide (a.x2 < b.x2) = false ∧ decide (a.x3 < b.x3) = false))
set_option maxRecDepth 100000 in
set_option maxHeartbeats 4000000 in
theorem less_it (i j : It) (W w : World) (R : List HP) (hS : St W R w) :
    Calls Tryz.prog 94 #[.agg i.cells.toArray, .agg j.cells.toArray] w fun e w' => e = .returned (.bool (lessIt i j)) ∧ St W R w' := by
  obtain ⟨x0, x1, x2, x3⟩ := i
  obtain ⟨y0, y1, y2, y3⟩ := j
  simp only [It.cells]
  go_enter Tryz.func94, Tryz.ntmps94
  go_wp2_with (first | ((with_reducible apply wl_ld1 hS); (with_reducible rfl); rfl; rfl; decide +kernel; (first | (focus((repeat(first|exact Cell.here rfl | apply Cell.there)); done)) | assumption); (simp only [Act.put, fA, fB, fC, Nat.reduceAdd])) | ((with_reducible apply wl_ldN hS); (with_reducible rfl); rfl; rfl; decide +kernel; (first | (focus((repeat(first|exact Cells.whole | apply Cells.there)); done)) | assumption); kernel_rfl; (simp only [Act.put, fA, fB, fC, Nat.reduceAdd])) | ((with_reducible apply wl_st1 hS); (with_reducible rfl); rfl; rfl; (focus ((conv => lhs; whnf); try rfl)); kernel_rfl; rfl; rfl; ((focus((repeat(first|exact Upd.head | apply Upd.tail)); done))); (simp only [List.length_cons, List.length_nil]; omega); ((simp only [List.set_cons_zero, List.set_cons_succ, setAll]); rfl); clear hS; intro w hS; try (simp only [Act.put, fA, fB, fC, Nat.reduceAdd])) | ((with_reducible apply wl_stN hS); (with_reducible rfl); rfl; rfl; (focus ((conv => lhs; whnf); try rfl)); kernel_rfl; rfl; ((focus((repeat(first|exact Upd.head | apply Upd.tail)); done))); (simp only [List.length_cons, List.length_nil]; omega); ((simp only [List.set_cons_zero, List.set_cons_succ, setAll]); rfl); clear hS; intro w hS; try (simp only [Act.put, fA, fB, fC, Nat.reduceAdd])) | ((with_reducible apply wl_box hS); (with_reducible rfl); rfl; rfl; rfl; clear hS; intro b w hS; (simp only [Act.put, fA, fB, fC, Nat.reduceAdd])) | ((with_reducible apply wl_alloc hS); (with_reducible rfl); rfl; (fail); clear hS; intro b w hS; (simp only [Act.put, fA, fB, fC, Nat.reduceAdd])))
  rename_i bA w1 K1 hK1
  go_loopw [8] (fun v wr => LsR W (blk b [.int .i64 y0, .int .i64 y1, .int .i64 y2, .int .i64 y3] 39 :: blk bA [.int .i64 x0, .int .i64 x1, .int .i64 x2, .int .i64 x3] 39 :: R) ⟨x0, x1, x2, x3⟩ ⟨y0, y1, y2, y3⟩ v wr) (fun v _ => 4 - (intOf v).toNat)
  case atStart => exact ⟨hS, .inl rfl⟩
  case round =>
    clear hS
    obtain ⟨hS, hk⟩ := hrel
    simp only at hk
    rcases hk with rfl | ⟨rfl, q0⟩ | ⟨rfl, q0, q1⟩ | ⟨rfl, q0, q1, q2⟩ | ⟨rfl, q0, q1, q2, q3⟩
    · skip
      by_cases h1 : x0 < y0
      · have hx : decide (x0 < y0) = true := by simpa using h1
        go_wp2_with (first | go_big_skip | ((with_reducible apply wl_idx); (with_reducible rfl); rfl; rfl; rfl; (first | exact idx0 _ _ _ _ | exact idx1 _ _ _ _ | exact idx2 _ _ _ _ | exact idx3 _ _ _ _); (simp only [Act.put, fA, fB, fC, Nat.reduceAdd])) | ((with_reducible apply wl_ld1 hS); (with_reducible rfl); rfl; rfl; decide +kernel; (first | (focus((repeat(first|exact Cell.here rfl | apply Cell.there)); done)) | assumption); (simp only [Act.put, fA, fB, fC, Nat.reduceAdd])))
        go_ret
        refine ⟨by simp only [lessIt, hx, Bool.true_or, Bool.or_true]; rfl, hS.drop.drop⟩
      · have hx : decide (x0 < y0) = false := by simpa using h1
        clear h1
        go_wp2_with (first | go_big_skip | ((with_reducible apply wl_idx); (with_reducible rfl); rfl; rfl; rfl; (first | exact idx0 _ _ _ _ | exact idx1 _ _ _ _ | exact idx2 _ _ _ _ | exact idx3 _ _ _ _); (simp only [Act.put, fA, fB, fC, Nat.reduceAdd])) | ((with_reducible apply wl_ld1 hS); (with_reducible rfl); rfl; rfl; decide +kernel; (first | (focus((repeat(first|exact Cell.here rfl | apply Cell.there)); done)) | assumption); (simp only [Act.put, fA, fB, fC, Nat.reduceAdd])))
        go_roundw
        case rel => exact ⟨hS, .inr (.inl ⟨rfl, hx⟩)⟩
        case measure => simp [intOf]
    · skip
      by_cases h1 : x1 < y1
      · have hx : decide (x1 < y1) = true := by simpa using h1
        go_wp2_with (first | go_big_skip | ((with_reducible apply wl_idx); (with_reducible rfl); rfl; rfl; rfl; (first | exact idx0 _ _ _ _ | exact idx1 _ _ _ _ | exact idx2 _ _ _ _ | exact idx3 _ _ _ _); (simp only [Act.put, fA, fB, fC, Nat.reduceAdd])) | ((with_reducible apply wl_ld1 hS); (with_reducible rfl); rfl; rfl; decide +kernel; (first | (focus((repeat(first|exact Cell.here rfl | apply Cell.there)); done)) | assumption); (simp only [Act.put, fA, fB, fC, Nat.reduceAdd])))
        go_ret
        refine ⟨by simp only [lessIt, hx, Bool.true_or, Bool.or_true]; rfl, hS.drop.drop⟩
      · have hx : decide (x1 < y1) = false := by simpa using h1
        clear h1
        go_wp2_with (first | go_big_skip | ((with_reducible apply wl_idx); (with_reducible rfl); rfl; rfl; rfl; (first | exact idx0 _ _ _ _ | exact idx1 _ _ _ _ | exact idx2 _ _ _ _ | exact idx3 _ _ _ _); (simp only [Act.put, fA, fB, fC, Nat.reduceAdd])) | ((with_reducible apply wl_ld1 hS); (with_reducible rfl); rfl; rfl; decide +kernel; (first | (focus((repeat(first|exact Cell.here rfl | apply Cell.there)); done)) | assumption); (simp only [Act.put, fA, fB, fC, Nat.reduceAdd])))
        go_roundw
        case rel => exact ⟨hS, .inr (.inr (.inl ⟨rfl, q0, hx⟩))⟩
        case measure => simp [intOf]
    · skip
      by_cases h1 : x2 < y2
      · have hx : decide (x2 < y2) = true := by simpa using h1
        go_wp2_with (first | go_big_skip | ((with_reducible apply wl_idx); (with_reducible rfl); rfl; rfl; rfl; (first | exact idx0 _ _ _ _ | exact idx1 _ _ _ _ | exact idx2 _ _ _ _ | exact idx3 _ _ _ _); (simp only [Act.put, fA, fB, fC, Nat.reduceAdd])) | ((with_reducible apply wl_ld1 hS); (with_reducible rfl); rfl; rfl; decide +kernel; (first | (focus((repeat(first|exact Cell.here rfl | apply Cell.there)); done)) | assumption); (simp only [Act.put, fA, fB, fC, Nat.reduceAdd])))
        go_ret
        refine ⟨by simp only [lessIt, hx, Bool.true_or, Bool.or_true]; rfl, hS.drop.drop⟩
      · have hx : decide (x2 < y2) = false := by simpa using h1
        clear h1
        go_wp2_with (first | go_big_skip | ((with_reducible apply wl_idx); (with_reducible rfl); rfl; rfl; rfl; (first | exact idx0 _ _ _ _ | exact idx1 _ _ _ _ | exact idx2 _ _ _ _ | exact idx3 _ _ _ _); (simp only [Act.put, fA, fB, fC, Nat.reduceAdd])) | ((with_reducible apply wl_ld1 hS); (with_reducible rfl); rfl; rfl; decide +kernel; (first | (focus((repeat(first|exact Cell.here rfl | apply Cell.there)); done)) | assumption); (simp only [Act.put, fA, fB, fC, Nat.reduceAdd])))
        go_roundw
        case rel => exact ⟨hS, .inr (.inr (.inr (.inl ⟨rfl, q0, q1, hx⟩)))⟩
        case measure => simp [intOf]
    · skip
      by_cases h1 : x3 < y3
      · have hx : decide (x3 < y3) = true := by simpa using h1
        go_wp2_with (first | go_big_skip | ((with_reducible apply wl_idx); (with_reducible rfl); rfl; rfl; rfl; (first | exact idx0 _ _ _ _ | exact idx1 _ _ _ _ | exact idx2 _ _ _ _ | exact idx3 _ _ _ _); (simp only [Act.put, fA, fB, fC, Nat.reduceAdd])) | ((with_reducible apply wl_ld1 hS); (with_reducible rfl); rfl; rfl; decide +kernel; (first | (focus((repeat(first|exact Cell.here rfl | apply Cell.there)); done)) | assumption); (simp only [Act.put, fA, fB, fC, Nat.reduceAdd])))
        go_ret
        refine ⟨by simp only [lessIt, hx, Bool.true_or, Bool.or_true]; rfl, hS.drop.drop⟩
      · have hx : decide (x3 < y3) = false := by simpa using h1
        clear h1
        go_wp2_with (first | go_big_skip | ((with_reducible apply wl_idx); (with_reducible rfl); rfl; rfl; rfl; (first | exact idx0 _ _ _ _ | exact idx1 _ _ _ _ | exact idx2 _ _ _ _ | exact idx3 _ _ _ _); (simp only [Act.put, fA, fB, fC, Nat.reduceAdd])) | ((with_reducible apply wl_ld1 hS); (with_reducible rfl); rfl; rfl; decide +kernel; (first | (focus((repeat(first|exact Cell.here rfl | apply Cell.there)); done)) | assumption); (simp only [Act.put, fA, fB, fC, Nat.reduceAdd])))
        go_roundw
        case rel => exact ⟨hS, .inr (.inr (.inr (.inr ⟨rfl, q0, q1, q2, hx⟩)))⟩
        case measure => simp [intOf]
    · go_wp2_with (first | go_big_skip | ((with_reducible apply wl_ld1 hS); (with_reducible rfl); rfl; rfl; decide +kernel; (first | (focus((repeat(first|exact Cell.here rfl | apply Cell.there)); done)) | assumption); (simp only [Act.put, fA, fB, fC, Nat.reduceAdd])) | ((with_reducible apply wl_ldN hS); (with_reducible rfl); rfl; rfl; decide +kernel; (first | (focus((repeat(first|exact Cells.whole | apply Cells.there)); done)) | assumption); kernel_rfl; (simp only [Act.put, fA, fB, fC, Nat.reduceAdd])) | ((with_reducible apply wl_st1 hS); (with_reducible rfl); rfl; rfl; (focus ((conv => lhs; whnf); try rfl)); kernel_rfl; rfl; rfl; ((focus((repeat(first|exact Upd.head | apply Upd.tail)); done))); (simp only [List.length_cons, List.length_nil]; omega); ((simp only [List.set_cons_zero, List.set_cons_succ, setAll]); rfl); clear hS; intro w hS; try (simp only [Act.put, fA, fB, fC, Nat.reduceAdd])) | ((with_reducible apply wl_stN hS); (with_reducible rfl); rfl; rfl; (focus ((conv => lhs; whnf); try rfl)); kernel_rfl; rfl; ((focus((repeat(first|exact Upd.head | apply Upd.tail)); done))); (simp only [List.length_cons, List.length_nil]; omega); ((simp only [List.set_cons_zero, List.set_cons_succ, setAll]); rfl); clear hS; intro w hS; try (simp only [Act.put, fA, fB, fC, Nat.reduceAdd])) | ((with_reducible apply wl_box hS); (with_reducible rfl); rfl; rfl; rfl; clear hS; intro b w hS; (simp only [Act.put, fA, fB, fC, Nat.reduceAdd])) | ((with_reducible apply wl_alloc hS); (with_reducible rfl); rfl; (fail); clear hS; intro b w hS; (simp only [Act.put, fA, fB, fC, Nat.reduceAdd])))
      go_ret
      refine ⟨by simp only [lessIt, q0, q1, q2, q3]; rfl, hS.drop.drop⟩
end Go.Proofs.YtbcokphjpllbiaaGreat
end
section
set_option linter.unusedSimpArgs false
set_option linter.unusedVariables false
namespace Go.Sl
open Go.RowKit
/-! A row that is only read. -/
section
variable {W w : World} {L : List HP} {a : Option Addr} {v : Value} {k n c g off : Nat} {T : TypeId} {cs : List Value}
theorem St.rowAddr (h : St W (row (.slice a n c) k T n cs :: L) w) (hn : 0 < n) : (∃ g, a = some ⟨g, 0, none⟩) ∧ c ≤ 9223372036854775807 ∧ n ≤ c := by
  rcases h.rowOpen with ⟨_, h0, _⟩ | ⟨g, cap, junk, hv, hn1, hm1, _⟩
  · omega
  · injection hv with e1 e2 e3
    subst e3
    exact ⟨⟨g, e1⟩, hm1, hn1⟩
theorem Cell.row (hn : 0 < n) (h : cs[off]? = some v) : Cell (Sl.row (.slice (some ⟨g, 0, none⟩) n c) k T n cs :: L) g off v := fun W w hS => by
  rcases hS.rowOpen with ⟨_, h0, _⟩ | ⟨g', cap, junk, hv, hn1, hm1, hj1, hl1, hS'⟩
  · omega
  · injection hv with e1 e2 e3
    injection e1 with e1
    injection e1 with e1
    subst e1
    exact hS'.cell .head (by rw [List.getElem?_append_left (List.getElem?_eq_some_iff.1 h).1]; exact h)
theorem Cells.rowE {α : Type} {enc : α → List Value} (henc : ∀ x, (enc x).length = k) {xs : List α} {i : Nat} (h : i < xs.length) : Cells (Sl.row (.slice (some ⟨g, 0, none⟩) xs.length c) k T xs.length (xs.flatMap enc) :: L) g (i * k) (enc xs[i]) := fun j v hj => by
  refine Cell.row (by omega) ?_
  have hl : j < (enc xs[i]).length := (List.getElem?_eq_some_iff.1 hj).1
  have := flat_get henc xs [] i h j (by rwa [henc] at hl)
  rw [List.append_nil] at this
  rw [this]
  exact hj
theorem Cell.rowE {α : Type} {enc : α → List Value} (henc : ∀ x, (enc x).length = k) {xs : List α} {i j : Nat} (h : i < xs.length) (hv : (enc xs[i])[j]? = some v) : Cell (Sl.row (.slice (some ⟨g, 0, none⟩) xs.length c) k T xs.length (xs.flatMap enc) :: L) g (i * k + j) v :=
  Cells.rowE henc h j v hv
end
section
variable {P : Program} {W : World} {ops : Array Oper} {t : List Nat} {toks : List Tok} {fresh : Nat → Bool} {pin : Nat → Option Value} {Qf : Act → Prop} {nd : Nat → Value} {i : Nat} {o : Oper} {l : List Oper} {a : Act}
/-- A slice literal as an owned row. -/
theorem ch_bsR {ty e n : TypeId} {z : Value} {k bytes : Nat} {xs : Array (Nat × Operand)} {parts : List (Nat × Value)} {ls : List Value} (hf : fresh i = true) (ho : o.op = .buildSlice ty n xs) (hg : Region.wanted o (yielded ops a.tmps) = true) (hx : (xs.map fun (i, x) => (i, a.eval x)) = parts.toArray)
    (ht : tyElem P ty = some e) (hi : tyRow P e = some (some z, k, bytes)) (hz : z.cells.size = k) (hn : decide (n * k ≤ 16777216) = true) (hp : partsOk k n parts = true) (hl : fillL k (zerosL z n) parts = ls) (hll : ls.length = n * k) (hn63 : n ≤ maxLen) (hk : ∀ v, kpL toks t i (upd nd i v) = kpL toks t i nd) (hc : cnL toks t i nd = [])
    (hm : ∀ v, mdL toks i (upd nd i v) = [row v k e n ls]) (h : Chain P W ops t toks fresh pin Qf nd (i + 1) l (a.put o.dst (nd i))) : Chain P W ops t toks fresh pin Qf nd i (o :: l) a :=
  ch_new hf hg hk (fun F w hS => by
    rw [hc] at hS
    obtain ⟨b, w', h1, h2⟩ := exec_bs (P := P) hS ho hx ht hi hz hn hp hl
    refine ⟨_, w', h1, ?_⟩
    rw [hm]
    have h3 : St W (blk b (ls ++ []) e :: (kpL toks t i nd ++ F)) w' := by rw [List.append_nil]; exact h2
    exact St.rowShut h3 (Nat.le_refl _) hn63 (by rw [List.append_nil]; exact hll) hll) h
end
/-- A part of a row is a source. -/
theorem src_part {W w : World} {L R : List HP} {g n c k m c' off : Nat} {T : TypeId} {cs news : List Value} (hS : St W L w) (hu : Take L (Sl.row (.slice (some ⟨g, 0, none⟩) n c) k T n cs) R) (h : ∀ j u, news[j]? = some u → cs[off + j]? = some u) :
    SrcW w (.slice (some ⟨g, off, none⟩) m c') m news := by
  refine .inr ⟨g, off, c', rfl, fun j u hj => ?_⟩
  have h1 := h j u hj
  rcases (hS.take hu).rowOpen with ⟨hv, _⟩ | ⟨g', cap, junk, hv, _, _, _, _, hS'⟩
  · cases hv
  · injection hv with e1 e2 e3
    injection e1 with e1
    injection e1 with e1
    subst e1
    exact hS'.cell .head (by rw [List.getElem?_append_left (List.getElem?_eq_some_iff.1 h1).1]; exact h1)
end Go.Sl
end
section
set_option linter.unusedSimpArgs false
set_option linter.unusedVariables false
namespace Go.Sl
open Go.RowKit
/-- L' is the end of L. -/
inductive Suf : List HP → List HP → Prop
  | refl {L : List HP} : Suf L L
  | tail {X : HP} {L L' : List HP} (h : Suf L L') : Suf (X :: L) L'
/-- L' is made of parts of L. -/
inductive Sel : List HP → List HP → Prop
  | done {L L' : List HP} (h : Suf L L') : Sel L L'
  | cons {A : HP} {L L1 L' : List HP} (t : Take L A L1) (s : Sel L1 L') : Sel L (A :: L')
theorem sats_suf {L L' : List HP} (s : Suf L L') : ∀ {h : Frag}, sats L h → sats L' h := by
  induction s with
  | refl => exact fun h => h
  | tail _ ih => exact fun ⟨S, _, h2⟩ => ih (sats_cut h2)
theorem Sel.sats {L L' : List HP} (s : Sel L L') : ∀ {h : Frag}, Sl.sats L h → Sl.sats L' h := by
  induction s with
  | done h => exact sats_suf h
  | cons t _ ih => exact fun h => sep_mono (fun _ x => x) (fun _ x => ih x) (t.sats h)
theorem St.sel {W w : World} {L L' : List HP} (h : St W L w) (s : Sel L L') : St W L' w := ⟨h.os, h.tape, h.output, s.sats h.sat⟩
end Go.Sl
end
section
set_option linter.unusedSimpArgs false
set_option linter.unusedVariables false
namespace Go.Sl
open Go.RowKit
section
variable {W w : World} {L : List HP} {a : Option Addr} {v : Value} {k n c g off : Nat} {T : TypeId} {cs news : List Value}
theorem St.rowCase (h : St W (row (.slice a n c) k T n cs :: L) w) : (a = none ∧ n = 0 ∧ c = 0 ∧ cs = []) ∨ ∃ g, a = some ⟨g, 0, none⟩ ∧ c ≤ 9223372036854775807 ∧ n ≤ c := by
  rcases h.rowOpen with ⟨hv, h0, hc, _⟩ | ⟨g, cap, junk, hv, hn1, hm1, _⟩
  · injection hv with e1 e2 e3
    exact .inl ⟨e1, h0, e3, hc⟩
  · injection hv with e1 e2 e3
    subst e3
    exact .inr ⟨g, e1, hm1, hn1⟩
theorem Cell.rowS (h : cs[off]? = some v) : Cell (Sl.row (.slice (some ⟨g, 0, none⟩) n c) k T n cs :: L) g off v := fun W w hS => by
  rcases hS.rowOpen with ⟨hv, _⟩ | ⟨g', cap, junk, hv, hn1, hm1, hj1, hl1, hS'⟩
  · cases hv
  · injection hv with e1 e2 e3
    injection e1 with e1
    injection e1 with e1
    subst e1
    exact hS'.cell .head (by rw [List.getElem?_append_left (List.getElem?_eq_some_iff.1 h).1]; exact h)
/-- .. wherever the row stands. -/
theorem Cell.rowM {L' : List HP} (hu : Take L (Sl.row (.slice (some ⟨g, 0, none⟩) n c) k T n cs) L') (h : cs[off]? = some v) : Cell L g off v := fun W w hS => Cell.rowS h W w (hS.take hu)
theorem Cells.rowM {L' : List HP} (hu : Take L (Sl.row (.slice (some ⟨g, 0, none⟩) n c) k T n cs) L') (h : ∀ j u, news[j]? = some u → cs[off + j]? = some u) : Cells L g off news := fun j v hj => Cell.rowM hu (h j v hj)
theorem Cells.elemM {α : Type} {enc : α → List Value} (henc : ∀ x, (enc x).length = k) {xs : List α} {i : Nat} {L' : List HP} (hu : Take L (Sl.row (.slice (some ⟨g, 0, none⟩) xs.length c) k T xs.length (xs.flatMap enc)) L') (h : i < xs.length) : Cells L g (i * k) (enc xs[i]) :=
  Cells.rowM hu fun j u hj => by
    have hl : j < (enc xs[i]).length := (List.getElem?_eq_some_iff.1 hj).1
    have := flat_get henc xs [] i h j (by rwa [henc] at hl)
    rw [List.append_nil] at this
    rw [this]; exact hj
/-- A part of a row as a source. -/
theorem Src.partM {L' : List HP} {m c' : Nat} (hu : Take L (Sl.row (.slice (some ⟨g, 0, none⟩) n c) k T n cs) L') (h : ∀ j u, news[j]? = some u → cs[off + j]? = some u) : Src L (.slice (some ⟨g, off, none⟩) m c') m news := .inr ⟨g, off, c', rfl, Cells.rowM hu h⟩
/-- .. the part from i on. -/
theorem Src.behindM {L' : List HP} {m c' i : Nat} (hu : Take L (Sl.row (.slice (some ⟨g, 0, none⟩) n c) k T n cs) L') (h0 : c = i → m = 0 ∧ news = []) (h : ∀ j u, news[j]? = some u → cs[i * k + j]? = some u) :
    Src L (.slice (if c = i then some ⟨g, 0, none⟩ else some ⟨g, i * k, none⟩) m c') m news := by
  split
  · rename_i hc
    obtain ⟨rfl, rfl⟩ := h0 hc
    exact .inr ⟨g, 0, c', rfl, fun j u hj => by simp at hj⟩
  · exact .inr ⟨g, i * k, c', rfl, Cells.rowM hu h⟩
theorem flat_take' {α : Type} {enc : α → List Value} (xs : List α) (i j : Nat) (u : Value) (h : ((xs.take i).flatMap enc)[j]? = some u) : (xs.flatMap enc)[0 + j]? = some u := by
  rw [Nat.zero_add]
  have e : xs.flatMap enc = (xs.take i).flatMap enc ++ (xs.drop i).flatMap enc := by rw [← List.flatMap_append, List.take_append_drop]
  rw [e, List.getElem?_append_left (List.getElem?_eq_some_iff.1 h).1]
  exact h
theorem flat_drop' {α : Type} {enc : α → List Value} (henc : ∀ x, (enc x).length = k) (xs : List α) (i j : Nat) (u : Value) (hi : i ≤ xs.length) (h : ((xs.drop i).flatMap enc)[j]? = some u) : (xs.flatMap enc)[i * k + j]? = some u := by
  have e : xs.flatMap enc = (xs.take i).flatMap enc ++ (xs.drop i).flatMap enc := by rw [← List.flatMap_append, List.take_append_drop]
  have hl : ((xs.take i).flatMap enc).length = i * k := by rw [flat_length henc, List.length_take, Nat.min_eq_left hi]
  rw [e, List.getElem?_append_right (by omega), hl, Nat.add_sub_cancel_left]
  exact h
end
section
variable {P : Program} {ops : Array Oper} {Q : Exit → Act → World → Prop} {a : Act} {w : World} {W : World} {L R : List HP} {rest : List Oper} {o : Oper}
/-- A slice literal as an owned row. -/
theorem wl_bsR {t e n : TypeId} {z : Value} {k bytes : Nat} {xs : Array (Nat × Operand)} {parts : List (Nat × Value)} {l : List Value} (hS : St W L w) (ho : o.op = .buildSlice t n xs) (hg : Region.wanted o (yielded ops a.tmps) = true) (hx : (xs.map fun (i, x) => (i, a.eval x)) = parts.toArray)
    (ht : tyElem P t = some e) (hi : tyRow P e = some (some z, k, bytes)) (hz : z.cells.size = k) (hn : decide (n * k ≤ 16777216) = true) (hp : partsOk k n parts = true) (hl : fillL k (zerosL z n) parts = l) (hll : l.length = n * k) (hn63 : n ≤ maxLen)
    (h : ∀ v w', St W (row v k e n l :: L) w' → wpList P ops Q rest (a.put o.dst v) w') : wpList P ops Q (o :: rest) a w := by
  obtain ⟨b, w', hr, hS'⟩ := exec_bs (P := P) hS ho hx ht hi hz hn hp hl
  refine wpList_run hg hr (h _ w' ?_)
  have h3 : St W (blk b (l ++ []) e :: L) w' := by rw [List.append_nil]; exact hS'
  exact St.rowShut h3 (Nat.le_refl _) hn63 (by rw [List.append_nil]; exact hll) hll
end
end Go.Sl
end
