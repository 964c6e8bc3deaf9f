/-
  A nil vault; the law's own known.
  The vault's Cancel: who looks for an order. For every vault.
-/
import Derived.Test.YtbcokphjpllbiaaVaultKeepsM17

section
set_option linter.unusedSimpArgs false
set_option linter.unusedVariables false
namespace Go.Proofs.Ytbcokphjpllbiaa
open Go.RowKit Go.Sl
theorem addNil_spec (W w : World) (R : List HP) (hS : St W R w) :
    Calls Try.prog 22 #[.slice none 0 0] w fun e w' => e = .returned (.tuple #[.agg #[.int .i64 0, .int .i64 0, .int .i64 0, .int .i64 0], .bool true]) ∧ St W R w' := by
  have h : addL [] it0 = some ⟨0, 0, 0, 0⟩ := rfl
  exact add_some h _ W w R (hS.rowNil (k := 4) (T := 28))
section
variable (k : ByteArray) (W w : World) (R : List HP)
set_option maxRecDepth 100000 in
theorem has_nil (hS : St W R w) : Calls Try.prog 12 #[.pointer none, .string k] w fun e w' => e = .returned (.agg #[.int .i64 0, .int .i64 0, .int .i64 0, .int .i64 0]) ∧ St W R w' := by
  go_enter Try.func12, Try.ntmps12
  go_wp2_with (first | ((with_reducible apply wl_ld1 hS); (with_reducible rfl); rfl; rfl; decide +kernel; (first | (focus ((repeat (first | exact Cell.here rfl | apply Cell.there)); done)) | assumption); (simp only [Act.put, List.setIfInBounds_toArray, List.set_cons_succ, List.set_cons_zero, Nat.reduceAdd])) | ((with_reducible apply wl_ldN hS); (with_reducible rfl); rfl; rfl; decide +kernel; (first | (focus ((repeat (first | exact Cells.whole | apply Cells.there)); done)) | assumption); kernel_rfl; (simp only [Act.put, List.setIfInBounds_toArray, List.set_cons_succ, List.set_cons_zero, Nat.reduceAdd])) | ((with_reducible apply wl_st1 hS); (with_reducible rfl); rfl; rfl; (focus ((conv => lhs; whnf); try rfl)); kernel_rfl; rfl; rfl; ((focus ((repeat (first | exact Upd.head | apply Upd.tail)); done))); (simp only [List.length_cons, List.length_nil]; omega); ((simp only [List.set_cons_zero, List.set_cons_succ, setAll]); rfl); clear hS; intro w hS; try (simp only [Act.put, List.setIfInBounds_toArray, List.set_cons_succ, List.set_cons_zero, Nat.reduceAdd])) | ((with_reducible apply wl_stN hS); (with_reducible rfl); rfl; rfl; (focus ((conv => lhs; whnf); try rfl)); kernel_rfl; rfl; ((focus ((repeat (first | exact Upd.head | apply Upd.tail)); done))); (simp only [List.length_cons, List.length_nil]; omega); ((simp only [List.set_cons_zero, List.set_cons_succ, setAll]); rfl); clear hS; intro w hS; try (simp only [Act.put, List.setIfInBounds_toArray, List.set_cons_succ, List.set_cons_zero, Nat.reduceAdd])) | ((with_reducible apply wl_box hS); (with_reducible rfl); rfl; rfl; rfl; clear hS; intro b w hS; (simp only [Act.put, List.setIfInBounds_toArray, List.set_cons_succ, List.set_cons_zero, Nat.reduceAdd])) | ((with_reducible apply wl_alloc hS); (with_reducible rfl); rfl; (with_reducible first | exact Ty.z3 | exact Ty.z28 | exact Ty.z32 | exact Ty.z40 | exact Ty.z46 | exact Ty.z69 | exact Ty.z86 | exact Ty.z146); clear hS; intro b w hS; (simp only [Act.put, List.setIfInBounds_toArray, List.set_cons_succ, List.set_cons_zero, Nat.reduceAdd])))
  (apply bp_cell; rfl; rfl; rfl; exact hS; decide +kernel; (first | (focus ((repeat (first | exact Cells.whole | apply Cells.there)); done)) | assumption); kernel_rfl)
  exact ⟨rfl, hS.drop⟩
set_option maxRecDepth 100000 in
theorem put_nil (i : It) (hS : St W R w) : Calls Try.prog 10 #[.pointer none, .string k, .agg i.cells.toArray] w fun e w' => e = .returned (.int .i64 1) ∧ St W R w' := by
  obtain ⟨x0, x1, x2, x3⟩ := i
  simp only [It.cells]
  go_enter Try.func10, Try.ntmps10
  go_wp2_with (first | go_big_skip | ((with_reducible apply wl_ld1 hS); (with_reducible rfl); rfl; rfl; decide +kernel; (first | (focus ((repeat (first | exact Cell.here rfl | apply Cell.there)); done)) | assumption); (simp only [Act.put, List.setIfInBounds_toArray, List.set_cons_succ, List.set_cons_zero, Nat.reduceAdd])) | ((with_reducible apply wl_ldN hS); (with_reducible rfl); rfl; rfl; decide +kernel; (first | (focus ((repeat (first | exact Cells.whole | apply Cells.there)); done)) | assumption); kernel_rfl; (simp only [Act.put, List.setIfInBounds_toArray, List.set_cons_succ, List.set_cons_zero, Nat.reduceAdd])) | ((with_reducible apply wl_st1 hS); (with_reducible rfl); rfl; rfl; (focus ((conv => lhs; whnf); try rfl)); kernel_rfl; rfl; rfl; ((focus ((repeat (first | exact Upd.head | apply Upd.tail)); done))); (simp only [List.length_cons, List.length_nil]; omega); ((simp only [List.set_cons_zero, List.set_cons_succ, setAll]); rfl); clear hS; intro w hS; try (simp only [Act.put, List.setIfInBounds_toArray, List.set_cons_succ, List.set_cons_zero, Nat.reduceAdd])) | ((with_reducible apply wl_stN hS); (with_reducible rfl); rfl; rfl; (focus ((conv => lhs; whnf); try rfl)); kernel_rfl; rfl; ((focus ((repeat (first | exact Upd.head | apply Upd.tail)); done))); (simp only [List.length_cons, List.length_nil]; omega); ((simp only [List.set_cons_zero, List.set_cons_succ, setAll]); rfl); clear hS; intro w hS; try (simp only [Act.put, List.setIfInBounds_toArray, List.set_cons_succ, List.set_cons_zero, Nat.reduceAdd])) | ((with_reducible apply wl_box hS); (with_reducible rfl); rfl; rfl; rfl; clear hS; intro b w hS; (simp only [Act.put, List.setIfInBounds_toArray, List.set_cons_succ, List.set_cons_zero, Nat.reduceAdd])) | ((with_reducible apply wl_alloc hS); (with_reducible rfl); rfl; (with_reducible first | exact Ty.z3 | exact Ty.z28 | exact Ty.z32 | exact Ty.z40 | exact Ty.z46 | exact Ty.z69 | exact Ty.z86 | exact Ty.z146); clear hS; intro b w hS; (simp only [Act.put, List.setIfInBounds_toArray, List.set_cons_succ, List.set_cons_zero, Nat.reduceAdd])))
  go_ret
  exact ⟨rfl, hS.drop⟩
set_option maxRecDepth 100000 in
theorem take_nil (i : It) (hS : St W R w) : Calls Try.prog 14 #[.pointer none, .string k, .agg i.cells.toArray] w fun e w' => e = .returned (.int .i64 1) ∧ St W R w' := by
  obtain ⟨x0, x1, x2, x3⟩ := i
  simp only [It.cells]
  go_enter Try.func14, Try.ntmps14
  go_wp2_with (first | go_big_skip | ((with_reducible apply wl_ld1 hS); (with_reducible rfl); rfl; rfl; decide +kernel; (first | (focus ((repeat (first | exact Cell.here rfl | apply Cell.there)); done)) | assumption); (simp only [Act.put, List.setIfInBounds_toArray, List.set_cons_succ, List.set_cons_zero, Nat.reduceAdd])) | ((with_reducible apply wl_ldN hS); (with_reducible rfl); rfl; rfl; decide +kernel; (first | (focus ((repeat (first | exact Cells.whole | apply Cells.there)); done)) | assumption); kernel_rfl; (simp only [Act.put, List.setIfInBounds_toArray, List.set_cons_succ, List.set_cons_zero, Nat.reduceAdd])) | ((with_reducible apply wl_st1 hS); (with_reducible rfl); rfl; rfl; (focus ((conv => lhs; whnf); try rfl)); kernel_rfl; rfl; rfl; ((focus ((repeat (first | exact Upd.head | apply Upd.tail)); done))); (simp only [List.length_cons, List.length_nil]; omega); ((simp only [List.set_cons_zero, List.set_cons_succ, setAll]); rfl); clear hS; intro w hS; try (simp only [Act.put, List.setIfInBounds_toArray, List.set_cons_succ, List.set_cons_zero, Nat.reduceAdd])) | ((with_reducible apply wl_stN hS); (with_reducible rfl); rfl; rfl; (focus ((conv => lhs; whnf); try rfl)); kernel_rfl; rfl; ((focus ((repeat (first | exact Upd.head | apply Upd.tail)); done))); (simp only [List.length_cons, List.length_nil]; omega); ((simp only [List.set_cons_zero, List.set_cons_succ, setAll]); rfl); clear hS; intro w hS; try (simp only [Act.put, List.setIfInBounds_toArray, List.set_cons_succ, List.set_cons_zero, Nat.reduceAdd])) | ((with_reducible apply wl_box hS); (with_reducible rfl); rfl; rfl; rfl; clear hS; intro b w hS; (simp only [Act.put, List.setIfInBounds_toArray, List.set_cons_succ, List.set_cons_zero, Nat.reduceAdd])) | ((with_reducible apply wl_alloc hS); (with_reducible rfl); rfl; (with_reducible first | exact Ty.z3 | exact Ty.z28 | exact Ty.z32 | exact Ty.z40 | exact Ty.z46 | exact Ty.z69 | exact Ty.z86 | exact Ty.z146); clear hS; intro b w hS; (simp only [Act.put, List.setIfInBounds_toArray, List.set_cons_succ, List.set_cons_zero, Nat.reduceAdd])))
  go_ret
  exact ⟨rfl, hS.drop⟩
set_option maxRecDepth 100000 in
theorem cancelV_nil (n : Int) (hS : St W R w) : Calls Try.prog 13 #[.pointer none, .string k, .int .i64 n] w fun e w' => e = .returned (.int .i64 1) ∧ St W R w' := by
  go_enter Try.func13, Try.ntmps13
  go_wp2_with (first | ((with_reducible apply wl_ld1 hS); (with_reducible rfl); rfl; rfl; decide +kernel; (first | (focus ((repeat (first | exact Cell.here rfl | apply Cell.there)); done)) | assumption); (simp only [Act.put, List.setIfInBounds_toArray, List.set_cons_succ, List.set_cons_zero, Nat.reduceAdd])) | ((with_reducible apply wl_ldN hS); (with_reducible rfl); rfl; rfl; decide +kernel; (first | (focus ((repeat (first | exact Cells.whole | apply Cells.there)); done)) | assumption); kernel_rfl; (simp only [Act.put, List.setIfInBounds_toArray, List.set_cons_succ, List.set_cons_zero, Nat.reduceAdd])) | ((with_reducible apply wl_st1 hS); (with_reducible rfl); rfl; rfl; (focus ((conv => lhs; whnf); try rfl)); kernel_rfl; rfl; rfl; ((focus ((repeat (first | exact Upd.head | apply Upd.tail)); done))); (simp only [List.length_cons, List.length_nil]; omega); ((simp only [List.set_cons_zero, List.set_cons_succ, setAll]); rfl); clear hS; intro w hS; try (simp only [Act.put, List.setIfInBounds_toArray, List.set_cons_succ, List.set_cons_zero, Nat.reduceAdd])) | ((with_reducible apply wl_stN hS); (with_reducible rfl); rfl; rfl; (focus ((conv => lhs; whnf); try rfl)); kernel_rfl; rfl; ((focus ((repeat (first | exact Upd.head | apply Upd.tail)); done))); (simp only [List.length_cons, List.length_nil]; omega); ((simp only [List.set_cons_zero, List.set_cons_succ, setAll]); rfl); clear hS; intro w hS; try (simp only [Act.put, List.setIfInBounds_toArray, List.set_cons_succ, List.set_cons_zero, Nat.reduceAdd])) | ((with_reducible apply wl_box hS); (with_reducible rfl); rfl; rfl; rfl; clear hS; intro b w hS; (simp only [Act.put, List.setIfInBounds_toArray, List.set_cons_succ, List.set_cons_zero, Nat.reduceAdd])) | ((with_reducible apply wl_alloc hS); (with_reducible rfl); rfl; (with_reducible first | exact Ty.z3 | exact Ty.z28 | exact Ty.z32 | exact Ty.z40 | exact Ty.z46 | exact Ty.z69 | exact Ty.z86 | exact Ty.z146); clear hS; intro b w hS; (simp only [Act.put, List.setIfInBounds_toArray, List.set_cons_succ, List.set_cons_zero, Nat.reduceAdd])))
  go_ret
  exact ⟨rfl, hS.drop.drop⟩
theorem listV_nil (hS : St W R w) : Calls Try.prog 16 #[.pointer none] w fun e w' => e = .returned (.tuple #[.slice none 0 0, .slice none 0 0, .int .i64 0]) ∧ St W R w' := by
  go_enter Try.func16, Try.ntmps16
  go_wp2_with fail
  go_ret3
  exact ⟨rfl, hS⟩
theorem encodeV_nil (hS : St W R w) : Calls Try.prog 18 #[.pointer none] w fun e w' => e = .returned (.slice none 0 0) ∧ St W R w' := by
  go_enter Try.func18, Try.ntmps18
  go_wp2_with fail
  go_ret
  exact ⟨rfl, hS⟩
set_option maxRecDepth 100000 in
set_option maxHeartbeats 4000000 in
theorem totalV_nil (hS : St W R w) : Calls Try.prog 17 #[.pointer none] w fun e w' => e = .returned (.tuple #[.agg #[.int .i64 0, .int .i64 0, .int .i64 0, .int .i64 0], .bool false]) ∧ St W R w' := by
  go_enter Try.func17, Try.ntmps17
  go_wp2_with (first | go_big_skip | (go_at_call 16; refine (listV_nil W _ _ hS).mono ?_; clear hS; rintro e w ⟨rfl, hS⟩) | ((with_reducible apply wl_ld1 hS); (with_reducible rfl); rfl; rfl; decide +kernel; (first | (focus ((repeat (first | exact Cell.here rfl | apply Cell.there)); done)) | assumption); (simp only [Act.put, List.setIfInBounds_toArray, List.set_cons_succ, List.set_cons_zero, Nat.reduceAdd])) | ((with_reducible apply wl_ldN hS); (with_reducible rfl); rfl; rfl; decide +kernel; (first | (focus ((repeat (first | exact Cells.whole | apply Cells.there)); done)) | assumption); kernel_rfl; (simp only [Act.put, List.setIfInBounds_toArray, List.set_cons_succ, List.set_cons_zero, Nat.reduceAdd])) | ((with_reducible apply wl_st1 hS); (with_reducible rfl); rfl; rfl; (focus ((conv => lhs; whnf); try rfl)); kernel_rfl; rfl; rfl; ((focus ((repeat (first | exact Upd.head | apply Upd.tail)); done))); (simp only [List.length_cons, List.length_nil]; omega); ((simp only [List.set_cons_zero, List.set_cons_succ, setAll]); rfl); clear hS; intro w hS; try (simp only [Act.put, List.setIfInBounds_toArray, List.set_cons_succ, List.set_cons_zero, Nat.reduceAdd])) | ((with_reducible apply wl_stN hS); (with_reducible rfl); rfl; rfl; (focus ((conv => lhs; whnf); try rfl)); kernel_rfl; rfl; ((focus ((repeat (first | exact Upd.head | apply Upd.tail)); done))); (simp only [List.length_cons, List.length_nil]; omega); ((simp only [List.set_cons_zero, List.set_cons_succ, setAll]); rfl); clear hS; intro w hS; try (simp only [Act.put, List.setIfInBounds_toArray, List.set_cons_succ, List.set_cons_zero, Nat.reduceAdd])) | ((with_reducible apply wl_box hS); (with_reducible rfl); rfl; rfl; rfl; clear hS; intro b w hS; (simp only [Act.put, List.setIfInBounds_toArray, List.set_cons_succ, List.set_cons_zero, Nat.reduceAdd])) | ((with_reducible apply wl_alloc hS); (with_reducible rfl); rfl; (with_reducible first | exact Ty.z3 | exact Ty.z28 | exact Ty.z32 | exact Ty.z40 | exact Ty.z46 | exact Ty.z69 | exact Ty.z86 | exact Ty.z146); clear hS; intro b w hS; (simp only [Act.put, List.setIfInBounds_toArray, List.set_cons_succ, List.set_cons_zero, Nat.reduceAdd])))
  go_loopw [7, 22] (fun v7 v wr => v7 = .slice none 0 0 ∧ v = .int .i64 0 ∧ St W (blk b [.int .i64 0, .int .i64 0, .int .i64 0, .int .i64 0] 28 :: R) wr) (fun _ _ _ => 0)
  case atStart => exact ⟨rfl, rfl, hS⟩
  case round =>
    clear hS
    obtain ⟨rfl, rfl, hS⟩ := hrel
    go_wp2_with (first | go_big_skip | ((with_reducible apply wl_ld1 hS); (with_reducible rfl); rfl; rfl; decide +kernel; (first | (focus ((repeat (first | exact Cell.here rfl | apply Cell.there)); done)) | assumption); (simp only [Act.put, List.setIfInBounds_toArray, List.set_cons_succ, List.set_cons_zero, Nat.reduceAdd])) | ((with_reducible apply wl_ldN hS); (with_reducible rfl); rfl; rfl; decide +kernel; (first | (focus ((repeat (first | exact Cells.whole | apply Cells.there)); done)) | assumption); kernel_rfl; (simp only [Act.put, List.setIfInBounds_toArray, List.set_cons_succ, List.set_cons_zero, Nat.reduceAdd])) | ((with_reducible apply wl_st1 hS); (with_reducible rfl); rfl; rfl; (focus ((conv => lhs; whnf); try rfl)); kernel_rfl; rfl; rfl; ((focus ((repeat (first | exact Upd.head | apply Upd.tail)); done))); (simp only [List.length_cons, List.length_nil]; omega); ((simp only [List.set_cons_zero, List.set_cons_succ, setAll]); rfl); clear hS; intro w hS; try (simp only [Act.put, List.setIfInBounds_toArray, List.set_cons_succ, List.set_cons_zero, Nat.reduceAdd])) | ((with_reducible apply wl_stN hS); (with_reducible rfl); rfl; rfl; (focus ((conv => lhs; whnf); try rfl)); kernel_rfl; rfl; ((focus ((repeat (first | exact Upd.head | apply Upd.tail)); done))); (simp only [List.length_cons, List.length_nil]; omega); ((simp only [List.set_cons_zero, List.set_cons_succ, setAll]); rfl); clear hS; intro w hS; try (simp only [Act.put, List.setIfInBounds_toArray, List.set_cons_succ, List.set_cons_zero, Nat.reduceAdd])) | ((with_reducible apply wl_box hS); (with_reducible rfl); rfl; rfl; rfl; clear hS; intro b w hS; (simp only [Act.put, List.setIfInBounds_toArray, List.set_cons_succ, List.set_cons_zero, Nat.reduceAdd])) | ((with_reducible apply wl_alloc hS); (with_reducible rfl); rfl; (with_reducible first | exact Ty.z3 | exact Ty.z28 | exact Ty.z32 | exact Ty.z40 | exact Ty.z46 | exact Ty.z69 | exact Ty.z86 | exact Ty.z146); clear hS; intro b w hS; (simp only [Act.put, List.setIfInBounds_toArray, List.set_cons_succ, List.set_cons_zero, Nat.reduceAdd])))
    go_loopw [7, 34] (fun v7 v wr => v7 = .slice none 0 0 ∧ v = .int .i64 0 ∧ St W (blk b [.int .i64 0, .int .i64 0, .int .i64 0, .int .i64 0] 28 :: R) wr) (fun _ _ _ => 0)
    case atStart => exact ⟨rfl, rfl, hS⟩
    case round =>
      clear hS
      obtain ⟨rfl, rfl, hS⟩ := hrel
      go_wp2_with (first | go_big_skip | (go_at_call 22; refine (addNil_spec W _ _ hS).mono ?_; clear hS; rintro e w ⟨rfl, hS⟩) | ((fail_if_success (have := bT)); (with_reducible apply wl_alloc hS); (with_reducible rfl); rfl; (with_reducible first | exact Ty.z3 | exact Ty.z28 | exact Ty.z32 | exact Ty.z40 | exact Ty.z46 | exact Ty.z69 | exact Ty.z86 | exact Ty.z146); clear hS; intro bT w hS; (simp only [Act.put, List.setIfInBounds_toArray, List.set_cons_succ, List.set_cons_zero, Nat.reduceAdd])) | ((with_reducible apply wl_ld1 hS); (with_reducible rfl); rfl; rfl; decide +kernel; (first | (focus ((repeat (first | exact Cell.here rfl | apply Cell.there)); done)) | assumption); (simp only [Act.put, List.setIfInBounds_toArray, List.set_cons_succ, List.set_cons_zero, Nat.reduceAdd])) | ((with_reducible apply wl_ldN hS); (with_reducible rfl); rfl; rfl; decide +kernel; (first | (focus ((repeat (first | exact Cells.whole | apply Cells.there)); done)) | assumption); kernel_rfl; (simp only [Act.put, List.setIfInBounds_toArray, List.set_cons_succ, List.set_cons_zero, Nat.reduceAdd])) | ((with_reducible apply wl_st1 hS); (with_reducible rfl); rfl; rfl; (focus ((conv => lhs; whnf); try rfl)); kernel_rfl; rfl; rfl; ((focus ((repeat (first | exact Upd.head | apply Upd.tail)); done))); (simp only [List.length_cons, List.length_nil]; omega); ((simp only [List.set_cons_zero, List.set_cons_succ, setAll]); rfl); clear hS; intro w hS; try (simp only [Act.put, List.setIfInBounds_toArray, List.set_cons_succ, List.set_cons_zero, Nat.reduceAdd])) | ((with_reducible apply wl_stN hS); (with_reducible rfl); rfl; rfl; (focus ((conv => lhs; whnf); try rfl)); kernel_rfl; rfl; ((focus ((repeat (first | exact Upd.head | apply Upd.tail)); done))); (simp only [List.length_cons, List.length_nil]; omega); ((simp only [List.set_cons_zero, List.set_cons_succ, setAll]); rfl); clear hS; intro w hS; try (simp only [Act.put, List.setIfInBounds_toArray, List.set_cons_succ, List.set_cons_zero, Nat.reduceAdd])) | ((with_reducible apply wl_box hS); (with_reducible rfl); rfl; rfl; rfl; clear hS; intro b w hS; (simp only [Act.put, List.setIfInBounds_toArray, List.set_cons_succ, List.set_cons_zero, Nat.reduceAdd])) | ((with_reducible apply wl_alloc hS); (with_reducible rfl); rfl; (with_reducible first | exact Ty.z3 | exact Ty.z28 | exact Ty.z32 | exact Ty.z40 | exact Ty.z46 | exact Ty.z69 | exact Ty.z86 | exact Ty.z146); clear hS; intro b w hS; (simp only [Act.put, List.setIfInBounds_toArray, List.set_cons_succ, List.set_cons_zero, Nat.reduceAdd])))
      (apply bp_cell_tmp; rfl; rfl; rfl; rfl; exact hS; decide +kernel; (first | (focus ((repeat (first | exact Cells.whole | apply Cells.there)); done)) | assumption); kernel_rfl)
      exact ⟨rfl, hS.drop.drop⟩
def ka : ByteArray := ⟨#[97]⟩
theorem ka_put : putE [] ka ⟨0, 5, 0, 0⟩ = 0 ∧ putP [] ka ⟨0, 5, 0, 0⟩ = [(ka, ⟨0, 5, 0, 0⟩)] := ⟨by kernel_rfl, by kernel_rfl⟩
def kaO : Ord := ⟨0, ka, false, 1, 3, 2⟩
theorem ka_take : takeE [(ka, ⟨0, 5, 0, 0⟩)] ka (holdsF kaO) = 0 ∧ takeP [(ka, ⟨0, 5, 0, 0⟩)] ka (holdsF kaO) = [(ka, ⟨0, 2, 0, 0⟩)] := ⟨by kernel_rfl, by kernel_rfl⟩
theorem ka_run : runT [] { kaO with id := 1 } = [] := rfl
theorem ka_has : purseA [(ka, ⟨0, 2, 0, 0⟩)] ka = ⟨0, 2, 0, 0⟩ := by kernel_rfl
theorem ka_ok : PsOk [(ka, ⟨0, 5, 0, 0⟩)] := by
  have := psOk_put psOk_nil ka ⟨0, 5, 0, 0⟩
  rw [ka_put.2] at this
  exact this
theorem ka_order (vb mb bb : Nat) (W w : World) (R : List HP) (hS : St W (vaultL vb mb bb [(ka, ⟨0, 5, 0, 0⟩)] [] 1 R) w) :
    Calls Try.prog 11 #[.pointer (some ⟨vb, 0, none⟩), .agg #[.int .i64 0, .string ⟨#[97]⟩, .bool false, .int .i64 1, .int .i64 3, .int .i64 2]] w fun e w' => e = .returned (.tuple #[.int .i64 1, .int .i64 0]) ∧ St W (blk vb [.map (some mb), .pointer (some ⟨bb, 0, none⟩), .int .i64 (1 + 1)] 56 :: amap eS eP mb [(ka, ⟨0, 2, 0, 0⟩)] :: R) w' := by
  refine (order_ok vb mb bb _ [] 1 kaO W w R ka_ok (by kernel_rfl) (by decide) (by decide) (by decide) ka_take.1 hS).mono ?_
  rintro e w' ⟨he, hS⟩
  refine ⟨he, ?_⟩
  have e1 : kaO.who = ka := rfl
  rw [ka_run, e1, ka_take.2] at hS
  have hS2 : St W (blk vb [.map (some mb), .pointer (some ⟨bb, 0, none⟩), .int .i64 (1 + 1)] 56 :: amap eS eP mb [(ka, ⟨0, 2, 0, 0⟩)] :: _ :: R) w' := hS
  exact hS2.sel (by (repeat' (first | (with_reducible first | exact Sel.done Suf.refl | exact Sel.done (Suf.tail Suf.refl) | exact Sel.done (Suf.tail (Suf.tail Suf.refl)) | exact Sel.done (Suf.tail (Suf.tail (Suf.tail Suf.refl))) | (apply Sel.done; (focus ((repeat (first | exact Suf.refl | apply Suf.tail)); done)))) | (refine Sel.cons (by with_reducible (focus ((repeat (first | exact Take.head | apply Take.tail)); done))) ?_))))
theorem ka_puts (vb mb : Nat) (u1 u2 : Value) (W w : World) (R : List HP) (hS : St W (blk vb [.map (some mb), u1, u2] 56 :: amap eS eP mb [] :: R) w) :
    Calls Try.prog 10 #[.pointer (some ⟨vb, 0, none⟩), .string ⟨#[97]⟩, .agg #[.int .i64 0, .int .i64 5, .int .i64 0, .int .i64 0]] w fun e w' => e = .returned (.int .i64 0) ∧ St W (blk vb [.map (some mb), u1, u2] 56 :: amap eS eP mb [(ka, ⟨0, 5, 0, 0⟩)] :: R) w' := by
  refine (put_spec vb mb [] ka u1 u2 ⟨0, 5, 0, 0⟩ W w R hS).mono ?_
  rw [ka_put.1, ka_put.2]
  exact fun e w' h => h
theorem ka_hass (vb mb : Nat) (u1 u2 : Value) (W w : World) (R : List HP) (hS : St W (blk vb [.map (some mb), u1, u2] 56 :: amap eS eP mb [(ka, ⟨0, 2, 0, 0⟩)] :: R) w) :
    Calls Try.prog 12 #[.pointer (some ⟨vb, 0, none⟩), .string ⟨#[97]⟩] w fun e w' => e = .returned (.agg #[.int .i64 0, .int .i64 2, .int .i64 0, .int .i64 0]) ∧ St W R w' := by
  refine (has_spec vb mb _ ka u1 u2 W w R hS).mono ?_
  rw [ka_has]
  exact fun e w' h => ⟨h.1, h.2.drop.drop⟩
set_option maxRecDepth 100000 in
set_option maxHeartbeats 4000000 in
theorem knownV_spec (hS : St W R w) : Calls Try.prog 8 #[] w fun e w' => e = .returned (.bool true) ∧ St W R w' := by
  have h4 : (((0 : Int) == 0) && (((2 : Int) == 2) && (((0 : Int) == 0) && ((0 : Int) == 0)))) = true := rfl
  go_enter Try.func8, Try.ntmps8
  go_wp2_with (first | go_big_skip | (go_at_call 9; refine (newV_spec W _ _ hS).mono ?_; clear hS; rintro e w ⟨vb, mb, bb, rfl, hS⟩) | (go_at_call 10; refine (ka_puts vb mb _ _ W _ _ hS).mono ?_; clear hS; rintro e w ⟨rfl, hS⟩) | (go_at_call 11; refine (ka_order vb mb bb W _ _ hS).mono ?_; clear hS; rintro e w ⟨rfl, hS⟩) | (go_at_call 12; refine (ka_hass vb mb _ _ W _ _ hS).mono ?_; clear hS; rintro e w ⟨rfl, hS⟩) | ((with_reducible apply wl_eqA); (with_reducible rfl); rfl; rfl; rfl; kernel_rfl; exact eqI _ _ _ _ _ _ _ _; rw [h4]; (simp only [Act.put, List.setIfInBounds_toArray, List.set_cons_succ, List.set_cons_zero, Nat.reduceAdd, eP, It.cells])) | ((with_reducible apply wl_ld1 hS); (with_reducible rfl); rfl; rfl; decide +kernel; (first | (focus ((repeat (first | exact Cell.here rfl | apply Cell.there)); done)) | assumption); (simp only [Act.put, List.setIfInBounds_toArray, List.set_cons_succ, List.set_cons_zero, Nat.reduceAdd])) | ((with_reducible apply wl_ldN hS); (with_reducible rfl); rfl; rfl; decide +kernel; (first | (focus ((repeat (first | exact Cells.whole | apply Cells.there)); done)) | assumption); kernel_rfl; (simp only [Act.put, List.setIfInBounds_toArray, List.set_cons_succ, List.set_cons_zero, Nat.reduceAdd])) | ((with_reducible apply wl_st1 hS); (with_reducible rfl); rfl; rfl; (focus ((conv => lhs; whnf); try rfl)); kernel_rfl; rfl; rfl; ((focus ((repeat (first | exact Upd.head | apply Upd.tail)); done))); (simp only [List.length_cons, List.length_nil]; omega); ((simp only [List.set_cons_zero, List.set_cons_succ, setAll]); rfl); clear hS; intro w hS; try (simp only [Act.put, List.setIfInBounds_toArray, List.set_cons_succ, List.set_cons_zero, Nat.reduceAdd])) | ((with_reducible apply wl_stN hS); (with_reducible rfl); rfl; rfl; (focus ((conv => lhs; whnf); try rfl)); kernel_rfl; rfl; ((focus ((repeat (first | exact Upd.head | apply Upd.tail)); done))); (simp only [List.length_cons, List.length_nil]; omega); ((simp only [List.set_cons_zero, List.set_cons_succ, setAll]); rfl); clear hS; intro w hS; try (simp only [Act.put, List.setIfInBounds_toArray, List.set_cons_succ, List.set_cons_zero, Nat.reduceAdd])) | ((with_reducible apply wl_box hS); (with_reducible rfl); rfl; rfl; rfl; clear hS; intro b w hS; (simp only [Act.put, List.setIfInBounds_toArray, List.set_cons_succ, List.set_cons_zero, Nat.reduceAdd])) | ((with_reducible apply wl_alloc hS); (with_reducible rfl); rfl; (with_reducible first | exact Ty.z3 | exact Ty.z28 | exact Ty.z32 | exact Ty.z40 | exact Ty.z46 | exact Ty.z69 | exact Ty.z86 | exact Ty.z146); clear hS; intro b w hS; (simp only [Act.put, List.setIfInBounds_toArray, List.set_cons_succ, List.set_cons_zero, Nat.reduceAdd])))
  go_ret
  exact ⟨rfl, hS⟩
end
end Go.Proofs.Ytbcokphjpllbiaa
end
section
set_option linter.unusedSimpArgs false
set_option linter.unusedVariables false
namespace Go.Proofs.Ytbcokphjpllbiaa
open Go.RowKit Go.Sl
def hitC (id : Int) (who : ByteArray) (x : Ord) : Bool := (x.id == id) && (x.who.toList == who.toList)
set_option maxHeartbeats 1000000 in
theorem cancelC_spec (x : Ord) (B C : Nat) (id : Int) (who : ByteArray) (W w : World) (L : List HP) (hS : St W (blk B [.int .i64 id] 3 :: blk C [.string who] 9 :: L) w) :
    Calls Try.prog 31 #[.agg x.cells.toArray, .pointer (some ⟨B, 0, none⟩), .pointer (some ⟨C, 0, none⟩)] w fun e w' => e = .returned (.bool (hitC id who x)) ∧ St W (blk B [.int .i64 id] 3 :: blk C [.string who] 9 :: L) w' := by
  obtain ⟨i, u, y, t, c, p⟩ := x
  unfold hitC
  simp only [Ord.cells]
  cases hi : i == id with
  | true =>
    rw [Bool.true_and]
    go_enter Try.func31, Try.ntmps31
    go_wp2_with (first | go_big_skip | ((with_reducible apply wl_ld1 hS); (with_reducible rfl); rfl; rfl; decide +kernel; (first | (focus ((repeat (first | exact Cell.here rfl | apply Cell.there)); done)) | assumption); (simp only [Act.put, List.setIfInBounds_toArray, List.set_cons_succ, List.set_cons_zero, Nat.reduceAdd])) | ((with_reducible apply wl_ldN hS); (with_reducible rfl); rfl; rfl; decide +kernel; (first | (focus ((repeat (first | exact Cells.whole | apply Cells.there)); done)) | assumption); kernel_rfl; (simp only [Act.put, List.setIfInBounds_toArray, List.set_cons_succ, List.set_cons_zero, Nat.reduceAdd])) | ((with_reducible apply wl_st1 hS); (with_reducible rfl); rfl; rfl; (focus ((conv => lhs; whnf); try rfl)); kernel_rfl; rfl; rfl; ((focus ((repeat (first | exact Upd.head | apply Upd.tail)); done))); (simp only [List.length_cons, List.length_nil]; omega); ((simp only [List.set_cons_zero, List.set_cons_succ, setAll]); rfl); clear hS; intro w hS; try (simp only [Act.put, List.setIfInBounds_toArray, List.set_cons_succ, List.set_cons_zero, Nat.reduceAdd])) | ((with_reducible apply wl_stN hS); (with_reducible rfl); rfl; rfl; (focus ((conv => lhs; whnf); try rfl)); kernel_rfl; rfl; ((focus ((repeat (first | exact Upd.head | apply Upd.tail)); done))); (simp only [List.length_cons, List.length_nil]; omega); ((simp only [List.set_cons_zero, List.set_cons_succ, setAll]); rfl); clear hS; intro w hS; try (simp only [Act.put, List.setIfInBounds_toArray, List.set_cons_succ, List.set_cons_zero, Nat.reduceAdd])) | ((with_reducible apply wl_box hS); (with_reducible rfl); rfl; rfl; rfl; clear hS; intro b w hS; (simp only [Act.put, List.setIfInBounds_toArray, List.set_cons_succ, List.set_cons_zero, Nat.reduceAdd])) | ((with_reducible apply wl_alloc hS); (with_reducible rfl); rfl; (with_reducible first | exact Ty.z3 | exact Ty.z28 | exact Ty.z32 | exact Ty.z40 | exact Ty.z46 | exact Ty.z69 | exact Ty.z86 | exact Ty.z146); clear hS; intro b w hS; (simp only [Act.put, List.setIfInBounds_toArray, List.set_cons_succ, List.set_cons_zero, Nat.reduceAdd])))
    go_ret
    exact ⟨rfl, hS.drop⟩
  | false =>
    rw [Bool.false_and]
    go_enter Try.func31, Try.ntmps31
    go_wp2_with (first | go_big_skip | ((with_reducible apply wl_ld1 hS); (with_reducible rfl); rfl; rfl; decide +kernel; (first | (focus ((repeat (first | exact Cell.here rfl | apply Cell.there)); done)) | assumption); (simp only [Act.put, List.setIfInBounds_toArray, List.set_cons_succ, List.set_cons_zero, Nat.reduceAdd])) | ((with_reducible apply wl_ldN hS); (with_reducible rfl); rfl; rfl; decide +kernel; (first | (focus ((repeat (first | exact Cells.whole | apply Cells.there)); done)) | assumption); kernel_rfl; (simp only [Act.put, List.setIfInBounds_toArray, List.set_cons_succ, List.set_cons_zero, Nat.reduceAdd])) | ((with_reducible apply wl_st1 hS); (with_reducible rfl); rfl; rfl; (focus ((conv => lhs; whnf); try rfl)); kernel_rfl; rfl; rfl; ((focus ((repeat (first | exact Upd.head | apply Upd.tail)); done))); (simp only [List.length_cons, List.length_nil]; omega); ((simp only [List.set_cons_zero, List.set_cons_succ, setAll]); rfl); clear hS; intro w hS; try (simp only [Act.put, List.setIfInBounds_toArray, List.set_cons_succ, List.set_cons_zero, Nat.reduceAdd])) | ((with_reducible apply wl_stN hS); (with_reducible rfl); rfl; rfl; (focus ((conv => lhs; whnf); try rfl)); kernel_rfl; rfl; ((focus ((repeat (first | exact Upd.head | apply Upd.tail)); done))); (simp only [List.length_cons, List.length_nil]; omega); ((simp only [List.set_cons_zero, List.set_cons_succ, setAll]); rfl); clear hS; intro w hS; try (simp only [Act.put, List.setIfInBounds_toArray, List.set_cons_succ, List.set_cons_zero, Nat.reduceAdd])) | ((with_reducible apply wl_box hS); (with_reducible rfl); rfl; rfl; rfl; clear hS; intro b w hS; (simp only [Act.put, List.setIfInBounds_toArray, List.set_cons_succ, List.set_cons_zero, Nat.reduceAdd])) | ((with_reducible apply wl_alloc hS); (with_reducible rfl); rfl; (with_reducible first | exact Ty.z3 | exact Ty.z28 | exact Ty.z32 | exact Ty.z40 | exact Ty.z46 | exact Ty.z69 | exact Ty.z86 | exact Ty.z146); clear hS; intro b w hS; (simp only [Act.put, List.setIfInBounds_toArray, List.set_cons_succ, List.set_cons_zero, Nat.reduceAdd])))
    go_ret
    exact ⟨rfl, hS.drop⟩
def idxC (id : Int) (who : ByteArray) (p : List Ord) : Int := match p.findIdx? (hitC id who) with
  | some i => i
  | none => -1
def IdxC (W : World) (L : List HP) (p : List Ord) (id : Int) (who : ByteArray) (v8 : Value) (w : World) : Prop :=
  ∃ k : Nat, v8 = .int .i64 k ∧ k ≤ p.length ∧ (∀ j, j < k → ∀ x, p[j]? = some x → hitC id who x = false) ∧ St W L w
theorem idxC_end (p : List Ord) (id : Int) (who : ByteArray) (h : ∀ j, j < p.length → ∀ x, p[j]? = some x → hitC id who x = false) : idxC id who p = -1 := by
  unfold idxC
  rw [List.findIdx?_eq_none_iff.2]
  intro x hx
  obtain ⟨j, hj, rfl⟩ := List.mem_iff_getElem.1 hx
  exact h j hj _ (List.getElem?_eq_getElem hj)
theorem idxC_at (p : List Ord) (id : Int) (who : ByteArray) (k : Nat) (hk : k < p.length) (h : ∀ j, j < k → ∀ x, p[j]? = some x → hitC id who x = false) (hx : hitC id who p[k] = true) : idxC id who p = k := by
  unfold idxC
  rw [List.findIdx?_eq_some_iff_getElem.2 ⟨hk, hx, fun j hj => by rw [h j hj _ (List.getElem?_eq_getElem (by omega))]; exact Bool.false_ne_true⟩]
set_option maxRecDepth 100000 in
set_option maxHeartbeats 1000000 in
theorem indexC_spec (p : List Ord) (v : Value) (B C : Nat) (id : Int) (who : ByteArray) (h63 : p.length ≤ 4294967296) (W w : World) (L : List HP) (hS : St W (blk B [.int .i64 id] 3 :: blk C [.string who] 9 :: pileR v p :: L) w) :
    Calls Try.prog 46 #[v, .func (.func 31) #[] #[.pointer (some ⟨B, 0, none⟩), .pointer (some ⟨C, 0, none⟩)]] w fun e w' => e = .returned (.int .i64 (idxC id who p)) ∧ St W (blk B [.int .i64 id] 3 :: blk C [.string who] 9 :: pileR v p :: L) w' := by
  obtain ⟨a, cap, rfl⟩ := hS.drop.drop.rowVal
  go_enter Try.func46, Try.ntmps46
  go_wp2_with fail
  go_loopw [8] (fun v wr => IdxC W (blk B [.int .i64 id] 3 :: blk C [.string who] 9 :: pileR (.slice a p.length cap) p :: L) p id who v wr) (fun v _ => p.length - (intOf v).toNat)
  case atStart => exact ⟨0, rfl, by omega, fun j hj => by omega, hS⟩
  case round =>
    clear hS
    obtain ⟨k, rfl, hk, hno, hS⟩ := hrel
    by_cases hkn : k = p.length
    · have Hr := Lib.hid (idxC_end p id who (hkn ▸ hno))
      clear hno
      subst hkn
      go_wp2_with fail
      go_ret
      rw [Hr.out]
      exact ⟨rfl, hS⟩
    · have hkl : k < p.length := by omega
      clear hkn hk
      obtain ⟨⟨g, rfl⟩, hcap, hcn⟩ := St.rowAddr hS.drop.drop (by omega)
      have Hno := Lib.hid hno
      clear hno
      cases hb : hitC id who p[k] with
      | false =>
        go_wp2_with (first | ((with_reducible apply wl_ldN hS); (with_reducible rfl); rfl; rfl; decide +kernel; (exact Cells.there (Cells.there (Cells.rowE Ord.len hkl))); kernel_rfl; (simp only [Act.put, List.setIfInBounds_toArray, List.set_cons_succ, List.set_cons_zero, Nat.reduceAdd])) | ((with_reducible apply wl_ldN hS); (with_reducible rfl); rfl; rfl; decide +kernel; (exact Cells.there (Cells.there (Cells.there (Cells.rowE Ord.len hkl)))); kernel_rfl; (simp only [Act.put, List.setIfInBounds_toArray, List.set_cons_succ, List.set_cons_zero, Nat.reduceAdd])) | (go_at_call 31; refine (cancelC_spec p[k] B C id who W _ _ hS).mono ?_; clear hS; rw [hb]; rintro e w ⟨rfl, hS⟩) | ((with_reducible apply wl_ld1 hS); (with_reducible rfl); rfl; rfl; decide +kernel; (first | (focus ((repeat (first | exact Cell.here rfl | apply Cell.there)); done)) | assumption); (simp only [Act.put, List.setIfInBounds_toArray, List.set_cons_succ, List.set_cons_zero, Nat.reduceAdd])) | ((with_reducible apply wl_ldN hS); (with_reducible rfl); rfl; rfl; decide +kernel; (first | (focus ((repeat (first | exact Cells.whole | apply Cells.there)); done)) | assumption); kernel_rfl; (simp only [Act.put, List.setIfInBounds_toArray, List.set_cons_succ, List.set_cons_zero, Nat.reduceAdd])) | ((with_reducible apply wl_st1 hS); (with_reducible rfl); rfl; rfl; (focus ((conv => lhs; whnf); try rfl)); kernel_rfl; rfl; rfl; ((focus ((repeat (first | exact Upd.head | apply Upd.tail)); done))); (simp only [List.length_cons, List.length_nil]; omega); ((simp only [List.set_cons_zero, List.set_cons_succ, setAll]); rfl); clear hS; intro w hS; try (simp only [Act.put, List.setIfInBounds_toArray, List.set_cons_succ, List.set_cons_zero, Nat.reduceAdd])) | ((with_reducible apply wl_stN hS); (with_reducible rfl); rfl; rfl; (focus ((conv => lhs; whnf); try rfl)); kernel_rfl; rfl; ((focus ((repeat (first | exact Upd.head | apply Upd.tail)); done))); (simp only [List.length_cons, List.length_nil]; omega); ((simp only [List.set_cons_zero, List.set_cons_succ, setAll]); rfl); clear hS; intro w hS; try (simp only [Act.put, List.setIfInBounds_toArray, List.set_cons_succ, List.set_cons_zero, Nat.reduceAdd])) | ((with_reducible apply wl_box hS); (with_reducible rfl); rfl; rfl; rfl; clear hS; intro b w hS; (simp only [Act.put, List.setIfInBounds_toArray, List.set_cons_succ, List.set_cons_zero, Nat.reduceAdd])) | ((with_reducible apply wl_alloc hS); (with_reducible rfl); rfl; (with_reducible first | exact Ty.z3 | exact Ty.z28 | exact Ty.z32 | exact Ty.z40 | exact Ty.z46 | exact Ty.z69 | exact Ty.z86 | exact Ty.z146); clear hS; intro b w hS; (simp only [Act.put, List.setIfInBounds_toArray, List.set_cons_succ, List.set_cons_zero, Nat.reduceAdd])))
        go_roundw
        case rel =>
          refine ⟨k + 1, rfl, hkl, ?_, hS⟩
          intro j hj x hx
          by_cases hjk : j = k
          · subst hjk
            rw [List.getElem?_eq_getElem hkl] at hx
            cases hx
            exact hb
          · exact Hno.out j (by omega) x hx
        case measure => simp [intOf]; omega
      | true =>
        go_wp2_with (first | ((with_reducible apply wl_ldN hS); (with_reducible rfl); rfl; rfl; decide +kernel; (exact Cells.there (Cells.there (Cells.rowE Ord.len hkl))); kernel_rfl; (simp only [Act.put, List.setIfInBounds_toArray, List.set_cons_succ, List.set_cons_zero, Nat.reduceAdd])) | ((with_reducible apply wl_ldN hS); (with_reducible rfl); rfl; rfl; decide +kernel; (exact Cells.there (Cells.there (Cells.there (Cells.rowE Ord.len hkl)))); kernel_rfl; (simp only [Act.put, List.setIfInBounds_toArray, List.set_cons_succ, List.set_cons_zero, Nat.reduceAdd])) | (go_at_call 31; refine (cancelC_spec p[k] B C id who W _ _ hS).mono ?_; clear hS; rw [hb]; rintro e w ⟨rfl, hS⟩) | ((with_reducible apply wl_ld1 hS); (with_reducible rfl); rfl; rfl; decide +kernel; (first | (focus ((repeat (first | exact Cell.here rfl | apply Cell.there)); done)) | assumption); (simp only [Act.put, List.setIfInBounds_toArray, List.set_cons_succ, List.set_cons_zero, Nat.reduceAdd])) | ((with_reducible apply wl_ldN hS); (with_reducible rfl); rfl; rfl; decide +kernel; (first | (focus ((repeat (first | exact Cells.whole | apply Cells.there)); done)) | assumption); kernel_rfl; (simp only [Act.put, List.setIfInBounds_toArray, List.set_cons_succ, List.set_cons_zero, Nat.reduceAdd])) | ((with_reducible apply wl_st1 hS); (with_reducible rfl); rfl; rfl; (focus ((conv => lhs; whnf); try rfl)); kernel_rfl; rfl; rfl; ((focus ((repeat (first | exact Upd.head | apply Upd.tail)); done))); (simp only [List.length_cons, List.length_nil]; omega); ((simp only [List.set_cons_zero, List.set_cons_succ, setAll]); rfl); clear hS; intro w hS; try (simp only [Act.put, List.setIfInBounds_toArray, List.set_cons_succ, List.set_cons_zero, Nat.reduceAdd])) | ((with_reducible apply wl_stN hS); (with_reducible rfl); rfl; rfl; (focus ((conv => lhs; whnf); try rfl)); kernel_rfl; rfl; ((focus ((repeat (first | exact Upd.head | apply Upd.tail)); done))); (simp only [List.length_cons, List.length_nil]; omega); ((simp only [List.set_cons_zero, List.set_cons_succ, setAll]); rfl); clear hS; intro w hS; try (simp only [Act.put, List.setIfInBounds_toArray, List.set_cons_succ, List.set_cons_zero, Nat.reduceAdd])) | ((with_reducible apply wl_box hS); (with_reducible rfl); rfl; rfl; rfl; clear hS; intro b w hS; (simp only [Act.put, List.setIfInBounds_toArray, List.set_cons_succ, List.set_cons_zero, Nat.reduceAdd])) | ((with_reducible apply wl_alloc hS); (with_reducible rfl); rfl; (with_reducible first | exact Ty.z3 | exact Ty.z28 | exact Ty.z32 | exact Ty.z40 | exact Ty.z46 | exact Ty.z69 | exact Ty.z86 | exact Ty.z146); clear hS; intro b w hS; (simp only [Act.put, List.setIfInBounds_toArray, List.set_cons_succ, List.set_cons_zero, Nat.reduceAdd])))
        go_ret
        rw [idxC_at p id who k hkl Hno.out hb]
        exact ⟨rfl, hS⟩
theorem idxC_any (id : Int) (who : ByteArray) (p : List Ord) : decide (0 ≤ idxC id who p) = p.any (hitC id who) := by
  unfold idxC
  cases h : p.findIdx? (hitC id who) with
  | none =>
    have := List.findIdx?_eq_none_iff.1 h
    have e : p.any (hitC id who) = false := by
      rw [List.any_eq_false]
      intro x hx
      rw [this x hx]; exact Bool.false_ne_true
    rw [e]; rfl
  | some i =>
    obtain ⟨hi, hx, _⟩ := List.findIdx?_eq_some_iff_getElem.1 h
    have e : p.any (hitC id who) = true := List.any_eq_true.2 ⟨_, List.getElem_mem hi, hx⟩
    rw [e]; simp
theorem containsC_spec (p : List Ord) (v : Value) (B C : Nat) (id : Int) (who : ByteArray) {r : Bool} (hr : p.any (hitC id who) = r) (h63 : p.length ≤ 4294967296) (W w : World) (L : List HP) (hS : St W (blk B [.int .i64 id] 3 :: blk C [.string who] 9 :: pileR v p :: L) w) :
    Calls Try.prog 29 #[v, .func (.func 31) #[] #[.pointer (some ⟨B, 0, none⟩), .pointer (some ⟨C, 0, none⟩)]] w fun e w' => e = .returned (.bool r) ∧ St W (blk B [.int .i64 id] 3 :: blk C [.string who] 9 :: pileR v p :: L) w' := by
  have hz := idxC_any id who p
  rw [hr] at hz
  obtain ⟨q, hq⟩ : ∃ q, idxC id who p = q := ⟨_, rfl⟩
  rw [hq] at hz
  have Hq := Lib.hid hq
  clear hq hr
  go_enter Try.func29, Try.ntmps29
  go_wp2_with (first | (go_at_call 46; refine (indexC_spec p v B C id who h63 W _ _ hS).mono ?_; clear hS; rw [Hq.out]; rintro e w ⟨rfl, hS⟩) | ((with_reducible apply wl_ld1 hS); (with_reducible rfl); rfl; rfl; decide +kernel; (first | (focus ((repeat (first | exact Cell.here rfl | apply Cell.there)); done)) | assumption); (simp only [Act.put, List.setIfInBounds_toArray, List.set_cons_succ, List.set_cons_zero, Nat.reduceAdd])) | ((with_reducible apply wl_ldN hS); (with_reducible rfl); rfl; rfl; decide +kernel; (first | (focus ((repeat (first | exact Cells.whole | apply Cells.there)); done)) | assumption); kernel_rfl; (simp only [Act.put, List.setIfInBounds_toArray, List.set_cons_succ, List.set_cons_zero, Nat.reduceAdd])) | ((with_reducible apply wl_st1 hS); (with_reducible rfl); rfl; rfl; (focus ((conv => lhs; whnf); try rfl)); kernel_rfl; rfl; rfl; ((focus ((repeat (first | exact Upd.head | apply Upd.tail)); done))); (simp only [List.length_cons, List.length_nil]; omega); ((simp only [List.set_cons_zero, List.set_cons_succ, setAll]); rfl); clear hS; intro w hS; try (simp only [Act.put, List.setIfInBounds_toArray, List.set_cons_succ, List.set_cons_zero, Nat.reduceAdd])) | ((with_reducible apply wl_stN hS); (with_reducible rfl); rfl; rfl; (focus ((conv => lhs; whnf); try rfl)); kernel_rfl; rfl; ((focus ((repeat (first | exact Upd.head | apply Upd.tail)); done))); (simp only [List.length_cons, List.length_nil]; omega); ((simp only [List.set_cons_zero, List.set_cons_succ, setAll]); rfl); clear hS; intro w hS; try (simp only [Act.put, List.setIfInBounds_toArray, List.set_cons_succ, List.set_cons_zero, Nat.reduceAdd])) | ((with_reducible apply wl_box hS); (with_reducible rfl); rfl; rfl; rfl; clear hS; intro b w hS; (simp only [Act.put, List.setIfInBounds_toArray, List.set_cons_succ, List.set_cons_zero, Nat.reduceAdd])) | ((with_reducible apply wl_alloc hS); (with_reducible rfl); rfl; (with_reducible first | exact Ty.z3 | exact Ty.z28 | exact Ty.z32 | exact Ty.z40 | exact Ty.z46 | exact Ty.z69 | exact Ty.z86 | exact Ty.z146); clear hS; intro b w hS; (simp only [Act.put, List.setIfInBounds_toArray, List.set_cons_succ, List.set_cons_zero, Nat.reduceAdd])))
  go_ret
  exact ⟨by first | rfl | (rw [← hz]; rfl), hS⟩
end Go.Proofs.Ytbcokphjpllbiaa
end
