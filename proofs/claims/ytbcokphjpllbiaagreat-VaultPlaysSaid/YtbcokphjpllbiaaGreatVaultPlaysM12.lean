/-
  The document's purses: what may be in one, less, without, together; what an order holds. For every purse.
-/
import Derived.Test.YtbcokphjpllbiaaGreatVaultPlaysM6
import Derived.Test.YtbcokphjpllbiaaGreatVaultPlaysM11

section
set_option linter.unusedSimpArgs false
set_option linter.unusedVariables false
namespace Go.Proofs.YtbcokphjpllbiaaGreat
open Go.RowKit Go.Sl
theorem key8 (k : ByteArray) (W w : World) (R : List HP) (hS : St W R w) :
    Calls Tryz.prog 61 #[.string k] w fun e w' => e = .returned (.bool (whoB k)) ∧ St W R w' := by
  go_enter Tryz.func61, Tryz.ntmps61
  by_cases h1 : k.size < 1
  · have e : whoB k = false := by unfold whoB; simp; omega
    have d1 : decide ((1 : Int) ≤ (k.size : Int)) = false := by simp; omega
    rw [e]
    go_wp2_with (fail)
    go_ret
    exact ⟨rfl, hS⟩
  · have d1 : (1 : Int) ≤ (k.size : Int) := by omega
    by_cases h2 : k.size ≤ 16
    · have e : whoB k = true := by unfold whoB; simp; omega
      have d2 : (k.size : Int) ≤ 16 := by omega
      rw [e]
      go_wp2_with (fail)
      go_ret
      exact ⟨rfl, hS⟩
    · have e : whoB k = false := by unfold whoB; simp; omega
      have d2 : decide ((k.size : Int) ≤ 16) = false := by simp; omega
      rw [e]
      go_wp2_with (fail)
      go_ret
      exact ⟨rfl, hS⟩
set_option maxRecDepth 100000 in
set_option maxHeartbeats 4000000 in
theorem is8 (i : It) (W w : World) (R : List HP) (hS : St W R w) :
    Calls Tryz.prog 62 #[.agg i.cells.toArray] w fun e w' => e = .returned (.bool (isIt i)) ∧ St W R w' := by
  obtain ⟨x0, x1, x2, x3⟩ := i
  simp only [It.cells]
  go_enter Tryz.func62, Tryz.ntmps62
  go_wp2_with (first | ((with_reducible apply wl_box hS); (with_reducible rfl); rfl; rfl; rfl; clear hS; intro b w hS; (simp only [Act.put, fA, fB, fC, Nat.reduceAdd])))
  go_loopw [3] (fun v wr => IsR W (blk b [.int .i64 x0, .int .i64 x1, .int .i64 x2, .int .i64 x3] 39 :: R) ⟨x0, x1, x2, x3⟩ v wr) (fun v _ => 4 - (intOf v).toNat)
  case atStart => exact ⟨hS, .inl rfl⟩
  case round =>
    clear hS
    obtain ⟨hS, hk⟩ := hrel
    simp only at hk
    rcases hk with rfl | ⟨rfl, q0⟩ | ⟨rfl, q0, q1⟩ | ⟨rfl, q0, q1, q2⟩ | ⟨rfl, q0, q1, q2, q3⟩
    · skip
      by_cases h1 : x0 < 0
      · have hx := inH_low h1
        go_wp2_with (first | ((with_reducible apply wl_ld1 hS); (with_reducible rfl); rfl; rfl; decide +kernel; (first | (focus((repeat(first|exact Cell.here rfl | apply Cell.there)); done)) | assumption); (simp only [Act.put, fA, fB, fC, Nat.reduceAdd])))
        go_ret
        refine ⟨by simp only [isIt, hx, Bool.false_and, Bool.and_false, hx]; rfl, hS.drop⟩
      · have d1 : decide (x0 < 0) = false := by simpa using h1
        by_cases h2 : 1152921504606846976 < x0
        · have hx := inH_high h2
          go_wp2_with (first | ((with_reducible apply wl_ld1 hS); (with_reducible rfl); rfl; rfl; decide +kernel; (first | (focus((repeat(first|exact Cell.here rfl | apply Cell.there)); done)) | assumption); (simp only [Act.put, fA, fB, fC, Nat.reduceAdd])))
          go_ret
          refine ⟨by simp only [isIt, hx, Bool.false_and, Bool.and_false, hx]; rfl, hS.drop⟩
        · have d2 : decide (1152921504606846976 < x0) = false := by simpa using h2
          have hx : inH x0 = true := inH_true.2 ⟨by omega, by omega⟩
          clear h1 h2
          go_wp2_with (first | ((with_reducible apply wl_ld1 hS); (with_reducible rfl); rfl; rfl; decide +kernel; (first | (focus((repeat(first|exact Cell.here rfl | apply Cell.there)); done)) | assumption); (simp only [Act.put, fA, fB, fC, Nat.reduceAdd])))
          go_roundw
          case rel => exact ⟨hS, .inr (.inl ⟨rfl, hx⟩)⟩
          case measure => simp [intOf]
    · skip
      by_cases h1 : x1 < 0
      · have hx := inH_low h1
        go_wp2_with (first | ((with_reducible apply wl_ld1 hS); (with_reducible rfl); rfl; rfl; decide +kernel; (first | (focus((repeat(first|exact Cell.here rfl | apply Cell.there)); done)) | assumption); (simp only [Act.put, fA, fB, fC, Nat.reduceAdd])))
        go_ret
        refine ⟨by simp only [isIt, hx, Bool.false_and, Bool.and_false, q0]; rfl, hS.drop⟩
      · have d1 : decide (x1 < 0) = false := by simpa using h1
        by_cases h2 : 1152921504606846976 < x1
        · have hx := inH_high h2
          go_wp2_with (first | ((with_reducible apply wl_ld1 hS); (with_reducible rfl); rfl; rfl; decide +kernel; (first | (focus((repeat(first|exact Cell.here rfl | apply Cell.there)); done)) | assumption); (simp only [Act.put, fA, fB, fC, Nat.reduceAdd])))
          go_ret
          refine ⟨by simp only [isIt, hx, Bool.false_and, Bool.and_false, q0]; rfl, hS.drop⟩
        · have d2 : decide (1152921504606846976 < x1) = false := by simpa using h2
          have hx : inH x1 = true := inH_true.2 ⟨by omega, by omega⟩
          clear h1 h2
          go_wp2_with (first | ((with_reducible apply wl_ld1 hS); (with_reducible rfl); rfl; rfl; decide +kernel; (first | (focus((repeat(first|exact Cell.here rfl | apply Cell.there)); done)) | assumption); (simp only [Act.put, fA, fB, fC, Nat.reduceAdd])))
          go_roundw
          case rel => exact ⟨hS, .inr (.inr (.inl ⟨rfl, q0, hx⟩))⟩
          case measure => simp [intOf]
    · skip
      by_cases h1 : x2 < 0
      · have hx := inH_low h1
        go_wp2_with (first | ((with_reducible apply wl_ld1 hS); (with_reducible rfl); rfl; rfl; decide +kernel; (first | (focus((repeat(first|exact Cell.here rfl | apply Cell.there)); done)) | assumption); (simp only [Act.put, fA, fB, fC, Nat.reduceAdd])))
        go_ret
        refine ⟨by simp only [isIt, hx, Bool.false_and, Bool.and_false, q0]; rfl, hS.drop⟩
      · have d1 : decide (x2 < 0) = false := by simpa using h1
        by_cases h2 : 1152921504606846976 < x2
        · have hx := inH_high h2
          go_wp2_with (first | ((with_reducible apply wl_ld1 hS); (with_reducible rfl); rfl; rfl; decide +kernel; (first | (focus((repeat(first|exact Cell.here rfl | apply Cell.there)); done)) | assumption); (simp only [Act.put, fA, fB, fC, Nat.reduceAdd])))
          go_ret
          refine ⟨by simp only [isIt, hx, Bool.false_and, Bool.and_false, q0]; rfl, hS.drop⟩
        · have d2 : decide (1152921504606846976 < x2) = false := by simpa using h2
          have hx : inH x2 = true := inH_true.2 ⟨by omega, by omega⟩
          clear h1 h2
          go_wp2_with (first | ((with_reducible apply wl_ld1 hS); (with_reducible rfl); rfl; rfl; decide +kernel; (first | (focus((repeat(first|exact Cell.here rfl | apply Cell.there)); done)) | assumption); (simp only [Act.put, fA, fB, fC, Nat.reduceAdd])))
          go_roundw
          case rel => exact ⟨hS, .inr (.inr (.inr (.inl ⟨rfl, q0, q1, hx⟩)))⟩
          case measure => simp [intOf]
    · skip
      by_cases h1 : x3 < 0
      · have hx := inH_low h1
        go_wp2_with (first | ((with_reducible apply wl_ld1 hS); (with_reducible rfl); rfl; rfl; decide +kernel; (first | (focus((repeat(first|exact Cell.here rfl | apply Cell.there)); done)) | assumption); (simp only [Act.put, fA, fB, fC, Nat.reduceAdd])))
        go_ret
        refine ⟨by simp only [isIt, hx, Bool.false_and, Bool.and_false, q0]; rfl, hS.drop⟩
      · have d1 : decide (x3 < 0) = false := by simpa using h1
        by_cases h2 : 1152921504606846976 < x3
        · have hx := inH_high h2
          go_wp2_with (first | ((with_reducible apply wl_ld1 hS); (with_reducible rfl); rfl; rfl; decide +kernel; (first | (focus((repeat(first|exact Cell.here rfl | apply Cell.there)); done)) | assumption); (simp only [Act.put, fA, fB, fC, Nat.reduceAdd])))
          go_ret
          refine ⟨by simp only [isIt, hx, Bool.false_and, Bool.and_false, q0]; rfl, hS.drop⟩
        · have d2 : decide (1152921504606846976 < x3) = false := by simpa using h2
          have hx : inH x3 = true := inH_true.2 ⟨by omega, by omega⟩
          clear h1 h2
          go_wp2_with (first | ((with_reducible apply wl_ld1 hS); (with_reducible rfl); rfl; rfl; decide +kernel; (first | (focus((repeat(first|exact Cell.here rfl | apply Cell.there)); done)) | assumption); (simp only [Act.put, fA, fB, fC, Nat.reduceAdd])))
          go_roundw
          case rel => exact ⟨hS, .inr (.inr (.inr (.inr ⟨rfl, q0, q1, q2, hx⟩)))⟩
          case measure => simp [intOf]
    · go_wp2_with (fail)
      go_ret
      refine ⟨by simp only [isIt, q0, q1, q2, q3]; rfl, hS.drop⟩
theorem is8_at (x0 x1 x2 x3 : Int) (W w : World) (R : List HP) (hS : St W R w) :
    Calls Tryz.prog 62 #[.agg #[.int .i64 x0, .int .i64 x1, .int .i64 x2, .int .i64 x3]] w fun e w' => e = .returned (.bool (isIt ⟨x0, x1, x2, x3⟩)) ∧ St W R w' := is8 ⟨x0, x1, x2, x3⟩ W w R hS
set_option maxRecDepth 100000 in
set_option maxHeartbeats 4000000 in
theorem less8 (x0 x1 x2 x3 y0 y1 y2 y3 : Int) (W w : World) (R : List HP) (hS : St W R w) :
    Calls Tryz.prog 95 #[.agg #[.int .i64 x0, .int .i64 x1, .int .i64 x2, .int .i64 x3], .agg #[.int .i64 y0, .int .i64 y1, .int .i64 y2, .int .i64 y3]] w fun e w' => e = .returned (.bool (lessIt ⟨x0, x1, x2, x3⟩ ⟨y0, y1, y2, y3⟩)) ∧ St W R w' := by
  go_enter Tryz.func95, Tryz.ntmps95
  go_wp2_with (first | ((fail_if_success (have := bA)); (with_reducible apply wl_box hS); (with_reducible rfl); rfl; rfl; rfl; clear hS; intro bA w hS; (simp only [Act.put, fA, fB, fC, Nat.reduceAdd])) | ((have := bA); (with_reducible apply wl_box hS); (with_reducible rfl); rfl; rfl; rfl; clear hS; intro bB w hS; (simp only [Act.put, fA, fB, fC, Nat.reduceAdd])))
  go_loopw [5] (fun v wr => LsR W (blk bB [.int .i64 y0, .int .i64 y1, .int .i64 y2, .int .i64 y3] 39 :: blk bA [.int .i64 x0, .int .i64 x1, .int .i64 x2, .int .i64 x3] 39 :: R) ⟨x0, x1, x2, x3⟩ ⟨y0, y1, y2, y3⟩ v wr) (fun v _ => 4 - (intOf v).toNat)
  case atStart => exact ⟨hS, .inl rfl⟩
  case round =>
    clear hS
    obtain ⟨hS, hk⟩ := hrel
    simp only at hk
    rcases hk with rfl | ⟨rfl, q0⟩ | ⟨rfl, q0, q1⟩ | ⟨rfl, q0, q1, q2⟩ | ⟨rfl, q0, q1, q2, q3⟩
    · skip
      by_cases h1 : x0 < y0
      · have hx : decide (x0 < y0) = true := by simpa using h1
        go_wp2_with (fail)
        refine wp_region_reads (by kernel_rfl) (by kernel_rfl) hS ?_
        iterate 2 (refine wq_pure rfl rfl ?_; intro K hK; go_big_quiet_op; go_big_quiet_on)
        (apply wq_ld1; (with_reducible rfl); rfl; rfl; decide +kernel; (first | (focus((repeat(first|exact Cell.here rfl | apply Cell.there)); done)) | assumption); (simp only [Act.put, fA, fB, fC, Nat.reduceAdd]))
        iterate 2 (refine wq_pure rfl rfl ?_; intro K hK; go_big_quiet_op; go_big_quiet_on)
        (apply wq_ld1; (with_reducible rfl); rfl; rfl; decide +kernel; (first | (focus((repeat(first|exact Cell.here rfl | apply Cell.there)); done)) | assumption); (simp only [Act.put, fA, fB, fC, Nat.reduceAdd]))
        (refine wq_pure rfl rfl ?_; intro K hK; go_big_quiet_op; go_big_quiet_on)
        clear hS
        intro w hS
        go_wp2_with (fail)
        go_ret
        refine ⟨by simp only [lessIt, hx, Bool.true_or, Bool.or_true]; rfl, hS.drop.drop⟩
      · have hx : decide (x0 < y0) = false := by simpa using h1
        clear h1
        go_wp2_with (fail)
        refine wp_region_reads (by kernel_rfl) (by kernel_rfl) hS ?_
        iterate 2 (refine wq_pure rfl rfl ?_; intro K hK; go_big_quiet_op; go_big_quiet_on)
        (apply wq_ld1; (with_reducible rfl); rfl; rfl; decide +kernel; (first | (focus((repeat(first|exact Cell.here rfl | apply Cell.there)); done)) | assumption); (simp only [Act.put, fA, fB, fC, Nat.reduceAdd]))
        iterate 2 (refine wq_pure rfl rfl ?_; intro K hK; go_big_quiet_op; go_big_quiet_on)
        (apply wq_ld1; (with_reducible rfl); rfl; rfl; decide +kernel; (first | (focus((repeat(first|exact Cell.here rfl | apply Cell.there)); done)) | assumption); (simp only [Act.put, fA, fB, fC, Nat.reduceAdd]))
        (refine wq_pure rfl rfl ?_; intro K hK; go_big_quiet_op; go_big_quiet_on)
        clear hS
        intro w hS
        go_wp2_with (fail)
        go_roundw
        case rel => exact ⟨hS, .inr (.inl ⟨rfl, hx⟩)⟩
        case measure => simp [intOf]
    · skip
      by_cases h1 : x1 < y1
      · have hx : decide (x1 < y1) = true := by simpa using h1
        go_wp2_with (fail)
        refine wp_region_reads (by kernel_rfl) (by kernel_rfl) hS ?_
        iterate 2 (refine wq_pure rfl rfl ?_; intro K hK; go_big_quiet_op; go_big_quiet_on)
        (apply wq_ld1; (with_reducible rfl); rfl; rfl; decide +kernel; (first | (focus((repeat(first|exact Cell.here rfl | apply Cell.there)); done)) | assumption); (simp only [Act.put, fA, fB, fC, Nat.reduceAdd]))
        iterate 2 (refine wq_pure rfl rfl ?_; intro K hK; go_big_quiet_op; go_big_quiet_on)
        (apply wq_ld1; (with_reducible rfl); rfl; rfl; decide +kernel; (first | (focus((repeat(first|exact Cell.here rfl | apply Cell.there)); done)) | assumption); (simp only [Act.put, fA, fB, fC, Nat.reduceAdd]))
        (refine wq_pure rfl rfl ?_; intro K hK; go_big_quiet_op; go_big_quiet_on)
        clear hS
        intro w hS
        go_wp2_with (fail)
        go_ret
        refine ⟨by simp only [lessIt, hx, Bool.true_or, Bool.or_true]; rfl, hS.drop.drop⟩
      · have hx : decide (x1 < y1) = false := by simpa using h1
        clear h1
        go_wp2_with (fail)
        refine wp_region_reads (by kernel_rfl) (by kernel_rfl) hS ?_
        iterate 2 (refine wq_pure rfl rfl ?_; intro K hK; go_big_quiet_op; go_big_quiet_on)
        (apply wq_ld1; (with_reducible rfl); rfl; rfl; decide +kernel; (first | (focus((repeat(first|exact Cell.here rfl | apply Cell.there)); done)) | assumption); (simp only [Act.put, fA, fB, fC, Nat.reduceAdd]))
        iterate 2 (refine wq_pure rfl rfl ?_; intro K hK; go_big_quiet_op; go_big_quiet_on)
        (apply wq_ld1; (with_reducible rfl); rfl; rfl; decide +kernel; (first | (focus((repeat(first|exact Cell.here rfl | apply Cell.there)); done)) | assumption); (simp only [Act.put, fA, fB, fC, Nat.reduceAdd]))
        (refine wq_pure rfl rfl ?_; intro K hK; go_big_quiet_op; go_big_quiet_on)
        clear hS
        intro w hS
        go_wp2_with (fail)
        go_roundw
        case rel => exact ⟨hS, .inr (.inr (.inl ⟨rfl, q0, hx⟩))⟩
        case measure => simp [intOf]
    · skip
      by_cases h1 : x2 < y2
      · have hx : decide (x2 < y2) = true := by simpa using h1
        go_wp2_with (fail)
        refine wp_region_reads (by kernel_rfl) (by kernel_rfl) hS ?_
        iterate 2 (refine wq_pure rfl rfl ?_; intro K hK; go_big_quiet_op; go_big_quiet_on)
        (apply wq_ld1; (with_reducible rfl); rfl; rfl; decide +kernel; (first | (focus((repeat(first|exact Cell.here rfl | apply Cell.there)); done)) | assumption); (simp only [Act.put, fA, fB, fC, Nat.reduceAdd]))
        iterate 2 (refine wq_pure rfl rfl ?_; intro K hK; go_big_quiet_op; go_big_quiet_on)
        (apply wq_ld1; (with_reducible rfl); rfl; rfl; decide +kernel; (first | (focus((repeat(first|exact Cell.here rfl | apply Cell.there)); done)) | assumption); (simp only [Act.put, fA, fB, fC, Nat.reduceAdd]))
        (refine wq_pure rfl rfl ?_; intro K hK; go_big_quiet_op; go_big_quiet_on)
        clear hS
        intro w hS
        go_wp2_with (fail)
        go_ret
        refine ⟨by simp only [lessIt, hx, Bool.true_or, Bool.or_true]; rfl, hS.drop.drop⟩
      · have hx : decide (x2 < y2) = false := by simpa using h1
        clear h1
        go_wp2_with (fail)
        refine wp_region_reads (by kernel_rfl) (by kernel_rfl) hS ?_
        iterate 2 (refine wq_pure rfl rfl ?_; intro K hK; go_big_quiet_op; go_big_quiet_on)
        (apply wq_ld1; (with_reducible rfl); rfl; rfl; decide +kernel; (first | (focus((repeat(first|exact Cell.here rfl | apply Cell.there)); done)) | assumption); (simp only [Act.put, fA, fB, fC, Nat.reduceAdd]))
        iterate 2 (refine wq_pure rfl rfl ?_; intro K hK; go_big_quiet_op; go_big_quiet_on)
        (apply wq_ld1; (with_reducible rfl); rfl; rfl; decide +kernel; (first | (focus((repeat(first|exact Cell.here rfl | apply Cell.there)); done)) | assumption); (simp only [Act.put, fA, fB, fC, Nat.reduceAdd]))
        (refine wq_pure rfl rfl ?_; intro K hK; go_big_quiet_op; go_big_quiet_on)
        clear hS
        intro w hS
        go_wp2_with (fail)
        go_roundw
        case rel => exact ⟨hS, .inr (.inr (.inr (.inl ⟨rfl, q0, q1, hx⟩)))⟩
        case measure => simp [intOf]
    · skip
      by_cases h1 : x3 < y3
      · have hx : decide (x3 < y3) = true := by simpa using h1
        go_wp2_with (fail)
        refine wp_region_reads (by kernel_rfl) (by kernel_rfl) hS ?_
        iterate 2 (refine wq_pure rfl rfl ?_; intro K hK; go_big_quiet_op; go_big_quiet_on)
        (apply wq_ld1; (with_reducible rfl); rfl; rfl; decide +kernel; (first | (focus((repeat(first|exact Cell.here rfl | apply Cell.there)); done)) | assumption); (simp only [Act.put, fA, fB, fC, Nat.reduceAdd]))
        iterate 2 (refine wq_pure rfl rfl ?_; intro K hK; go_big_quiet_op; go_big_quiet_on)
        (apply wq_ld1; (with_reducible rfl); rfl; rfl; decide +kernel; (first | (focus((repeat(first|exact Cell.here rfl | apply Cell.there)); done)) | assumption); (simp only [Act.put, fA, fB, fC, Nat.reduceAdd]))
        (refine wq_pure rfl rfl ?_; intro K hK; go_big_quiet_op; go_big_quiet_on)
        clear hS
        intro w hS
        go_wp2_with (fail)
        go_ret
        refine ⟨by simp only [lessIt, hx, Bool.true_or, Bool.or_true]; rfl, hS.drop.drop⟩
      · have hx : decide (x3 < y3) = false := by simpa using h1
        clear h1
        go_wp2_with (fail)
        refine wp_region_reads (by kernel_rfl) (by kernel_rfl) hS ?_
        iterate 2 (refine wq_pure rfl rfl ?_; intro K hK; go_big_quiet_op; go_big_quiet_on)
        (apply wq_ld1; (with_reducible rfl); rfl; rfl; decide +kernel; (first | (focus((repeat(first|exact Cell.here rfl | apply Cell.there)); done)) | assumption); (simp only [Act.put, fA, fB, fC, Nat.reduceAdd]))
        iterate 2 (refine wq_pure rfl rfl ?_; intro K hK; go_big_quiet_op; go_big_quiet_on)
        (apply wq_ld1; (with_reducible rfl); rfl; rfl; decide +kernel; (first | (focus((repeat(first|exact Cell.here rfl | apply Cell.there)); done)) | assumption); (simp only [Act.put, fA, fB, fC, Nat.reduceAdd]))
        (refine wq_pure rfl rfl ?_; intro K hK; go_big_quiet_op; go_big_quiet_on)
        clear hS
        intro w hS
        go_wp2_with (fail)
        go_roundw
        case rel => exact ⟨hS, .inr (.inr (.inr (.inr ⟨rfl, q0, q1, q2, hx⟩)))⟩
        case measure => simp [intOf]
    · go_wp2_with (fail)
      go_ret
      refine ⟨by simp only [lessIt, q0, q1, q2, q3]; rfl, hS.drop.drop⟩
set_option maxRecDepth 100000 in
set_option maxHeartbeats 4000000 in
theorem sub8 (i j : It) (W w : World) (R : List HP) (hS : St W R w) :
    Calls Tryz.prog 66 #[.agg i.cells.toArray, .agg j.cells.toArray] w fun e w' => e = .returned (.tuple #[.agg (subF i j).cells.toArray, .bool (subOk i j)]) ∧ St W R w' := by
  obtain ⟨x0, x1, x2, x3⟩ := i
  obtain ⟨y0, y1, y2, y3⟩ := j
  cases hi : isIt ⟨x0, x1, x2, x3⟩ with
  | false =>
    have e : subOk ⟨x0, x1, x2, x3⟩ ⟨y0, y1, y2, y3⟩ = false := by unfold subOk; rw [hi]; rfl
    unfold subF
    rw [e]
    simp only [It.cells]
    go_enter Tryz.func66, Tryz.ntmps66
    go_wp2_with (first | go_big_skip | (go_at_call 62; refine (is8_at _ _ _ _ W _ _ hS).mono ?_; clear hS; (try rw [hi]); (try rw [hj]); rintro e w ⟨rfl, hS⟩) | ((fail_if_success (have := bA)); (with_reducible apply wl_box hS); (with_reducible rfl); rfl; rfl; rfl; clear hS; intro bA w hS; (simp only [Act.put, fA, fB, fC, Nat.reduceAdd])) | ((have := bA); (with_reducible apply wl_box hS); (with_reducible rfl); rfl; rfl; rfl; clear hS; intro bB w hS; (simp only [Act.put, fA, fB, fC, Nat.reduceAdd])) | ((with_reducible apply wl_ldN hS); (with_reducible rfl); rfl; rfl; decide +kernel; (first | (focus((repeat(first|exact Cells.whole | apply Cells.there)); done)) | assumption); kernel_rfl; (simp only [Act.put, fA, fB, fC, Nat.reduceAdd])) | ((with_reducible apply wl_stN hS); (with_reducible rfl); rfl; rfl; (focus ((conv => lhs; whnf); try rfl)); kernel_rfl; rfl; ((focus((repeat(first|exact Upd.head | apply Upd.tail)); done))); (simp only [List.length_cons, List.length_nil]; omega); ((simp only [List.set_cons_zero, List.set_cons_succ, setAll]); rfl); clear hS; intro w hS; try (simp only [Act.put, fA, fB, fC, Nat.reduceAdd])) | ((with_reducible apply wl_alloc hS); (with_reducible rfl); rfl; (exact Ty.z39); clear hS; intro b w hS; (simp only [Act.put, fA, fB, fC, Nat.reduceAdd])))
    (apply bp_cell_tmp; rfl; rfl; rfl; rfl; exact hS; decide +kernel; (first | (focus((repeat(first|exact Cells.whole | apply Cells.there)); done)) | assumption); kernel_rfl)
    exact ⟨rfl, hS.drop.drop.drop⟩
  | true =>
    cases hj : isIt ⟨y0, y1, y2, y3⟩ with
    | false =>
      have e : subOk ⟨x0, x1, x2, x3⟩ ⟨y0, y1, y2, y3⟩ = false := by unfold subOk; rw [hi, hj]; rfl
      unfold subF
      rw [e]
      simp only [It.cells]
      go_enter Tryz.func66, Tryz.ntmps66
      go_wp2_with (first | go_big_skip | (go_at_call 62; refine (is8_at _ _ _ _ W _ _ hS).mono ?_; clear hS; (try rw [hi]); (try rw [hj]); rintro e w ⟨rfl, hS⟩) | ((fail_if_success (have := bA)); (with_reducible apply wl_box hS); (with_reducible rfl); rfl; rfl; rfl; clear hS; intro bA w hS; (simp only [Act.put, fA, fB, fC, Nat.reduceAdd])) | ((have := bA); (with_reducible apply wl_box hS); (with_reducible rfl); rfl; rfl; rfl; clear hS; intro bB w hS; (simp only [Act.put, fA, fB, fC, Nat.reduceAdd])) | ((with_reducible apply wl_ldN hS); (with_reducible rfl); rfl; rfl; decide +kernel; (first | (focus((repeat(first|exact Cells.whole | apply Cells.there)); done)) | assumption); kernel_rfl; (simp only [Act.put, fA, fB, fC, Nat.reduceAdd])) | ((with_reducible apply wl_stN hS); (with_reducible rfl); rfl; rfl; (focus ((conv => lhs; whnf); try rfl)); kernel_rfl; rfl; ((focus((repeat(first|exact Upd.head | apply Upd.tail)); done))); (simp only [List.length_cons, List.length_nil]; omega); ((simp only [List.set_cons_zero, List.set_cons_succ, setAll]); rfl); clear hS; intro w hS; try (simp only [Act.put, fA, fB, fC, Nat.reduceAdd])) | ((with_reducible apply wl_alloc hS); (with_reducible rfl); rfl; (exact Ty.z39); clear hS; intro b w hS; (simp only [Act.put, fA, fB, fC, Nat.reduceAdd])))
      (apply bp_cell_tmp; rfl; rfl; rfl; rfl; exact hS; decide +kernel; (first | (focus((repeat(first|exact Cells.whole | apply Cells.there)); done)) | assumption); kernel_rfl)
      exact ⟨rfl, hS.drop.drop.drop⟩
    | true =>
      cases hl : lessIt ⟨x0, x1, x2, x3⟩ ⟨y0, y1, y2, y3⟩ with
      | true =>
        have e : subOk ⟨x0, x1, x2, x3⟩ ⟨y0, y1, y2, y3⟩ = false := by unfold subOk; rw [hi, hj, hl]; rfl
        unfold subF
        rw [e]
        simp only [It.cells]
        go_enter Tryz.func66, Tryz.ntmps66
        go_wp2_with (first | (go_at_call 62; refine (is8_at _ _ _ _ W _ _ hS).mono ?_; clear hS; (try rw [hi]); (try rw [hj]); rintro e w ⟨rfl, hS⟩) | (go_at_call 95; refine (less8 _ _ _ _ _ _ _ _ W _ _ hS).mono ?_; clear hS; rw [hl]; rintro e w ⟨rfl, hS⟩) | ((fail_if_success (have := bA)); (with_reducible apply wl_box hS); (with_reducible rfl); rfl; rfl; rfl; clear hS; intro bA w hS; (simp only [Act.put, fA, fB, fC, Nat.reduceAdd])) | ((have := bA); (with_reducible apply wl_box hS); (with_reducible rfl); rfl; rfl; rfl; clear hS; intro bB w hS; (simp only [Act.put, fA, fB, fC, Nat.reduceAdd])) | ((with_reducible apply wl_ldN hS); (with_reducible rfl); rfl; rfl; decide +kernel; (first | (focus((repeat(first|exact Cells.whole | apply Cells.there)); done)) | assumption); kernel_rfl; (simp only [Act.put, fA, fB, fC, Nat.reduceAdd])) | ((with_reducible apply wl_stN hS); (with_reducible rfl); rfl; rfl; (focus ((conv => lhs; whnf); try rfl)); kernel_rfl; rfl; ((focus((repeat(first|exact Upd.head | apply Upd.tail)); done))); (simp only [List.length_cons, List.length_nil]; omega); ((simp only [List.set_cons_zero, List.set_cons_succ, setAll]); rfl); clear hS; intro w hS; try (simp only [Act.put, fA, fB, fC, Nat.reduceAdd])) | ((with_reducible apply wl_alloc hS); (with_reducible rfl); rfl; (exact Ty.z39); clear hS; intro b w hS; (simp only [Act.put, fA, fB, fC, Nat.reduceAdd])))
        (apply bp_cell_tmp; rfl; rfl; rfl; rfl; exact hS; decide +kernel; (first | (focus((repeat(first|exact Cells.whole | apply Cells.there)); done)) | assumption); kernel_rfl)
        exact ⟨rfl, hS.drop.drop.drop⟩
      | false =>
        have e : subOk ⟨x0, x1, x2, x3⟩ ⟨y0, y1, y2, y3⟩ = true := by unfold subOk; rw [hi, hj, hl]; rfl
        obtain ⟨a0, a1, a2, a3⟩ := isIt_true.1 hi
        obtain ⟨b0, b1, b2, b3⟩ := isIt_true.1 hj
        simp only at a0 a1 a2 a3 b0 b1 b2 b3
        unfold subF
        rw [e, if_pos rfl]
        simp only [It.cells]
        go_enter Tryz.func66, Tryz.ntmps66
        go_wp2_with (first | (go_at_call 62; refine (is8_at _ _ _ _ W _ _ hS).mono ?_; clear hS; (try rw [hi]); (try rw [hj]); rintro e w ⟨rfl, hS⟩) | (go_at_call 95; refine (less8 _ _ _ _ _ _ _ _ W _ _ hS).mono ?_; clear hS; rw [hl]; rintro e w ⟨rfl, hS⟩) | ((fail_if_success (have := bA)); (with_reducible apply wl_box hS); (with_reducible rfl); rfl; rfl; rfl; clear hS; intro bA w hS; (simp only [Act.put, fA, fB, fC, Nat.reduceAdd])) | ((have := bA); (with_reducible apply wl_box hS); (with_reducible rfl); rfl; rfl; rfl; clear hS; intro bB w hS; (simp only [Act.put, fA, fB, fC, Nat.reduceAdd])) | ((with_reducible apply wl_ldN hS); (with_reducible rfl); rfl; rfl; decide +kernel; (first | (focus((repeat(first|exact Cells.whole | apply Cells.there)); done)) | assumption); kernel_rfl; (simp only [Act.put, fA, fB, fC, Nat.reduceAdd])) | ((with_reducible apply wl_alloc hS); (with_reducible rfl); rfl; (exact Ty.z39); clear hS; intro b w hS; (simp only [Act.put, fA, fB, fC, Nat.reduceAdd])))
        go_loopw [6] (fun v wr => Sb4 W (fun q => [blk b [.int .i64 0, .int .i64 0, .int .i64 0, .int .i64 0] 39, blk bB [.int .i64 y0, .int .i64 y1, .int .i64 y2, .int .i64 y3] 39, blk bA [.int .i64 q.x0, .int .i64 q.x1, .int .i64 q.x2, .int .i64 q.x3] 39] ++ R) ⟨x0, x1, x2, x3⟩ ⟨y0, y1, y2, y3⟩ v wr) (fun v _ => 4 - (intOf v).toNat)
        case atStart => exact .inl ⟨rfl, hS⟩
        case round =>
          clear hS hi hj hl
          simp only [Sb4, subIt, List.cons_append, List.nil_append] at hrel
          rcases hrel with ⟨rfl, hS⟩ | ⟨rfl, hS⟩ | ⟨rfl, hS⟩ | ⟨rfl, hS⟩ | ⟨rfl, hS⟩
          · skip
            go_wp2_with (fail)
            refine wp_region_tail 9 (by kernel_rfl) (by kernel_rfl) hS ?_
            iterate 3 (refine wq_pure rfl rfl ?_; intro K hK; go_big_quiet_op; go_big_quiet_on)
            (apply wq_ld1; (with_reducible rfl); rfl; rfl; decide +kernel; (first | (focus((repeat(first|exact Cell.here rfl | apply Cell.there)); done)) | assumption); (simp only [Act.put, fA, fB, fC, Nat.reduceAdd]))
            iterate 2 (refine wq_pure rfl rfl ?_; intro K hK; go_big_quiet_op; go_big_quiet_on)
            (apply wq_ld1; (with_reducible rfl); rfl; rfl; decide +kernel; (first | (focus((repeat(first|exact Cell.here rfl | apply Cell.there)); done)) | assumption); (simp only [Act.put, fA, fB, fC, Nat.reduceAdd]))
            iterate 2 (refine wq_pure rfl rfl ?_; intro K hK; go_big_quiet_op; go_big_quiet_on)
            clear hS
            intro w hS
            simp only [List.drop_succ_cons, List.drop_zero]
            go_wp2_with (first | ((with_reducible apply wl_st1 hS); (with_reducible rfl); rfl; rfl; (focus ((conv => lhs; whnf); try rfl)); kernel_rfl; rfl; rfl; ((focus((repeat(first|exact Upd.head | apply Upd.tail)); done))); (simp only [List.length_cons, List.length_nil]; omega); ((simp only [List.set_cons_zero, List.set_cons_succ, setAll]); rfl); clear hS; intro w hS; try (simp only [Act.put, fA, fB, fC, Nat.reduceAdd])))
            go_roundw
            case rel => exact .inr (.inl ⟨rfl, hS⟩)
            case measure => simp [intOf]
          · skip
            go_wp2_with (fail)
            refine wp_region_tail 9 (by kernel_rfl) (by kernel_rfl) hS ?_
            iterate 3 (refine wq_pure rfl rfl ?_; intro K hK; go_big_quiet_op; go_big_quiet_on)
            (apply wq_ld1; (with_reducible rfl); rfl; rfl; decide +kernel; (first | (focus((repeat(first|exact Cell.here rfl | apply Cell.there)); done)) | assumption); (simp only [Act.put, fA, fB, fC, Nat.reduceAdd]))
            iterate 2 (refine wq_pure rfl rfl ?_; intro K hK; go_big_quiet_op; go_big_quiet_on)
            (apply wq_ld1; (with_reducible rfl); rfl; rfl; decide +kernel; (first | (focus((repeat(first|exact Cell.here rfl | apply Cell.there)); done)) | assumption); (simp only [Act.put, fA, fB, fC, Nat.reduceAdd]))
            iterate 2 (refine wq_pure rfl rfl ?_; intro K hK; go_big_quiet_op; go_big_quiet_on)
            clear hS
            intro w hS
            simp only [List.drop_succ_cons, List.drop_zero]
            go_wp2_with (first | ((with_reducible apply wl_st1 hS); (with_reducible rfl); rfl; rfl; (focus ((conv => lhs; whnf); try rfl)); kernel_rfl; rfl; rfl; ((focus((repeat(first|exact Upd.head | apply Upd.tail)); done))); (simp only [List.length_cons, List.length_nil]; omega); ((simp only [List.set_cons_zero, List.set_cons_succ, setAll]); rfl); clear hS; intro w hS; try (simp only [Act.put, fA, fB, fC, Nat.reduceAdd])))
            go_roundw
            case rel => exact .inr (.inr (.inl ⟨rfl, hS⟩))
            case measure => simp [intOf]
          · skip
            go_wp2_with (fail)
            refine wp_region_tail 9 (by kernel_rfl) (by kernel_rfl) hS ?_
            iterate 3 (refine wq_pure rfl rfl ?_; intro K hK; go_big_quiet_op; go_big_quiet_on)
            (apply wq_ld1; (with_reducible rfl); rfl; rfl; decide +kernel; (first | (focus((repeat(first|exact Cell.here rfl | apply Cell.there)); done)) | assumption); (simp only [Act.put, fA, fB, fC, Nat.reduceAdd]))
            iterate 2 (refine wq_pure rfl rfl ?_; intro K hK; go_big_quiet_op; go_big_quiet_on)
            (apply wq_ld1; (with_reducible rfl); rfl; rfl; decide +kernel; (first | (focus((repeat(first|exact Cell.here rfl | apply Cell.there)); done)) | assumption); (simp only [Act.put, fA, fB, fC, Nat.reduceAdd]))
            iterate 2 (refine wq_pure rfl rfl ?_; intro K hK; go_big_quiet_op; go_big_quiet_on)
            clear hS
            intro w hS
            simp only [List.drop_succ_cons, List.drop_zero]
            go_wp2_with (first | ((with_reducible apply wl_st1 hS); (with_reducible rfl); rfl; rfl; (focus ((conv => lhs; whnf); try rfl)); kernel_rfl; rfl; rfl; ((focus((repeat(first|exact Upd.head | apply Upd.tail)); done))); (simp only [List.length_cons, List.length_nil]; omega); ((simp only [List.set_cons_zero, List.set_cons_succ, setAll]); rfl); clear hS; intro w hS; try (simp only [Act.put, fA, fB, fC, Nat.reduceAdd])))
            go_roundw
            case rel => exact .inr (.inr (.inr (.inl ⟨rfl, hS⟩)))
            case measure => simp [intOf]
          · skip
            go_wp2_with (fail)
            refine wp_region_tail 9 (by kernel_rfl) (by kernel_rfl) hS ?_
            iterate 3 (refine wq_pure rfl rfl ?_; intro K hK; go_big_quiet_op; go_big_quiet_on)
            (apply wq_ld1; (with_reducible rfl); rfl; rfl; decide +kernel; (first | (focus((repeat(first|exact Cell.here rfl | apply Cell.there)); done)) | assumption); (simp only [Act.put, fA, fB, fC, Nat.reduceAdd]))
            iterate 2 (refine wq_pure rfl rfl ?_; intro K hK; go_big_quiet_op; go_big_quiet_on)
            (apply wq_ld1; (with_reducible rfl); rfl; rfl; decide +kernel; (first | (focus((repeat(first|exact Cell.here rfl | apply Cell.there)); done)) | assumption); (simp only [Act.put, fA, fB, fC, Nat.reduceAdd]))
            iterate 2 (refine wq_pure rfl rfl ?_; intro K hK; go_big_quiet_op; go_big_quiet_on)
            clear hS
            intro w hS
            simp only [List.drop_succ_cons, List.drop_zero]
            go_wp2_with (first | ((with_reducible apply wl_st1 hS); (with_reducible rfl); rfl; rfl; (focus ((conv => lhs; whnf); try rfl)); kernel_rfl; rfl; rfl; ((focus((repeat(first|exact Upd.head | apply Upd.tail)); done))); (simp only [List.length_cons, List.length_nil]; omega); ((simp only [List.set_cons_zero, List.set_cons_succ, setAll]); rfl); clear hS; intro w hS; try (simp only [Act.put, fA, fB, fC, Nat.reduceAdd])))
            go_roundw
            case rel => exact .inr (.inr (.inr (.inr ⟨rfl, hS⟩)))
            case measure => simp [intOf]
          · go_wp2_with (first | ((with_reducible apply wl_ldN hS); (with_reducible rfl); rfl; rfl; decide +kernel; (first | (focus((repeat(first|exact Cells.whole | apply Cells.there)); done)) | assumption); kernel_rfl; (simp only [Act.put, fA, fB, fC, Nat.reduceAdd])) | ((with_reducible apply wl_stN hS); (with_reducible rfl); rfl; rfl; (focus ((conv => lhs; whnf); try rfl)); kernel_rfl; rfl; ((focus((repeat(first|exact Upd.head | apply Upd.tail)); done))); (simp only [List.length_cons, List.length_nil]; omega); ((simp only [List.set_cons_zero, List.set_cons_succ, setAll]); rfl); clear hS; intro w hS; try (simp only [Act.put, fA, fB, fC, Nat.reduceAdd])))
            (apply bp_cell_tmp; rfl; rfl; rfl; rfl; exact hS; decide +kernel; (first | (focus((repeat(first|exact Cells.whole | apply Cells.there)); done)) | assumption); kernel_rfl)
            exact ⟨rfl, hS.drop.drop.drop⟩
set_option maxRecDepth 100000 in
set_option maxHeartbeats 1000000 in
theorem holds8 (o : Ord) (hm : MayP o) (W w : World) (R : List HP) (hS : St W R w) :
    Calls Tryz.prog 56 #[.agg o.cells.toArray] w fun e w' => e = .returned (.agg (holdsF o).cells.toArray) ∧ St W R w' := by
  have h1 := hm.item0
  have h2 := hm.item1
  have h3 := mul_in (by have := hm.cnt0; omega) hm.cnt1 (by have := hm.price0; omega) hm.price1
  obtain ⟨i, u, y, t, c, pr⟩ := o
  simp only at h1 h2 h3
  clear hm
  cases y with
  | true =>
    have e : holdsF ⟨i, u, true, t, c, pr⟩ = ⟨c * pr, 0, 0, 0⟩ := rfl
    rw [e]
    simp only [Ord.cells, It.cells]
    have h4 : c * pr ≤ 9223372036854775807 := by omega
    have h5 : -9223372036854775808 ≤ c * pr := by omega
    clear e h1 h2
    go_enter Tryz.func56, Tryz.ntmps56
    go_wp2_with (first | ((with_reducible apply wl_ld1 hS); (with_reducible rfl); rfl; rfl; decide +kernel; (first | (focus((repeat(first|exact Cell.here rfl | apply Cell.there)); done)) | assumption); (simp only [Act.put, fA, fB, fC, Nat.reduceAdd])) | ((with_reducible apply wl_ldN hS); (with_reducible rfl); rfl; rfl; decide +kernel; (first | (focus((repeat(first|exact Cells.whole | apply Cells.there)); done)) | assumption); kernel_rfl; (simp only [Act.put, fA, fB, fC, Nat.reduceAdd])) | ((with_reducible apply wl_st1 hS); (with_reducible rfl); rfl; rfl; (focus ((conv => lhs; whnf); try rfl)); kernel_rfl; rfl; rfl; ((focus((repeat(first|exact Upd.head | apply Upd.tail)); done))); (simp only [List.length_cons, List.length_nil]; omega); ((simp only [List.set_cons_zero, List.set_cons_succ, setAll]); rfl); clear hS; intro w hS; try (simp only [Act.put, fA, fB, fC, Nat.reduceAdd])) | ((with_reducible apply wl_stN hS); (with_reducible rfl); rfl; rfl; (focus ((conv => lhs; whnf); try rfl)); kernel_rfl; rfl; ((focus((repeat(first|exact Upd.head | apply Upd.tail)); done))); (simp only [List.length_cons, List.length_nil]; omega); ((simp only [List.set_cons_zero, List.set_cons_succ, setAll]); rfl); clear hS; intro w hS; try (simp only [Act.put, fA, fB, fC, Nat.reduceAdd])) | ((with_reducible apply wl_box hS); (with_reducible rfl); rfl; rfl; rfl; clear hS; intro b w hS; (simp only [Act.put, fA, fB, fC, Nat.reduceAdd])) | ((with_reducible apply wl_alloc hS); (with_reducible rfl); rfl; (exact Ty.z39); clear hS; intro b w hS; (simp only [Act.put, fA, fB, fC, Nat.reduceAdd])))
    (apply bp_cell; rfl; rfl; rfl; exact hS; decide +kernel; (first | (focus((repeat(first|exact Cells.whole | apply Cells.there)); done)) | assumption); kernel_rfl)
    exact ⟨rfl, hS.sel (by (repeat' (first | (with_reducible first | exact Sel.done Suf.refl | exact Sel.done (Suf.tail Suf.refl) | exact Sel.done (Suf.tail (Suf.tail Suf.refl)) | exact Sel.done (Suf.tail (Suf.tail (Suf.tail Suf.refl))) | (apply Sel.done; (focus((repeat(first|exact Suf.refl | apply Suf.tail)); done)))) | (refine Sel.cons (by with_reducible (focus((repeat(first|exact .head|apply Take.tail));done))) ?_))))⟩
  | false =>
    have ht : t = 1 ∨ t = 2 ∨ t = 3 := by omega
    rcases ht with rfl | rfl | rfl
    · have e : holdsF ⟨i, u, false, 1, c, pr⟩ = ⟨0, c, 0, 0⟩ := rfl
      rw [e]
      simp only [Ord.cells, It.cells]
      clear e h1 h2 h3
      go_enter Tryz.func56, Tryz.ntmps56
      go_wp2_with (first | ((with_reducible apply wl_ld1 hS); (with_reducible rfl); rfl; rfl; decide +kernel; (first | (focus((repeat(first|exact Cell.here rfl | apply Cell.there)); done)) | assumption); (simp only [Act.put, fA, fB, fC, Nat.reduceAdd])) | ((with_reducible apply wl_ldN hS); (with_reducible rfl); rfl; rfl; decide +kernel; (first | (focus((repeat(first|exact Cells.whole | apply Cells.there)); done)) | assumption); kernel_rfl; (simp only [Act.put, fA, fB, fC, Nat.reduceAdd])) | ((with_reducible apply wl_st1 hS); (with_reducible rfl); rfl; rfl; (focus ((conv => lhs; whnf); try rfl)); kernel_rfl; rfl; rfl; ((focus((repeat(first|exact Upd.head | apply Upd.tail)); done))); (simp only [List.length_cons, List.length_nil]; omega); ((simp only [List.set_cons_zero, List.set_cons_succ, setAll]); rfl); clear hS; intro w hS; try (simp only [Act.put, fA, fB, fC, Nat.reduceAdd])) | ((with_reducible apply wl_stN hS); (with_reducible rfl); rfl; rfl; (focus ((conv => lhs; whnf); try rfl)); kernel_rfl; rfl; ((focus((repeat(first|exact Upd.head | apply Upd.tail)); done))); (simp only [List.length_cons, List.length_nil]; omega); ((simp only [List.set_cons_zero, List.set_cons_succ, setAll]); rfl); clear hS; intro w hS; try (simp only [Act.put, fA, fB, fC, Nat.reduceAdd])) | ((with_reducible apply wl_box hS); (with_reducible rfl); rfl; rfl; rfl; clear hS; intro b w hS; (simp only [Act.put, fA, fB, fC, Nat.reduceAdd])) | ((with_reducible apply wl_alloc hS); (with_reducible rfl); rfl; (exact Ty.z39); clear hS; intro b w hS; (simp only [Act.put, fA, fB, fC, Nat.reduceAdd])))
      (apply bp_cell; rfl; rfl; rfl; exact hS; decide +kernel; (first | (focus((repeat(first|exact Cells.whole | apply Cells.there)); done)) | assumption); kernel_rfl)
      exact ⟨rfl, hS.sel (by (repeat' (first | (with_reducible first | exact Sel.done Suf.refl | exact Sel.done (Suf.tail Suf.refl) | exact Sel.done (Suf.tail (Suf.tail Suf.refl)) | exact Sel.done (Suf.tail (Suf.tail (Suf.tail Suf.refl))) | (apply Sel.done; (focus((repeat(first|exact Suf.refl | apply Suf.tail)); done)))) | (refine Sel.cons (by with_reducible (focus((repeat(first|exact .head|apply Take.tail));done))) ?_))))⟩
    · have e : holdsF ⟨i, u, false, 2, c, pr⟩ = ⟨0, 0, c, 0⟩ := rfl
      rw [e]
      simp only [Ord.cells, It.cells]
      clear e h1 h2 h3
      go_enter Tryz.func56, Tryz.ntmps56
      go_wp2_with (first | ((with_reducible apply wl_ld1 hS); (with_reducible rfl); rfl; rfl; decide +kernel; (first | (focus((repeat(first|exact Cell.here rfl | apply Cell.there)); done)) | assumption); (simp only [Act.put, fA, fB, fC, Nat.reduceAdd])) | ((with_reducible apply wl_ldN hS); (with_reducible rfl); rfl; rfl; decide +kernel; (first | (focus((repeat(first|exact Cells.whole | apply Cells.there)); done)) | assumption); kernel_rfl; (simp only [Act.put, fA, fB, fC, Nat.reduceAdd])) | ((with_reducible apply wl_st1 hS); (with_reducible rfl); rfl; rfl; (focus ((conv => lhs; whnf); try rfl)); kernel_rfl; rfl; rfl; ((focus((repeat(first|exact Upd.head | apply Upd.tail)); done))); (simp only [List.length_cons, List.length_nil]; omega); ((simp only [List.set_cons_zero, List.set_cons_succ, setAll]); rfl); clear hS; intro w hS; try (simp only [Act.put, fA, fB, fC, Nat.reduceAdd])) | ((with_reducible apply wl_stN hS); (with_reducible rfl); rfl; rfl; (focus ((conv => lhs; whnf); try rfl)); kernel_rfl; rfl; ((focus((repeat(first|exact Upd.head | apply Upd.tail)); done))); (simp only [List.length_cons, List.length_nil]; omega); ((simp only [List.set_cons_zero, List.set_cons_succ, setAll]); rfl); clear hS; intro w hS; try (simp only [Act.put, fA, fB, fC, Nat.reduceAdd])) | ((with_reducible apply wl_box hS); (with_reducible rfl); rfl; rfl; rfl; clear hS; intro b w hS; (simp only [Act.put, fA, fB, fC, Nat.reduceAdd])) | ((with_reducible apply wl_alloc hS); (with_reducible rfl); rfl; (exact Ty.z39); clear hS; intro b w hS; (simp only [Act.put, fA, fB, fC, Nat.reduceAdd])))
      (apply bp_cell; rfl; rfl; rfl; exact hS; decide +kernel; (first | (focus((repeat(first|exact Cells.whole | apply Cells.there)); done)) | assumption); kernel_rfl)
      exact ⟨rfl, hS.sel (by (repeat' (first | (with_reducible first | exact Sel.done Suf.refl | exact Sel.done (Suf.tail Suf.refl) | exact Sel.done (Suf.tail (Suf.tail Suf.refl)) | exact Sel.done (Suf.tail (Suf.tail (Suf.tail Suf.refl))) | (apply Sel.done; (focus((repeat(first|exact Suf.refl | apply Suf.tail)); done)))) | (refine Sel.cons (by with_reducible (focus((repeat(first|exact .head|apply Take.tail));done))) ?_))))⟩
    · have e : holdsF ⟨i, u, false, 3, c, pr⟩ = ⟨0, 0, 0, c⟩ := rfl
      rw [e]
      simp only [Ord.cells, It.cells]
      clear e h1 h2 h3
      go_enter Tryz.func56, Tryz.ntmps56
      go_wp2_with (first | ((with_reducible apply wl_ld1 hS); (with_reducible rfl); rfl; rfl; decide +kernel; (first | (focus((repeat(first|exact Cell.here rfl | apply Cell.there)); done)) | assumption); (simp only [Act.put, fA, fB, fC, Nat.reduceAdd])) | ((with_reducible apply wl_ldN hS); (with_reducible rfl); rfl; rfl; decide +kernel; (first | (focus((repeat(first|exact Cells.whole | apply Cells.there)); done)) | assumption); kernel_rfl; (simp only [Act.put, fA, fB, fC, Nat.reduceAdd])) | ((with_reducible apply wl_st1 hS); (with_reducible rfl); rfl; rfl; (focus ((conv => lhs; whnf); try rfl)); kernel_rfl; rfl; rfl; ((focus((repeat(first|exact Upd.head | apply Upd.tail)); done))); (simp only [List.length_cons, List.length_nil]; omega); ((simp only [List.set_cons_zero, List.set_cons_succ, setAll]); rfl); clear hS; intro w hS; try (simp only [Act.put, fA, fB, fC, Nat.reduceAdd])) | ((with_reducible apply wl_stN hS); (with_reducible rfl); rfl; rfl; (focus ((conv => lhs; whnf); try rfl)); kernel_rfl; rfl; ((focus((repeat(first|exact Upd.head | apply Upd.tail)); done))); (simp only [List.length_cons, List.length_nil]; omega); ((simp only [List.set_cons_zero, List.set_cons_succ, setAll]); rfl); clear hS; intro w hS; try (simp only [Act.put, fA, fB, fC, Nat.reduceAdd])) | ((with_reducible apply wl_box hS); (with_reducible rfl); rfl; rfl; rfl; clear hS; intro b w hS; (simp only [Act.put, fA, fB, fC, Nat.reduceAdd])) | ((with_reducible apply wl_alloc hS); (with_reducible rfl); rfl; (exact Ty.z39); clear hS; intro b w hS; (simp only [Act.put, fA, fB, fC, Nat.reduceAdd])))
      (apply bp_cell; rfl; rfl; rfl; exact hS; decide +kernel; (first | (focus((repeat(first|exact Cells.whole | apply Cells.there)); done)) | assumption); kernel_rfl)
      exact ⟨rfl, hS.sel (by (repeat' (first | (with_reducible first | exact Sel.done Suf.refl | exact Sel.done (Suf.tail Suf.refl) | exact Sel.done (Suf.tail (Suf.tail Suf.refl)) | exact Sel.done (Suf.tail (Suf.tail (Suf.tail Suf.refl))) | (apply Sel.done; (focus((repeat(first|exact Suf.refl | apply Suf.tail)); done)))) | (refine Sel.cons (by with_reducible (focus((repeat(first|exact .head|apply Take.tail));done))) ?_))))⟩
end Go.Proofs.YtbcokphjpllbiaaGreat
end
