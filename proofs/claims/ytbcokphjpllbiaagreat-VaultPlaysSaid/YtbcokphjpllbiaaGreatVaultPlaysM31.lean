/-
  The document's purses together. For every row of purses.
-/
import Derived.Test.YtbcokphjpllbiaaGreatVaultPlaysM12

section
set_option linter.unusedSimpArgs false
set_option linter.unusedVariables false
namespace Go.Proofs.YtbcokphjpllbiaaGreat
open Go.RowKit Go.Sl
def Ad8 (W : World) (F : It → List HP) (i j : It) (v : Value) (w : World) : Prop :=
  (v = .int .i64 0 ∧ St W (F i) w) ∨ (v = .int .i64 1 ∧ i.x0 + j.x0 ≤ 1152921504606846976 ∧ St W (F ⟨i.x0 + j.x0, i.x1, i.x2, i.x3⟩) w) ∨ (v = .int .i64 2 ∧ (i.x0 + j.x0 ≤ 1152921504606846976 ∧ i.x1 + j.x1 ≤ 1152921504606846976) ∧ St W (F ⟨i.x0 + j.x0, i.x1 + j.x1, i.x2, i.x3⟩) w) ∨
    (v = .int .i64 3 ∧ (i.x0 + j.x0 ≤ 1152921504606846976 ∧ i.x1 + j.x1 ≤ 1152921504606846976 ∧ i.x2 + j.x2 ≤ 1152921504606846976) ∧ St W (F ⟨i.x0 + j.x0, i.x1 + j.x1, i.x2 + j.x2, i.x3⟩) w) ∨ (v = .int .i64 4 ∧ (i.x0 + j.x0 ≤ 1152921504606846976 ∧ i.x1 + j.x1 ≤ 1152921504606846976 ∧ i.x2 + j.x2 ≤ 1152921504606846976 ∧ i.x3 + j.x3 ≤ 1152921504606846976) ∧ St W (F (addIt i j)) w)
set_option maxRecDepth 100000 in
set_option maxHeartbeats 4000000 in
theorem add8 (l : List It) (v : Value) (W w : World) (R : List HP) (hS : St W (row v 4 39 l.length (l.flatMap It.cells) :: R) w) :
    Calls Tryz.prog 63 #[v] w fun e w' => e = .returned (.tuple #[.agg (addF l).cells.toArray, .bool (addL l it0).isSome]) ∧ St W (row v 4 39 l.length (l.flatMap It.cells) :: R) w' := by
  obtain ⟨a, cap, rfl⟩ := hS.rowVal
  have h63 : l.length ≤ 9223372036854775807 := by
    rcases St.rowCase hS with ⟨_, h0, _⟩ | ⟨_, _, h1, h2⟩
    · omega
    · omega
  go_enter Tryz.func63, Tryz.ntmps63
  go_wp2_with (first | ((fail_if_success (have := bA)); (with_reducible apply wl_alloc hS); (with_reducible rfl); rfl; (exact Ty.z39); clear hS; intro bA w hS; (simp only [Act.put, fA, fB, fC, Nat.reduceAdd])) | ((have := bA); (with_reducible apply wl_alloc hS); (with_reducible rfl); rfl; (exact Ty.z39); clear hS; intro bB w hS; (simp only [Act.put, fA, fB, fC, Nat.reduceAdd])))
  go_loopw [5] (fun v wr => AdR W (fun q => [blk bB [.int .i64 q.x0, .int .i64 q.x1, .int .i64 q.x2, .int .i64 q.x3] 39, blk bA [.int .i64 0, .int .i64 0, .int .i64 0, .int .i64 0] 39, row (.slice a l.length cap) 4 39 l.length (l.flatMap It.cells)] ++ R) l v wr) (fun v _ => l.length - (intOf v).toNat)
  case atStart => exact ⟨0, it0, rfl, Nat.zero_le _, rfl, rfl, hS⟩
  case round =>
    clear hS
    obtain ⟨n, s, rfl, hnl, hs, he, hS⟩ := hrel
    simp only [List.cons_append, List.nil_append] at hS
    obtain ⟨s0, s1, s2, s3⟩ := s
    simp only at hS
    by_cases hn : n = l.length
    · subst hn
      rw [List.drop_length] at he
      have E := Lib.hid he
      clear he
      go_wp2_with (first | ((with_reducible apply wl_ldN hS); (with_reducible rfl); rfl; rfl; decide +kernel; (first | (focus((repeat(first|exact Cells.whole | apply Cells.there)); done)) | assumption); kernel_rfl; (simp only [Act.put, fA, fB, fC, Nat.reduceAdd])) | ((with_reducible apply wl_stN hS); (with_reducible rfl); rfl; rfl; (focus ((conv => lhs; whnf); try rfl)); kernel_rfl; rfl; ((focus((repeat(first|exact Upd.head | apply Upd.tail)); done))); (simp only [List.length_cons, List.length_nil]; omega); ((simp only [List.set_cons_zero, List.set_cons_succ, setAll]); rfl); clear hS; intro w hS; try (simp only [Act.put, fA, fB, fC, Nat.reduceAdd])))
      (apply bp_cell_tmp; rfl; rfl; rfl; rfl; exact hS; decide +kernel; (first | (focus((repeat(first|exact Cells.whole | apply Cells.there)); done)) | assumption); kernel_rfl)
      unfold addF
      rw [E.out]
      exact ⟨rfl, hS.drop.drop⟩
    · have hn1 : n < l.length := by omega
      obtain ⟨⟨g, rfl⟩, hcap, hcn⟩ := St.rowAddr hS.drop.drop (by omega)
      have hx : ∀ {K K' : List HP}, Take K (row (.slice (some ⟨g, 0, none⟩) l.length cap) 4 39 l.length (l.flatMap It.cells)) K' → Cells K g (n * 4) (It.cells l[n]) := fun hu => Cells.elemM (enc := It.cells) It.len hu hn1
      have hdr : l.drop n = l[n] :: l.drop (n + 1) := List.drop_eq_getElem_cons hn1
      rw [hdr] at he
      clear hdr
      generalize l[n] = x at hx he
      obtain ⟨x0, x1, x2, x3⟩ := x
      simp only [It.cells] at hx
      cases hi : isIt ⟨x0, x1, x2, x3⟩ with
      | false =>
        have E := Lib.hid (show addL l it0 = none by rw [he, addL, if_neg (fun h => by rw [hi] at h; cases h.1)])
        clear he
        go_wp2_with (first | ((with_reducible apply wl_ldN hS); (with_reducible rfl); rfl; rfl; decide +kernel; (exact hx (by (focus((repeat(first|exact .head|apply Take.tail));done)))); kernel_rfl; (simp only [Act.put, fA, fB, fC, Nat.reduceAdd])) | (go_at_call 62; refine (is8_at _ _ _ _ W _ _ hS).mono ?_; clear hS; rw [hi]; rintro e w ⟨rfl, hS⟩) | ((with_reducible apply wl_stN hS); (with_reducible rfl); rfl; rfl; (focus ((conv => lhs; whnf); try rfl)); kernel_rfl; rfl; ((focus((repeat(first|exact Upd.head | apply Upd.tail)); done))); (simp only [List.length_cons, List.length_nil]; omega); ((simp only [List.set_cons_zero, List.set_cons_succ, setAll]); rfl); clear hS; intro w hS; try (simp only [Act.put, fA, fB, fC, Nat.reduceAdd])))
        (apply bp_cell_tmp; rfl; rfl; rfl; rfl; exact hS; decide +kernel; (first | (focus((repeat(first|exact Cells.whole | apply Cells.there)); done)) | assumption); kernel_rfl)
        unfold addF
        rw [E.out]
        exact ⟨rfl, hS.sel (by (repeat' (first | (with_reducible first | exact Sel.done Suf.refl | exact Sel.done (Suf.tail Suf.refl) | exact Sel.done (Suf.tail (Suf.tail Suf.refl)) | exact Sel.done (Suf.tail (Suf.tail (Suf.tail Suf.refl))) | (apply Sel.done; (focus((repeat(first|exact Suf.refl | apply Suf.tail)); done)))) | (refine Sel.cons (by with_reducible (focus((repeat(first|exact .head|apply Take.tail));done))) ?_))))⟩
      | true =>
        have he2 : addL l it0 = if isIt (addIt ⟨s0, s1, s2, s3⟩ ⟨x0, x1, x2, x3⟩) = true then addL (l.drop (n + 1)) (addIt ⟨s0, s1, s2, s3⟩ ⟨x0, x1, x2, x3⟩) else none := by rw [he, addL]; simp [hi]
        have E2 := Lib.hid he2
        clear he he2
        obtain ⟨a0, a1, a2, a3⟩ := isIt_true.1 hi
        obtain ⟨b0, b1, b2, b3⟩ := isIt_true.1 hs
        simp only at a0 a1 a2 a3 b0 b1 b2 b3
        go_wp2_with (first | ((with_reducible apply wl_ldN hS); (with_reducible rfl); rfl; rfl; decide +kernel; (exact hx (by (focus((repeat(first|exact .head|apply Take.tail));done)))); kernel_rfl; (simp only [Act.put, fA, fB, fC, Nat.reduceAdd])) | (go_at_call 62; refine (is8_at _ _ _ _ W _ _ hS).mono ?_; clear hS; rw [hi]; rintro e w ⟨rfl, hS⟩))
        go_loopw [6] (fun v wr => Ad8 W (fun q => [blk bB [.int .i64 q.x0, .int .i64 q.x1, .int .i64 q.x2, .int .i64 q.x3] 39, blk bA [.int .i64 0, .int .i64 0, .int .i64 0, .int .i64 0] 39, row (.slice (some ⟨g, 0, none⟩) l.length cap) 4 39 l.length (l.flatMap It.cells)] ++ R) ⟨s0, s1, s2, s3⟩ ⟨x0, x1, x2, x3⟩ v wr) (fun v _ => 4 - (intOf v).toNat)
        case atStart => exact .inl ⟨rfl, hS⟩
        case round =>
          clear hS hs hi
          simp only [Ad8, addIt, List.cons_append, List.nil_append] at hrel
          rcases hrel with ⟨rfl, hS⟩ | ⟨rfl, c0, hS⟩ | ⟨rfl, ⟨c0, c1⟩, hS⟩ | ⟨rfl, ⟨c0, c1, c2⟩, hS⟩ | ⟨rfl, ⟨c0, c1, c2, c3⟩, hS⟩
          · skip
            by_cases h1 : 1152921504606846976 - s0 < x0
            · have E := Lib.hid (show addL l it0 = none by rw [E2.out, if_neg (fun h => by obtain ⟨p0, p1, p2, p3⟩ := isIt_true.1 h; simp only [addIt] at p0 p1 p2 p3; omega)])
              go_wp2_with (fail)
              refine wp_region_reads (by kernel_rfl) (by kernel_rfl) hS ?_
              iterate 5 (refine wq_pure rfl rfl ?_; intro K hK; go_big_quiet_op; go_big_quiet_on)
              (apply wq_ld1; (with_reducible rfl); rfl; rfl; decide +kernel; (exact hx (by (focus((repeat(first|exact .head|apply Take.tail));done))) 0 _ rfl); (simp only [Act.put, fA, fB, fC, Nat.reduceAdd]))
              iterate 2 (refine wq_pure rfl rfl ?_; intro K hK; go_big_quiet_op; go_big_quiet_on)
              (apply wq_ld1; (with_reducible rfl); rfl; rfl; decide +kernel; (first | (focus((repeat(first|exact Cell.here rfl | apply Cell.there)); done)) | assumption); (simp only [Act.put, fA, fB, fC, Nat.reduceAdd]))
              iterate 2 (refine wq_pure rfl rfl ?_; intro K hK; go_big_quiet_op; go_big_quiet_on)
              clear hS
              intro w hS
              go_wp2_with (first | ((with_reducible apply wl_stN hS); (with_reducible rfl); rfl; rfl; (focus ((conv => lhs; whnf); try rfl)); kernel_rfl; rfl; ((focus((repeat(first|exact Upd.head | apply Upd.tail)); done))); (simp only [List.length_cons, List.length_nil]; omega); ((simp only [List.set_cons_zero, List.set_cons_succ, setAll]); rfl); clear hS; intro w hS; try (simp only [Act.put, fA, fB, fC, Nat.reduceAdd])))
              (apply bp_cell_tmp; rfl; rfl; rfl; rfl; exact hS; decide +kernel; (first | (focus((repeat(first|exact Cells.whole | apply Cells.there)); done)) | assumption); kernel_rfl)
              unfold addF
              rw [E.out]
              exact ⟨rfl, hS.sel (by (repeat' (first | (with_reducible first | exact Sel.done Suf.refl | exact Sel.done (Suf.tail Suf.refl) | exact Sel.done (Suf.tail (Suf.tail Suf.refl)) | exact Sel.done (Suf.tail (Suf.tail (Suf.tail Suf.refl))) | (apply Sel.done; (focus((repeat(first|exact Suf.refl | apply Suf.tail)); done)))) | (refine Sel.cons (by with_reducible (focus((repeat(first|exact .head|apply Take.tail));done))) ?_))))⟩
            · have d1 : decide (1152921504606846976 - s0 < x0) = false := by simpa using h1
              go_wp2_with (fail)
              refine wp_region_reads (by kernel_rfl) (by kernel_rfl) hS ?_
              iterate 5 (refine wq_pure rfl rfl ?_; intro K hK; go_big_quiet_op; go_big_quiet_on)
              (apply wq_ld1; (with_reducible rfl); rfl; rfl; decide +kernel; (exact hx (by (focus((repeat(first|exact .head|apply Take.tail));done))) 0 _ rfl); (simp only [Act.put, fA, fB, fC, Nat.reduceAdd]))
              iterate 2 (refine wq_pure rfl rfl ?_; intro K hK; go_big_quiet_op; go_big_quiet_on)
              (apply wq_ld1; (with_reducible rfl); rfl; rfl; decide +kernel; (first | (focus((repeat(first|exact Cell.here rfl | apply Cell.there)); done)) | assumption); (simp only [Act.put, fA, fB, fC, Nat.reduceAdd]))
              iterate 2 (refine wq_pure rfl rfl ?_; intro K hK; go_big_quiet_op; go_big_quiet_on)
              clear hS
              intro w hS
              go_wp2_with (fail)
              refine wp_region_tail 12 (by kernel_rfl) (by kernel_rfl) hS ?_
              iterate 3 (refine wq_pure rfl rfl ?_; intro K hK; go_big_quiet_op; go_big_quiet_on)
              (apply wq_ld1; (with_reducible rfl); rfl; rfl; decide +kernel; (first | (focus((repeat(first|exact Cell.here rfl | apply Cell.there)); done)) | assumption); (simp only [Act.put, fA, fB, fC, Nat.reduceAdd]))
              iterate 5 (refine wq_pure rfl rfl ?_; intro K hK; go_big_quiet_op; go_big_quiet_on)
              (apply wq_ld1; (with_reducible rfl); rfl; rfl; decide +kernel; (exact hx (by (focus((repeat(first|exact .head|apply Take.tail));done))) 0 _ rfl); (simp only [Act.put, fA, fB, fC, Nat.reduceAdd]))
              iterate 2 (refine wq_pure rfl rfl ?_; intro K hK; go_big_quiet_op; go_big_quiet_on)
              clear hS
              intro w hS
              simp only [List.drop_succ_cons, List.drop_zero]
              go_wp2_with (first | ((with_reducible apply wl_st1 hS); (with_reducible rfl); rfl; rfl; (focus ((conv => lhs; whnf); try rfl)); kernel_rfl; rfl; rfl; ((focus((repeat(first|exact Upd.head | apply Upd.tail)); done))); (simp only [List.length_cons, List.length_nil]; omega); ((simp only [List.set_cons_zero, List.set_cons_succ, setAll]); rfl); clear hS; intro w hS; try (simp only [Act.put, fA, fB, fC, Nat.reduceAdd])))
              go_roundw
              case rel => exact .inr (.inl ⟨rfl, by simp only; omega, hS⟩)
              case measure => simp [intOf]
          · skip
            by_cases h1 : 1152921504606846976 - s1 < x1
            · have E := Lib.hid (show addL l it0 = none by rw [E2.out, if_neg (fun h => by obtain ⟨p0, p1, p2, p3⟩ := isIt_true.1 h; simp only [addIt] at p0 p1 p2 p3; omega)])
              go_wp2_with (fail)
              refine wp_region_reads (by kernel_rfl) (by kernel_rfl) hS ?_
              iterate 5 (refine wq_pure rfl rfl ?_; intro K hK; go_big_quiet_op; go_big_quiet_on)
              (apply wq_ld1; (with_reducible rfl); rfl; rfl; decide +kernel; (exact hx (by (focus((repeat(first|exact .head|apply Take.tail));done))) 1 _ rfl); (simp only [Act.put, fA, fB, fC, Nat.reduceAdd]))
              iterate 2 (refine wq_pure rfl rfl ?_; intro K hK; go_big_quiet_op; go_big_quiet_on)
              (apply wq_ld1; (with_reducible rfl); rfl; rfl; decide +kernel; (first | (focus((repeat(first|exact Cell.here rfl | apply Cell.there)); done)) | assumption); (simp only [Act.put, fA, fB, fC, Nat.reduceAdd]))
              iterate 2 (refine wq_pure rfl rfl ?_; intro K hK; go_big_quiet_op; go_big_quiet_on)
              clear hS
              intro w hS
              go_wp2_with (first | ((with_reducible apply wl_stN hS); (with_reducible rfl); rfl; rfl; (focus ((conv => lhs; whnf); try rfl)); kernel_rfl; rfl; ((focus((repeat(first|exact Upd.head | apply Upd.tail)); done))); (simp only [List.length_cons, List.length_nil]; omega); ((simp only [List.set_cons_zero, List.set_cons_succ, setAll]); rfl); clear hS; intro w hS; try (simp only [Act.put, fA, fB, fC, Nat.reduceAdd])))
              (apply bp_cell_tmp; rfl; rfl; rfl; rfl; exact hS; decide +kernel; (first | (focus((repeat(first|exact Cells.whole | apply Cells.there)); done)) | assumption); kernel_rfl)
              unfold addF
              rw [E.out]
              exact ⟨rfl, hS.sel (by (repeat' (first | (with_reducible first | exact Sel.done Suf.refl | exact Sel.done (Suf.tail Suf.refl) | exact Sel.done (Suf.tail (Suf.tail Suf.refl)) | exact Sel.done (Suf.tail (Suf.tail (Suf.tail Suf.refl))) | (apply Sel.done; (focus((repeat(first|exact Suf.refl | apply Suf.tail)); done)))) | (refine Sel.cons (by with_reducible (focus((repeat(first|exact .head|apply Take.tail));done))) ?_))))⟩
            · have d1 : decide (1152921504606846976 - s1 < x1) = false := by simpa using h1
              go_wp2_with (fail)
              refine wp_region_reads (by kernel_rfl) (by kernel_rfl) hS ?_
              iterate 5 (refine wq_pure rfl rfl ?_; intro K hK; go_big_quiet_op; go_big_quiet_on)
              (apply wq_ld1; (with_reducible rfl); rfl; rfl; decide +kernel; (exact hx (by (focus((repeat(first|exact .head|apply Take.tail));done))) 1 _ rfl); (simp only [Act.put, fA, fB, fC, Nat.reduceAdd]))
              iterate 2 (refine wq_pure rfl rfl ?_; intro K hK; go_big_quiet_op; go_big_quiet_on)
              (apply wq_ld1; (with_reducible rfl); rfl; rfl; decide +kernel; (first | (focus((repeat(first|exact Cell.here rfl | apply Cell.there)); done)) | assumption); (simp only [Act.put, fA, fB, fC, Nat.reduceAdd]))
              iterate 2 (refine wq_pure rfl rfl ?_; intro K hK; go_big_quiet_op; go_big_quiet_on)
              clear hS
              intro w hS
              go_wp2_with (fail)
              refine wp_region_tail 12 (by kernel_rfl) (by kernel_rfl) hS ?_
              iterate 3 (refine wq_pure rfl rfl ?_; intro K hK; go_big_quiet_op; go_big_quiet_on)
              (apply wq_ld1; (with_reducible rfl); rfl; rfl; decide +kernel; (first | (focus((repeat(first|exact Cell.here rfl | apply Cell.there)); done)) | assumption); (simp only [Act.put, fA, fB, fC, Nat.reduceAdd]))
              iterate 5 (refine wq_pure rfl rfl ?_; intro K hK; go_big_quiet_op; go_big_quiet_on)
              (apply wq_ld1; (with_reducible rfl); rfl; rfl; decide +kernel; (exact hx (by (focus((repeat(first|exact .head|apply Take.tail));done))) 1 _ rfl); (simp only [Act.put, fA, fB, fC, Nat.reduceAdd]))
              iterate 2 (refine wq_pure rfl rfl ?_; intro K hK; go_big_quiet_op; go_big_quiet_on)
              clear hS
              intro w hS
              simp only [List.drop_succ_cons, List.drop_zero]
              go_wp2_with (first | ((with_reducible apply wl_st1 hS); (with_reducible rfl); rfl; rfl; (focus ((conv => lhs; whnf); try rfl)); kernel_rfl; rfl; rfl; ((focus((repeat(first|exact Upd.head | apply Upd.tail)); done))); (simp only [List.length_cons, List.length_nil]; omega); ((simp only [List.set_cons_zero, List.set_cons_succ, setAll]); rfl); clear hS; intro w hS; try (simp only [Act.put, fA, fB, fC, Nat.reduceAdd])))
              go_roundw
              case rel => exact .inr (.inr (.inl ⟨rfl, ⟨c0, by simp only; omega⟩, hS⟩))
              case measure => simp [intOf]
          · skip
            by_cases h1 : 1152921504606846976 - s2 < x2
            · have E := Lib.hid (show addL l it0 = none by rw [E2.out, if_neg (fun h => by obtain ⟨p0, p1, p2, p3⟩ := isIt_true.1 h; simp only [addIt] at p0 p1 p2 p3; omega)])
              go_wp2_with (fail)
              refine wp_region_reads (by kernel_rfl) (by kernel_rfl) hS ?_
              iterate 5 (refine wq_pure rfl rfl ?_; intro K hK; go_big_quiet_op; go_big_quiet_on)
              (apply wq_ld1; (with_reducible rfl); rfl; rfl; decide +kernel; (exact hx (by (focus((repeat(first|exact .head|apply Take.tail));done))) 2 _ rfl); (simp only [Act.put, fA, fB, fC, Nat.reduceAdd]))
              iterate 2 (refine wq_pure rfl rfl ?_; intro K hK; go_big_quiet_op; go_big_quiet_on)
              (apply wq_ld1; (with_reducible rfl); rfl; rfl; decide +kernel; (first | (focus((repeat(first|exact Cell.here rfl | apply Cell.there)); done)) | assumption); (simp only [Act.put, fA, fB, fC, Nat.reduceAdd]))
              iterate 2 (refine wq_pure rfl rfl ?_; intro K hK; go_big_quiet_op; go_big_quiet_on)
              clear hS
              intro w hS
              go_wp2_with (first | ((with_reducible apply wl_stN hS); (with_reducible rfl); rfl; rfl; (focus ((conv => lhs; whnf); try rfl)); kernel_rfl; rfl; ((focus((repeat(first|exact Upd.head | apply Upd.tail)); done))); (simp only [List.length_cons, List.length_nil]; omega); ((simp only [List.set_cons_zero, List.set_cons_succ, setAll]); rfl); clear hS; intro w hS; try (simp only [Act.put, fA, fB, fC, Nat.reduceAdd])))
              (apply bp_cell_tmp; rfl; rfl; rfl; rfl; exact hS; decide +kernel; (first | (focus((repeat(first|exact Cells.whole | apply Cells.there)); done)) | assumption); kernel_rfl)
              unfold addF
              rw [E.out]
              exact ⟨rfl, hS.sel (by (repeat' (first | (with_reducible first | exact Sel.done Suf.refl | exact Sel.done (Suf.tail Suf.refl) | exact Sel.done (Suf.tail (Suf.tail Suf.refl)) | exact Sel.done (Suf.tail (Suf.tail (Suf.tail Suf.refl))) | (apply Sel.done; (focus((repeat(first|exact Suf.refl | apply Suf.tail)); done)))) | (refine Sel.cons (by with_reducible (focus((repeat(first|exact .head|apply Take.tail));done))) ?_))))⟩
            · have d1 : decide (1152921504606846976 - s2 < x2) = false := by simpa using h1
              go_wp2_with (fail)
              refine wp_region_reads (by kernel_rfl) (by kernel_rfl) hS ?_
              iterate 5 (refine wq_pure rfl rfl ?_; intro K hK; go_big_quiet_op; go_big_quiet_on)
              (apply wq_ld1; (with_reducible rfl); rfl; rfl; decide +kernel; (exact hx (by (focus((repeat(first|exact .head|apply Take.tail));done))) 2 _ rfl); (simp only [Act.put, fA, fB, fC, Nat.reduceAdd]))
              iterate 2 (refine wq_pure rfl rfl ?_; intro K hK; go_big_quiet_op; go_big_quiet_on)
              (apply wq_ld1; (with_reducible rfl); rfl; rfl; decide +kernel; (first | (focus((repeat(first|exact Cell.here rfl | apply Cell.there)); done)) | assumption); (simp only [Act.put, fA, fB, fC, Nat.reduceAdd]))
              iterate 2 (refine wq_pure rfl rfl ?_; intro K hK; go_big_quiet_op; go_big_quiet_on)
              clear hS
              intro w hS
              go_wp2_with (fail)
              refine wp_region_tail 12 (by kernel_rfl) (by kernel_rfl) hS ?_
              iterate 3 (refine wq_pure rfl rfl ?_; intro K hK; go_big_quiet_op; go_big_quiet_on)
              (apply wq_ld1; (with_reducible rfl); rfl; rfl; decide +kernel; (first | (focus((repeat(first|exact Cell.here rfl | apply Cell.there)); done)) | assumption); (simp only [Act.put, fA, fB, fC, Nat.reduceAdd]))
              iterate 5 (refine wq_pure rfl rfl ?_; intro K hK; go_big_quiet_op; go_big_quiet_on)
              (apply wq_ld1; (with_reducible rfl); rfl; rfl; decide +kernel; (exact hx (by (focus((repeat(first|exact .head|apply Take.tail));done))) 2 _ rfl); (simp only [Act.put, fA, fB, fC, Nat.reduceAdd]))
              iterate 2 (refine wq_pure rfl rfl ?_; intro K hK; go_big_quiet_op; go_big_quiet_on)
              clear hS
              intro w hS
              simp only [List.drop_succ_cons, List.drop_zero]
              go_wp2_with (first | ((with_reducible apply wl_st1 hS); (with_reducible rfl); rfl; rfl; (focus ((conv => lhs; whnf); try rfl)); kernel_rfl; rfl; rfl; ((focus((repeat(first|exact Upd.head | apply Upd.tail)); done))); (simp only [List.length_cons, List.length_nil]; omega); ((simp only [List.set_cons_zero, List.set_cons_succ, setAll]); rfl); clear hS; intro w hS; try (simp only [Act.put, fA, fB, fC, Nat.reduceAdd])))
              go_roundw
              case rel => exact .inr (.inr (.inr (.inl ⟨rfl, ⟨c0, c1, by simp only; omega⟩, hS⟩)))
              case measure => simp [intOf]
          · skip
            by_cases h1 : 1152921504606846976 - s3 < x3
            · have E := Lib.hid (show addL l it0 = none by rw [E2.out, if_neg (fun h => by obtain ⟨p0, p1, p2, p3⟩ := isIt_true.1 h; simp only [addIt] at p0 p1 p2 p3; omega)])
              go_wp2_with (fail)
              refine wp_region_reads (by kernel_rfl) (by kernel_rfl) hS ?_
              iterate 5 (refine wq_pure rfl rfl ?_; intro K hK; go_big_quiet_op; go_big_quiet_on)
              (apply wq_ld1; (with_reducible rfl); rfl; rfl; decide +kernel; (exact hx (by (focus((repeat(first|exact .head|apply Take.tail));done))) 3 _ rfl); (simp only [Act.put, fA, fB, fC, Nat.reduceAdd]))
              iterate 2 (refine wq_pure rfl rfl ?_; intro K hK; go_big_quiet_op; go_big_quiet_on)
              (apply wq_ld1; (with_reducible rfl); rfl; rfl; decide +kernel; (first | (focus((repeat(first|exact Cell.here rfl | apply Cell.there)); done)) | assumption); (simp only [Act.put, fA, fB, fC, Nat.reduceAdd]))
              iterate 2 (refine wq_pure rfl rfl ?_; intro K hK; go_big_quiet_op; go_big_quiet_on)
              clear hS
              intro w hS
              go_wp2_with (first | ((with_reducible apply wl_stN hS); (with_reducible rfl); rfl; rfl; (focus ((conv => lhs; whnf); try rfl)); kernel_rfl; rfl; ((focus((repeat(first|exact Upd.head | apply Upd.tail)); done))); (simp only [List.length_cons, List.length_nil]; omega); ((simp only [List.set_cons_zero, List.set_cons_succ, setAll]); rfl); clear hS; intro w hS; try (simp only [Act.put, fA, fB, fC, Nat.reduceAdd])))
              (apply bp_cell_tmp; rfl; rfl; rfl; rfl; exact hS; decide +kernel; (first | (focus((repeat(first|exact Cells.whole | apply Cells.there)); done)) | assumption); kernel_rfl)
              unfold addF
              rw [E.out]
              exact ⟨rfl, hS.sel (by (repeat' (first | (with_reducible first | exact Sel.done Suf.refl | exact Sel.done (Suf.tail Suf.refl) | exact Sel.done (Suf.tail (Suf.tail Suf.refl)) | exact Sel.done (Suf.tail (Suf.tail (Suf.tail Suf.refl))) | (apply Sel.done; (focus((repeat(first|exact Suf.refl | apply Suf.tail)); done)))) | (refine Sel.cons (by with_reducible (focus((repeat(first|exact .head|apply Take.tail));done))) ?_))))⟩
            · have d1 : decide (1152921504606846976 - s3 < x3) = false := by simpa using h1
              go_wp2_with (fail)
              refine wp_region_reads (by kernel_rfl) (by kernel_rfl) hS ?_
              iterate 5 (refine wq_pure rfl rfl ?_; intro K hK; go_big_quiet_op; go_big_quiet_on)
              (apply wq_ld1; (with_reducible rfl); rfl; rfl; decide +kernel; (exact hx (by (focus((repeat(first|exact .head|apply Take.tail));done))) 3 _ rfl); (simp only [Act.put, fA, fB, fC, Nat.reduceAdd]))
              iterate 2 (refine wq_pure rfl rfl ?_; intro K hK; go_big_quiet_op; go_big_quiet_on)
              (apply wq_ld1; (with_reducible rfl); rfl; rfl; decide +kernel; (first | (focus((repeat(first|exact Cell.here rfl | apply Cell.there)); done)) | assumption); (simp only [Act.put, fA, fB, fC, Nat.reduceAdd]))
              iterate 2 (refine wq_pure rfl rfl ?_; intro K hK; go_big_quiet_op; go_big_quiet_on)
              clear hS
              intro w hS
              go_wp2_with (fail)
              refine wp_region_tail 12 (by kernel_rfl) (by kernel_rfl) hS ?_
              iterate 3 (refine wq_pure rfl rfl ?_; intro K hK; go_big_quiet_op; go_big_quiet_on)
              (apply wq_ld1; (with_reducible rfl); rfl; rfl; decide +kernel; (first | (focus((repeat(first|exact Cell.here rfl | apply Cell.there)); done)) | assumption); (simp only [Act.put, fA, fB, fC, Nat.reduceAdd]))
              iterate 5 (refine wq_pure rfl rfl ?_; intro K hK; go_big_quiet_op; go_big_quiet_on)
              (apply wq_ld1; (with_reducible rfl); rfl; rfl; decide +kernel; (exact hx (by (focus((repeat(first|exact .head|apply Take.tail));done))) 3 _ rfl); (simp only [Act.put, fA, fB, fC, Nat.reduceAdd]))
              iterate 2 (refine wq_pure rfl rfl ?_; intro K hK; go_big_quiet_op; go_big_quiet_on)
              clear hS
              intro w hS
              simp only [List.drop_succ_cons, List.drop_zero]
              go_wp2_with (first | ((with_reducible apply wl_st1 hS); (with_reducible rfl); rfl; rfl; (focus ((conv => lhs; whnf); try rfl)); kernel_rfl; rfl; rfl; ((focus((repeat(first|exact Upd.head | apply Upd.tail)); done))); (simp only [List.length_cons, List.length_nil]; omega); ((simp only [List.set_cons_zero, List.set_cons_succ, setAll]); rfl); clear hS; intro w hS; try (simp only [Act.put, fA, fB, fC, Nat.reduceAdd])))
              go_roundw
              case rel => exact .inr (.inr (.inr (.inr ⟨rfl, ⟨c0, c1, c2, by simp only; omega⟩, hS⟩)))
              case measure => simp [intOf]
          · have hq : isIt ⟨s0 + x0, s1 + x1, s2 + x2, s3 + x3⟩ = true := isIt_true.2 ⟨⟨by simp only; omega, c0⟩, ⟨by simp only; omega, c1⟩, ⟨by simp only; omega, c2⟩, by simp only; omega, c3⟩
            have E := Lib.hid (show addL l it0 = addL (l.drop (n + 1)) ⟨s0 + x0, s1 + x1, s2 + x2, s3 + x3⟩ by rw [E2.out, addIt]; simp [hq])
            have Hq := Lib.hid hq
            clear E2 hq
            go_wp2_with (fail)
            go_roundw
            case rel => exact ⟨n + 1, _, rfl, hn1, Hq.out, E.out, hS.sel (by (repeat' (first | (with_reducible first | exact Sel.done Suf.refl | exact Sel.done (Suf.tail Suf.refl) | exact Sel.done (Suf.tail (Suf.tail Suf.refl)) | exact Sel.done (Suf.tail (Suf.tail (Suf.tail Suf.refl))) | (apply Sel.done; (focus((repeat(first|exact Suf.refl | apply Suf.tail)); done)))) | (refine Sel.cons (by with_reducible (focus((repeat(first|exact .head|apply Take.tail));done))) ?_))))⟩
            case measure => simp [intOf]; omega
end Go.Proofs.YtbcokphjpllbiaaGreat
end
