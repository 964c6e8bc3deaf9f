/-
  The document's purses together. For every row of purses.
  The document's vault in terms of the program's purses: Has, set, pays, Put, Take. For every vault.
  The document's vault: Put and Take. For every vault.
  The document's vault: Order. For every vault and order.
  The document's vault: Order, where it is placed. For every vault and order.
  The document's vault: Cancel; Order in all cases. For every vault.
  The vault keeps: orders and their end change nothing of all that there is. The plain law: no program in sight.
  The vault's Total. For every vault.
  The vault's scripts: what each act leaves. For every vault and act.
-/
import Derived.Test.YtbcokphjpllbiaaGreatVaultDecodesM5
import Derived.Test.YtbcokphjpllbiaaGreatVaultDecodesM9
import Derived.Test.YtbcokphjpllbiaaGreatVaultDecodesM14
import Derived.Test.YtbcokphjpllbiaaGreatVaultDecodesM17
import Derived.Test.YtbcokphjpllbiaaGreatVaultDecodesM18

section
set_option linter.unusedSimpArgs false
set_option linter.unusedVariables false
namespace Go.Proofs.YtbcokphjpllbiaaGreat
open Go.RowKit Go.Sl
def Ad8 (W : World) (F : It → List HP) (i j : It) (v : Value) (w : World) : Prop :=
  (v = .int .i64 0 ∧ St W (F i) w) ∨ (v = .int .i64 1 ∧ i.x0 + j.x0 ≤ 1152921504606846976 ∧ St W (F ⟨i.x0 + j.x0, i.x1, i.x2, i.x3⟩) w) ∨ (v = .int .i64 2 ∧ (i.x0 + j.x0 ≤ 1152921504606846976 ∧ i.x1 + j.x1 ≤ 1152921504606846976) ∧ St W (F ⟨i.x0 + j.x0, i.x1 + j.x1, i.x2, i.x3⟩) w) ∨
    (v = .int .i64 3 ∧ (i.x0 + j.x0 ≤ 1152921504606846976 ∧ i.x1 + j.x1 ≤ 1152921504606846976 ∧ i.x2 + j.x2 ≤ 1152921504606846976) ∧ St W (F ⟨i.x0 + j.x0, i.x1 + j.x1, i.x2 + j.x2, i.x3⟩) w) ∨ (v = .int .i64 4 ∧ (i.x0 + j.x0 ≤ 1152921504606846976 ∧ i.x1 + j.x1 ≤ 1152921504606846976 ∧ i.x2 + j.x2 ≤ 1152921504606846976 ∧ i.x3 + j.x3 ≤ 1152921504606846976) ∧ St W (F (addIt i j)) w)
set_option maxRecDepth 100000 in
set_option maxHeartbeats 4000000 in
theorem add8 (l : List It) (v : Value) (W w : World) (R : List HP) (hS : St W (row v 4 39 l.length (l.flatMap It.cells) :: R) w) :
    Calls Tryz.prog 63 #[v] w fun e w' => e = .returned (.tuple #[.agg (addF l).cells.toArray, .bool (addL l it0).isSome]) ∧ St W (row v 4 39 l.length (l.flatMap It.cells) :: R) w' := by
  obtain ⟨a, cap, rfl⟩ := hS.rowVal
  have h63 : l.length ≤ 9223372036854775807 := by
    rcases St.rowCase hS with ⟨_, h0, _⟩ | ⟨_, _, h1, h2⟩
    · omega
    · omega
  go_enter Tryz.func63, Tryz.ntmps63
  go_wp2_with (first | go_big_skip | ((fail_if_success (have := bA)); (with_reducible apply wl_alloc hS); (with_reducible rfl); rfl; (exact zsS); clear hS; intro bA w hS; (refine frS ?_)) | ((have := bA); (with_reducible apply wl_alloc hS); (with_reducible rfl); rfl; (exact zsS); clear hS; intro bB w hS; (refine frS ?_)))
  go_loopw [5] (fun v wr => AdR W (fun q => [blk bB [.int .i64 q.x0, .int .i64 q.x1, .int .i64 q.x2, .int .i64 q.x3] 39, blk bA [.int .i64 0, .int .i64 0, .int .i64 0, .int .i64 0] 39, row (.slice a l.length cap) 4 39 l.length (l.flatMap It.cells)] ++ R) l v wr) (fun v _ => l.length - (intOf v).toNat)
  case atStart => exact ⟨0, it0, rfl, Nat.zero_le _, rfl, rfl, hS⟩
  case round =>
    clear hS
    obtain ⟨n, s, rfl, hnl, hs, he, hS⟩ := hrel
    simp only [List.cons_append, List.nil_append] at hS
    obtain ⟨s0, s1, s2, s3⟩ := s
    simp only at hS
    by_cases hn : n = l.length
    · subst hn
      rw [List.drop_length] at he
      have E := Lib.hid he
      clear he
      go_wp2_with (first | go_big_skip | (refine zlN hS ?_) | (refine zsN hS ?_; clear hS; intro w hS))
      (apply bp_cell_tmp; rfl; rfl; rfl; rfl; exact hS; decide +kernel; (exact cesS); kernel_rfl)
      unfold addF
      rw [E.out]
      exact ⟨rfl, hS.drop.drop⟩
    · have hn1 : n < l.length := by omega
      obtain ⟨⟨g, rfl⟩, hcap, hcn⟩ := St.rowAddr hS.drop.drop (by omega)
      have hx : ∀ {K K' : List HP}, Take K (row (.slice (some ⟨g, 0, none⟩) l.length cap) 4 39 l.length (l.flatMap It.cells)) K' → Cells K g (n * 4) (It.cells l[n]) := fun hu => Cells.elemM (enc := It.cells) It.len hu hn1
      have hdr : l.drop n = l[n] :: l.drop (n + 1) := List.drop_eq_getElem_cons hn1
      rw [hdr] at he
      clear hdr
      generalize l[n] = x at hx he
      obtain ⟨x0, x1, x2, x3⟩ := x
      simp only [It.cells] at hx
      cases hi : isIt ⟨x0, x1, x2, x3⟩ with
      | false =>
        have E := Lib.hid (show addL l it0 = none by rw [he, addL, if_neg (fun h => by rw [hi] at h; cases h.1)])
        clear he
        go_wp2_with (first | go_big_skip | (refine zlN hS ?_ (hc := by exact hx (by exact takeS))) | (go_at_call 62; refine (is8_at _ _ _ _ W _ _ hS).mono ?_; clear hS; rw [hi]; rintro e w ⟨rfl, hS⟩) | (refine zsN hS ?_; clear hS; intro w hS))
        (apply bp_cell_tmp; rfl; rfl; rfl; rfl; exact hS; decide +kernel; (exact cesS); kernel_rfl)
        unfold addF
        rw [E.out]
        exact ⟨rfl, hS.sel (by exact selS)⟩
      | true =>
        have he2 : addL l it0 = if isIt (addIt ⟨s0, s1, s2, s3⟩ ⟨x0, x1, x2, x3⟩) = true then addL (l.drop (n + 1)) (addIt ⟨s0, s1, s2, s3⟩ ⟨x0, x1, x2, x3⟩) else none := by rw [he, addL]; simp [hi]
        have E2 := Lib.hid he2
        clear he he2
        obtain ⟨a0, a1, a2, a3⟩ := isIt_true.1 hi
        obtain ⟨b0, b1, b2, b3⟩ := isIt_true.1 hs
        simp only at a0 a1 a2 a3 b0 b1 b2 b3
        go_wp2_with (first | go_big_skip | (refine zlN hS ?_ (hc := by exact hx (by exact takeS))) | (go_at_call 62; refine (is8_at _ _ _ _ W _ _ hS).mono ?_; clear hS; rw [hi]; rintro e w ⟨rfl, hS⟩))
        go_loopw [6] (fun v wr => Ad8 W (fun q => [blk bB [.int .i64 q.x0, .int .i64 q.x1, .int .i64 q.x2, .int .i64 q.x3] 39, blk bA [.int .i64 0, .int .i64 0, .int .i64 0, .int .i64 0] 39, row (.slice (some ⟨g, 0, none⟩) l.length cap) 4 39 l.length (l.flatMap It.cells)] ++ R) ⟨s0, s1, s2, s3⟩ ⟨x0, x1, x2, x3⟩ v wr) (fun v _ => 4 - (intOf v).toNat)
        case atStart => exact .inl ⟨rfl, hS⟩
        case round =>
          clear hS hs hi
          simp only [Ad8, addIt, List.cons_append, List.nil_append] at hrel
          rcases hrel with ⟨rfl, hS⟩ | ⟨rfl, c0, hS⟩ | ⟨rfl, ⟨c0, c1⟩, hS⟩ | ⟨rfl, ⟨c0, c1, c2⟩, hS⟩ | ⟨rfl, ⟨c0, c1, c2, c3⟩, hS⟩
          · skip
            by_cases h1 : 1152921504606846976 - s0 < x0
            · have E := Lib.hid (show addL l it0 = none by rw [E2.out, if_neg (fun h => by obtain ⟨p0, p1, p2, p3⟩ := isIt_true.1 h; simp only [addIt] at p0 p1 p2 p3; omega)])
              go_wp2_with (first | go_big_skip)
              refine wp_region_reads (by kernel_rfl) (by kernel_rfl) hS ?_
              iterate 5 (refine wq_pure rfl rfl ?_; intro K hK; go_big_quiet_op; go_big_quiet_on)
              (apply wq_ld1; (with_reducible rfl); rfl; rfl; decide +kernel; (exact hx (by exact takeS) 0 _ rfl); (refine frS ?_))
              iterate 2 (refine wq_pure rfl rfl ?_; intro K hK; go_big_quiet_op; go_big_quiet_on)
              (refine zq1 ?_)
              iterate 2 (refine wq_pure rfl rfl ?_; intro K hK; go_big_quiet_op; go_big_quiet_on)
              clear hS
              intro w hS
              go_wp2_with (first | go_big_skip | (refine zsN hS ?_; clear hS; intro w hS))
              (apply bp_cell_tmp; rfl; rfl; rfl; rfl; exact hS; decide +kernel; (exact cesS); kernel_rfl)
              unfold addF
              rw [E.out]
              exact ⟨rfl, hS.sel (by exact selS)⟩
            · have d1 : decide (1152921504606846976 - s0 < x0) = false := by simpa using h1
              go_wp2_with (first | go_big_skip)
              refine wp_region_reads (by kernel_rfl) (by kernel_rfl) hS ?_
              iterate 5 (refine wq_pure rfl rfl ?_; intro K hK; go_big_quiet_op; go_big_quiet_on)
              (apply wq_ld1; (with_reducible rfl); rfl; rfl; decide +kernel; (exact hx (by exact takeS) 0 _ rfl); (refine frS ?_))
              iterate 2 (refine wq_pure rfl rfl ?_; intro K hK; go_big_quiet_op; go_big_quiet_on)
              (refine zq1 ?_)
              iterate 2 (refine wq_pure rfl rfl ?_; intro K hK; go_big_quiet_op; go_big_quiet_on)
              clear hS
              intro w hS
              go_wp2_with (first | go_big_skip)
              refine wp_region_tail 12 (by kernel_rfl) (by kernel_rfl) hS ?_
              iterate 3 (refine wq_pure rfl rfl ?_; intro K hK; go_big_quiet_op; go_big_quiet_on)
              (refine zq1 ?_)
              iterate 5 (refine wq_pure rfl rfl ?_; intro K hK; go_big_quiet_op; go_big_quiet_on)
              (apply wq_ld1; (with_reducible rfl); rfl; rfl; decide +kernel; (exact hx (by exact takeS) 0 _ rfl); (refine frS ?_))
              iterate 2 (refine wq_pure rfl rfl ?_; intro K hK; go_big_quiet_op; go_big_quiet_on)
              clear hS
              intro w hS
              simp only [List.drop_succ_cons, List.drop_zero]
              go_wp2_with (first | (refine zs1 hS ?_; clear hS; intro w hS))
              go_roundw
              case rel => exact .inr (.inl ⟨rfl, by simp only; omega, hS⟩)
              case measure => simp [intOf]
          · skip
            by_cases h1 : 1152921504606846976 - s1 < x1
            · have E := Lib.hid (show addL l it0 = none by rw [E2.out, if_neg (fun h => by obtain ⟨p0, p1, p2, p3⟩ := isIt_true.1 h; simp only [addIt] at p0 p1 p2 p3; omega)])
              go_wp2_with (first | go_big_skip)
              refine wp_region_reads (by kernel_rfl) (by kernel_rfl) hS ?_
              iterate 5 (refine wq_pure rfl rfl ?_; intro K hK; go_big_quiet_op; go_big_quiet_on)
              (apply wq_ld1; (with_reducible rfl); rfl; rfl; decide +kernel; (exact hx (by exact takeS) 1 _ rfl); (refine frS ?_))
              iterate 2 (refine wq_pure rfl rfl ?_; intro K hK; go_big_quiet_op; go_big_quiet_on)
              (refine zq1 ?_)
              iterate 2 (refine wq_pure rfl rfl ?_; intro K hK; go_big_quiet_op; go_big_quiet_on)
              clear hS
              intro w hS
              go_wp2_with (first | go_big_skip | (refine zsN hS ?_; clear hS; intro w hS))
              (apply bp_cell_tmp; rfl; rfl; rfl; rfl; exact hS; decide +kernel; (exact cesS); kernel_rfl)
              unfold addF
              rw [E.out]
              exact ⟨rfl, hS.sel (by exact selS)⟩
            · have d1 : decide (1152921504606846976 - s1 < x1) = false := by simpa using h1
              go_wp2_with (first | go_big_skip)
              refine wp_region_reads (by kernel_rfl) (by kernel_rfl) hS ?_
              iterate 5 (refine wq_pure rfl rfl ?_; intro K hK; go_big_quiet_op; go_big_quiet_on)
              (apply wq_ld1; (with_reducible rfl); rfl; rfl; decide +kernel; (exact hx (by exact takeS) 1 _ rfl); (refine frS ?_))
              iterate 2 (refine wq_pure rfl rfl ?_; intro K hK; go_big_quiet_op; go_big_quiet_on)
              (refine zq1 ?_)
              iterate 2 (refine wq_pure rfl rfl ?_; intro K hK; go_big_quiet_op; go_big_quiet_on)
              clear hS
              intro w hS
              go_wp2_with (first | go_big_skip)
              refine wp_region_tail 12 (by kernel_rfl) (by kernel_rfl) hS ?_
              iterate 3 (refine wq_pure rfl rfl ?_; intro K hK; go_big_quiet_op; go_big_quiet_on)
              (refine zq1 ?_)
              iterate 5 (refine wq_pure rfl rfl ?_; intro K hK; go_big_quiet_op; go_big_quiet_on)
              (apply wq_ld1; (with_reducible rfl); rfl; rfl; decide +kernel; (exact hx (by exact takeS) 1 _ rfl); (refine frS ?_))
              iterate 2 (refine wq_pure rfl rfl ?_; intro K hK; go_big_quiet_op; go_big_quiet_on)
              clear hS
              intro w hS
              simp only [List.drop_succ_cons, List.drop_zero]
              go_wp2_with (first | (refine zs1 hS ?_; clear hS; intro w hS))
              go_roundw
              case rel => exact .inr (.inr (.inl ⟨rfl, ⟨c0, by simp only; omega⟩, hS⟩))
              case measure => simp [intOf]
          · skip
            by_cases h1 : 1152921504606846976 - s2 < x2
            · have E := Lib.hid (show addL l it0 = none by rw [E2.out, if_neg (fun h => by obtain ⟨p0, p1, p2, p3⟩ := isIt_true.1 h; simp only [addIt] at p0 p1 p2 p3; omega)])
              go_wp2_with (first | go_big_skip)
              refine wp_region_reads (by kernel_rfl) (by kernel_rfl) hS ?_
              iterate 5 (refine wq_pure rfl rfl ?_; intro K hK; go_big_quiet_op; go_big_quiet_on)
              (apply wq_ld1; (with_reducible rfl); rfl; rfl; decide +kernel; (exact hx (by exact takeS) 2 _ rfl); (refine frS ?_))
              iterate 2 (refine wq_pure rfl rfl ?_; intro K hK; go_big_quiet_op; go_big_quiet_on)
              (refine zq1 ?_)
              iterate 2 (refine wq_pure rfl rfl ?_; intro K hK; go_big_quiet_op; go_big_quiet_on)
              clear hS
              intro w hS
              go_wp2_with (first | go_big_skip | (refine zsN hS ?_; clear hS; intro w hS))
              (apply bp_cell_tmp; rfl; rfl; rfl; rfl; exact hS; decide +kernel; (exact cesS); kernel_rfl)
              unfold addF
              rw [E.out]
              exact ⟨rfl, hS.sel (by exact selS)⟩
            · have d1 : decide (1152921504606846976 - s2 < x2) = false := by simpa using h1
              go_wp2_with (first | go_big_skip)
              refine wp_region_reads (by kernel_rfl) (by kernel_rfl) hS ?_
              iterate 5 (refine wq_pure rfl rfl ?_; intro K hK; go_big_quiet_op; go_big_quiet_on)
              (apply wq_ld1; (with_reducible rfl); rfl; rfl; decide +kernel; (exact hx (by exact takeS) 2 _ rfl); (refine frS ?_))
              iterate 2 (refine wq_pure rfl rfl ?_; intro K hK; go_big_quiet_op; go_big_quiet_on)
              (refine zq1 ?_)
              iterate 2 (refine wq_pure rfl rfl ?_; intro K hK; go_big_quiet_op; go_big_quiet_on)
              clear hS
              intro w hS
              go_wp2_with (first | go_big_skip)
              refine wp_region_tail 12 (by kernel_rfl) (by kernel_rfl) hS ?_
              iterate 3 (refine wq_pure rfl rfl ?_; intro K hK; go_big_quiet_op; go_big_quiet_on)
              (refine zq1 ?_)
              iterate 5 (refine wq_pure rfl rfl ?_; intro K hK; go_big_quiet_op; go_big_quiet_on)
              (apply wq_ld1; (with_reducible rfl); rfl; rfl; decide +kernel; (exact hx (by exact takeS) 2 _ rfl); (refine frS ?_))
              iterate 2 (refine wq_pure rfl rfl ?_; intro K hK; go_big_quiet_op; go_big_quiet_on)
              clear hS
              intro w hS
              simp only [List.drop_succ_cons, List.drop_zero]
              go_wp2_with (first | (refine zs1 hS ?_; clear hS; intro w hS))
              go_roundw
              case rel => exact .inr (.inr (.inr (.inl ⟨rfl, ⟨c0, c1, by simp only; omega⟩, hS⟩)))
              case measure => simp [intOf]
          · skip
            by_cases h1 : 1152921504606846976 - s3 < x3
            · have E := Lib.hid (show addL l it0 = none by rw [E2.out, if_neg (fun h => by obtain ⟨p0, p1, p2, p3⟩ := isIt_true.1 h; simp only [addIt] at p0 p1 p2 p3; omega)])
              go_wp2_with (first | go_big_skip)
              refine wp_region_reads (by kernel_rfl) (by kernel_rfl) hS ?_
              iterate 5 (refine wq_pure rfl rfl ?_; intro K hK; go_big_quiet_op; go_big_quiet_on)
              (apply wq_ld1; (with_reducible rfl); rfl; rfl; decide +kernel; (exact hx (by exact takeS) 3 _ rfl); (refine frS ?_))
              iterate 2 (refine wq_pure rfl rfl ?_; intro K hK; go_big_quiet_op; go_big_quiet_on)
              (refine zq1 ?_)
              iterate 2 (refine wq_pure rfl rfl ?_; intro K hK; go_big_quiet_op; go_big_quiet_on)
              clear hS
              intro w hS
              go_wp2_with (first | go_big_skip | (refine zsN hS ?_; clear hS; intro w hS))
              (apply bp_cell_tmp; rfl; rfl; rfl; rfl; exact hS; decide +kernel; (exact cesS); kernel_rfl)
              unfold addF
              rw [E.out]
              exact ⟨rfl, hS.sel (by exact selS)⟩
            · have d1 : decide (1152921504606846976 - s3 < x3) = false := by simpa using h1
              go_wp2_with (first | go_big_skip)
              refine wp_region_reads (by kernel_rfl) (by kernel_rfl) hS ?_
              iterate 5 (refine wq_pure rfl rfl ?_; intro K hK; go_big_quiet_op; go_big_quiet_on)
              (apply wq_ld1; (with_reducible rfl); rfl; rfl; decide +kernel; (exact hx (by exact takeS) 3 _ rfl); (refine frS ?_))
              iterate 2 (refine wq_pure rfl rfl ?_; intro K hK; go_big_quiet_op; go_big_quiet_on)
              (refine zq1 ?_)
              iterate 2 (refine wq_pure rfl rfl ?_; intro K hK; go_big_quiet_op; go_big_quiet_on)
              clear hS
              intro w hS
              go_wp2_with (first | go_big_skip)
              refine wp_region_tail 12 (by kernel_rfl) (by kernel_rfl) hS ?_
              iterate 3 (refine wq_pure rfl rfl ?_; intro K hK; go_big_quiet_op; go_big_quiet_on)
              (refine zq1 ?_)
              iterate 5 (refine wq_pure rfl rfl ?_; intro K hK; go_big_quiet_op; go_big_quiet_on)
              (apply wq_ld1; (with_reducible rfl); rfl; rfl; decide +kernel; (exact hx (by exact takeS) 3 _ rfl); (refine frS ?_))
              iterate 2 (refine wq_pure rfl rfl ?_; intro K hK; go_big_quiet_op; go_big_quiet_on)
              clear hS
              intro w hS
              simp only [List.drop_succ_cons, List.drop_zero]
              go_wp2_with (first | (refine zs1 hS ?_; clear hS; intro w hS))
              go_roundw
              case rel => exact .inr (.inr (.inr (.inr ⟨rfl, ⟨c0, c1, c2, by simp only; omega⟩, hS⟩)))
              case measure => simp [intOf]
          · have hq : isIt ⟨s0 + x0, s1 + x1, s2 + x2, s3 + x3⟩ = true := isIt_true.2 ⟨⟨by simp only; omega, c0⟩, ⟨by simp only; omega, c1⟩, ⟨by simp only; omega, c2⟩, by simp only; omega, c3⟩
            have E := Lib.hid (show addL l it0 = addL (l.drop (n + 1)) ⟨s0 + x0, s1 + x1, s2 + x2, s3 + x3⟩ by rw [E2.out, addIt]; simp [hq])
            have Hq := Lib.hid hq
            clear E2 hq
            go_wp2_with (first | go_big_skip)
            go_roundw
            case rel => exact ⟨n + 1, _, rfl, hn1, Hq.out, E.out, hS.sel (by exact selS)⟩
            case measure => simp [intOf]; omega
end Go.Proofs.YtbcokphjpllbiaaGreat
end
section
set_option linter.unusedSimpArgs false
set_option linter.unusedVariables false
namespace Go.Proofs.YtbcokphjpllbiaaGreat
open Go.RowKit Go.Sl
/-- The document's vault: its block and its row of purses, those of p by names. -/
def xvP (xb : Nat) (vB : Value) (n : Int) (p : Ps) : HP := fun f => ∃ v : Value, sats [blk xb [v, vB, .int .i64 n] 65, hdR v (hdL p)] f
section
variable {W w : World} {xb : Nat} {vB : Value} {n : Int} {p : Ps} {R : List HP} {N : Nat}
theorem xvOpen (h : St W (xvP xb vB n p :: R) w) : ∃ v, St W (xvL xb v vB n (hdL p) R) w := by
  obtain ⟨v, h⟩ := St.ex h
  exact ⟨v, (St.split (St.split h).swap).swap.drop.swap⟩
theorem xvShut {v : Value} (h : St W (xvL xb v vB n (hdL p) R) w) : St W (xvP xb vB n p :: R) w := by
  refine St.mkEx v ?_
  refine St.join ?_
  refine St.swap (St.imp h.swap ?_)
  intro f hf
  exact ⟨fun _ => true, hf, trivial⟩
end
section
variable (xb : Nat) (vB : Value) (n : Int) (p : Ps) (N : Nat) (W w : World) (R : List HP)
end
end Go.Proofs.YtbcokphjpllbiaaGreat
end
section
set_option linter.unusedSimpArgs false
set_option linter.unusedVariables false
namespace Go.Proofs.YtbcokphjpllbiaaGreat
open Go.RowKit Go.Sl
section
variable (xb : Nat) (vB : Value) (n : Int) (p : Ps) (N : Nat) (W w : World) (R : List HP)
end
end Go.Proofs.YtbcokphjpllbiaaGreat
end
section
set_option linter.unusedSimpArgs false
set_option linter.unusedVariables false
namespace Go.Proofs.YtbcokphjpllbiaaGreat
open Go.RowKit Go.Sl
/-- The document's book: it holds L, its IDs are below n. -/
def xkP (xB : Nat) (L : List Ord) (n : Int) : HP := fun f => ∃ (v : Value) (last : Int), last < n ∧ sats [blk xB [v, .int .i64 last] 68, pileR v L] f
section
variable {W w : World} {xB : Nat} {L : List Ord} {n : Int} {R : List HP}
theorem xkOpen (h : St W (xkP xB L n :: R) w) : ∃ a c last, last < n ∧ St W (blk xB [.slice a L.length c, .int .i64 last] 68 :: pileR (.slice a L.length c) L :: R) w := by
  obtain ⟨v, h⟩ := St.ex h
  obtain ⟨last, h⟩ := St.ex h
  obtain ⟨h1, h⟩ := St.and h
  have hS := (St.split (St.split h).swap).swap.drop.swap
  obtain ⟨a, c, rfl⟩ := hS.drop.rowVal
  exact ⟨a, c, last, h1, hS⟩
theorem xkShut {v : Value} {last : Int} (hl : last < n) (h : St W (blk xB [v, .int .i64 last] 68 :: pileR v L :: R) w) : St W (xkP xB L n :: R) w := by
  refine St.mkEx v (St.mkEx last (St.mkAnd hl ?_))
  refine St.join ?_
  refine St.swap (St.imp h.swap ?_)
  intro f hf
  exact ⟨fun _ => true, hf, trivial⟩
end
/-- A vault of the document, as it stands for purses p, offers L, the next ID n. -/
abbrev xvR (xb xB : Nat) (p : Ps) (L : List Ord) (n : Int) (R : List HP) : List HP := xvP xb (.pointer (some ⟨xB, 0, none⟩)) n p :: xkP xB L n :: R
section
variable (xb xB : Nat) (p : Ps) (L : List Ord) (n : Int) (N : Nat) (o : Ord) (W w : World) (R : List HP)
theorem holds8_at {o : Ord} {h0 h1 h2 h3 : Int} (hm : MayP o) (h : holdsF o = ⟨h0, h1, h2, h3⟩) (W w : World) (R : List HP) (hS : St W R w) :
    Calls Tryz.prog 56 #[.agg o.cells.toArray] w fun e w' => e = .returned (.agg #[.int .i64 h0, .int .i64 h1, .int .i64 h2, .int .i64 h3]) ∧ St W R w' :=
  (holds8 o hm W w R hS).mono fun e w' ⟨he, hS⟩ => ⟨by rw [he, h]; rfl, hS⟩
end
end Go.Proofs.YtbcokphjpllbiaaGreat
end
section
set_option linter.unusedSimpArgs false
set_option linter.unusedVariables false
namespace Go.Proofs.YtbcokphjpllbiaaGreat
open Go.RowKit Go.Sl
/-- What the document's Place yields. -/
def pxR (xB : Nat) (L : List Ord) (m : Int) (ts : List Trd) (v : Value) : HP := fun f => ∃ (a : Option Addr) (c : Nat) (left : Int), v = .tuple #[.slice a ts.length c, .int .i64 left, .int .i64 0] ∧ sats [xkP xB L m, row (.slice a ts.length c) 8 111 ts.length (ts.flatMap Trd.cells)] f
section
variable {W w : World} {xB : Nat} {L : List Ord} {m n : Int} {ts : List Trd} {v : Value} {R : List HP}
end
def OxR (W : World) (F : Ps → List HP) (p : Ps) (ts : List Trd) (v : Value) (w : World) : Prop :=
  ∃ (k : Nat), v = .int .i64 k ∧ k ≤ ts.length ∧ St W (F ((ts.take k).foldl payT p)) w
section
variable (xb xB : Nat) (p : Ps) (L : List Ord) (n : Int) (N : Nat) (o : Ord) (W w : World) (R : List HP)
end
end Go.Proofs.YtbcokphjpllbiaaGreat
end
section
set_option linter.unusedSimpArgs false
set_option linter.unusedVariables false
namespace Go.Proofs.YtbcokphjpllbiaaGreat
open Go.RowKit Go.Sl
def CaR (W : World) (F : List HP) (L : List Ord) (id : Int) (who : ByteArray) (v : Value) (w : World) : Prop :=
  ∃ i : Nat, v = .int .i64 i ∧ i ≤ L.length ∧ (∀ x ∈ L.take i, hitC id who x = false) ∧ St W F w
section
variable (xb xB : Nat) (p : Ps) (L : List Ord) (n : Int) (N : Nat) (who : ByteArray) (id : Int) (W w : World) (R : List HP)
end
end Go.Proofs.YtbcokphjpllbiaaGreat
end
section
set_option linter.unusedSimpArgs false
set_option linter.unusedVariables false
namespace Go.Proofs.YtbcokphjpllbiaaGreat
open Go.RowKit Go.Sl
def sumW (k : Int) : Ps → Int
  | [] => 0
  | x :: p => getK x.2 k + sumW k p
def sumH (k : Int) : List Ord → Int
  | [] => 0
  | x :: L => getK (holdsF x) k + sumH k L
def payK (k : Int) (t : Trd) : Int := (if k = t.item then t.cnt else 0) + (if k = 0 then t.cnt * (t.bid - t.price) + t.cnt * t.price else 0)
def sumT (k : Int) : List Trd → Int
  | [] => 0
  | t :: ts => payK k t + sumT k ts
def sumI (k : Int) : List It → Int
  | [] => 0
  | i :: l => getK i k + sumI k l
/-- All that there is of an item. -/
def totV (V : Vs) (k : Int) : Int := sumW k V.ps + sumH k V.L
structure Kx (k : Int) : Prop where
  k0 : 0 ≤ k
  k3 : k ≤ 3
theorem getK_it0 (k : Int) : getK it0 k = 0 := by unfold getK it0; repeat' split
                                                  all_goals rfl
theorem getK_z {i : It} (h : isZ i = true) (k : Int) : getK i k = 0 := by rw [isZ_eq h, getK_it0]
theorem nodup_lay {p : Ps} (h : (p.map (·.1)).Nodup) (k : ByteArray) (i : It) : ((layP p k i).map (·.1)).Nodup := by
  unfold layP
  split
  · exact nodup_delP h k
  · rw [List.map_cons, List.nodup_cons]
    refine ⟨fun hm => ?_, nodup_delP h k⟩
    obtain ⟨x, hx, e⟩ := List.mem_map.1 hm
    exact (mem_delP hx).2 e
theorem purse_mem {p : Ps} (h : (p.map (·.1)).Nodup) {x : ByteArray × It} (hx : x ∈ p) : purseA p x.1 = x.2 := by
  have := getL_at (v := x.2) h hx
  unfold purseA
  rw [this]
  rfl
theorem purse_cons (x : ByteArray × It) (p : Ps) (k : ByteArray) : purseA (x :: p) k = if x.1 = k then x.2 else purseA p k := by
  unfold purseA getL
  split
  · rename_i h
    rw [List.find?_cons_of_pos (by simpa using h)]; rfl
  · rename_i h
    rw [List.find?_cons_of_neg (by simpa using h)]
theorem sumW_del (k : Int) (who : ByteArray) : ∀ {p : Ps}, (p.map (·.1)).Nodup → sumW k (delL p who) = sumW k p - getK (purseA p who) k
  | [], _ => by
    show (0 : Int) = 0 - getK it0 k
    rw [getK_it0]; rfl
  | x :: p, h => by
    rw [List.map_cons, List.nodup_cons] at h
    have ih := sumW_del k who h.2
    rw [purse_cons]
    by_cases hx : x.1 = who
    · rw [if_pos hx]
      have e : delL (x :: p) who = p := by
        unfold delL
        rw [List.filter_cons, if_neg (by simpa using hx)]
        refine List.filter_eq_self.2 fun y hy => ?_
        have : y.1 ≠ who := fun e => h.1 (List.mem_map.2 ⟨y, hy, e.trans hx.symm⟩)
        simpa using this
      rw [e]
      show sumW k p = getK x.2 k + sumW k p - getK x.2 k
      omega
    · rw [if_neg hx]
      have e : delL (x :: p) who = x :: delL p who := by
        unfold delL
        rw [List.filter_cons, if_pos (by simpa using hx)]
      rw [e]
      show getK x.2 k + sumW k (delL p who) = getK x.2 k + sumW k p - getK (purseA p who) k
      omega
theorem sumW_lay {p : Ps} (h : (p.map (·.1)).Nodup) (k : Int) (who : ByteArray) (i : It) : sumW k (layP p who i) = sumW k p - getK (purseA p who) k + getK i k := by
  have hd := sumW_del k who h
  unfold layP
  split
  · rename_i hz
    rw [hd, getK_z hz]
    omega
  · show getK i k + sumW k (delL p who) = _
    omega
/-- Purses that are listed, each within its bounds. -/
structure PsK (p : Ps) : Prop where
  nd : (p.map (·.1)).Nodup
  ok : PsOk p
theorem PsK.pos {p : Ps} (h : PsK p) (k : Int) : 0 ≤ sumW k p := by
  have hx : ∀ x ∈ p, 0 ≤ getK x.2 k := fun x hx => by
    rw [← purse_mem h.nd hx]
    exact (getK_in (h.ok x.1) k).1
  clear h
  induction p with
  | nil => exact Int.le_refl _
  | cons x p ih =>
    have h1 := hx x (List.mem_cons_self ..)
    have h2 := ih fun y hy => hx y (List.mem_cons_of_mem _ hy)
    show 0 ≤ getK x.2 k + sumW k p
    omega
theorem isIt_0s : isIt it0 = true := by decide
theorem PsK.le {p : Ps} (h : PsK p) (who : ByteArray) (k : Int) : getK (purseA p who) k ≤ sumW k p := by
  have h1 := sumW_lay h.nd k who it0
  have h2 := PsK.pos ⟨nodup_lay h.nd who it0, psOk_lay h.ok who isIt_0s⟩ k
  rw [getK_it0] at h1
  omega
/-- An order of so many. -/
def withC (o : Ord) (c : Int) : Ord := ⟨o.id, o.who, o.buy, o.item, c, o.price⟩
/-- All that Total adds. -/
def allV (V : Vs) : List It := (hdL V.ps).map Hd.has ++ V.L.map holdsF
def totI (V : Vs) : It := ⟨totV V 0, totV V 1, totV V 2, totV V 3⟩
end Go.Proofs.YtbcokphjpllbiaaGreat
end
section
set_option linter.unusedSimpArgs false
set_option linter.unusedVariables false
namespace Go.Proofs.YtbcokphjpllbiaaGreat
open Go.RowKit Go.Sl
abbrev itsR (v : Value) (l : List It) : HP := row v 4 39 l.length (l.flatMap It.cells)
def TtR (W : World) (F : List HP) (m : Nat) (acc : Nat → List It) (v7 vk : Value) (w : World) : Prop :=
  ∃ k : Nat, vk = .int .i64 k ∧ k ≤ m ∧ St W (itsR v7 (acc k) :: F) w
theorem maps_step {α β : Type} (f : α → β) (l : List α) {k : Nat} (h : k < l.length) : (l.take (k + 1)).map f = (l.take k).map f ++ [f l[k]] := by
  rw [List.take_succ_eq_append_getElem h, List.map_append]; rfl
theorem its_push (l : List It) (x : It) : (l ++ [x]).flatMap It.cells = l.flatMap It.cells ++ x.cells := by simp
end Go.Proofs.YtbcokphjpllbiaaGreat
end
section
set_option linter.unusedSimpArgs false
set_option linter.unusedVariables false
namespace Go.Sl
open Go.RowKit
section
variable {P : Program} {W : World} {L : List HP} {ops : Array Oper} {Q : Act → Prop} {a : Act} {rest : List Oper} {o : Oper}
theorem wq_eqA {t t2 : TypeId} {x y : Operand} {xs ys : Array Value} {r : Bool} (ho : o.op = .binOp .eql t x y t2) (hg : Region.wanted o (yielded ops a.tmps) = true) (hx : a.eval x = .agg xs) (hy : a.eval y = .agg ys) (hm : P.eqGuardType P.depth t = false) (hr : ∀ w : World, (Op.equalIn 10000 t (.agg xs) (.agg ys)).run P w = .ok r w)
    (h : wpQuiet P ops (St W L) Q rest (a.put o.dst (.bool r))) : wpQuiet P ops (St W L) Q (o :: rest) a :=
  wq_val hg (fun w _ => by
    unfold execOp
    simp [ho, hx, hy, run_eqGuard_agg w .eql t x y xs ys hm, run_eql_struct, hr]) h
theorem wq_neA {t t2 : TypeId} {x y : Operand} {xs ys : Array Value} {r : Bool} (ho : o.op = .binOp .neq t x y t2) (hg : Region.wanted o (yielded ops a.tmps) = true) (hx : a.eval x = .agg xs) (hy : a.eval y = .agg ys) (hm : P.eqGuardType P.depth t = false) (hr : ∀ w : World, (Op.equalIn 10000 t (.agg xs) (.agg ys)).run P w = .ok r w)
    (h : wpQuiet P ops (St W L) Q rest (a.put o.dst (.bool (!r)))) : wpQuiet P ops (St W L) Q (o :: rest) a :=
  wq_val hg (fun w _ => by
    unfold execOp
    simp [ho, hx, hy, run_eqGuard_agg w .neq t x y xs ys hm, run_neq_struct, hr]) h
end
end Go.Sl
namespace Go.Proofs.YtbcokphjpllbiaaGreat
open Go.RowKit Go.Sl
/-- What holds of purses and the next ID behind i acts. -/
structure VOk (p : Ps) (n : Int) (i : Nat) : Prop where
  ok : PsOk p
  w : PsW p (100 * i)
  n0 : 1 ≤ n
  n1 : n ≤ 1 + i
theorem VOk.on {p : Ps} {n : Int} {i : Nat} (h : VOk p n i) : VOk p n (i + 1) := ⟨h.ok, psW_mono h.w (by omega), h.n0, by have := h.n1; omega⟩
section
variable (vb mb bb : Nat) {p : Ps} {L : List Ord} {n : Int} {i : Nat} (W w : World) (R : List HP)
end
end Go.Proofs.YtbcokphjpllbiaaGreat
end
