/-
  The vault's Put and Take. For every vault.
-/
import Derived.Test.YtbcokphjpllbiaaGreatVaultPlaysM9

section
set_option linter.unusedSimpArgs false
set_option linter.unusedVariables false
namespace Go.Proofs.YtbcokphjpllbiaaGreat
open Go.RowKit Go.Sl
def putE (p : Ps) (k : ByteArray) (i : It) : Int := if whoB k = true ∧ isIt i = true then (if (addL [purseA p k, i] it0).isSome = true then 0 else 6) else 1
def putP (p : Ps) (k : ByteArray) (i : It) : Ps := if whoB k = true ∧ isIt i = true then (match addL [purseA p k, i] it0 with | some s => layP p k s | none => p) else p
def takeE (p : Ps) (k : ByteArray) (i : It) : Int := if whoB k = true ∧ isIt i = true then (if subOk (purseA p k) i = true then 0 else 14) else 1
def takeP (p : Ps) (k : ByteArray) (i : It) : Ps := if whoB k = true ∧ isIt i = true then (if subOk (purseA p k) i = true then layP p k (subIt (purseA p k) i) else p) else p
section
variable (vb mb : Nat) (p : Ps) (k : ByteArray) (u1 u2 : Value) (i : It) (W w : World) (R : List HP)
set_option maxRecDepth 100000 in
set_option maxHeartbeats 4000000 in
theorem put_spec (hS : St W (blk vb [.map (some mb), u1, u2] 80 :: amap eS eP mb p :: R) w) :
    Calls Tryz.prog 17 #[.pointer (some ⟨vb, 0, none⟩), .string k, .agg i.cells.toArray] w fun e w' => e = .returned (.int .i64 (putE p k i)) ∧ St W (blk vb [.map (some mb), u1, u2] 80 :: amap eS eP mb (putP p k i) :: R) w' := by
  obtain ⟨x0, x1, x2, x3⟩ := i
  cases hk : whoB k with
  | false =>
    have e1 : putE p k ⟨x0, x1, x2, x3⟩ = 1 := by simp [putE, hk]
    have e2 : putP p k ⟨x0, x1, x2, x3⟩ = p := by simp [putP, hk]
    rw [e1, e2]
    clear e1 e2
    simp only [It.cells]
    go_enter Tryz.func17, Tryz.ntmps17
    go_wp2_with (first | go_big_skip | (go_at_call 36; refine (who_spec k W _ _ hS).mono ?_; clear hS; rw [hk]; rintro e w ⟨rfl, hS⟩) | ((with_reducible apply wl_box hS); (with_reducible rfl); rfl; rfl; rfl; clear hS; intro b w hS; (simp only [Act.put, fA, fB, fC, Nat.reduceAdd])))
    go_ret
    exact ⟨rfl, hS.drop⟩
  | true =>
    cases hi : isIt ⟨x0, x1, x2, x3⟩ with
    | false =>
      have e1 : putE p k ⟨x0, x1, x2, x3⟩ = 1 := by simp [putE, hk, hi]
      have e2 : putP p k ⟨x0, x1, x2, x3⟩ = p := by simp [putP, hk, hi]
      rw [e1, e2]
      clear e1 e2
      simp only [It.cells]
      go_enter Tryz.func17, Tryz.ntmps17
      go_wp2_with (first | (go_at_call 36; refine (who_spec k W _ _ hS).mono ?_; clear hS; rw [hk]; rintro e w ⟨rfl, hS⟩) | (go_at_call 37; refine (is_at _ _ _ _ W _ _ hS).mono ?_; clear hS; rw [hi]; rintro e w ⟨rfl, hS⟩) | ((with_reducible apply wl_ldN hS); (with_reducible rfl); rfl; rfl; decide +kernel; (first | (focus((repeat(first|exact Cells.whole | apply Cells.there)); done)) | assumption); kernel_rfl; (simp only [Act.put, fA, fB, fC, Nat.reduceAdd])) | ((with_reducible apply wl_box hS); (with_reducible rfl); rfl; rfl; rfl; clear hS; intro b w hS; (simp only [Act.put, fA, fB, fC, Nat.reduceAdd])))
      go_ret
      exact ⟨rfl, hS.drop⟩
    | true =>
      obtain ⟨px, hx⟩ : ∃ x, purseA p k = x := ⟨_, rfl⟩
      obtain ⟨p0, p1, p2, p3⟩ := px
      cases ha : addL [⟨p0, p1, p2, p3⟩, ⟨x0, x1, x2, x3⟩] it0 with
      | none =>
        have e1 : putE p k ⟨x0, x1, x2, x3⟩ = 6 := by simp [putE, hk, hi, hx, ha]
        have e2 : putP p k ⟨x0, x1, x2, x3⟩ = p := by simp [putP, hk, hi, hx, ha]
        rw [e1, e2]
        have Hx := Lib.hid hx
        have Ha := Lib.hid ha
        clear ha hx e1 e2
        simp only [It.cells]
        go_enter Tryz.func17, Tryz.ntmps17
        go_wp2_with (first | (go_at_call 36; refine (who_spec k W _ _ hS).mono ?_; clear hS; rw [hk]; rintro e w ⟨rfl, hS⟩) | (go_at_call 37; refine (is_at _ _ _ _ W _ _ hS).mono ?_; clear hS; rw [hi]; rintro e w ⟨rfl, hS⟩) | ((with_reducible apply wl_ldN hS); (with_reducible rfl); rfl; rfl; decide +kernel; (first | (focus((repeat(first|exact Cells.whole | apply Cells.there)); done)) | assumption); kernel_rfl; (simp only [Act.put, fA, fB, fC, Nat.reduceAdd])) | ((with_reducible apply wl_box hS); (with_reducible rfl); rfl; rfl; rfl; clear hS; intro b w hS; (simp only [Act.put, fA, fB, fC, Nat.reduceAdd])))
        refine wp_region_flow3 [0, 1, 3, 7, 0, 31, 0, 127, 255, 511, 1023, 1023, 0, 6143, 16383] (fun i => i == 7 || i == 12) (fun i => if i == 8 then some (.tuple #[.agg #[.int .i64 0, .int .i64 0, .int .i64 0, .int .i64 0], .bool false]) else none) [⟨some 7, some 8, fun nd => row (nd 7) 4 39 2 ([(⟨p0, p1, p2, p3⟩ : It), ⟨x0, x1, x2, x3⟩].flatMap It.cells)⟩, ⟨some 12, some 13, fun nd => ptrTo (nd 12) [.int .i64 0, .int .i64 0, .int .i64 0, .int .i64 0] 39⟩, ⟨some 13, none, fun nd => ptrTo (nd 12) [.int .i64 0, .int .i64 0, .int .i64 0, .int .i64 0] 39⟩] [none, none, none] (by kernel_rfl) (by kernel_rfl) rfl hS (CongOk.cons (fun nd nd' h => by dsimp only; rw [h 7 rfl rfl]) (CongOk.cons (fun nd nd' h => by dsimp only; rw [h 12 rfl rfl]) (CongOk.cons (fun nd nd' h => by dsimp only; rw [h 12 rfl rfl]) CongOk.nil))) ?_
        intro nd
        repeat (first | (apply ch_ld1; rfl; kernel_rfl; (with_reducible rfl); rfl; rfl; decide +kernel; (intro F; first | exact Cell.here rfl | exact Cell.there (Cell.here rfl) | exact Cell.there (Cell.there (Cell.here rfl)) | exact Cell.there (Cell.there (Cell.there (Cell.here rfl))) | exact Cell.there (Cell.there (Cell.there (Cell.there (Cell.here rfl)))) | exact Cell.there (Cell.there (Cell.there (Cell.there (Cell.there (Cell.here rfl))))) | exact Cell.there (Cell.there (Cell.there (Cell.there (Cell.there (Cell.there (Cell.here rfl)))))) | assumption); (simp only [Act.put, fA, fB, fC, Nat.reduceAdd])) | (apply ch_ldN; rfl; kernel_rfl; (with_reducible rfl); rfl; rfl; decide +kernel; (intro F; first | exact Cells.whole | exact Cells.there Cells.whole | exact Cells.there (Cells.there Cells.whole) | exact Cells.there (Cells.there (Cells.there Cells.whole)) | exact Cells.there (Cells.there (Cells.there (Cells.there Cells.whole))) | exact Cells.there (Cells.there (Cells.there (Cells.there (Cells.there Cells.whole)))) | exact Cells.there (Cells.there (Cells.there (Cells.there (Cells.there (Cells.there Cells.whole))))) | assumption); kernel_rfl; (simp only [Act.put, fA, fB, fC, Nat.reduceAdd])) | (apply ch_nil; rfl; kernel_rfl; (with_reducible rfl); rfl; rfl; (simp only [Act.put, fA, fB, fC, Nat.reduceAdd])) | (apply ch_alookU (ek := eS) (ev := eP) (k := k) it0 ⟨p0, p1, p2, p3⟩; rfl; kernel_rfl; (with_reducible rfl); rfl; rfl; rfl; (intro F; exact ⟨_, by first | exact Take.head | exact Take.tail Take.head | exact Take.tail (Take.tail Take.head) | exact Take.tail (Take.tail (Take.tail Take.head)) | exact Take.tail (Take.tail (Take.tail (Take.tail Take.head))) | exact Take.tail (Take.tail (Take.tail (Take.tail (Take.tail Take.head)))) | exact Take.tail (Take.tail (Take.tail (Take.tail (Take.tail (Take.tail Take.head)))))⟩); exact mP; exact kS; exact zP; rfl; exact Hx.out; (simp only [Act.put, fA, fB, fC, Nat.reduceAdd, eP, It.cells])) | (refine ch_pure rfl (by kernel_rfl) rfl rfl ?_; intro K hK; go_big_quiet_op; go_big_quiet_on))
        (apply ch_bsR; rfl; (with_reducible rfl); rfl; (focus (simp only [fD, List.map_cons, List.map_nil, Act.eval, fE, fF, fG, fH, Option.getD_some]; try rfl)); (exact Ty.e128); (exact Ty.r39); rfl; rfl; rfl; rfl; rfl; decide; (intro _; rfl); rfl; (intro _; rfl); (simp only [Act.put, fA, fB, fC, Nat.reduceAdd]))
        (apply ch_callF; rfl; rfl; rfl; (with_reducible rfl); decide +kernel; (focus (simp only [fD, List.map_cons, List.map_nil, Act.eval, fE, fF, fG, fH, Option.getD_some]; try rfl)); (intro F w hS; (try clear hS0); exact add_none Ha.out _ W w _ hS); (simp only [Act.put, fA, fB, fC, Nat.reduceAdd]))
        iterate 3 (refine ch_pure rfl (by kernel_rfl) rfl rfl ?_; intro K hK; go_big_quiet_op; go_big_quiet_on)
        (apply ch_alloc; rfl; (with_reducible rfl); rfl; (intro _; rfl); (exact Ty.z39); rfl; (intro _; rfl); (simp only [Act.put, fA, fB, fC, Nat.reduceAdd]))
        (apply ch_stTo; rfl; (with_reducible rfl); rfl; (focus ((conv => lhs; whnf); try rfl)); (focus ((conv => lhs; whnf); try rfl)); (focus ((conv => lhs; whnf); try rfl)); kernel_rfl; rfl; rfl; (simp only [List.length_cons, List.length_nil]; omega); rfl; rfl; try (simp only [Act.put, fA, fB, fC, Nat.reduceAdd]))
        (refine ch_pure rfl (by kernel_rfl) rfl rfl ?_; intro K hK; go_big_quiet_op; go_big_quiet_on)
        refine ch_end ?_
        clear hS
        intro w hS
        have hS2 : St W [ptrTo (nd 12) _ _, blk b _ _, blk vb _ _, amap eS eP mb p, sats R] w := hS
        clear hS
        have hS := hS2.unpack [_, _, _, _]
        clear hS2
        simp only [List.cons_append, List.nil_append] at hS
        generalize nd 12 = v12 at *
        have h1 := hS.ptr; clear hS; obtain ⟨b2, rfl, hS⟩ := h1
        go_wp2_with (fail)
        go_ret
        exact ⟨rfl, hS.sel (by (repeat' (first | (with_reducible first | exact Sel.done Suf.refl | exact Sel.done (Suf.tail Suf.refl) | exact Sel.done (Suf.tail (Suf.tail Suf.refl)) | exact Sel.done (Suf.tail (Suf.tail (Suf.tail Suf.refl))) | (apply Sel.done; (focus((repeat(first|exact Suf.refl | apply Suf.tail)); done)))) | (refine Sel.cons (by with_reducible (focus((repeat(first|exact .head|apply Take.tail));done))) ?_))))⟩
      | some s =>
        obtain ⟨s0, s1, s2, s3⟩ := s
        have e1 : putE p k ⟨x0, x1, x2, x3⟩ = 0 := by simp [putE, hk, hi, hx, ha]
        have e2 : putP p k ⟨x0, x1, x2, x3⟩ = layP p k ⟨s0, s1, s2, s3⟩ := by simp [putP, hk, hi, hx, ha, subIt]
        rw [e1, e2]
        have Hx := Lib.hid hx
        have Ha := Lib.hid ha
        clear ha hx e1 e2
        simp only [It.cells]
        go_enter Tryz.func17, Tryz.ntmps17
        go_wp2_with (first | (go_at_call 36; refine (who_spec k W _ _ hS).mono ?_; clear hS; rw [hk]; rintro e w ⟨rfl, hS⟩) | (go_at_call 37; refine (is_at _ _ _ _ W _ _ hS).mono ?_; clear hS; rw [hi]; rintro e w ⟨rfl, hS⟩) | ((with_reducible apply wl_ldN hS); (with_reducible rfl); rfl; rfl; decide +kernel; (first | (focus((repeat(first|exact Cells.whole | apply Cells.there)); done)) | assumption); kernel_rfl; (simp only [Act.put, fA, fB, fC, Nat.reduceAdd])) | ((with_reducible apply wl_box hS); (with_reducible rfl); rfl; rfl; rfl; clear hS; intro b w hS; (simp only [Act.put, fA, fB, fC, Nat.reduceAdd])))
        refine wp_region_flow3 [0, 1, 3, 7, 0, 31, 0, 127, 255, 511, 1023, 1023, 0, 6143, 16383] (fun i => i == 7 || i == 12) (fun i => if i == 8 then some (.tuple #[.agg #[.int .i64 s0, .int .i64 s1, .int .i64 s2, .int .i64 s3], .bool true]) else none) [⟨some 7, some 8, fun nd => row (nd 7) 4 39 2 ([(⟨p0, p1, p2, p3⟩ : It), ⟨x0, x1, x2, x3⟩].flatMap It.cells)⟩, ⟨some 12, some 13, fun nd => ptrTo (nd 12) [.int .i64 0, .int .i64 0, .int .i64 0, .int .i64 0] 39⟩, ⟨some 13, none, fun nd => ptrTo (nd 12) [.int .i64 s0, .int .i64 s1, .int .i64 s2, .int .i64 s3] 39⟩] [none, none, none] (by kernel_rfl) (by kernel_rfl) rfl hS (CongOk.cons (fun nd nd' h => by dsimp only; rw [h 7 rfl rfl]) (CongOk.cons (fun nd nd' h => by dsimp only; rw [h 12 rfl rfl]) (CongOk.cons (fun nd nd' h => by dsimp only; rw [h 12 rfl rfl]) CongOk.nil))) ?_
        intro nd
        repeat (first | (apply ch_ld1; rfl; kernel_rfl; (with_reducible rfl); rfl; rfl; decide +kernel; (intro F; first | exact Cell.here rfl | exact Cell.there (Cell.here rfl) | exact Cell.there (Cell.there (Cell.here rfl)) | exact Cell.there (Cell.there (Cell.there (Cell.here rfl))) | exact Cell.there (Cell.there (Cell.there (Cell.there (Cell.here rfl)))) | exact Cell.there (Cell.there (Cell.there (Cell.there (Cell.there (Cell.here rfl))))) | exact Cell.there (Cell.there (Cell.there (Cell.there (Cell.there (Cell.there (Cell.here rfl)))))) | assumption); (simp only [Act.put, fA, fB, fC, Nat.reduceAdd])) | (apply ch_ldN; rfl; kernel_rfl; (with_reducible rfl); rfl; rfl; decide +kernel; (intro F; first | exact Cells.whole | exact Cells.there Cells.whole | exact Cells.there (Cells.there Cells.whole) | exact Cells.there (Cells.there (Cells.there Cells.whole)) | exact Cells.there (Cells.there (Cells.there (Cells.there Cells.whole))) | exact Cells.there (Cells.there (Cells.there (Cells.there (Cells.there Cells.whole)))) | exact Cells.there (Cells.there (Cells.there (Cells.there (Cells.there (Cells.there Cells.whole))))) | assumption); kernel_rfl; (simp only [Act.put, fA, fB, fC, Nat.reduceAdd])) | (apply ch_nil; rfl; kernel_rfl; (with_reducible rfl); rfl; rfl; (simp only [Act.put, fA, fB, fC, Nat.reduceAdd])) | (apply ch_alookU (ek := eS) (ev := eP) (k := k) it0 ⟨p0, p1, p2, p3⟩; rfl; kernel_rfl; (with_reducible rfl); rfl; rfl; rfl; (intro F; exact ⟨_, by first | exact Take.head | exact Take.tail Take.head | exact Take.tail (Take.tail Take.head) | exact Take.tail (Take.tail (Take.tail Take.head)) | exact Take.tail (Take.tail (Take.tail (Take.tail Take.head))) | exact Take.tail (Take.tail (Take.tail (Take.tail (Take.tail Take.head)))) | exact Take.tail (Take.tail (Take.tail (Take.tail (Take.tail (Take.tail Take.head)))))⟩); exact mP; exact kS; exact zP; rfl; exact Hx.out; (simp only [Act.put, fA, fB, fC, Nat.reduceAdd, eP, It.cells])) | (refine ch_pure rfl (by kernel_rfl) rfl rfl ?_; intro K hK; go_big_quiet_op; go_big_quiet_on))
        (apply ch_bsR; rfl; (with_reducible rfl); rfl; (focus (simp only [fD, List.map_cons, List.map_nil, Act.eval, fE, fF, fG, fH, Option.getD_some]; try rfl)); (exact Ty.e128); (exact Ty.r39); rfl; rfl; rfl; rfl; rfl; decide; (intro _; rfl); rfl; (intro _; rfl); (simp only [Act.put, fA, fB, fC, Nat.reduceAdd]))
        (apply ch_callF; rfl; rfl; rfl; (with_reducible rfl); decide +kernel; (focus (simp only [fD, List.map_cons, List.map_nil, Act.eval, fE, fF, fG, fH, Option.getD_some]; try rfl)); (intro F w hS; (try clear hS0); exact add_some Ha.out _ W w _ hS); (simp only [Act.put, fA, fB, fC, Nat.reduceAdd]))
        iterate 3 (refine ch_pure rfl (by kernel_rfl) rfl rfl ?_; intro K hK; go_big_quiet_op; go_big_quiet_on)
        (apply ch_alloc; rfl; (with_reducible rfl); rfl; (intro _; rfl); (exact Ty.z39); rfl; (intro _; rfl); (simp only [Act.put, fA, fB, fC, Nat.reduceAdd]))
        (apply ch_stTo; rfl; (with_reducible rfl); rfl; (focus ((conv => lhs; whnf); try rfl)); (focus ((conv => lhs; whnf); try rfl)); (focus ((conv => lhs; whnf); try rfl)); kernel_rfl; rfl; rfl; (simp only [List.length_cons, List.length_nil]; omega); rfl; rfl; try (simp only [Act.put, fA, fB, fC, Nat.reduceAdd]))
        (refine ch_pure rfl (by kernel_rfl) rfl rfl ?_; intro K hK; go_big_quiet_op; go_big_quiet_on)
        refine ch_end ?_
        clear hS
        intro w hS
        have hS2 : St W [ptrTo (nd 12) _ _, blk b _ _, blk vb _ _, amap eS eP mb p, sats R] w := hS
        clear hS
        have hS := hS2.unpack [_, _, _, _]
        clear hS2
        simp only [List.cons_append, List.nil_append] at hS
        generalize nd 12 = v12 at *
        have h1 := hS.ptr; clear hS; obtain ⟨b2, rfl, hS⟩ := h1
        go_wp2_with (first | (go_at_call 38; refine (lays_spec vb mb p k u1 u2 W _ R ⟨s0, s1, s2, s3⟩ (hS.sel (by (repeat' (first | (with_reducible first | exact Sel.done Suf.refl | exact Sel.done (Suf.tail Suf.refl) | exact Sel.done (Suf.tail (Suf.tail Suf.refl)) | exact Sel.done (Suf.tail (Suf.tail (Suf.tail Suf.refl))) | (apply Sel.done; (focus((repeat(first|exact Suf.refl | apply Suf.tail)); done)))) | (refine Sel.cons (by with_reducible (focus((repeat(first|exact .head|apply Take.tail));done))) ?_)))))).mono ?_; clear hS; rintro e w ⟨rfl, hS⟩) | ((with_reducible apply wl_ldN hS); (with_reducible rfl); rfl; rfl; decide +kernel; (first | (focus((repeat(first|exact Cells.whole | apply Cells.there)); done)) | assumption); kernel_rfl; (simp only [Act.put, fA, fB, fC, Nat.reduceAdd])))
        go_ret
        exact ⟨rfl, hS⟩
set_option maxRecDepth 100000 in
set_option maxHeartbeats 4000000 in
theorem take_spec (hS : St W (blk vb [.map (some mb), u1, u2] 80 :: amap eS eP mb p :: R) w) :
    Calls Tryz.prog 19 #[.pointer (some ⟨vb, 0, none⟩), .string k, .agg i.cells.toArray] w fun e w' => e = .returned (.int .i64 (takeE p k i)) ∧ St W (blk vb [.map (some mb), u1, u2] 80 :: amap eS eP mb (takeP p k i) :: R) w' := by
  obtain ⟨x0, x1, x2, x3⟩ := i
  cases hk : whoB k with
  | false =>
    have e1 : takeE p k ⟨x0, x1, x2, x3⟩ = 1 := by simp [takeE, hk]
    have e2 : takeP p k ⟨x0, x1, x2, x3⟩ = p := by simp [takeP, hk]
    rw [e1, e2]
    clear e1 e2
    simp only [It.cells]
    go_enter Tryz.func19, Tryz.ntmps19
    go_wp2_with (first | go_big_skip | (go_at_call 36; refine (who_spec k W _ _ hS).mono ?_; clear hS; rw [hk]; rintro e w ⟨rfl, hS⟩) | ((with_reducible apply wl_box hS); (with_reducible rfl); rfl; rfl; rfl; clear hS; intro b w hS; (simp only [Act.put, fA, fB, fC, Nat.reduceAdd])))
    go_ret
    exact ⟨rfl, hS.drop⟩
  | true =>
    cases hi : isIt ⟨x0, x1, x2, x3⟩ with
    | false =>
      have e1 : takeE p k ⟨x0, x1, x2, x3⟩ = 1 := by simp [takeE, hk, hi]
      have e2 : takeP p k ⟨x0, x1, x2, x3⟩ = p := by simp [takeP, hk, hi]
      rw [e1, e2]
      clear e1 e2
      simp only [It.cells]
      go_enter Tryz.func19, Tryz.ntmps19
      go_wp2_with (first | (go_at_call 36; refine (who_spec k W _ _ hS).mono ?_; clear hS; rw [hk]; rintro e w ⟨rfl, hS⟩) | (go_at_call 37; refine (is_at _ _ _ _ W _ _ hS).mono ?_; clear hS; rw [hi]; rintro e w ⟨rfl, hS⟩) | ((with_reducible apply wl_ldN hS); (with_reducible rfl); rfl; rfl; decide +kernel; (first | (focus((repeat(first|exact Cells.whole | apply Cells.there)); done)) | assumption); kernel_rfl; (simp only [Act.put, fA, fB, fC, Nat.reduceAdd])) | ((with_reducible apply wl_box hS); (with_reducible rfl); rfl; rfl; rfl; clear hS; intro b w hS; (simp only [Act.put, fA, fB, fC, Nat.reduceAdd])))
      go_ret
      exact ⟨rfl, hS.drop⟩
    | true =>
      obtain ⟨px, hx⟩ : ∃ x, purseA p k = x := ⟨_, rfl⟩
      obtain ⟨p0, p1, p2, p3⟩ := px
      cases ha : subOk ⟨p0, p1, p2, p3⟩ ⟨x0, x1, x2, x3⟩ with
      | false =>
        have e1 : takeE p k ⟨x0, x1, x2, x3⟩ = 14 := by simp [takeE, hk, hi, hx, ha]
        have e2 : takeP p k ⟨x0, x1, x2, x3⟩ = p := by simp [takeP, hk, hi, hx, ha]
        rw [e1, e2]
        have Hx := Lib.hid hx
        have Ha := Lib.hid ha
        clear ha hx e1 e2
        simp only [It.cells]
        go_enter Tryz.func19, Tryz.ntmps19
        go_wp2_with (first | (go_at_call 36; refine (who_spec k W _ _ hS).mono ?_; clear hS; rw [hk]; rintro e w ⟨rfl, hS⟩) | (go_at_call 37; refine (is_at _ _ _ _ W _ _ hS).mono ?_; clear hS; rw [hi]; rintro e w ⟨rfl, hS⟩) | ((with_reducible apply wl_ldN hS); (with_reducible rfl); rfl; rfl; decide +kernel; (first | (focus((repeat(first|exact Cells.whole | apply Cells.there)); done)) | assumption); kernel_rfl; (simp only [Act.put, fA, fB, fC, Nat.reduceAdd])) | ((with_reducible apply wl_box hS); (with_reducible rfl); rfl; rfl; rfl; clear hS; intro b w hS; (simp only [Act.put, fA, fB, fC, Nat.reduceAdd])))
        refine wp_region_flow3 [0, 1, 3, 7, 0, 31, 0, 127, 255, 511, 511, 0, 3071, 8191] (fun i => i == 11) (fun i => if i == 7 then some (.tuple #[.agg #[.int .i64 (0), .int .i64 (0), .int .i64 (0), .int .i64 (0)], .bool false]) else none) [⟨some 11, some 12, fun nd => ptrTo (nd 11) [.int .i64 0, .int .i64 0, .int .i64 0, .int .i64 0] 39⟩, ⟨some 12, none, fun nd => ptrTo (nd 11) [.int .i64 (0), .int .i64 (0), .int .i64 (0), .int .i64 (0)] 39⟩] [none, none, none] (by kernel_rfl) (by kernel_rfl) rfl hS (CongOk.cons (fun nd nd' h => by dsimp only; rw [h 11 rfl rfl]) (CongOk.cons (fun nd nd' h => by dsimp only; rw [h 11 rfl rfl]) CongOk.nil)) ?_
        intro nd
        repeat (first | (apply ch_ld1; rfl; kernel_rfl; (with_reducible rfl); rfl; rfl; decide +kernel; (intro F; first | exact Cell.here rfl | exact Cell.there (Cell.here rfl) | exact Cell.there (Cell.there (Cell.here rfl)) | exact Cell.there (Cell.there (Cell.there (Cell.here rfl))) | exact Cell.there (Cell.there (Cell.there (Cell.there (Cell.here rfl)))) | exact Cell.there (Cell.there (Cell.there (Cell.there (Cell.there (Cell.here rfl))))) | exact Cell.there (Cell.there (Cell.there (Cell.there (Cell.there (Cell.there (Cell.here rfl)))))) | assumption); (simp only [Act.put, fA, fB, fC, Nat.reduceAdd])) | (apply ch_ldN; rfl; kernel_rfl; (with_reducible rfl); rfl; rfl; decide +kernel; (intro F; first | exact Cells.whole | exact Cells.there Cells.whole | exact Cells.there (Cells.there Cells.whole) | exact Cells.there (Cells.there (Cells.there Cells.whole)) | exact Cells.there (Cells.there (Cells.there (Cells.there Cells.whole))) | exact Cells.there (Cells.there (Cells.there (Cells.there (Cells.there Cells.whole)))) | exact Cells.there (Cells.there (Cells.there (Cells.there (Cells.there (Cells.there Cells.whole))))) | assumption); kernel_rfl; (simp only [Act.put, fA, fB, fC, Nat.reduceAdd])) | (apply ch_nil; rfl; kernel_rfl; (with_reducible rfl); rfl; rfl; (simp only [Act.put, fA, fB, fC, Nat.reduceAdd])) | (apply ch_alookU (ek := eS) (ev := eP) (k := k) it0 ⟨p0, p1, p2, p3⟩; rfl; kernel_rfl; (with_reducible rfl); rfl; rfl; rfl; (intro F; exact ⟨_, by first | exact Take.head | exact Take.tail Take.head | exact Take.tail (Take.tail Take.head) | exact Take.tail (Take.tail (Take.tail Take.head)) | exact Take.tail (Take.tail (Take.tail (Take.tail Take.head))) | exact Take.tail (Take.tail (Take.tail (Take.tail (Take.tail Take.head)))) | exact Take.tail (Take.tail (Take.tail (Take.tail (Take.tail (Take.tail Take.head)))))⟩); exact mP; exact kS; exact zP; rfl; exact Hx.out; (simp only [Act.put, fA, fB, fC, Nat.reduceAdd, eP, It.cells])) | (refine ch_pure rfl (by kernel_rfl) rfl rfl ?_; intro K hK; go_big_quiet_op; go_big_quiet_on))
        (apply ch_callF; rfl; rfl; rfl; (with_reducible rfl); decide +kernel; (focus (simp only [fD, List.map_cons, List.map_nil, Act.eval, fE, fF, fG, fH, Option.getD_some]; try rfl)); (intro F w hS; (try clear hS0); exact sub_no Ha.out W w _ hS); (simp only [Act.put, fA, fB, fC, Nat.reduceAdd]))
        iterate 3 (refine ch_pure rfl (by kernel_rfl) rfl rfl ?_; intro K hK; go_big_quiet_op; go_big_quiet_on)
        (apply ch_alloc; rfl; (with_reducible rfl); rfl; (intro _; rfl); (exact Ty.z39); rfl; (intro _; rfl); (simp only [Act.put, fA, fB, fC, Nat.reduceAdd]))
        (apply ch_stTo; rfl; (with_reducible rfl); rfl; (focus ((conv => lhs; whnf); try rfl)); (focus ((conv => lhs; whnf); try rfl)); (focus ((conv => lhs; whnf); try rfl)); kernel_rfl; rfl; rfl; (simp only [List.length_cons, List.length_nil]; omega); rfl; rfl; try (simp only [Act.put, fA, fB, fC, Nat.reduceAdd]))
        (refine ch_pure rfl (by kernel_rfl) rfl rfl ?_; intro K hK; go_big_quiet_op; go_big_quiet_on)
        refine ch_end ?_
        clear hS
        intro w hS
        have hS2 : St W [ptrTo (nd 11) _ _, blk b _ _, blk vb _ _, amap eS eP mb p, sats R] w := hS
        clear hS
        have hS := hS2.unpack [_, _, _, _]
        clear hS2
        simp only [List.cons_append, List.nil_append] at hS
        generalize nd 11 = v12 at *
        have h1 := hS.ptr; clear hS; obtain ⟨b2, rfl, hS⟩ := h1
        go_wp2_with (fail)
        go_ret
        exact ⟨rfl, hS.sel (by (repeat' (first | (with_reducible first | exact Sel.done Suf.refl | exact Sel.done (Suf.tail Suf.refl) | exact Sel.done (Suf.tail (Suf.tail Suf.refl)) | exact Sel.done (Suf.tail (Suf.tail (Suf.tail Suf.refl))) | (apply Sel.done; (focus((repeat(first|exact Suf.refl | apply Suf.tail)); done)))) | (refine Sel.cons (by with_reducible (focus((repeat(first|exact .head|apply Take.tail));done))) ?_))))⟩
      | true =>
        have e1 : takeE p k ⟨x0, x1, x2, x3⟩ = 0 := by simp [takeE, hk, hi, hx, ha]
        have e2 : takeP p k ⟨x0, x1, x2, x3⟩ = layP p k ⟨p0 - x0, p1 - x1, p2 - x2, p3 - x3⟩ := by simp [takeP, hk, hi, hx, ha, subIt]
        rw [e1, e2]
        have Hx := Lib.hid hx
        have Ha := Lib.hid ha
        clear ha hx e1 e2
        simp only [It.cells]
        go_enter Tryz.func19, Tryz.ntmps19
        go_wp2_with (first | (go_at_call 36; refine (who_spec k W _ _ hS).mono ?_; clear hS; rw [hk]; rintro e w ⟨rfl, hS⟩) | (go_at_call 37; refine (is_at _ _ _ _ W _ _ hS).mono ?_; clear hS; rw [hi]; rintro e w ⟨rfl, hS⟩) | ((with_reducible apply wl_ldN hS); (with_reducible rfl); rfl; rfl; decide +kernel; (first | (focus((repeat(first|exact Cells.whole | apply Cells.there)); done)) | assumption); kernel_rfl; (simp only [Act.put, fA, fB, fC, Nat.reduceAdd])) | ((with_reducible apply wl_box hS); (with_reducible rfl); rfl; rfl; rfl; clear hS; intro b w hS; (simp only [Act.put, fA, fB, fC, Nat.reduceAdd])))
        refine wp_region_flow3 [0, 1, 3, 7, 0, 31, 0, 127, 255, 511, 511, 0, 3071, 8191] (fun i => i == 11) (fun i => if i == 7 then some (.tuple #[.agg #[.int .i64 (p0 - x0), .int .i64 (p1 - x1), .int .i64 (p2 - x2), .int .i64 (p3 - x3)], .bool true]) else none) [⟨some 11, some 12, fun nd => ptrTo (nd 11) [.int .i64 0, .int .i64 0, .int .i64 0, .int .i64 0] 39⟩, ⟨some 12, none, fun nd => ptrTo (nd 11) [.int .i64 (p0 - x0), .int .i64 (p1 - x1), .int .i64 (p2 - x2), .int .i64 (p3 - x3)] 39⟩] [none, none, none] (by kernel_rfl) (by kernel_rfl) rfl hS (CongOk.cons (fun nd nd' h => by dsimp only; rw [h 11 rfl rfl]) (CongOk.cons (fun nd nd' h => by dsimp only; rw [h 11 rfl rfl]) CongOk.nil)) ?_
        intro nd
        repeat (first | (apply ch_ld1; rfl; kernel_rfl; (with_reducible rfl); rfl; rfl; decide +kernel; (intro F; first | exact Cell.here rfl | exact Cell.there (Cell.here rfl) | exact Cell.there (Cell.there (Cell.here rfl)) | exact Cell.there (Cell.there (Cell.there (Cell.here rfl))) | exact Cell.there (Cell.there (Cell.there (Cell.there (Cell.here rfl)))) | exact Cell.there (Cell.there (Cell.there (Cell.there (Cell.there (Cell.here rfl))))) | exact Cell.there (Cell.there (Cell.there (Cell.there (Cell.there (Cell.there (Cell.here rfl)))))) | assumption); (simp only [Act.put, fA, fB, fC, Nat.reduceAdd])) | (apply ch_ldN; rfl; kernel_rfl; (with_reducible rfl); rfl; rfl; decide +kernel; (intro F; first | exact Cells.whole | exact Cells.there Cells.whole | exact Cells.there (Cells.there Cells.whole) | exact Cells.there (Cells.there (Cells.there Cells.whole)) | exact Cells.there (Cells.there (Cells.there (Cells.there Cells.whole))) | exact Cells.there (Cells.there (Cells.there (Cells.there (Cells.there Cells.whole)))) | exact Cells.there (Cells.there (Cells.there (Cells.there (Cells.there (Cells.there Cells.whole))))) | assumption); kernel_rfl; (simp only [Act.put, fA, fB, fC, Nat.reduceAdd])) | (apply ch_nil; rfl; kernel_rfl; (with_reducible rfl); rfl; rfl; (simp only [Act.put, fA, fB, fC, Nat.reduceAdd])) | (apply ch_alookU (ek := eS) (ev := eP) (k := k) it0 ⟨p0, p1, p2, p3⟩; rfl; kernel_rfl; (with_reducible rfl); rfl; rfl; rfl; (intro F; exact ⟨_, by first | exact Take.head | exact Take.tail Take.head | exact Take.tail (Take.tail Take.head) | exact Take.tail (Take.tail (Take.tail Take.head)) | exact Take.tail (Take.tail (Take.tail (Take.tail Take.head))) | exact Take.tail (Take.tail (Take.tail (Take.tail (Take.tail Take.head)))) | exact Take.tail (Take.tail (Take.tail (Take.tail (Take.tail (Take.tail Take.head)))))⟩); exact mP; exact kS; exact zP; rfl; exact Hx.out; (simp only [Act.put, fA, fB, fC, Nat.reduceAdd, eP, It.cells])) | (refine ch_pure rfl (by kernel_rfl) rfl rfl ?_; intro K hK; go_big_quiet_op; go_big_quiet_on))
        (apply ch_callF; rfl; rfl; rfl; (with_reducible rfl); decide +kernel; (focus (simp only [fD, List.map_cons, List.map_nil, Act.eval, fE, fF, fG, fH, Option.getD_some]; try rfl)); (intro F w hS; (try clear hS0); exact sub_yes Ha.out W w _ hS); (simp only [Act.put, fA, fB, fC, Nat.reduceAdd]))
        iterate 3 (refine ch_pure rfl (by kernel_rfl) rfl rfl ?_; intro K hK; go_big_quiet_op; go_big_quiet_on)
        (apply ch_alloc; rfl; (with_reducible rfl); rfl; (intro _; rfl); (exact Ty.z39); rfl; (intro _; rfl); (simp only [Act.put, fA, fB, fC, Nat.reduceAdd]))
        (apply ch_stTo; rfl; (with_reducible rfl); rfl; (focus ((conv => lhs; whnf); try rfl)); (focus ((conv => lhs; whnf); try rfl)); (focus ((conv => lhs; whnf); try rfl)); kernel_rfl; rfl; rfl; (simp only [List.length_cons, List.length_nil]; omega); rfl; rfl; try (simp only [Act.put, fA, fB, fC, Nat.reduceAdd]))
        (refine ch_pure rfl (by kernel_rfl) rfl rfl ?_; intro K hK; go_big_quiet_op; go_big_quiet_on)
        refine ch_end ?_
        clear hS
        intro w hS
        have hS2 : St W [ptrTo (nd 11) _ _, blk b _ _, blk vb _ _, amap eS eP mb p, sats R] w := hS
        clear hS
        have hS := hS2.unpack [_, _, _, _]
        clear hS2
        simp only [List.cons_append, List.nil_append] at hS
        generalize nd 11 = v12 at *
        have h1 := hS.ptr; clear hS; obtain ⟨b2, rfl, hS⟩ := h1
        go_wp2_with (first | (go_at_call 38; refine (lays_spec vb mb p k u1 u2 W _ R ⟨p0 - x0, p1 - x1, p2 - x2, p3 - x3⟩ (hS.sel (by (repeat' (first | (with_reducible first | exact Sel.done Suf.refl | exact Sel.done (Suf.tail Suf.refl) | exact Sel.done (Suf.tail (Suf.tail Suf.refl)) | exact Sel.done (Suf.tail (Suf.tail (Suf.tail Suf.refl))) | (apply Sel.done; (focus((repeat(first|exact Suf.refl | apply Suf.tail)); done)))) | (refine Sel.cons (by with_reducible (focus((repeat(first|exact .head|apply Take.tail));done))) ?_)))))).mono ?_; clear hS; rintro e w ⟨rfl, hS⟩) | ((with_reducible apply wl_ldN hS); (with_reducible rfl); rfl; rfl; decide +kernel; (first | (focus((repeat(first|exact Cells.whole | apply Cells.there)); done)) | assumption); kernel_rfl; (simp only [Act.put, fA, fB, fC, Nat.reduceAdd])))
        go_ret
        exact ⟨rfl, hS⟩
end
end Go.Proofs.YtbcokphjpllbiaaGreat
end
