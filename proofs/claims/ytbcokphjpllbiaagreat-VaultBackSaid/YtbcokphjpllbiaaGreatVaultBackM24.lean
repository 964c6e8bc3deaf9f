/-
  The document's vault: Put and Take. For every vault.
  The document's vault: Order. For every vault and order.
  The document's vault: Order, where it is placed. For every vault and order.
-/
import Derived.Test.YtbcokphjpllbiaaGreatVaultBackM5
import Derived.Test.YtbcokphjpllbiaaGreatVaultBackM17
import Derived.Test.YtbcokphjpllbiaaGreatVaultBackM23

section
set_option linter.unusedSimpArgs false
set_option linter.unusedVariables false
namespace Go.Proofs.YtbcokphjpllbiaaGreat
open Go.RowKit Go.Sl
section
variable (xb : Nat) (vB : Value) (n : Int) (p : Ps) (N : Nat) (W w : World) (R : List HP)
set_option maxRecDepth 100000 in
set_option maxHeartbeats 4000000 in
theorem put8 (hw : PsW p N) (hN : N ≤ 1000000) (k : ByteArray) (i : It) (hS : St W (xvP xb vB n p :: R) w) :
    Calls Tryz.prog 18 #[.pointer (some ⟨xb, 0, none⟩), .string k, .agg i.cells.toArray] w fun e w' => e = .returned (.int .i64 (putE p k i)) ∧ St W (xvP xb vB n (putP p k i) :: R) w' := by
  obtain ⟨x0, x1, x2, x3⟩ := i
  have Hw := Lib.hid hw
  clear hw
  cases hk : whoB k with
  | false =>
    have e1 : putE p k ⟨x0, x1, x2, x3⟩ = 1 := by simp [putE, hk]
    have e2 : putP p k ⟨x0, x1, x2, x3⟩ = p := by simp [putP, hk]
    rw [e1, e2]
    clear e1 e2
    simp only [It.cells]
    go_enter Tryz.func18, Tryz.ntmps18
    go_wp2_with (first | go_big_skip | (go_at_call 61; refine (key8 k W _ _ hS).mono ?_; clear hS; rw [hk]; rintro e w ⟨rfl, hS⟩) | (refine zbx hS ?_; clear hS; intro b w hS))
    go_ret
    exact ⟨rfl, hS.drop⟩
  | true =>
    cases hi : isIt ⟨x0, x1, x2, x3⟩ with
    | false =>
      have e1 : putE p k ⟨x0, x1, x2, x3⟩ = 1 := by simp [putE, hk, hi]
      have e2 : putP p k ⟨x0, x1, x2, x3⟩ = p := by simp [putP, hk, hi]
      rw [e1, e2]
      clear e1 e2
      simp only [It.cells]
      go_enter Tryz.func18, Tryz.ntmps18
      go_wp2_with (first | go_big_skip | (go_at_call 61; refine (key8 k W _ _ hS).mono ?_; clear hS; rw [hk]; rintro e w ⟨rfl, hS⟩) | (go_at_call 62; refine (is8_at _ _ _ _ W _ _ hS).mono ?_; clear hS; rw [hi]; rintro e w ⟨rfl, hS⟩) | (refine zbx hS ?_; clear hS; intro b w hS) | (refine zlN hS ?_))
      go_ret
      exact ⟨rfl, hS.drop⟩
    | true =>
      obtain ⟨px, hx⟩ : ∃ x, purseA p k = x := ⟨_, rfl⟩
      obtain ⟨p0, p1, p2, p3⟩ := px
      cases ha : addL [⟨p0, p1, p2, p3⟩, ⟨x0, x1, x2, x3⟩] it0 with
      | none =>
        have e1 : putE p k ⟨x0, x1, x2, x3⟩ = 6 := by simp [putE, hk, hi, hx, ha]
        have e2 : putP p k ⟨x0, x1, x2, x3⟩ = p := by simp [putP, hk, hi, hx, ha]
        rw [e1, e2]
        have Hx := Lib.hid hx
        have Ha := Lib.hid ha
        clear ha hx e1 e2
        simp only [It.cells]
        go_enter Tryz.func18, Tryz.ntmps18
        go_wp2_with (first | go_big_skip | (go_at_call 61; refine (key8 k W _ _ hS).mono ?_; clear hS; rw [hk]; rintro e w ⟨rfl, hS⟩) | (go_at_call 62; refine (is8_at _ _ _ _ W _ _ hS).mono ?_; clear hS; rw [hi]; rintro e w ⟨rfl, hS⟩) | (refine zbx hS ?_; clear hS; intro b w hS) | (refine zlN hS ?_))
        refine wp_region_flow3 [0, 0, 3, 0, 15, 31, 63, 127, 127, 0, 767, 2047] (fun i => i == 4 || i == 9) (fun i => if i == 2 then some (.agg #[.int .i64 p0, .int .i64 p1, .int .i64 p2, .int .i64 p3]) else if i == 5 then some (.tuple #[.agg #[.int .i64 0, .int .i64 0, .int .i64 0, .int .i64 0], .bool false]) else none) [⟨some 4, some 5, fun nd => row (nd 4) 4 39 2 ([(⟨p0, p1, p2, p3⟩ : It), ⟨x0, x1, x2, x3⟩].flatMap It.cells)⟩, ⟨some 9, some 10, fun nd => ptrTo (nd 9) [.int .i64 0, .int .i64 0, .int .i64 0, .int .i64 0] 39⟩, ⟨some 10, none, fun nd => ptrTo (nd 9) [.int .i64 0, .int .i64 0, .int .i64 0, .int .i64 0] 39⟩] [none, none] (by kernel_rfl) (by kernel_rfl) rfl hS (CongOk.cons (fun nd nd' h => by dsimp only; rw [h 4 rfl rfl]) (CongOk.cons (fun nd nd' h => by dsimp only; rw [h 9 rfl rfl]) (CongOk.cons (fun nd nd' h => by dsimp only; rw [h 9 rfl rfl]) CongOk.nil))) ?_
        intro nd
        iterate 2 (refine ch_pure rfl (by kernel_rfl) rfl rfl ?_; intro K hK; go_big_quiet_op; go_big_quiet_on)
        (refine zcv ?_ (hs := by (intro F w hS; (try clear hS0); exact has8_take Hw.out Hx.out hS (by exact takO))))
        (refine zcN ?_)
        (apply ch_bsR; rfl; (with_reducible rfl); rfl; (focus (simp only [fD, List.map_cons, List.map_nil, Act.eval, fE, fF, fG, fH, Option.getD_some]; try rfl)); (exact esS); (exact rsS); rfl; rfl; rfl; rfl; rfl; decide; (intro _; rfl); rfl; (intro _; rfl); (refine frS ?_))
        (refine zcv ?_ (hs := by (intro F w hS; (try clear hS0); exact add8_none Ha.out _ W w _ hS)))
        iterate 3 (refine ch_pure rfl (by kernel_rfl) rfl rfl ?_; intro K hK; go_big_quiet_op; go_big_quiet_on)
        (refine zca ?_)
        (refine zct ?_)
        (refine ch_pure rfl (by kernel_rfl) rfl rfl ?_; intro K hK; go_big_quiet_op; go_big_quiet_on)
        refine ch_end ?_
        clear hS
        intro w hS
        have hS2 : St W [ptrTo (nd 9) _ _, blk b _ _, xvP xb vB n p, sats R] w := hS
        clear hS
        have hS := hS2.unpack [_, _, _]
        clear hS2
        simp only [List.cons_append, List.nil_append] at hS
        generalize nd 9 = v12 at *
        have h1 := hS.ptr; clear hS; obtain ⟨b2, rfl, hS⟩ := h1
        go_wp2_with (first | go_big_skip)
        go_ret
        exact ⟨rfl, hS.sel (by exact selS)⟩
      | some s =>
        obtain ⟨s0, s1, s2, s3⟩ := s
        have e1 : putE p k ⟨x0, x1, x2, x3⟩ = 0 := by simp [putE, hk, hi, hx, ha]
        have e2 : putP p k ⟨x0, x1, x2, x3⟩ = layP p k ⟨s0, s1, s2, s3⟩ := by simp [putP, hk, hi, hx, ha, subIt]
        rw [e1, e2]
        have Hx := Lib.hid hx
        have Ha := Lib.hid ha
        clear ha hx e1 e2
        simp only [It.cells]
        go_enter Tryz.func18, Tryz.ntmps18
        go_wp2_with (first | go_big_skip | (go_at_call 61; refine (key8 k W _ _ hS).mono ?_; clear hS; rw [hk]; rintro e w ⟨rfl, hS⟩) | (go_at_call 62; refine (is8_at _ _ _ _ W _ _ hS).mono ?_; clear hS; rw [hi]; rintro e w ⟨rfl, hS⟩) | (refine zbx hS ?_; clear hS; intro b w hS) | (refine zlN hS ?_))
        refine wp_region_flow3 [0, 0, 3, 0, 15, 31, 63, 127, 127, 0, 767, 2047] (fun i => i == 4 || i == 9) (fun i => if i == 2 then some (.agg #[.int .i64 p0, .int .i64 p1, .int .i64 p2, .int .i64 p3]) else if i == 5 then some (.tuple #[.agg #[.int .i64 s0, .int .i64 s1, .int .i64 s2, .int .i64 s3], .bool true]) else none) [⟨some 4, some 5, fun nd => row (nd 4) 4 39 2 ([(⟨p0, p1, p2, p3⟩ : It), ⟨x0, x1, x2, x3⟩].flatMap It.cells)⟩, ⟨some 9, some 10, fun nd => ptrTo (nd 9) [.int .i64 0, .int .i64 0, .int .i64 0, .int .i64 0] 39⟩, ⟨some 10, none, fun nd => ptrTo (nd 9) [.int .i64 s0, .int .i64 s1, .int .i64 s2, .int .i64 s3] 39⟩] [none, none] (by kernel_rfl) (by kernel_rfl) rfl hS (CongOk.cons (fun nd nd' h => by dsimp only; rw [h 4 rfl rfl]) (CongOk.cons (fun nd nd' h => by dsimp only; rw [h 9 rfl rfl]) (CongOk.cons (fun nd nd' h => by dsimp only; rw [h 9 rfl rfl]) CongOk.nil))) ?_
        intro nd
        iterate 2 (refine ch_pure rfl (by kernel_rfl) rfl rfl ?_; intro K hK; go_big_quiet_op; go_big_quiet_on)
        (refine zcv ?_ (hs := by (intro F w hS; (try clear hS0); exact has8_take Hw.out Hx.out hS (by exact takO))))
        (refine zcN ?_)
        (apply ch_bsR; rfl; (with_reducible rfl); rfl; (focus (simp only [fD, List.map_cons, List.map_nil, Act.eval, fE, fF, fG, fH, Option.getD_some]; try rfl)); (exact esS); (exact rsS); rfl; rfl; rfl; rfl; rfl; decide; (intro _; rfl); rfl; (intro _; rfl); (refine frS ?_))
        (refine zcv ?_ (hs := by (intro F w hS; (try clear hS0); exact add8_some Ha.out _ W w _ hS)))
        iterate 3 (refine ch_pure rfl (by kernel_rfl) rfl rfl ?_; intro K hK; go_big_quiet_op; go_big_quiet_on)
        (refine zca ?_)
        (refine zct ?_)
        (refine ch_pure rfl (by kernel_rfl) rfl rfl ?_; intro K hK; go_big_quiet_op; go_big_quiet_on)
        refine ch_end ?_
        clear hS
        intro w hS
        have hS2 : St W [ptrTo (nd 9) _ _, blk b _ _, xvP xb vB n p, sats R] w := hS
        clear hS
        have hS := hS2.unpack [_, _, _]
        clear hS2
        simp only [List.cons_append, List.nil_append] at hS
        generalize nd 9 = v12 at *
        have h1 := hS.ptr; clear hS; obtain ⟨b2, rfl, hS⟩ := h1
        go_wp2_with (first | go_big_skip | (go_at_call 64; refine (set8P Hw.out hN k ⟨s0, s1, s2, s3⟩ (hS.sel (L' := xvP xb vB n p :: R) (by exact selS))).mono ?_; clear hS; rintro e w ⟨rfl, hS⟩) | (refine zlN hS ?_))
        go_ret
        exact ⟨rfl, hS⟩
set_option maxRecDepth 100000 in
set_option maxHeartbeats 4000000 in
theorem take8 (hw : PsW p N) (hN : N ≤ 1000000) (k : ByteArray) (i : It) (hS : St W (xvP xb vB n p :: R) w) :
    Calls Tryz.prog 20 #[.pointer (some ⟨xb, 0, none⟩), .string k, .agg i.cells.toArray] w fun e w' => e = .returned (.int .i64 (takeE p k i)) ∧ St W (xvP xb vB n (takeP p k i) :: R) w' := by
  obtain ⟨x0, x1, x2, x3⟩ := i
  have Hw := Lib.hid hw
  clear hw
  cases hk : whoB k with
  | false =>
    have e1 : takeE p k ⟨x0, x1, x2, x3⟩ = 1 := by simp [takeE, hk]
    have e2 : takeP p k ⟨x0, x1, x2, x3⟩ = p := by simp [takeP, hk]
    rw [e1, e2]
    clear e1 e2
    simp only [It.cells]
    go_enter Tryz.func20, Tryz.ntmps20
    go_wp2_with (first | go_big_skip | (go_at_call 61; refine (key8 k W _ _ hS).mono ?_; clear hS; rw [hk]; rintro e w ⟨rfl, hS⟩) | (refine zbx hS ?_; clear hS; intro b w hS))
    go_ret
    exact ⟨rfl, hS.drop⟩
  | true =>
    cases hi : isIt ⟨x0, x1, x2, x3⟩ with
    | false =>
      have e1 : takeE p k ⟨x0, x1, x2, x3⟩ = 1 := by simp [takeE, hk, hi]
      have e2 : takeP p k ⟨x0, x1, x2, x3⟩ = p := by simp [takeP, hk, hi]
      rw [e1, e2]
      clear e1 e2
      simp only [It.cells]
      go_enter Tryz.func20, Tryz.ntmps20
      go_wp2_with (first | go_big_skip | (go_at_call 61; refine (key8 k W _ _ hS).mono ?_; clear hS; rw [hk]; rintro e w ⟨rfl, hS⟩) | (go_at_call 62; refine (is8_at _ _ _ _ W _ _ hS).mono ?_; clear hS; rw [hi]; rintro e w ⟨rfl, hS⟩) | (refine zbx hS ?_; clear hS; intro b w hS) | (refine zlN hS ?_))
      go_ret
      exact ⟨rfl, hS.drop⟩
    | true =>
      obtain ⟨px, hx⟩ : ∃ x, purseA p k = x := ⟨_, rfl⟩
      obtain ⟨p0, p1, p2, p3⟩ := px
      cases ha : subOk ⟨p0, p1, p2, p3⟩ ⟨x0, x1, x2, x3⟩ with
      | false =>
        have e1 : takeE p k ⟨x0, x1, x2, x3⟩ = 14 := by simp [takeE, hk, hi, hx, ha]
        have e2 : takeP p k ⟨x0, x1, x2, x3⟩ = p := by simp [takeP, hk, hi, hx, ha]
        rw [e1, e2]
        have Hx := Lib.hid hx
        have Ha := Lib.hid ha
        clear ha hx e1 e2
        simp only [It.cells]
        go_enter Tryz.func20, Tryz.ntmps20
        go_wp2_with (first | go_big_skip | (go_at_call 61; refine (key8 k W _ _ hS).mono ?_; clear hS; rw [hk]; rintro e w ⟨rfl, hS⟩) | (go_at_call 62; refine (is8_at _ _ _ _ W _ _ hS).mono ?_; clear hS; rw [hi]; rintro e w ⟨rfl, hS⟩) | (refine zbx hS ?_; clear hS; intro b w hS) | (refine zlN hS ?_))
        refine wp_region_flow3 [0, 0, 3, 0, 15, 31, 63, 63, 0, 383, 1023] (fun i => i == 8) (fun i => if i == 2 then some (.agg #[.int .i64 p0, .int .i64 p1, .int .i64 p2, .int .i64 p3]) else if i == 4 then some (.tuple #[.agg #[.int .i64 (0), .int .i64 (0), .int .i64 (0), .int .i64 (0)], .bool false]) else none) [⟨some 8, some 9, fun nd => ptrTo (nd 8) [.int .i64 0, .int .i64 0, .int .i64 0, .int .i64 0] 39⟩, ⟨some 9, none, fun nd => ptrTo (nd 8) [.int .i64 (0), .int .i64 (0), .int .i64 (0), .int .i64 (0)] 39⟩] [none, none] (by kernel_rfl) (by kernel_rfl) rfl hS (CongOk.cons (fun nd nd' h => by dsimp only; rw [h 8 rfl rfl]) (CongOk.cons (fun nd nd' h => by dsimp only; rw [h 8 rfl rfl]) CongOk.nil)) ?_
        intro nd
        iterate 2 (refine ch_pure rfl (by kernel_rfl) rfl rfl ?_; intro K hK; go_big_quiet_op; go_big_quiet_on)
        (refine zcv ?_ (hs := by (intro F w hS; (try clear hS0); exact has8_take Hw.out Hx.out hS (by exact takO))))
        (refine zcN ?_)
        (refine zcv ?_ (hs := by (intro F w hS; (try clear hS0); exact sub8_no Ha.out W w _ hS)))
        iterate 3 (refine ch_pure rfl (by kernel_rfl) rfl rfl ?_; intro K hK; go_big_quiet_op; go_big_quiet_on)
        (refine zca ?_)
        (refine zct ?_)
        (refine ch_pure rfl (by kernel_rfl) rfl rfl ?_; intro K hK; go_big_quiet_op; go_big_quiet_on)
        refine ch_end ?_
        clear hS
        intro w hS
        have hS2 : St W [ptrTo (nd 8) _ _, blk b _ _, xvP xb vB n p, sats R] w := hS
        clear hS
        have hS := hS2.unpack [_, _, _]
        clear hS2
        simp only [List.cons_append, List.nil_append] at hS
        generalize nd 8 = v12 at *
        have h1 := hS.ptr; clear hS; obtain ⟨b2, rfl, hS⟩ := h1
        go_wp2_with (first | go_big_skip)
        go_ret
        exact ⟨rfl, hS.sel (by exact selS)⟩
      | true =>
        have e1 : takeE p k ⟨x0, x1, x2, x3⟩ = 0 := by simp [takeE, hk, hi, hx, ha]
        have e2 : takeP p k ⟨x0, x1, x2, x3⟩ = layP p k ⟨p0 - x0, p1 - x1, p2 - x2, p3 - x3⟩ := by simp [takeP, hk, hi, hx, ha, subIt]
        rw [e1, e2]
        have Hx := Lib.hid hx
        have Ha := Lib.hid ha
        clear ha hx e1 e2
        simp only [It.cells]
        go_enter Tryz.func20, Tryz.ntmps20
        go_wp2_with (first | go_big_skip | (go_at_call 61; refine (key8 k W _ _ hS).mono ?_; clear hS; rw [hk]; rintro e w ⟨rfl, hS⟩) | (go_at_call 62; refine (is8_at _ _ _ _ W _ _ hS).mono ?_; clear hS; rw [hi]; rintro e w ⟨rfl, hS⟩) | (refine zbx hS ?_; clear hS; intro b w hS) | (refine zlN hS ?_))
        refine wp_region_flow3 [0, 0, 3, 0, 15, 31, 63, 63, 0, 383, 1023] (fun i => i == 8) (fun i => if i == 2 then some (.agg #[.int .i64 p0, .int .i64 p1, .int .i64 p2, .int .i64 p3]) else if i == 4 then some (.tuple #[.agg #[.int .i64 (p0 - x0), .int .i64 (p1 - x1), .int .i64 (p2 - x2), .int .i64 (p3 - x3)], .bool true]) else none) [⟨some 8, some 9, fun nd => ptrTo (nd 8) [.int .i64 0, .int .i64 0, .int .i64 0, .int .i64 0] 39⟩, ⟨some 9, none, fun nd => ptrTo (nd 8) [.int .i64 (p0 - x0), .int .i64 (p1 - x1), .int .i64 (p2 - x2), .int .i64 (p3 - x3)] 39⟩] [none, none] (by kernel_rfl) (by kernel_rfl) rfl hS (CongOk.cons (fun nd nd' h => by dsimp only; rw [h 8 rfl rfl]) (CongOk.cons (fun nd nd' h => by dsimp only; rw [h 8 rfl rfl]) CongOk.nil)) ?_
        intro nd
        iterate 2 (refine ch_pure rfl (by kernel_rfl) rfl rfl ?_; intro K hK; go_big_quiet_op; go_big_quiet_on)
        (refine zcv ?_ (hs := by (intro F w hS; (try clear hS0); exact has8_take Hw.out Hx.out hS (by exact takO))))
        (refine zcN ?_)
        (refine zcv ?_ (hs := by (intro F w hS; (try clear hS0); exact sub8_yes Ha.out W w _ hS)))
        iterate 3 (refine ch_pure rfl (by kernel_rfl) rfl rfl ?_; intro K hK; go_big_quiet_op; go_big_quiet_on)
        (refine zca ?_)
        (refine zct ?_)
        (refine ch_pure rfl (by kernel_rfl) rfl rfl ?_; intro K hK; go_big_quiet_op; go_big_quiet_on)
        refine ch_end ?_
        clear hS
        intro w hS
        have hS2 : St W [ptrTo (nd 8) _ _, blk b _ _, xvP xb vB n p, sats R] w := hS
        clear hS
        have hS := hS2.unpack [_, _, _]
        clear hS2
        simp only [List.cons_append, List.nil_append] at hS
        generalize nd 8 = v12 at *
        have h1 := hS.ptr; clear hS; obtain ⟨b2, rfl, hS⟩ := h1
        go_wp2_with (first | go_big_skip | (go_at_call 64; refine (set8P Hw.out hN k ⟨p0 - x0, p1 - x1, p2 - x2, p3 - x3⟩ (hS.sel (L' := xvP xb vB n p :: R) (by exact selS))).mono ?_; clear hS; rintro e w ⟨rfl, hS⟩) | (refine zlN hS ?_))
        go_ret
        exact ⟨rfl, hS⟩
end
end Go.Proofs.YtbcokphjpllbiaaGreat
end
section
set_option linter.unusedSimpArgs false
set_option linter.unusedVariables false
namespace Go.Proofs.YtbcokphjpllbiaaGreat
open Go.RowKit Go.Sl
/-- The document's book: it holds L, its IDs are below n. -/
def xkP (xB : Nat) (L : List Ord) (n : Int) : HP := fun f => ∃ (v : Value) (last : Int), last < n ∧ sats [blk xB [v, .int .i64 last] 68, pileR v L] f
section
variable {W w : World} {xB : Nat} {L : List Ord} {n : Int} {R : List HP}
theorem xkOpen (h : St W (xkP xB L n :: R) w) : ∃ a c last, last < n ∧ St W (blk xB [.slice a L.length c, .int .i64 last] 68 :: pileR (.slice a L.length c) L :: R) w := by
  obtain ⟨v, h⟩ := St.ex h
  obtain ⟨last, h⟩ := St.ex h
  obtain ⟨h1, h⟩ := St.and h
  have hS := (St.split (St.split h).swap).swap.drop.swap
  obtain ⟨a, c, rfl⟩ := hS.drop.rowVal
  exact ⟨a, c, last, h1, hS⟩
theorem xkShut {v : Value} {last : Int} (hl : last < n) (h : St W (blk xB [v, .int .i64 last] 68 :: pileR v L :: R) w) : St W (xkP xB L n :: R) w := by
  refine St.mkEx v (St.mkEx last (St.mkAnd hl ?_))
  refine St.join ?_
  refine St.swap (St.imp h.swap ?_)
  intro f hf
  exact ⟨fun _ => true, hf, trivial⟩
end
/-- A vault of the document, as it stands for purses p, offers L, the next ID n. -/
abbrev xvR (xb xB : Nat) (p : Ps) (L : List Ord) (n : Int) (R : List HP) : List HP := xvP xb (.pointer (some ⟨xB, 0, none⟩)) n p :: xkP xB L n :: R
section
variable (xb xB : Nat) (p : Ps) (L : List Ord) (n : Int) (N : Nat) (o : Ord) (W w : World) (R : List HP)
set_option maxRecDepth 100000 in
set_option maxHeartbeats 4000000 in
theorem order8_bad (h : may1 o = false) (hS : St W (xvR xb xB p L n R) w) :
    Calls Tryz.prog 14 #[.pointer (some ⟨xb, 0, none⟩), .agg o.cells.toArray] w fun e w' => e = .returned (.tuple #[.int .i64 0, .int .i64 1]) ∧ St W (xvR xb xB p L n R) w' := by
  obtain ⟨i, u, y, t, c, pr⟩ := o
  have hm : mayB ⟨1, u, y, t, c, pr⟩ = false := h
  clear h
  simp only [Ord.cells]
  obtain ⟨xv, hS1⟩ := xvOpen hS
  obtain ⟨la, lc, last, hlast, hS2⟩ := xkOpen (hS1.sel (L' := xkP xB L n :: blk xb _ _ :: hdR _ (hdL p) :: R) (by exact selS))
  clear hS hS1
  have hS := hS2
  clear hS2
  go_enter Tryz.func14, Tryz.ntmps14
  go_wp2_with (first | go_big_skip | (go_at_call 55; refine (refMay_spec ⟨1, u, y, t, c, pr⟩ W _ _ hS).mono ?_; clear hS; rw [hm]; rintro e w ⟨rfl, hS⟩) | ((with_reducible apply wl_box hS); (with_reducible rfl); rfl; rfl; rfl; clear hS; intro b3 w hS; (refine frS ?_)) | ((with_reducible apply wl_alloc hS); (with_reducible rfl); rfl; (exact zsS); clear hS; intro b6 w hS; (refine frS ?_)) | (refine zl1 hS ?_) | (refine zlN hS ?_) | (refine zs1 hS ?_; clear hS; intro w hS) | (refine zsN hS ?_; clear hS; intro w hS))
  go_ret2
  have hS1 := xkShut hlast (hS.sel (L' := blk xB _ _ :: pileR _ L :: blk xb _ _ :: hdR _ (hdL p) :: R) (by exact selS))
  exact ⟨rfl, xvShut (hS1.sel (L' := blk xb _ _ :: hdR _ (hdL p) :: xkP xB L n :: R) (by exact selS))⟩
set_option maxRecDepth 100000 in
set_option maxHeartbeats 4000000 in
theorem order8_full (h : may1 o = true) (hf : 32 ≤ L.length ∨ 1099511627776 < n) (hS : St W (xvR xb xB p L n R) w) :
    Calls Tryz.prog 14 #[.pointer (some ⟨xb, 0, none⟩), .agg o.cells.toArray] w fun e w' => e = .returned (.tuple #[.int .i64 0, .int .i64 6]) ∧ St W (xvR xb xB p L n R) w' := by
  obtain ⟨i, u, y, t, c, pr⟩ := o
  have hm : mayB ⟨1, u, y, t, c, pr⟩ = true := h
  clear h
  simp only [Ord.cells]
  obtain ⟨xv, hS1⟩ := xvOpen hS
  obtain ⟨la, lc, last, hlast, hS2⟩ := xkOpen (hS1.sel (L' := xkP xB L n :: blk xb _ _ :: hdR _ (hdL p) :: R) (by exact selS))
  clear hS hS1
  have hS := hS2
  clear hS2
  by_cases hl : 32 ≤ L.length
  · have d1 : (32 : Int) ≤ (L.length : Int) := by omega
    clear hf
    go_enter Tryz.func14, Tryz.ntmps14
    go_wp2_with (first | go_big_skip | (go_at_call 55; refine (refMay_spec ⟨1, u, y, t, c, pr⟩ W _ _ hS).mono ?_; clear hS; rw [hm]; rintro e w ⟨rfl, hS⟩) | ((with_reducible apply wl_box hS); (with_reducible rfl); rfl; rfl; rfl; clear hS; intro b3 w hS; (refine frS ?_)) | ((with_reducible apply wl_alloc hS); (with_reducible rfl); rfl; (exact zsS); clear hS; intro b6 w hS; (refine frS ?_)) | (refine zl1 hS ?_) | (refine zlN hS ?_) | (refine zs1 hS ?_; clear hS; intro w hS) | (refine zsN hS ?_; clear hS; intro w hS))
    go_ret2
    have hS1 := xkShut hlast (hS.sel (L' := blk xB _ _ :: pileR _ L :: blk xb _ _ :: hdR _ (hdL p) :: R) (by exact selS))
    exact ⟨rfl, xvShut (hS1.sel (L' := blk xb _ _ :: hdR _ (hdL p) :: xkP xB L n :: R) (by exact selS))⟩
  · have d1 : decide ((32 : Int) ≤ (L.length : Int)) = false := by simp; omega
    have d2 : 1099511627776 < n := hf.resolve_left hl
    clear hf hl
    go_enter Tryz.func14, Tryz.ntmps14
    go_wp2_with (first | go_big_skip | (go_at_call 55; refine (refMay_spec ⟨1, u, y, t, c, pr⟩ W _ _ hS).mono ?_; clear hS; rw [hm]; rintro e w ⟨rfl, hS⟩) | ((with_reducible apply wl_box hS); (with_reducible rfl); rfl; rfl; rfl; clear hS; intro b3 w hS; (refine frS ?_)) | ((with_reducible apply wl_alloc hS); (with_reducible rfl); rfl; (exact zsS); clear hS; intro b6 w hS; (refine frS ?_)) | (refine zl1 hS ?_) | (refine zlN hS ?_) | (refine zs1 hS ?_; clear hS; intro w hS) | (refine zsN hS ?_; clear hS; intro w hS))
    go_ret2
    have hS1 := xkShut hlast (hS.sel (L' := blk xB _ _ :: pileR _ L :: blk xb _ _ :: hdR _ (hdL p) :: R) (by exact selS))
    exact ⟨rfl, xvShut (hS1.sel (L' := blk xb _ _ :: hdR _ (hdL p) :: xkP xB L n :: R) (by exact selS))⟩
theorem holds8_at {o : Ord} {h0 h1 h2 h3 : Int} (hm : MayP o) (h : holdsF o = ⟨h0, h1, h2, h3⟩) (W w : World) (R : List HP) (hS : St W R w) :
    Calls Tryz.prog 56 #[.agg o.cells.toArray] w fun e w' => e = .returned (.agg #[.int .i64 h0, .int .i64 h1, .int .i64 h2, .int .i64 h3]) ∧ St W R w' :=
  (holds8 o hm W w R hS).mono fun e w' ⟨he, hS⟩ => ⟨by rw [he, h]; rfl, hS⟩
set_option maxRecDepth 100000 in
set_option maxHeartbeats 4000000 in
theorem order8_funds (hw : PsW p N) (hN : N ≤ 1000000) (h : may1 o = true) (hL : L.length < 32) (hn0 : 1 ≤ n) (hn : n ≤ 1099511627776) (ht : takeE p o.who (holdsF o) = 14) (hS : St W (xvR xb xB p L n R) w) :
    Calls Tryz.prog 14 #[.pointer (some ⟨xb, 0, none⟩), .agg o.cells.toArray] w fun e w' => e = .returned (.tuple #[.int .i64 0, .int .i64 14]) ∧ St W (xvR xb xB p L n R) w' := by
  obtain ⟨i, u, y, t, c, pr⟩ := o
  have hm : mayB ⟨1, u, y, t, c, pr⟩ = true := h
  have hm1 := mayB_true.1 hm
  have hm2 : MayP ⟨n, u, y, t, c, pr⟩ := ⟨hn0, hn, hm1.who0, hm1.who1, hm1.item0, hm1.item1, hm1.cnt0, hm1.cnt1, hm1.price0, hm1.price1⟩
  have ht' : takeE p u (holdsF ⟨n, u, y, t, c, pr⟩) = 14 := ht
  have hp' : takeP p u (holdsF ⟨n, u, y, t, c, pr⟩) = p := by
    unfold takeE at ht'
    unfold takeP
    split at ht'
    · rename_i hc
      rw [if_pos hc]
      split at ht'
      · cases ht'
      · rename_i hs; rw [if_neg hs]
    · cases ht'
  have Hm2 := Lib.hid hm2
  have Hw := Lib.hid hw
  clear h ht hm1 hm2 hw
  have d1 : decide ((32 : Int) ≤ (L.length : Int)) = false := by simp; omega
  have d2 : decide ((1099511627776 : Int) < n) = false := by simp; omega
  simp only [Ord.cells]
  obtain ⟨it, hit⟩ : ∃ x, holdsF ⟨n, u, y, t, c, pr⟩ = x := ⟨_, rfl⟩
  rw [hit] at ht' hp'
  obtain ⟨h0, h1, h2, h3⟩ := it
  have Hit := Lib.hid hit
  have Hte := Lib.hid ht'
  have Htp := Lib.hid hp'
  clear hit ht' hp'
  obtain ⟨xv, hS1⟩ := xvOpen hS
  obtain ⟨la, lc, last, hlast, hS2⟩ := xkOpen (hS1.sel (L' := xkP xB L n :: blk xb _ _ :: hdR _ (hdL p) :: R) (by exact selS))
  clear hS hS1
  have hS := hS2
  clear hS2
  go_enter Tryz.func14, Tryz.ntmps14
  go_wp2_with (first | go_big_skip | (go_at_call 55; refine (refMay_spec ⟨1, u, y, t, c, pr⟩ W _ _ hS).mono ?_; clear hS; rw [hm]; rintro e w ⟨rfl, hS⟩) | ((with_reducible apply wl_box hS); (with_reducible rfl); rfl; rfl; rfl; clear hS; intro b3 w hS; (refine frS ?_)) | ((with_reducible apply wl_alloc hS); (with_reducible rfl); rfl; (exact zsS); clear hS; intro b6 w hS; (refine frS ?_)) | (refine zl1 hS ?_) | (refine zlN hS ?_) | (refine zs1 hS ?_; clear hS; intro w hS) | (refine zsN hS ?_; clear hS; intro w hS))
  refine wp_region_tail 5 (by kernel_rfl) (by kernel_rfl) hS ?_
  iterate 2 (refine wq_pure rfl rfl ?_; intro K hK; go_big_quiet_op; go_big_quiet_on)
  (refine zq1 ?_)
  (refine zqN ?_)
  (apply wq_call; rfl; (intro w; apply exec_callF; (with_reducible rfl); decide +kernel; (focus (simp only [fD, List.map_cons, List.map_nil, Act.eval, fE, fF, fG, fH, Option.getD_some]; try rfl))); (intro w hS; exact holds8_at (o := ⟨n, u, y, t, c, pr⟩) Hm2.out Hit.out W w _ hS); (refine frS ?_))
  clear hS
  intro w hS
  simp only [List.drop_succ_cons, List.drop_zero]
  go_wp2_with (first | go_big_skip | (go_at_call 20; refine (take8 xb _ n p N W _ _ Hw.out hN u ⟨h0, h1, h2, h3⟩ (xvShut (hS.sel (L' := blk xb _ _ :: hdR _ (hdL p) :: blk xB _ _ :: pileR _ L :: blk b6 _ _ :: blk b3 _ _ :: R) (by exact selS)))).mono ?_; clear hS; rw [Hte.out, Htp.out]; rintro e w ⟨rfl, hS⟩))
  go_ret2
  have hS1 := xkShut hlast (hS.sel (L' := blk xB _ _ :: pileR _ L :: xvP xb _ n p :: R) (by exact selS))
  exact ⟨rfl, hS1.sel (by exact selS)⟩
end
end Go.Proofs.YtbcokphjpllbiaaGreat
end
section
set_option linter.unusedSimpArgs false
set_option linter.unusedVariables false
namespace Go.Proofs.YtbcokphjpllbiaaGreat
open Go.RowKit Go.Sl
/-- What the document's Place yields. -/
def pxR (xB : Nat) (L : List Ord) (m : Int) (ts : List Trd) (v : Value) : HP := fun f => ∃ (a : Option Addr) (c : Nat) (left : Int), v = .tuple #[.slice a ts.length c, .int .i64 left, .int .i64 0] ∧ sats [xkP xB L m, row (.slice a ts.length c) 8 111 ts.length (ts.flatMap Trd.cells)] f
section
variable {W w : World} {xB : Nat} {L : List Ord} {m n : Int} {ts : List Trd} {v : Value} {R : List HP}
theorem pxOpen (h : St W (pxR xB L m ts v :: R) w) : ∃ a c left, v = .tuple #[.slice a ts.length c, .int .i64 left, .int .i64 0] ∧ St W (xkP xB L m :: row (.slice a ts.length c) 8 111 ts.length (ts.flatMap Trd.cells) :: R) w := by
  obtain ⟨a, h⟩ := St.ex h
  obtain ⟨c, h⟩ := St.ex h
  obtain ⟨left, h⟩ := St.ex h
  obtain ⟨h1, h⟩ := St.and h
  refine ⟨a, c, left, h1, ?_⟩
  exact (St.split (St.split h).swap).swap.drop.swap
theorem pxShut {a : Option Addr} {c : Nat} {left : Int} (hv : v = .tuple #[.slice a ts.length c, .int .i64 left, .int .i64 0]) (h : St W (xkP xB L m :: row (.slice a ts.length c) 8 111 ts.length (ts.flatMap Trd.cells) :: R) w) : St W (pxR xB L m ts v :: R) w := by
  refine St.mkEx a (St.mkEx c (St.mkEx left (St.mkAnd hv ?_)))
  refine St.join ?_
  refine St.swap (St.imp h.swap ?_)
  intro f hf
  exact ⟨fun _ => true, hf, trivial⟩
theorem pxTup {L1 R1 : List HP} (hS : St W L1 w) (hu : Take L1 (pxR xB L m ts v) R1) : ∃ vs : Array Value, v = .tuple vs ∧ vs.size = 3 := by
  obtain ⟨a, c, left, h, _⟩ := pxOpen (hS.take hu)
  exact ⟨_, h, rfl⟩
theorem place8F {o : Ord} {L2 : List Ord} (hm : MayP o) (hid : o.id = n) (hL : L.length < 32) (hmay : ∀ x ∈ L, MayP x) (h1 : runL L o = L2) (h2 : runT L o = ts) (hS : St W (xkP xB L n :: R) w) :
    Calls Tryz.prog 57 #[.pointer (some ⟨xB, 0, none⟩), .agg o.cells.toArray] w fun e w' => ∃ v, e = .returned v ∧ St W (pxR xB L2 (n + 1) ts v :: R) w' := by
  subst h1 h2
  obtain ⟨a, c, last, hlast, hS⟩ := xkOpen hS
  have hno : ¬ (mayB o = false ∨ o.id ≤ last) := by rintro (h | h); (rw [mayB_true.2 hm] at h; cases h); omega
  have ht : (placeR L last o).trades = runT L o := by unfold placeR; rw [if_neg hno, if_neg (by omega)]; rfl
  have hl : (placeR L last o).L = runL L o := by unfold placeR; rw [if_neg hno, if_neg (by omega)]; rfl
  refine (refPlace_ok L last o xB _ (mayB_true.2 hm) (by omega) (by omega) (fun x hx => ⟨(hmay x hx).cnt0, (hmay x hx).cnt1⟩) W w R hS).mono ?_
  rw [ht, hl]
  rintro e w' ⟨v7, v', rfl, hS⟩
  obtain ⟨a7, c7, rfl⟩ := hS.drop.drop.rowVal
  exact ⟨_, rfl, pxShut rfl (xkShut (by omega) hS)⟩
end
def OxR (W : World) (F : Ps → List HP) (p : Ps) (ts : List Trd) (v : Value) (w : World) : Prop :=
  ∃ (k : Nat), v = .int .i64 k ∧ k ≤ ts.length ∧ St W (F ((ts.take k).foldl payT p)) w
section
variable (xb xB : Nat) (p : Ps) (L : List Ord) (n : Int) (N : Nat) (o : Ord) (W w : World) (R : List HP)
set_option maxRecDepth 100000 in
set_option maxHeartbeats 8000000 in
theorem order8_ok (hp : PsOk p) (hw : PsW p N) (hN : N + 150 ≤ 1000000) (hmay : ∀ x ∈ L, MayP x) (h : may1 o = true) (hn0 : 1 ≤ n) (hn : n ≤ 1099511627776) (hL : L.length < 32) (ht : takeE p o.who (holdsF o) = 0) (hS : St W (xvR xb xB p L n R) w) :
    Calls Tryz.prog 14 #[.pointer (some ⟨xb, 0, none⟩), .agg o.cells.toArray] w fun e w' => e = .returned (.tuple #[.int .i64 n, .int .i64 0]) ∧
      St W (xvR xb xB ((runT L { o with id := n }).foldl payT (takeP p o.who (holdsF o))) (runL L { o with id := n }) (n + 1) R) w' := by
  obtain ⟨i, u, y, t, c, pr⟩ := o
  have hm : mayB ⟨1, u, y, t, c, pr⟩ = true := h
  have hm1 := mayB_true.1 hm
  have hm2 : MayP ⟨n, u, y, t, c, pr⟩ := ⟨hn0, hn, hm1.who0, hm1.who1, hm1.item0, hm1.item1, hm1.cnt0, hm1.cnt1, hm1.price0, hm1.price1⟩
  have eh : holdsF ⟨i, u, y, t, c, pr⟩ = holdsF ⟨n, u, y, t, c, pr⟩ := rfl
  have ht' : takeE p u (holdsF ⟨n, u, y, t, c, pr⟩) = 0 := ht
  have c0' : 1 ≤ c := hm2.cnt0
  have c1' : c ≤ 1048576 := hm2.cnt1
  have htr : ∀ x ∈ runT L ⟨n, u, y, t, c, pr⟩, TrB x := trades_ok _ _ _ _ hmay ⟨show 0 ≤ c by omega, c1', hm2.item0, hm2.item1, hm2.price1⟩ fun t ht => (by cases ht)
  have htw : ∀ x ∈ runT L ⟨n, u, y, t, c, pr⟩, whoB x.buyer = true ∧ whoB x.seller = true := trades_who _ _ _ _ (fun x hx => may_who (hmay x hx)) (may_who hm2) fun t ht => (by cases ht)
  have htl : (runT L ⟨n, u, y, t, c, pr⟩).length ≤ 33 := by
    have := trades_len (L.length + 1) ⟨n, u, y, t, c, pr⟩ L []
    unfold runT
    rw [List.length_nil] at this
    omega
  have hok1 : PsOk (takeP p u (holdsF ⟨n, u, y, t, c, pr⟩)) := psOk_take hp _ _
  have hw1 : PsW (takeP p u (holdsF ⟨n, u, y, t, c, pr⟩)) (N + 1) := psW_take hw _ _
  simp only [eh]
  obtain ⟨p1, hp1⟩ : ∃ x, takeP p u (holdsF ⟨n, u, y, t, c, pr⟩) = x := ⟨_, rfl⟩
  rw [hp1] at hok1 hw1
  simp only [hp1]
  obtain ⟨it, hit⟩ : ∃ x, holdsF ⟨n, u, y, t, c, pr⟩ = x := ⟨_, rfl⟩
  rw [hit] at ht' hp1
  obtain ⟨h0, h1, h2, h3⟩ := it
  obtain ⟨ts, hts⟩ : ∃ x, runT L ⟨n, u, y, t, c, pr⟩ = x := ⟨_, rfl⟩
  obtain ⟨L2, hL2⟩ : ∃ x, runL L ⟨n, u, y, t, c, pr⟩ = x := ⟨_, rfl⟩
  simp only [hts, hL2]
  rw [hts] at htr htw htl
  have Hts := Lib.hid hts
  have HL2 := Lib.hid hL2
  clear hts hL2
  have Hm2 := Lib.hid hm2
  have Hit := Lib.hid hit
  have Hte := Lib.hid ht'
  have Htp := Lib.hid hp1
  have Hok := Lib.hid hok1
  have Hw := Lib.hid hw
  have Hw1 := Lib.hid hw1
  have Htr := Lib.hid htr
  have Htw := Lib.hid htw
  have Hmay := Lib.hid hmay
  have hN' := hN
  have hN : N ≤ 1000000 := by omega
  have d1 : decide ((32 : Int) ≤ (L.length : Int)) = false := by simp; omega
  have d2 : decide ((1099511627776 : Int) < n) = false := by simp; omega
  clear hit ht' hp1 h ht eh hok1 htr htw hmay hm1 hm2 hp hw hw1
  simp only [Ord.cells]
  obtain ⟨xv, hS1⟩ := xvOpen hS
  obtain ⟨la, lc, last, hlast, hS2⟩ := xkOpen (hS1.sel (L' := xkP xB L n :: blk xb _ _ :: hdR _ (hdL p) :: R) (by exact selS))
  clear hS hS1
  have hS := hS2
  clear hS2
  go_enter Tryz.func14, Tryz.ntmps14
  go_wp2_with (first | go_big_skip | (go_at_call 55; refine (refMay_spec ⟨1, u, y, t, c, pr⟩ W _ _ hS).mono ?_; clear hS; rw [hm]; rintro e w ⟨rfl, hS⟩) | ((with_reducible apply wl_box hS); (with_reducible rfl); rfl; rfl; rfl; clear hS; intro b3 w hS; (refine frS ?_)) | ((with_reducible apply wl_alloc hS); (with_reducible rfl); rfl; (exact zsS); clear hS; intro b6 w hS; (refine frS ?_)) | (refine zl1 hS ?_) | (refine zlN hS ?_) | (refine zs1 hS ?_; clear hS; intro w hS) | (refine zsN hS ?_; clear hS; intro w hS))
  refine wp_region_tail 5 (by kernel_rfl) (by kernel_rfl) hS ?_
  iterate 2 (refine wq_pure rfl rfl ?_; intro K hK; go_big_quiet_op; go_big_quiet_on)
  (refine zq1 ?_)
  (refine zqN ?_)
  (apply wq_call; rfl; (intro w; apply exec_callF; (with_reducible rfl); decide +kernel; (focus (simp only [fD, List.map_cons, List.map_nil, Act.eval, fE, fF, fG, fH, Option.getD_some]; try rfl))); (intro w hS; exact holds8_at (o := ⟨n, u, y, t, c, pr⟩) Hm2.out Hit.out W w _ hS); (refine frS ?_))
  clear hS
  intro w hS
  simp only [List.drop_succ_cons, List.drop_zero]
  go_wp2_with (first | go_big_skip | (go_at_call 20; refine (take8 xb _ n p N W _ _ Hw.out hN u ⟨h0, h1, h2, h3⟩ (xvShut (hS.sel (L' := blk xb _ _ :: hdR _ (hdL p) :: blk xB _ _ :: pileR _ L :: blk b6 _ _ :: blk b3 _ _ :: R) (by exact selS)))).mono ?_; clear hS; rw [Hte.out, Htp.out]; rintro e w ⟨rfl, hS⟩; (have hS1 := xvOpen hS); clear hS; obtain ⟨xv2, hS⟩ := hS1) | (refine zl1 hS ?_) | (refine zs1 hS ?_; clear hS; intro w hS))
  have hSk := xkShut hlast (hS.sel (L' := blk xB _ _ :: pileR _ L :: blk b3 _ _ :: blk xb _ _ :: hdR _ (hdL p1) :: R) (by exact selS))
  clear hS
  refine wp_region_flow3 [0, 1, 3, 7, 0, 31, 63, 127, 127, 127, 255, 1535, 4095] (fun i => i == 5) (fun _ => none) [⟨some 5, none, fun nd => pxR xB L2 (n + 1) ts (nd 5)⟩] [some 5, none, none, none] (by kernel_rfl) (by kernel_rfl) rfl hSk (CongOk.cons (fun nd nd' h => by dsimp only; rw [h 5 rfl rfl]) CongOk.nil) ?_
  clear hSk
  intro nd
  (refine ch_pure rfl (by kernel_rfl) rfl rfl ?_; intro K hK; go_big_quiet_op; go_big_quiet_on)
  (refine zcn ?_)
  (refine ch_pure rfl (by kernel_rfl) rfl rfl ?_; intro K hK; go_big_quiet_op; go_big_quiet_on)
  (refine zc1 ?_)
  (refine zcN ?_)
  (apply ch_callN; rfl; rfl; (with_reducible rfl); decide +kernel; (focus (simp only [fD, List.map_cons, List.map_nil, Act.eval, fE, fF, fG, fH, Option.getD_some]; try rfl)); (intro _; rfl); (intro F w hS; exact place8F (o := ⟨n, u, y, t, c, pr⟩) Hm2.out rfl hL Hmay.out HL2.out Hts.out hS); (refine frS ?_))
  (refine ch_pure rfl (by kernel_rfl) rfl rfl ?_; intro K hK; go_big_quiet_op; go_big_quiet_on)
  (apply ch_extr (v := nd 5); rfl; kernel_rfl; (with_reducible rfl); rfl; rfl; (intro F w hS; exact pxTup hS (by exact takO)); decide; (refine frS ?_))
  (apply ch_extr (v := nd 5); rfl; kernel_rfl; (with_reducible rfl); rfl; rfl; (intro F w hS; exact pxTup hS (by exact takO)); decide; (refine frS ?_))
  (apply ch_extr (v := nd 5); rfl; kernel_rfl; (with_reducible rfl); rfl; rfl; (intro F w hS; exact pxTup hS (by exact takO)); decide; (refine frS ?_))
  iterate 3 (refine ch_pure rfl (by kernel_rfl) rfl rfl ?_; intro K hK; go_big_quiet_op; go_big_quiet_on)
  refine ch_end ?_
  intro w hS
  have hS2 : St W [pxR xB _ _ _ (nd 5), blk b3 _ _, blk xb _ _, hdR _ (hdL p1), sats R] w := hS
  clear hS
  have hS := hS2.unpack [_, _, _, _]
  clear hS2
  simp only [List.cons_append, List.nil_append] at hS
  generalize nd 5 = v5 at *
  obtain ⟨ta, tc, left, hv5, hS5⟩ := pxOpen hS
  clear hS
  subst hv5
  have hS := xvShut (hS5.sel (L' := blk xb _ _ :: hdR _ (hdL p1) :: xkP xB L2 (n + 1) :: row (.slice ta ts.length tc) 8 _ _ _ :: blk b3 _ _ :: R) (by exact selS))
  clear hS5
  simp only [extrV, Array.getD_eq_getD_getElem?, List.getElem?_toArray, List.getElem?_cons_zero, List.getElem?_cons_succ, Option.getD_some]
  go_wp2_with (first | go_big_skip)
  go_loopw [11] (fun v wr => OxR W (fun q => [xvP xb (.pointer (some ⟨xB, 0, none⟩)) (n + 1) q, xkP xB L2 (n + 1), row (.slice ta ts.length tc) 8 111 ts.length (ts.flatMap Trd.cells), blk b3 [.int .i64 n, .string u, .bool y, .int .i64 t, .int .i64 c, .int .i64 pr] 41] ++ R) p1 ts v wr) (fun v _ => ts.length - (intOf v).toNat)
  case atStart => exact ⟨0, rfl, Nat.zero_le _, hS⟩
  case round =>
    clear hS
    obtain ⟨k, rfl, hk, hS⟩ := hrel
    simp only [List.cons_append, List.nil_append] at hS
    by_cases hkn : k = ts.length
    · subst hkn
      rw [List.take_length] at hS
      go_wp2_with (first | go_big_skip | (refine zl1 hS ?_))
      go_ret2
      exact ⟨rfl, hS.sel (by exact selS)⟩
    · have hk1 : k < ts.length := by omega
      clear hkn hk
      obtain ⟨⟨g, rfl⟩, hcap, hcn⟩ := St.rowAddr hS.drop.drop (by omega)
      have hcells : ∀ {K K' : List HP}, Take K (row (.slice (some ⟨g, 0, none⟩) ts.length tc) 8 111 ts.length (ts.flatMap Trd.cells)) K' → Cells K g (k * 8) (Trd.cells ts[k]) := fun hu => Cells.elemM (enc := Trd.cells) Trd.len hu hk1
      have hq : PsOk ((ts.take k).foldl payT p1) := psOk_pays _ Hok.out fun x hx => Htr.out x (List.mem_of_mem_take hx)
      have hqw : PsW ((ts.take k).foldl payT p1) (N + 110) := psW_mono (psW_pays _ Hw1.out fun x hx => Htw.out x (List.mem_of_mem_take hx)) (by rw [List.length_take]; omega)
      have hstep : (ts.take (k + 1)).foldl payT p1 = payT ((ts.take k).foldl payT p1) ts[k] := by
        rw [List.take_succ_eq_append_getElem hk1, List.foldl_append]; rfl
      have hb := Htr.out _ (List.getElem_mem hk1)
      have hb2 := Htw.out _ (List.getElem_mem hk1)
      have Hstep := Lib.hid hstep
      have Hq := Lib.hid hq
      have Hqw := Lib.hid hqw
      clear hstep hq hqw
      generalize (ts.take k).foldl payT p1 = q at hS Hstep Hq Hqw
      generalize ts[k] = x at hcells Hstep hb hb2
      obtain ⟨ub, us, xi, xj, xt, xc, xp, xd⟩ := x
      obtain ⟨⟨c0, c1⟩, ⟨t0, t1⟩, ⟨p0, p1'⟩, ⟨b0, b1⟩⟩ := hb
      simp only at c0 c1 t0 t1 p0 p1' b0 b1 hb2
      have m1 := mul_in c0 c1 b0 b1
      have m2 := mul_in c0 c1 p0 p1'
      have n1 : xc * (xd - xp) ≤ 9223372036854775807 := by omega
      have n2 : -9223372036854775808 ≤ xc * (xd - xp) := by omega
      have n3 : xc * xp ≤ 9223372036854775807 := by omega
      have n4 : -9223372036854775808 ≤ xc * xp := by omega
      simp only [Trd.cells] at hcells
      have G1 := Lib.hid (show ∀ y, isIt (purseA q y) = true from Hq.out)
      have G2 := Lib.hid (show ∀ y, isIt (purseA (giveP q ub xt xc) y) = true from psOk_give Hq.out _ _ c0)
      have G3 := Lib.hid (show ∀ y, isIt (purseA (giveP (giveP q ub xt xc) ub 0 (xc * (xd - xp))) y) = true from psOk_give (psOk_give Hq.out _ _ c0) _ _ m1.1)
      have W1 := Lib.hid (show PsW q 1000000 from psW_mono Hqw.out (by omega))
      have W2 := Lib.hid (show PsW (giveP q ub xt xc) 1000000 from psW_mono (psW_give Hqw.out hb2.1 _ _) (by omega))
      have W3 := Lib.hid (show PsW (giveP (giveP q ub xt xc) ub 0 (xc * (xd - xp))) 1000000 from psW_mono (psW_give (psW_give Hqw.out hb2.1 _ _) hb2.1 _ _) (by omega))
      clear hb2
      go_wp2_with (first | go_big_skip)
      refine wp_region_tail 16 (by kernel_rfl) (by kernel_rfl) hS ?_
      iterate 5 (refine wq_pure rfl rfl ?_; intro K hK; go_big_quiet_op; go_big_quiet_on)
      (apply wq_ld1; (with_reducible rfl); rfl; rfl; decide +kernel; (exact hcells (by exact takeS) 0 _ rfl); (refine frS ?_))
      iterate 4 (refine wq_pure rfl rfl ?_; intro K hK; go_big_quiet_op; go_big_quiet_on)
      (apply wq_ld1; (with_reducible rfl); rfl; rfl; decide +kernel; (exact hcells (by exact takeS) 4 _ rfl); (refine frS ?_))
      iterate 4 (refine wq_pure rfl rfl ?_; intro K hK; go_big_quiet_op; go_big_quiet_on)
      (apply wq_ld1; (with_reducible rfl); rfl; rfl; decide +kernel; (exact hcells (by exact takeS) 5 _ rfl); (refine frS ?_))
      clear hS
      intro w hS
      simp only [List.drop_succ_cons, List.drop_zero]
      go_wp2_with (first | (go_at_call 58; refine (pays8 xb _ (n + 1) _ 1000000 W _ _ W1.out (Nat.le_refl _) _ _ _ (G1.out _) ⟨by omega, by omega⟩ ⟨by omega, by omega⟩ hS).mono ?_; clear hS; rintro e w ⟨rfl, hS⟩))
      refine wp_region_tail 23 (by kernel_rfl) (by kernel_rfl) hS ?_
      iterate 5 (refine wq_pure rfl rfl ?_; intro K hK; go_big_quiet_op; go_big_quiet_on)
      (apply wq_ld1; (with_reducible rfl); rfl; rfl; decide +kernel; (exact hcells (by exact takeS) 0 _ rfl); (refine frS ?_))
      iterate 4 (refine wq_pure rfl rfl ?_; intro K hK; go_big_quiet_op; go_big_quiet_on)
      (apply wq_ld1; (with_reducible rfl); rfl; rfl; decide +kernel; (exact hcells (by exact takeS) 5 _ rfl); (refine frS ?_))
      iterate 4 (refine wq_pure rfl rfl ?_; intro K hK; go_big_quiet_op; go_big_quiet_on)
      (apply wq_ld1; (with_reducible rfl); rfl; rfl; decide +kernel; (exact hcells (by exact takeS) 7 _ rfl); (refine frS ?_))
      iterate 4 (refine wq_pure rfl rfl ?_; intro K hK; go_big_quiet_op; go_big_quiet_on)
      (apply wq_ld1; (with_reducible rfl); rfl; rfl; decide +kernel; (exact hcells (by exact takeS) 6 _ rfl); (refine frS ?_))
      iterate 2 (refine wq_pure rfl rfl ?_; intro K hK; go_big_quiet_op; go_big_quiet_on)
      clear hS
      intro w hS
      simp only [List.drop_succ_cons, List.drop_zero]
      go_wp2_with (first | (go_at_call 58; refine (pays8 xb _ (n + 1) _ 1000000 W _ _ W2.out (Nat.le_refl _) _ _ _ (G2.out _) ⟨by omega, by omega⟩ ⟨by omega, by omega⟩ hS).mono ?_; clear hS; rintro e w ⟨rfl, hS⟩))
      refine wp_region_tail 17 (by kernel_rfl) (by kernel_rfl) hS ?_
      iterate 5 (refine wq_pure rfl rfl ?_; intro K hK; go_big_quiet_op; go_big_quiet_on)
      (apply wq_ld1; (with_reducible rfl); rfl; rfl; decide +kernel; (exact hcells (by exact takeS) 1 _ rfl); (refine frS ?_))
      iterate 4 (refine wq_pure rfl rfl ?_; intro K hK; go_big_quiet_op; go_big_quiet_on)
      (apply wq_ld1; (with_reducible rfl); rfl; rfl; decide +kernel; (exact hcells (by exact takeS) 5 _ rfl); (refine frS ?_))
      iterate 4 (refine wq_pure rfl rfl ?_; intro K hK; go_big_quiet_op; go_big_quiet_on)
      (apply wq_ld1; (with_reducible rfl); rfl; rfl; decide +kernel; (exact hcells (by exact takeS) 6 _ rfl); (refine frS ?_))
      (refine wq_pure rfl rfl ?_; intro K hK; go_big_quiet_op; go_big_quiet_on)
      clear hS
      intro w hS
      simp only [List.drop_succ_cons, List.drop_zero]
      go_wp2_with (first | (go_at_call 58; refine (pays8 xb _ (n + 1) _ 1000000 W _ _ W3.out (Nat.le_refl _) _ _ _ (G3.out _) ⟨by omega, by omega⟩ ⟨by omega, by omega⟩ hS).mono ?_; clear hS; rintro e w ⟨rfl, hS⟩))
      go_roundw
      case rel => exact ⟨k + 1, rfl, hk1, by rw [Hstep.out]; exact hS⟩
      case measure => simp [intOf]; omega
end
end Go.Proofs.YtbcokphjpllbiaaGreat
end
