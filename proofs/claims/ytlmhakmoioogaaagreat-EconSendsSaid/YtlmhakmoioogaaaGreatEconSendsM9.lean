/-
  The vault's Put and Take. For every vault.
-/
import Derived.Test.YtlmhakmoioogaaaGreatEconSendsM5
import Derived.Test.YtlmhakmoioogaaaGreatEconSendsM8

section
set_option linter.unusedSimpArgs false
set_option linter.unusedVariables false
namespace Go.Proofs.YtlmhakmoioogaaaGreat
open Go.RowKit Go.Sl
def putE (p : Ps) (k : ByteArray) (i : It) : Int := if whoB k = true ∧ isIt i = true then (if (addL [purseA p k, i] it0).isSome = true then 0 else 6) else 1
def putP (p : Ps) (k : ByteArray) (i : It) : Ps := if whoB k = true ∧ isIt i = true then (match addL [purseA p k, i] it0 with | some s => layP p k s | none => p) else p
def takeE (p : Ps) (k : ByteArray) (i : It) : Int := if whoB k = true ∧ isIt i = true then (if subOk (purseA p k) i = true then 0 else 14) else 1
def takeP (p : Ps) (k : ByteArray) (i : It) : Ps := if whoB k = true ∧ isIt i = true then (if subOk (purseA p k) i = true then layP p k (subIt (purseA p k) i) else p) else p
section
variable (vb mb : Nat) (p : Ps) (k : ByteArray) (u1 u2 : Value) (i : It) (W w : World) (R : List HP)
set_option maxRecDepth 100000 in
set_option maxHeartbeats 4000000 in
theorem put_spec (hS : St W (blk vb [.map (some mb), u1, u2] 176 :: amap eS eP mb p :: R) w) :
    Calls Tryz.prog 102 #[.pointer (some ⟨vb, 0, none⟩), .string k, .agg i.cells.toArray] w fun e w' => e = .returned (.int .i64 (putE p k i)) ∧ St W (blk vb [.map (some mb), u1, u2] 176 :: amap eS eP mb (putP p k i) :: R) w' := by
  obtain ⟨x0, x1, x2, x3⟩ := i
  cases hk : whoB k with
  | false =>
    have e1 : putE p k ⟨x0, x1, x2, x3⟩ = 1 := by simp [putE, hk]
    have e2 : putP p k ⟨x0, x1, x2, x3⟩ = p := by simp [putP, hk]
    rw [e1, e2]
    clear e1 e2
    simp only [It.cells]
    go_enter Tryz.func102, Tryz.ntmps102
    go_wp2_with (first | go_big_skip | (go_at_call 163; refine (who_spec k W _ _ hS).mono ?_; clear hS; rw [hk]; rintro e w ⟨rfl, hS⟩) | (refine zl1 hS ?_) | (refine zlN hS ?_) | (refine zs1 hS ?_; clear hS; intro w hS) | (refine zsN hS ?_; clear hS; intro w hS) | (refine zbx hS ?_; clear hS; intro b w hS) | (refine zal hS ?_; clear hS; intro b w hS))
    go_ret
    exact ⟨rfl, hS.drop⟩
  | true =>
    cases hi : isIt ⟨x0, x1, x2, x3⟩ with
    | false =>
      have e1 : putE p k ⟨x0, x1, x2, x3⟩ = 1 := by simp [putE, hk, hi]
      have e2 : putP p k ⟨x0, x1, x2, x3⟩ = p := by simp [putP, hk, hi]
      rw [e1, e2]
      clear e1 e2
      simp only [It.cells]
      go_enter Tryz.func102, Tryz.ntmps102
      go_wp2_with (first | go_big_skip | (go_at_call 163; refine (who_spec k W _ _ hS).mono ?_; clear hS; rw [hk]; rintro e w ⟨rfl, hS⟩) | (go_at_call 126; refine (is_at _ _ _ _ W _ _ hS).mono ?_; clear hS; rw [hi]; rintro e w ⟨rfl, hS⟩) | (refine zl1 hS ?_) | (refine zlN hS ?_) | (refine zs1 hS ?_; clear hS; intro w hS) | (refine zsN hS ?_; clear hS; intro w hS) | (refine zbx hS ?_; clear hS; intro b w hS) | (refine zal hS ?_; clear hS; intro b w hS))
      go_ret
      exact ⟨rfl, hS.drop⟩
    | true =>
      obtain ⟨px, hx⟩ : ∃ x, purseA p k = x := ⟨_, rfl⟩
      obtain ⟨p0, p1, p2, p3⟩ := px
      cases ha : addL [⟨p0, p1, p2, p3⟩, ⟨x0, x1, x2, x3⟩] it0 with
      | none =>
        have e1 : putE p k ⟨x0, x1, x2, x3⟩ = 6 := by simp [putE, hk, hi, hx, ha]
        have e2 : putP p k ⟨x0, x1, x2, x3⟩ = p := by simp [putP, hk, hi, hx, ha]
        rw [e1, e2]
        have Hx := Lib.hid hx
        have Ha := Lib.hid ha
        clear ha hx e1 e2
        simp only [It.cells]
        go_enter Tryz.func102, Tryz.ntmps102
        go_wp2_with (first | go_big_skip | (go_at_call 163; refine (who_spec k W _ _ hS).mono ?_; clear hS; rw [hk]; rintro e w ⟨rfl, hS⟩) | (go_at_call 126; refine (is_at _ _ _ _ W _ _ hS).mono ?_; clear hS; rw [hi]; rintro e w ⟨rfl, hS⟩) | (refine zl1 hS ?_) | (refine zlN hS ?_) | (refine zs1 hS ?_; clear hS; intro w hS) | (refine zsN hS ?_; clear hS; intro w hS) | (refine zbx hS ?_; clear hS; intro b w hS) | (refine zal hS ?_; clear hS; intro b w hS))
        refine wp_region_flow3 [0, 1, 3, 7, 0, 31, 0, 127, 255, 511, 1023, 1023, 0, 6143, 16383] (fun i => i == 7 || i == 12) (fun i => if i == 8 then some (.tuple #[.agg #[.int .i64 0, .int .i64 0, .int .i64 0, .int .i64 0], .bool false]) else none) [⟨some 7, some 8, fun nd => row (nd 7) 4 29 2 ([(⟨p0, p1, p2, p3⟩ : It), ⟨x0, x1, x2, x3⟩].flatMap It.cells)⟩, ⟨some 12, some 13, fun nd => ptrTo (nd 12) [.int .i64 0, .int .i64 0, .int .i64 0, .int .i64 0] 29⟩, ⟨some 13, none, fun nd => ptrTo (nd 12) [.int .i64 0, .int .i64 0, .int .i64 0, .int .i64 0] 29⟩] [none, none, none] (by kernel_rfl) (by kernel_rfl) rfl hS (CongOk.cons (fun nd nd' h => by dsimp only; rw [h 7 rfl rfl]) (CongOk.cons (fun nd nd' h => by dsimp only; rw [h 12 rfl rfl]) (CongOk.cons (fun nd nd' h => by dsimp only; rw [h 12 rfl rfl]) CongOk.nil))) ?_
        intro nd
        repeat (first | (refine zc1 ?_) | (refine zcN ?_) | (refine zcn ?_) | (apply ch_alookU (ek := eS) (ev := eP) (k := k) it0 ⟨p0, p1, p2, p3⟩; rfl; kernel_rfl; (with_reducible rfl); rfl; rfl; rfl; (intro F; exact ⟨_, by exact takO⟩); exact mP; exact kS; exact zP; rfl; exact Hx.out; (simp only [Act.put, fA, fB, fC, Nat.reduceAdd, eP, It.cells])) | (refine ch_pure rfl (by kernel_rfl) rfl rfl ?_; intro K hK; go_big_quiet_op; go_big_quiet_on))
        (apply ch_bsR; rfl; (with_reducible rfl); rfl; (focus (simp only [fD, List.map_cons, List.map_nil, Act.eval, fE, fF, fG, fH, Option.getD_some]; try rfl)); (exact esS); (exact rsS); rfl; rfl; rfl; rfl; rfl; decide; (intro _; rfl); rfl; (intro _; rfl); (refine frS ?_))
        (refine zcv ?_ (hs := by (intro F w hS; (try clear hS0); exact add_none Ha.out _ W w _ hS)))
        iterate 3 (refine ch_pure rfl (by kernel_rfl) rfl rfl ?_; intro K hK; go_big_quiet_op; go_big_quiet_on)
        (refine zca ?_)
        (refine zct ?_)
        (refine ch_pure rfl (by kernel_rfl) rfl rfl ?_; intro K hK; go_big_quiet_op; go_big_quiet_on)
        refine ch_end ?_
        clear hS
        intro w hS
        have hS2 : St W [ptrTo (nd 12) _ _, blk b _ _, blk vb _ _, amap eS eP mb p, sats R] w := hS
        clear hS
        have hS := hS2.unpack [_, _, _, _]
        clear hS2
        simp only [List.cons_append, List.nil_append] at hS
        generalize nd 12 = v12 at *
        have h1 := hS.ptr; clear hS; obtain ⟨b2, rfl, hS⟩ := h1
        go_wp2_with (first | go_big_skip | ((with_reducible apply wl_bsR (n := 2) (l := [(⟨p0, p1, p2, p3⟩ : It), ⟨x0, x1, x2, x3⟩].flatMap It.cells) hS); (with_reducible rfl); rfl; (focus (simp only [fD, List.map_cons, List.map_nil, Act.eval, fE, fF, fG, fH, Option.getD_some]; try rfl)); (exact esS); (exact rsS); rfl; rfl; rfl; rfl; rfl; decide; clear hS; intro bv w hS; (refine frS ?_)) | (go_at_call 58; refine (add_none Ha.out _ W _ _ hS).mono ?_; clear hS; rintro e w ⟨rfl, hS⟩) | (refine zl1 hS ?_) | (refine zlN hS ?_) | (refine zs1 hS ?_; clear hS; intro w hS) | (refine zsN hS ?_; clear hS; intro w hS) | (refine zbx hS ?_; clear hS; intro b w hS) | (refine zal hS ?_; clear hS; intro b w hS))
        go_ret
        exact ⟨rfl, hS.sel (by exact selS)⟩
      | some s =>
        obtain ⟨s0, s1, s2, s3⟩ := s
        have e1 : putE p k ⟨x0, x1, x2, x3⟩ = 0 := by simp [putE, hk, hi, hx, ha]
        have e2 : putP p k ⟨x0, x1, x2, x3⟩ = layP p k ⟨s0, s1, s2, s3⟩ := by simp [putP, hk, hi, hx, ha, subIt]
        rw [e1, e2]
        have Hx := Lib.hid hx
        have Ha := Lib.hid ha
        clear ha hx e1 e2
        simp only [It.cells]
        go_enter Tryz.func102, Tryz.ntmps102
        go_wp2_with (first | go_big_skip | (go_at_call 163; refine (who_spec k W _ _ hS).mono ?_; clear hS; rw [hk]; rintro e w ⟨rfl, hS⟩) | (go_at_call 126; refine (is_at _ _ _ _ W _ _ hS).mono ?_; clear hS; rw [hi]; rintro e w ⟨rfl, hS⟩) | (refine zl1 hS ?_) | (refine zlN hS ?_) | (refine zs1 hS ?_; clear hS; intro w hS) | (refine zsN hS ?_; clear hS; intro w hS) | (refine zbx hS ?_; clear hS; intro b w hS) | (refine zal hS ?_; clear hS; intro b w hS))
        refine wp_region_flow3 [0, 1, 3, 7, 0, 31, 0, 127, 255, 511, 1023, 1023, 0, 6143, 16383] (fun i => i == 7 || i == 12) (fun i => if i == 8 then some (.tuple #[.agg #[.int .i64 s0, .int .i64 s1, .int .i64 s2, .int .i64 s3], .bool true]) else none) [⟨some 7, some 8, fun nd => row (nd 7) 4 29 2 ([(⟨p0, p1, p2, p3⟩ : It), ⟨x0, x1, x2, x3⟩].flatMap It.cells)⟩, ⟨some 12, some 13, fun nd => ptrTo (nd 12) [.int .i64 0, .int .i64 0, .int .i64 0, .int .i64 0] 29⟩, ⟨some 13, none, fun nd => ptrTo (nd 12) [.int .i64 s0, .int .i64 s1, .int .i64 s2, .int .i64 s3] 29⟩] [none, none, none] (by kernel_rfl) (by kernel_rfl) rfl hS (CongOk.cons (fun nd nd' h => by dsimp only; rw [h 7 rfl rfl]) (CongOk.cons (fun nd nd' h => by dsimp only; rw [h 12 rfl rfl]) (CongOk.cons (fun nd nd' h => by dsimp only; rw [h 12 rfl rfl]) CongOk.nil))) ?_
        intro nd
        repeat (first | (refine zc1 ?_) | (refine zcN ?_) | (refine zcn ?_) | (apply ch_alookU (ek := eS) (ev := eP) (k := k) it0 ⟨p0, p1, p2, p3⟩; rfl; kernel_rfl; (with_reducible rfl); rfl; rfl; rfl; (intro F; exact ⟨_, by exact takO⟩); exact mP; exact kS; exact zP; rfl; exact Hx.out; (simp only [Act.put, fA, fB, fC, Nat.reduceAdd, eP, It.cells])) | (refine ch_pure rfl (by kernel_rfl) rfl rfl ?_; intro K hK; go_big_quiet_op; go_big_quiet_on))
        (apply ch_bsR; rfl; (with_reducible rfl); rfl; (focus (simp only [fD, List.map_cons, List.map_nil, Act.eval, fE, fF, fG, fH, Option.getD_some]; try rfl)); (exact esS); (exact rsS); rfl; rfl; rfl; rfl; rfl; decide; (intro _; rfl); rfl; (intro _; rfl); (refine frS ?_))
        (refine zcv ?_ (hs := by (intro F w hS; (try clear hS0); exact add_some Ha.out _ W w _ hS)))
        iterate 3 (refine ch_pure rfl (by kernel_rfl) rfl rfl ?_; intro K hK; go_big_quiet_op; go_big_quiet_on)
        (refine zca ?_)
        (refine zct ?_)
        (refine ch_pure rfl (by kernel_rfl) rfl rfl ?_; intro K hK; go_big_quiet_op; go_big_quiet_on)
        refine ch_end ?_
        clear hS
        intro w hS
        have hS2 : St W [ptrTo (nd 12) _ _, blk b _ _, blk vb _ _, amap eS eP mb p, sats R] w := hS
        clear hS
        have hS := hS2.unpack [_, _, _, _]
        clear hS2
        simp only [List.cons_append, List.nil_append] at hS
        generalize nd 12 = v12 at *
        have h1 := hS.ptr; clear hS; obtain ⟨b2, rfl, hS⟩ := h1
        go_wp2_with (first | go_big_skip | ((with_reducible apply wl_bsR (n := 2) (l := [(⟨p0, p1, p2, p3⟩ : It), ⟨x0, x1, x2, x3⟩].flatMap It.cells) hS); (with_reducible rfl); rfl; (focus (simp only [fD, List.map_cons, List.map_nil, Act.eval, fE, fF, fG, fH, Option.getD_some]; try rfl)); (exact esS); (exact rsS); rfl; rfl; rfl; rfl; rfl; decide; clear hS; intro bv w hS; (refine frS ?_)) | (go_at_call 58; refine (add_some Ha.out _ W _ _ hS).mono ?_; clear hS; rintro e w ⟨rfl, hS⟩) | (go_at_call 164; refine (lays_spec vb mb p k u1 u2 W _ R ⟨s0, s1, s2, s3⟩ (hS.sel (by exact selS))).mono ?_; clear hS; rintro e w ⟨rfl, hS⟩) | (refine zl1 hS ?_) | (refine zlN hS ?_) | (refine zs1 hS ?_; clear hS; intro w hS) | (refine zsN hS ?_; clear hS; intro w hS) | (refine zbx hS ?_; clear hS; intro b w hS) | (refine zal hS ?_; clear hS; intro b w hS))
        go_ret
        exact ⟨rfl, hS⟩
set_option maxRecDepth 100000 in
set_option maxHeartbeats 4000000 in
theorem take_spec (hS : St W (blk vb [.map (some mb), u1, u2] 176 :: amap eS eP mb p :: R) w) :
    Calls Tryz.prog 104 #[.pointer (some ⟨vb, 0, none⟩), .string k, .agg i.cells.toArray] w fun e w' => e = .returned (.int .i64 (takeE p k i)) ∧ St W (blk vb [.map (some mb), u1, u2] 176 :: amap eS eP mb (takeP p k i) :: R) w' := by
  obtain ⟨x0, x1, x2, x3⟩ := i
  cases hk : whoB k with
  | false =>
    have e1 : takeE p k ⟨x0, x1, x2, x3⟩ = 1 := by simp [takeE, hk]
    have e2 : takeP p k ⟨x0, x1, x2, x3⟩ = p := by simp [takeP, hk]
    rw [e1, e2]
    clear e1 e2
    simp only [It.cells]
    go_enter Tryz.func104, Tryz.ntmps104
    go_wp2_with (first | go_big_skip | (go_at_call 163; refine (who_spec k W _ _ hS).mono ?_; clear hS; rw [hk]; rintro e w ⟨rfl, hS⟩) | (refine zl1 hS ?_) | (refine zlN hS ?_) | (refine zs1 hS ?_; clear hS; intro w hS) | (refine zsN hS ?_; clear hS; intro w hS) | (refine zbx hS ?_; clear hS; intro b w hS) | (refine zal hS ?_; clear hS; intro b w hS))
    go_ret
    exact ⟨rfl, hS.drop⟩
  | true =>
    cases hi : isIt ⟨x0, x1, x2, x3⟩ with
    | false =>
      have e1 : takeE p k ⟨x0, x1, x2, x3⟩ = 1 := by simp [takeE, hk, hi]
      have e2 : takeP p k ⟨x0, x1, x2, x3⟩ = p := by simp [takeP, hk, hi]
      rw [e1, e2]
      clear e1 e2
      simp only [It.cells]
      go_enter Tryz.func104, Tryz.ntmps104
      go_wp2_with (first | go_big_skip | (go_at_call 163; refine (who_spec k W _ _ hS).mono ?_; clear hS; rw [hk]; rintro e w ⟨rfl, hS⟩) | (go_at_call 126; refine (is_at _ _ _ _ W _ _ hS).mono ?_; clear hS; rw [hi]; rintro e w ⟨rfl, hS⟩) | (refine zl1 hS ?_) | (refine zlN hS ?_) | (refine zs1 hS ?_; clear hS; intro w hS) | (refine zsN hS ?_; clear hS; intro w hS) | (refine zbx hS ?_; clear hS; intro b w hS) | (refine zal hS ?_; clear hS; intro b w hS))
      go_ret
      exact ⟨rfl, hS.drop⟩
    | true =>
      obtain ⟨px, hx⟩ : ∃ x, purseA p k = x := ⟨_, rfl⟩
      obtain ⟨p0, p1, p2, p3⟩ := px
      cases ha : subOk ⟨p0, p1, p2, p3⟩ ⟨x0, x1, x2, x3⟩ with
      | false =>
        have e1 : takeE p k ⟨x0, x1, x2, x3⟩ = 14 := by simp [takeE, hk, hi, hx, ha]
        have e2 : takeP p k ⟨x0, x1, x2, x3⟩ = p := by simp [takeP, hk, hi, hx, ha]
        rw [e1, e2]
        have Hx := Lib.hid hx
        have Ha := Lib.hid ha
        clear ha hx e1 e2
        simp only [It.cells]
        go_enter Tryz.func104, Tryz.ntmps104
        go_wp2_with (first | go_big_skip | (go_at_call 163; refine (who_spec k W _ _ hS).mono ?_; clear hS; rw [hk]; rintro e w ⟨rfl, hS⟩) | (go_at_call 126; refine (is_at _ _ _ _ W _ _ hS).mono ?_; clear hS; rw [hi]; rintro e w ⟨rfl, hS⟩) | (refine zl1 hS ?_) | (refine zlN hS ?_) | (refine zs1 hS ?_; clear hS; intro w hS) | (refine zsN hS ?_; clear hS; intro w hS) | (refine zbx hS ?_; clear hS; intro b w hS) | (refine zal hS ?_; clear hS; intro b w hS))
        refine wp_region_flow3 [0, 1, 3, 7, 0, 31, 0, 127, 255, 511, 511, 0, 3071, 8191] (fun i => i == 11) (fun i => if i == 7 then some (.tuple #[.agg #[.int .i64 (0), .int .i64 (0), .int .i64 (0), .int .i64 (0)], .bool false]) else none) [⟨some 11, some 12, fun nd => ptrTo (nd 11) [.int .i64 0, .int .i64 0, .int .i64 0, .int .i64 0] 29⟩, ⟨some 12, none, fun nd => ptrTo (nd 11) [.int .i64 (0), .int .i64 (0), .int .i64 (0), .int .i64 (0)] 29⟩] [none, none, none] (by kernel_rfl) (by kernel_rfl) rfl hS (CongOk.cons (fun nd nd' h => by dsimp only; rw [h 11 rfl rfl]) (CongOk.cons (fun nd nd' h => by dsimp only; rw [h 11 rfl rfl]) CongOk.nil)) ?_
        intro nd
        repeat (first | (refine zc1 ?_) | (refine zcN ?_) | (refine zcn ?_) | (apply ch_alookU (ek := eS) (ev := eP) (k := k) it0 ⟨p0, p1, p2, p3⟩; rfl; kernel_rfl; (with_reducible rfl); rfl; rfl; rfl; (intro F; exact ⟨_, by exact takO⟩); exact mP; exact kS; exact zP; rfl; exact Hx.out; (simp only [Act.put, fA, fB, fC, Nat.reduceAdd, eP, It.cells])) | (refine ch_pure rfl (by kernel_rfl) rfl rfl ?_; intro K hK; go_big_quiet_op; go_big_quiet_on))
        (refine zcv ?_ (hs := by (intro F w hS; (try clear hS0); exact sub_no Ha.out W w _ hS)))
        iterate 3 (refine ch_pure rfl (by kernel_rfl) rfl rfl ?_; intro K hK; go_big_quiet_op; go_big_quiet_on)
        (refine zca ?_)
        (refine zct ?_)
        (refine ch_pure rfl (by kernel_rfl) rfl rfl ?_; intro K hK; go_big_quiet_op; go_big_quiet_on)
        refine ch_end ?_
        clear hS
        intro w hS
        have hS2 : St W [ptrTo (nd 11) _ _, blk b _ _, blk vb _ _, amap eS eP mb p, sats R] w := hS
        clear hS
        have hS := hS2.unpack [_, _, _, _]
        clear hS2
        simp only [List.cons_append, List.nil_append] at hS
        generalize nd 11 = v12 at *
        have h1 := hS.ptr; clear hS; obtain ⟨b2, rfl, hS⟩ := h1
        go_wp2_with (first | go_big_skip | (go_at_call 166; refine (sub_no Ha.out W _ _ hS).mono ?_; clear hS; rintro e w ⟨rfl, hS⟩) | (refine zl1 hS ?_) | (refine zlN hS ?_) | (refine zs1 hS ?_; clear hS; intro w hS) | (refine zsN hS ?_; clear hS; intro w hS) | (refine zbx hS ?_; clear hS; intro b w hS) | (refine zal hS ?_; clear hS; intro b w hS))
        go_ret
        exact ⟨rfl, hS.sel (by exact selS)⟩
      | true =>
        have e1 : takeE p k ⟨x0, x1, x2, x3⟩ = 0 := by simp [takeE, hk, hi, hx, ha]
        have e2 : takeP p k ⟨x0, x1, x2, x3⟩ = layP p k ⟨p0 - x0, p1 - x1, p2 - x2, p3 - x3⟩ := by simp [takeP, hk, hi, hx, ha, subIt]
        rw [e1, e2]
        have Hx := Lib.hid hx
        have Ha := Lib.hid ha
        clear ha hx e1 e2
        simp only [It.cells]
        go_enter Tryz.func104, Tryz.ntmps104
        go_wp2_with (first | go_big_skip | (go_at_call 163; refine (who_spec k W _ _ hS).mono ?_; clear hS; rw [hk]; rintro e w ⟨rfl, hS⟩) | (go_at_call 126; refine (is_at _ _ _ _ W _ _ hS).mono ?_; clear hS; rw [hi]; rintro e w ⟨rfl, hS⟩) | (refine zl1 hS ?_) | (refine zlN hS ?_) | (refine zs1 hS ?_; clear hS; intro w hS) | (refine zsN hS ?_; clear hS; intro w hS) | (refine zbx hS ?_; clear hS; intro b w hS) | (refine zal hS ?_; clear hS; intro b w hS))
        refine wp_region_flow3 [0, 1, 3, 7, 0, 31, 0, 127, 255, 511, 511, 0, 3071, 8191] (fun i => i == 11) (fun i => if i == 7 then some (.tuple #[.agg #[.int .i64 (p0 - x0), .int .i64 (p1 - x1), .int .i64 (p2 - x2), .int .i64 (p3 - x3)], .bool true]) else none) [⟨some 11, some 12, fun nd => ptrTo (nd 11) [.int .i64 0, .int .i64 0, .int .i64 0, .int .i64 0] 29⟩, ⟨some 12, none, fun nd => ptrTo (nd 11) [.int .i64 (p0 - x0), .int .i64 (p1 - x1), .int .i64 (p2 - x2), .int .i64 (p3 - x3)] 29⟩] [none, none, none] (by kernel_rfl) (by kernel_rfl) rfl hS (CongOk.cons (fun nd nd' h => by dsimp only; rw [h 11 rfl rfl]) (CongOk.cons (fun nd nd' h => by dsimp only; rw [h 11 rfl rfl]) CongOk.nil)) ?_
        intro nd
        repeat (first | (refine zc1 ?_) | (refine zcN ?_) | (refine zcn ?_) | (apply ch_alookU (ek := eS) (ev := eP) (k := k) it0 ⟨p0, p1, p2, p3⟩; rfl; kernel_rfl; (with_reducible rfl); rfl; rfl; rfl; (intro F; exact ⟨_, by exact takO⟩); exact mP; exact kS; exact zP; rfl; exact Hx.out; (simp only [Act.put, fA, fB, fC, Nat.reduceAdd, eP, It.cells])) | (refine ch_pure rfl (by kernel_rfl) rfl rfl ?_; intro K hK; go_big_quiet_op; go_big_quiet_on))
        (refine zcv ?_ (hs := by (intro F w hS; (try clear hS0); exact sub_yes Ha.out W w _ hS)))
        iterate 3 (refine ch_pure rfl (by kernel_rfl) rfl rfl ?_; intro K hK; go_big_quiet_op; go_big_quiet_on)
        (refine zca ?_)
        (refine zct ?_)
        (refine ch_pure rfl (by kernel_rfl) rfl rfl ?_; intro K hK; go_big_quiet_op; go_big_quiet_on)
        refine ch_end ?_
        clear hS
        intro w hS
        have hS2 : St W [ptrTo (nd 11) _ _, blk b _ _, blk vb _ _, amap eS eP mb p, sats R] w := hS
        clear hS
        have hS := hS2.unpack [_, _, _, _]
        clear hS2
        simp only [List.cons_append, List.nil_append] at hS
        generalize nd 11 = v12 at *
        have h1 := hS.ptr; clear hS; obtain ⟨b2, rfl, hS⟩ := h1
        go_wp2_with (first | go_big_skip | (go_at_call 166; refine (sub_yes Ha.out W _ _ hS).mono ?_; clear hS; rintro e w ⟨rfl, hS⟩) | (go_at_call 164; refine (lays_spec vb mb p k u1 u2 W _ R ⟨p0 - x0, p1 - x1, p2 - x2, p3 - x3⟩ (hS.sel (by exact selS))).mono ?_; clear hS; rintro e w ⟨rfl, hS⟩) | (refine zl1 hS ?_) | (refine zlN hS ?_) | (refine zs1 hS ?_; clear hS; intro w hS) | (refine zsN hS ?_; clear hS; intro w hS) | (refine zbx hS ?_; clear hS; intro b w hS) | (refine zal hS ?_; clear hS; intro b w hS))
        go_ret
        exact ⟨rfl, hS⟩
end
end Go.Proofs.YtlmhakmoioogaaaGreat
end
