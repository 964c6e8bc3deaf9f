/-
  VaultRefunds: the walk. For all prices and counts.
-/
import Derived.Test.YtbcokphjpllbiaaVtP
set_option linter.unusedSimpArgs false
set_option linter.unusedVariables false
namespace Go.Proofs.Ytbcokphjpllbiaa
open Go.RowKit Go.Sl
theorem rf_ord2a (vb mb bb : Nat) (P M C F : Int) (W w : World) (R : List HP) (h : RfOk P M C F) (hf : F = 0) (hS : St W (vaultL vb mb bb (q3 P M C F) [sS P C 1] 2 R) w) :
    Calls Try.prog 11 #[.pointer (some ⟨vb, 0, none⟩), .agg #[.int .i64 0, .string ⟨#[98]⟩, .bool true, .int .i64 2, .int .i64 (C + F), .int .i64 (P + M)]] w fun e w' => e = .returned (.tuple #[.int .i64 2, .int .i64 0]) ∧ St W (vaultL vb mb bb (q5 P M C F) [] 3 R) w' := by
  refine (rf_ord2 vb mb bb P M C F W w R h hS).mono ?_
  rw [if_neg (by omega)]
  exact fun e w' h => h
theorem rf_ord2b (vb mb bb : Nat) (P M C F : Int) (W w : World) (R : List HP) (h : RfOk P M C F) (hf : 0 < F) (hS : St W (vaultL vb mb bb (q3 P M C F) [sS P C 1] 2 R) w) :
    Calls Try.prog 11 #[.pointer (some ⟨vb, 0, none⟩), .agg #[.int .i64 0, .string ⟨#[98]⟩, .bool true, .int .i64 2, .int .i64 (C + F), .int .i64 (P + M)]] w fun e w' => e = .returned (.tuple #[.int .i64 2, .int .i64 0]) ∧ St W (vaultL vb mb bb (q5 P M C F) [sB P M 2 F] 3 R) w' := by
  refine (rf_ord2 vb mb bb P M C F W w R h hS).mono ?_
  rw [if_pos hf]
  exact fun e w' h => h
section
variable (P M C F : Int) (W w : World) (R : List HP)
set_option maxRecDepth 100000 in
set_option maxHeartbeats 8000000 in
theorem refunds_spec (hS : St W R w) : Calls Try.prog 3 #[.int .i64 P, .int .i64 M, .int .i64 C, .int .i64 F] w fun e w' => e = .returned (.bool true) ∧ St W R w' := by
  by_cases c1 : P < 1
  · skip
    go_enter Try.func3, Try.ntmps3
    try simp only [List.append_eq, List.cons_append, List.nil_append]
    go_wp2_with (first | go_big_skip | (go_at_call 8; refine (knownV_spec W _ _ hS).mono ?_; clear hS; rintro e w ⟨rfl, hS⟩))
    go_ret
    exact ⟨rfl, hS⟩
  have d1 : decide (P < 1) = false := by simpa using c1
  by_cases c2 : 1024 < P
  · skip
    go_enter Try.func3, Try.ntmps3
    try simp only [List.append_eq, List.cons_append, List.nil_append]
    go_wp2_with (first | go_big_skip | (go_at_call 8; refine (knownV_spec W _ _ hS).mono ?_; clear hS; rintro e w ⟨rfl, hS⟩))
    go_ret
    exact ⟨rfl, hS⟩
  have d2 : decide (1024 < P) = false := by simpa using c2
  by_cases c3 : M < 0
  · skip
    go_enter Try.func3, Try.ntmps3
    try simp only [List.append_eq, List.cons_append, List.nil_append]
    go_wp2_with (first | go_big_skip | (go_at_call 8; refine (knownV_spec W _ _ hS).mono ?_; clear hS; rintro e w ⟨rfl, hS⟩))
    go_ret
    exact ⟨rfl, hS⟩
  have d3 : decide (M < 0) = false := by simpa using c3
  by_cases c4 : 1024 - P < M
  · skip
    go_enter Try.func3, Try.ntmps3
    try simp only [List.append_eq, List.cons_append, List.nil_append]
    go_wp2_with (first | go_big_skip | (go_at_call 8; refine (knownV_spec W _ _ hS).mono ?_; clear hS; rintro e w ⟨rfl, hS⟩))
    go_ret
    exact ⟨rfl, hS⟩
  have d4 : decide (1024 - P < M) = false := by simpa using c4
  by_cases c5 : C < 1
  · skip
    go_enter Try.func3, Try.ntmps3
    try simp only [List.append_eq, List.cons_append, List.nil_append]
    go_wp2_with (first | go_big_skip | (go_at_call 8; refine (knownV_spec W _ _ hS).mono ?_; clear hS; rintro e w ⟨rfl, hS⟩))
    go_ret
    exact ⟨rfl, hS⟩
  have d5 : decide (C < 1) = false := by simpa using c5
  by_cases c6 : 1000 < C
  · skip
    go_enter Try.func3, Try.ntmps3
    try simp only [List.append_eq, List.cons_append, List.nil_append]
    go_wp2_with (first | go_big_skip | (go_at_call 8; refine (knownV_spec W _ _ hS).mono ?_; clear hS; rintro e w ⟨rfl, hS⟩))
    go_ret
    exact ⟨rfl, hS⟩
  have d6 : decide (1000 < C) = false := by simpa using c6
  by_cases c7 : F < 0
  · skip
    go_enter Try.func3, Try.ntmps3
    try simp only [List.append_eq, List.cons_append, List.nil_append]
    go_wp2_with (first | go_big_skip | (go_at_call 8; refine (knownV_spec W _ _ hS).mono ?_; clear hS; rintro e w ⟨rfl, hS⟩))
    go_ret
    exact ⟨rfl, hS⟩
  have d7 : decide (F < 0) = false := by simpa using c7
  by_cases c8 : 1000 < F
  · skip
    go_enter Try.func3, Try.ntmps3
    try simp only [List.append_eq, List.cons_append, List.nil_append]
    go_wp2_with (first | go_big_skip | (go_at_call 8; refine (knownV_spec W _ _ hS).mono ?_; clear hS; rintro e w ⟨rfl, hS⟩))
    go_ret
    exact ⟨rfl, hS⟩
  have d8 : decide (1000 < F) = false := by simpa using c8
  have hok : RfOk P M C F := ⟨by omega, by omega, by omega, by omega, by omega, by omega, by omega, by omega⟩
  obtain ⟨x1, x2⟩ := hok.x
  obtain ⟨y1, y2⟩ := hok.cp
  obtain ⟨z1, z2⟩ := hok.cm
  obtain ⟨v1, v2⟩ := hok.fx
  have Hok := Lib.hid hok
  have n1 : (C + F) * (P + M) ≤ 9223372036854775807 := by omega
  have n2 : -9223372036854775808 ≤ (C + F) * (P + M) := by omega
  have n3 : C * P ≤ 9223372036854775807 := by omega
  have n4 : -9223372036854775808 ≤ C * P := by omega
  have n5 : C * M ≤ 9223372036854775807 := by omega
  have n6 : -9223372036854775808 ≤ C * M := by omega
  have n7 : F * (P + M) ≤ 9223372036854775807 := by omega
  have n8 : -9223372036854775808 ≤ F * (P + M) := by omega
  have h4s : ((C * P == C * P) && (((0 : Int) == 0) && (((0 : Int) == 0) && ((0 : Int) == 0)))) = true := by simp
  have h4b : ((C * M == C * M) && (((0 : Int) == 0) && ((C == C) && ((0 : Int) == 0)))) = true := by simp
  have h4c : ((C * M + F * (P + M) == C * M + F * (P + M)) && (((0 : Int) == 0) && ((C == C) && ((0 : Int) == 0)))) = true := by simp
  by_cases hf : F = 0
  · have d9 : (F == 0) = true := by simpa using hf
    have Hf := Lib.hid hf
    clear hf hok
    go_enter Try.func3, Try.ntmps3
    try simp only [List.append_eq, List.cons_append, List.nil_append]
    go_wp2_with (first | go_big_skip | (go_at_call 9; refine (newV_spec W _ _ hS).mono ?_; clear hS; rintro e w ⟨vb, mb, bb, rfl, hS⟩) | ((fail_if_success (have := mP1)); go_at_call 10; refine (rf_put1 vb mb P M C F W _ _ _ _ Hok.out hS).mono ?_; clear hS; rintro e w ⟨rfl, hS⟩; have mP1 : Nat := 0) | ((have := mP1); (fail_if_success (have := mP2)); go_at_call 10; refine (rf_put2 vb mb P M C F W _ _ _ _ Hok.out hS).mono ?_; clear hS; rintro e w ⟨rfl, hS⟩; have mP2 : Nat := 0) | ((fail_if_success (have := mO1)); go_at_call 11; refine (rf_ord1 vb mb bb P M C F W _ _ Hok.out hS).mono ?_; clear hS; rintro e w ⟨rfl, hS⟩; have mO1 : Nat := 0) | ((have := mO1); (fail_if_success (have := mO2)); go_at_call 11; refine (rf_ord2a vb mb bb P M C F W _ _ Hok.out Hf.out hS).mono ?_; clear hS; rintro e w ⟨rfl, hS⟩; have mO2 : Nat := 0) | ((fail_if_success (have := mH1)); go_at_call 12; refine (rf_has_s vb mb P M C F W _ _ _ _ Hok.out hS).mono ?_; clear hS; rintro e w ⟨rfl, hS⟩; have mH1 : Nat := 0) | ((have := mH1); (fail_if_success (have := mH2)); go_at_call 12; refine (rf_has_b vb mb P M C F W _ _ _ _ Hok.out hS).mono ?_; clear hS; rintro e w ⟨rfl, hS⟩; have mH2 : Nat := 0) | ((fail_if_success (have := mC1)); go_at_call 13; refine (rf_no vb mb bb W _ _ _ hS).mono ?_; clear hS; rintro e w ⟨rfl, hS⟩; have mC1 : Nat := 0) | (go_at_call 8; (first | refine (knownV_spec W _ R hS.drop.drop.drop).mono ?_ | refine (knownV_spec W _ R hS).mono ?_); clear hS; rintro e w ⟨rfl, hS⟩) | ((with_reducible apply wl_neA); (with_reducible rfl); rfl; rfl; rfl; kernel_rfl; exact eqI _ _ _ _ _ _ _ _; first | rw [h4s] | rw [h4b]; (simp only [Bool.not_true]); (simp only [Act.put, List.setIfInBounds_toArray, List.set_cons_succ, List.set_cons_zero, Nat.reduceAdd, eP, It.cells])))
    all_goals go_ret
    all_goals exact ⟨rfl, hS⟩
  · have d9 : (F == 0) = false := by simpa using hf
    have hf0 : 0 < F := by omega
    have Hf := Lib.hid hf0
    clear hf hok hf0
    go_enter Try.func3, Try.ntmps3
    try simp only [List.append_eq, List.cons_append, List.nil_append]
    go_wp2_with (first | go_big_skip | (go_at_call 9; refine (newV_spec W _ _ hS).mono ?_; clear hS; rintro e w ⟨vb, mb, bb, rfl, hS⟩) | ((fail_if_success (have := mP1)); go_at_call 10; refine (rf_put1 vb mb P M C F W _ _ _ _ Hok.out hS).mono ?_; clear hS; rintro e w ⟨rfl, hS⟩; have mP1 : Nat := 0) | ((have := mP1); (fail_if_success (have := mP2)); go_at_call 10; refine (rf_put2 vb mb P M C F W _ _ _ _ Hok.out hS).mono ?_; clear hS; rintro e w ⟨rfl, hS⟩; have mP2 : Nat := 0) | ((fail_if_success (have := mO1)); go_at_call 11; refine (rf_ord1 vb mb bb P M C F W _ _ Hok.out hS).mono ?_; clear hS; rintro e w ⟨rfl, hS⟩; have mO1 : Nat := 0) | ((have := mO1); (fail_if_success (have := mO2)); go_at_call 11; refine (rf_ord2b vb mb bb P M C F W _ _ Hok.out Hf.out hS).mono ?_; clear hS; rintro e w ⟨rfl, hS⟩; have mO2 : Nat := 0) | ((fail_if_success (have := mH1)); go_at_call 12; refine (rf_has_s vb mb P M C F W _ _ _ _ Hok.out hS).mono ?_; clear hS; rintro e w ⟨rfl, hS⟩; have mH1 : Nat := 0) | ((have := mH1); (fail_if_success (have := mH2)); go_at_call 12; refine (rf_has_b vb mb P M C F W _ _ _ _ Hok.out hS).mono ?_; clear hS; rintro e w ⟨rfl, hS⟩; have mH2 : Nat := 0) | ((have := mH2); (fail_if_success (have := mH3)); go_at_call 12; refine (rf_has2 vb mb P M C F W _ _ _ _ Hok.out hS).mono ?_; clear hS; rintro e w ⟨rfl, hS⟩; have mH3 : Nat := 0) | ((fail_if_success (have := mC1)); go_at_call 13; refine (rf_yes vb mb bb P M C F W _ _ Hok.out Hf.out hS).mono ?_; clear hS; rintro e w ⟨rfl, hS⟩; have mC1 : Nat := 0) | ((have := mC1); (fail_if_success (have := mC2)); go_at_call 13; refine (rf_no vb mb bb W _ _ _ hS).mono ?_; clear hS; rintro e w ⟨rfl, hS⟩; have mC2 : Nat := 0) | (go_at_call 8; (first | refine (knownV_spec W _ R hS.drop.drop.drop).mono ?_ | refine (knownV_spec W _ R hS).mono ?_); clear hS; rintro e w ⟨rfl, hS⟩) | ((with_reducible apply wl_neA); (with_reducible rfl); rfl; rfl; rfl; kernel_rfl; exact eqI _ _ _ _ _ _ _ _; first | rw [h4s] | rw [h4b]; (simp only [Bool.not_true]); (simp only [Act.put, List.setIfInBounds_toArray, List.set_cons_succ, List.set_cons_zero, Nat.reduceAdd, eP, It.cells])) | ((with_reducible apply wl_eqA); (with_reducible rfl); rfl; rfl; rfl; kernel_rfl; exact eqI _ _ _ _ _ _ _ _; rw [h4c]; (simp only [Act.put, List.setIfInBounds_toArray, List.set_cons_succ, List.set_cons_zero, Nat.reduceAdd, eP, It.cells])))
    all_goals go_ret
    all_goals exact ⟨rfl, hS⟩
end
end Go.Proofs.Ytbcokphjpllbiaa
