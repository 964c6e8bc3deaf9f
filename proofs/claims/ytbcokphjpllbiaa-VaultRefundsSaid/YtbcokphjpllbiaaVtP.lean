/-
  VaultRefunds: the contracts of each call. For all prices and counts.
-/
import Derived.Test.YtbcokphjpllbiaaVtO
set_option linter.unusedSimpArgs false
set_option linter.unusedVariables false
namespace Go.Proofs.Ytbcokphjpllbiaa
open Go.RowKit Go.Sl
section
variable {P M C F : Int}
theorem RfOk.x (h : RfOk P M C F) : 0 ≤ (C + F) * (P + M) ∧ (C + F) * (P + M) ≤ 1073741824 :=
  mul_in (by have := h.c0; have := h.f0; omega) (by have := h.c1; have := h.f1; omega) (by have := h.p0; have := h.m0; omega) (by have := h.m1; omega)
theorem RfOk.cp (h : RfOk P M C F) : 0 ≤ C * P ∧ C * P ≤ 1073741824 :=
  mul_in (by have := h.c0; omega) (by have := h.c1; omega) (by have := h.p0; omega) h.p1
theorem RfOk.cm (h : RfOk P M C F) : 0 ≤ C * M ∧ C * M ≤ 1073741824 :=
  mul_in (by have := h.c0; omega) (by have := h.c1; omega) h.m0 (by have := h.m1; have := h.p0; omega)
theorem RfOk.fx (h : RfOk P M C F) : 0 ≤ F * (P + M) ∧ F * (P + M) ≤ 1073741824 :=
  mul_in h.f0 (by have := h.f1; omega) (by have := h.p0; have := h.m0; omega) (by have := h.m1; omega)
theorem isIt_0 {n : Int} (h : 0 ≤ n ∧ n ≤ 1073741824) : isIt ⟨n, 0, 0, 0⟩ = true := by
  have z : (0 : Int) ≤ 0 ∧ (0 : Int) ≤ 1152921504606846976 := ⟨by decide, by decide⟩
  exact isIt_true.2 ⟨⟨h.1, show n ≤ 1152921504606846976 by omega⟩, z, z, z⟩
theorem isIt_2 {n : Int} (h : 0 ≤ n ∧ n ≤ 1073741824) : isIt ⟨0, 0, n, 0⟩ = true := by
  have z : (0 : Int) ≤ 0 ∧ (0 : Int) ≤ 1152921504606846976 := ⟨by decide, by decide⟩
  exact isIt_true.2 ⟨z, z, ⟨h.1, show n ≤ 1152921504606846976 by omega⟩, z⟩
theorem ks_sz : 1 ≤ ks.size ∧ ks.size ≤ 16 := by decide
theorem kb_sz : 1 ≤ kb.size ∧ kb.size ≤ 16 := by decide
theorem RfOk.mayS (h : RfOk P M C F) : MayP (sS P C 1) := ⟨by simp [sS], by simp [sS], ks_sz.1, ks_sz.2, by simp [sS], by simp [sS], h.c0, by show C ≤ 1048576; have := h.c1; omega, h.p0, h.p1⟩
theorem RfOk.mayB1 (h : RfOk P M C F) : MayP (sB P M 1 (C + F)) := ⟨by simp [sB], by simp [sB], kb_sz.1, kb_sz.2, by simp [sB], by simp [sB], by show 1 ≤ C + F; have := h.c0; have := h.f0; omega, by show C + F ≤ 1048576; have := h.c1; have := h.f1; omega, by show 1 ≤ P + M; have := h.p0; have := h.m0; omega, by show P + M ≤ 1024; have := h.m1; omega⟩
theorem RfOk.mayB2 (h : RfOk P M C F) (hf : 0 < F) : MayP (sB P M 2 F) := ⟨by simp [sB], by simp [sB], kb_sz.1, kb_sz.2, by simp [sB], by simp [sB], by show 1 ≤ F; omega, by show F ≤ 1048576; have := h.f1; omega, by show 1 ≤ P + M; have := h.p0; have := h.m0; omega, by show P + M ≤ 1024; have := h.m1; omega⟩
end
section
variable (P M C F : Int)
def q1 : Ps := layP [] ks ⟨0, 0, C, 0⟩
def q2 : Ps := layP (q1 C) kb ⟨(C + F) * (P + M), 0, 0, 0⟩
def q3 : Ps := layP (q2 P M C F) ks it0
def q4 : Ps := layP (q3 P M C F) kb it0
def q5 : Ps := payT (q4 P M C F) (trS P M C)
def q6 : Ps := backP (q5 P M C F) kb ⟨F * (P + M), 0, 0, 0⟩
theorem q2_ok (h : RfOk P M C F) : PsOk (q2 P M C F) := psOk_lay (psOk_lay psOk_nil _ (isIt_2 ⟨by have := h.c0; omega, by have := h.c1; omega⟩)) _ (isIt_0 h.x)
theorem q3_ok (h : RfOk P M C F) : PsOk (q3 P M C F) := psOk_lay (q2_ok P M C F h) _ rfl
theorem q4_ok (h : RfOk P M C F) : PsOk (q4 P M C F) := psOk_lay (q3_ok P M C F h) _ rfl
theorem trB_S (h : RfOk P M C F) : TrB (trS P M C) := ⟨⟨by show 0 ≤ C; have := h.c0; omega, by show C ≤ 1048576; have := h.c1; omega⟩, ⟨by show (0 : Int) ≤ 2; decide, by show (2 : Int) ≤ 3; decide⟩, ⟨by show 0 ≤ P; have := h.p0; omega, h.p1⟩, ⟨by show 0 ≤ P + M - P; have := h.m0; omega, by show P + M - P ≤ 1024; have := h.m1; have := h.p0; omega⟩⟩
theorem q5_ok (h : RfOk P M C F) : PsOk (q5 P M C F) := psOk_pay (q4_ok P M C F h) (trB_S P M C F h)
theorem cap_in {n : Int} (h : n ≤ 1073741824) : capI n = n := by unfold capI; rw [if_neg (by omega)]
theorem q5_s (h : RfOk P M C F) : purseA (q5 P M C F) ks = ⟨C * P, 0, 0, 0⟩ := by
  show purseA (giveP (giveP (giveP (q4 P M C F) kb 2 C) kb 0 (C * (P + M - P))) ks 0 (C * P)) ks = _
  rw [purse_give]
  have e : purseA (giveP (giveP (q4 P M C F) kb 2 C) kb 0 (C * (P + M - P))) ks = it0 := by
    unfold giveP
    rw [purse_other _ ks_kb, purse_other _ ks_kb]
    unfold q4
    rw [purse_other _ ks_kb]
    exact purse_same _ _ _
  rw [e]
  simp [giveI, setK, getK, it0, cap_in h.cp.2]
theorem q5_b (h : RfOk P M C F) : purseA (q5 P M C F) kb = ⟨C * M, 0, C, 0⟩ := by
  show purseA (giveP (giveP (giveP (q4 P M C F) kb 2 C) kb 0 (C * (P + M - P))) ks 0 (C * P)) kb = _
  have e0 : purseA (giveP (giveP (giveP (q4 P M C F) kb 2 C) kb 0 (C * (P + M - P))) ks 0 (C * P)) kb = purseA (giveP (giveP (q4 P M C F) kb 2 C) kb 0 (C * (P + M - P))) kb := purse_other _ kb_ks _
  rw [e0, purse_give, purse_give]
  have e : purseA (q4 P M C F) kb = it0 := purse_same _ _ _
  have e2 : P + M - P = M := by omega
  rw [e, e2]
  have e3 : capI C = C := cap_in (by have := h.c1; omega)
  simp [giveI, setK, getK, it0, cap_in h.cm.2, e3]
theorem q6_b (h : RfOk P M C F) : purseA (q6 P M C F) kb = ⟨C * M + F * (P + M), 0, C, 0⟩ := by
  unfold q6 backP
  rw [purse_give, purse_give, purse_give, purse_give, q5_b P M C F h]
  have e3 : capI C = C := cap_in (by have := h.c1; omega)
  have e4 : capI (C * M + F * (P + M)) = C * M + F * (P + M) := by unfold capI; rw [if_neg (by have := h.cm; have := h.fx; omega)]
  have e5 : capI 0 = 0 := rfl
  simp [giveI, setK, getK, e3, e4, e5]
end
section
variable (vb mb bb : Nat) (P M C F : Int) (W w : World) (R : List HP)
theorem rf_put1 (u1 u2 : Value) (h : RfOk P M C F) (hS : St W (blk vb [.map (some mb), u1, u2] 56 :: amap eS eP mb [] :: R) w) :
    Calls Try.prog 10 #[.pointer (some ⟨vb, 0, none⟩), .string ⟨#[115]⟩, .agg #[.int .i64 0, .int .i64 0, .int .i64 C, .int .i64 0]] w fun e w' => e = .returned (.int .i64 0) ∧ St W (blk vb [.map (some mb), u1, u2] 56 :: amap eS eP mb (q1 C) :: R) w' := by
  have h1 := put_one (p := []) (k := ks) (i := ⟨0, 0, C, 0⟩) rfl ks_who (isIt_2 ⟨by have := h.c0; omega, by have := h.c1; omega⟩)
  refine (put_spec vb mb [] ks u1 u2 ⟨0, 0, C, 0⟩ W w R hS).mono ?_
  rw [h1.1, h1.2]
  exact fun e w' h => h
theorem rf_put2 (u1 u2 : Value) (h : RfOk P M C F) (hS : St W (blk vb [.map (some mb), u1, u2] 56 :: amap eS eP mb (q1 C) :: R) w) :
    Calls Try.prog 10 #[.pointer (some ⟨vb, 0, none⟩), .string ⟨#[98]⟩, .agg #[.int .i64 ((C + F) * (P + M)), .int .i64 0, .int .i64 0, .int .i64 0]] w fun e w' => e = .returned (.int .i64 0) ∧ St W (blk vb [.map (some mb), u1, u2] 56 :: amap eS eP mb (q2 P M C F) :: R) w' := by
  have h1 := put_one (p := q1 C) (k := kb) (i := ⟨(C + F) * (P + M), 0, 0, 0⟩) (purse_other _ kb_ks _) kb_who (isIt_0 h.x)
  refine (put_spec vb mb (q1 C) kb u1 u2 ⟨(C + F) * (P + M), 0, 0, 0⟩ W w R hS).mono ?_
  rw [h1.1, h1.2]
  exact fun e w' h => h
theorem rf_ord1 (h : RfOk P M C F) (hS : St W (vaultL vb mb bb (q2 P M C F) [] 1 R) w) :
    Calls Try.prog 11 #[.pointer (some ⟨vb, 0, none⟩), .agg #[.int .i64 0, .string ⟨#[115]⟩, .bool false, .int .i64 2, .int .i64 C, .int .i64 P]] w fun e w' => e = .returned (.tuple #[.int .i64 1, .int .i64 0]) ∧ St W (vaultL vb mb bb (q3 P M C F) [sS P C 1] 2 R) w' := by
  have hz : purseA (q2 P M C F) ks = ⟨0, 0, C, 0⟩ := by unfold q2; rw [purse_other _ ks_kb]; exact purse_same _ _ _
  have ht := take_all hz ks_who (isIt_2 ⟨by have := h.c0; omega, by have := h.c1; omega⟩)
  refine (order_ok vb mb bb (q2 P M C F) [] 1 (sS P C 0) W w R (q2_ok P M C F h) (mayB_true.2 h.mayS) (by decide) (by decide) (by decide) ht.1 hS).mono ?_
  rintro e w' ⟨he, hS⟩
  refine ⟨he, ?_⟩
  have hr := run_none (o := sS P C 1) (show 0 < C by have := h.c0; omega)
  have e1 : takeP (q2 P M C F) (sS P C 0).who (holdsF (sS P C 0)) = q3 P M C F := ht.2
  have e2 : runT [] { sS P C 0 with id := 1 } = [] := hr.1
  have e3 : runL [] { sS P C 0 with id := 1 } = [sS P C 1] := hr.2
  rw [e1, e2, e3] at hS
  exact hS
theorem rf_ord2 (h : RfOk P M C F) (hS : St W (vaultL vb mb bb (q3 P M C F) [sS P C 1] 2 R) w) :
    Calls Try.prog 11 #[.pointer (some ⟨vb, 0, none⟩), .agg #[.int .i64 0, .string ⟨#[98]⟩, .bool true, .int .i64 2, .int .i64 (C + F), .int .i64 (P + M)]] w fun e w' => e = .returned (.tuple #[.int .i64 2, .int .i64 0]) ∧ St W (vaultL vb mb bb (q5 P M C F) (if 0 < F then [sB P M 2 F] else []) 3 R) w' := by
  have hz : purseA (q3 P M C F) kb = ⟨(C + F) * (P + M), 0, 0, 0⟩ := by unfold q3; rw [purse_other _ kb_ks]; exact purse_same _ _ _
  have ht := take_all hz kb_who (isIt_0 h.x)
  refine (order_ok vb mb bb (q3 P M C F) [sS P C 1] 2 (sB P M 0 (C + F)) W w R (q3_ok P M C F h) (mayB_true.2 h.mayB1) (by decide) (by decide) (show (1 : Nat) < 32 by decide) ht.1 hS).mono ?_
  rintro e w' ⟨he, hS⟩
  refine ⟨he, ?_⟩
  have hr := run_S P M C F h
  have e1 : takeP (q3 P M C F) (sB P M 0 (C + F)).who (holdsF (sB P M 0 (C + F))) = q4 P M C F := ht.2
  have e2 : runT [sS P C 1] { sB P M 0 (C + F) with id := 2 } = [trS P M C] := hr.1
  have e3 : runL [sS P C 1] { sB P M 0 (C + F) with id := 2 } = if 0 < F then [sB P M 2 F] else [] := hr.2
  rw [e1, e2, e3] at hS
  exact hS
theorem rf_has_s (u1 u2 : Value) (h : RfOk P M C F) (hS : St W (blk vb [.map (some mb), u1, u2] 56 :: amap eS eP mb (q5 P M C F) :: R) w) :
    Calls Try.prog 12 #[.pointer (some ⟨vb, 0, none⟩), .string ⟨#[115]⟩] w fun e w' => e = .returned (.agg #[.int .i64 (C * P), .int .i64 0, .int .i64 0, .int .i64 0]) ∧ St W (blk vb [.map (some mb), u1, u2] 56 :: amap eS eP mb (q5 P M C F) :: R) w' := by
  refine (has_spec vb mb _ ks u1 u2 W w R hS).mono ?_
  rw [q5_s P M C F h]
  exact fun e w' h => h
theorem rf_has_b (u1 u2 : Value) (h : RfOk P M C F) (hS : St W (blk vb [.map (some mb), u1, u2] 56 :: amap eS eP mb (q5 P M C F) :: R) w) :
    Calls Try.prog 12 #[.pointer (some ⟨vb, 0, none⟩), .string ⟨#[98]⟩] w fun e w' => e = .returned (.agg #[.int .i64 (C * M), .int .i64 0, .int .i64 C, .int .i64 0]) ∧ St W (blk vb [.map (some mb), u1, u2] 56 :: amap eS eP mb (q5 P M C F) :: R) w' := by
  refine (has_spec vb mb _ kb u1 u2 W w R hS).mono ?_
  rw [q5_b P M C F h]
  exact fun e w' h => h
theorem rf_has2 (u1 u2 : Value) (h : RfOk P M C F) (hS : St W (blk vb [.map (some mb), u1, u2] 56 :: amap eS eP mb (q6 P M C F) :: R) w) :
    Calls Try.prog 12 #[.pointer (some ⟨vb, 0, none⟩), .string ⟨#[98]⟩] w fun e w' => e = .returned (.agg #[.int .i64 (C * M + F * (P + M)), .int .i64 0, .int .i64 C, .int .i64 0]) ∧ St W (blk vb [.map (some mb), u1, u2] 56 :: amap eS eP mb (q6 P M C F) :: R) w' := by
  refine (has_spec vb mb _ kb u1 u2 W w R hS).mono ?_
  rw [q6_b P M C F h]
  exact fun e w' h => h
theorem rf_no (p : Ps) (hS : St W (vaultL vb mb bb p [] 3 R) w) :
    Calls Try.prog 13 #[.pointer (some ⟨vb, 0, none⟩), .string ⟨#[98]⟩, .int .i64 2] w fun e w' => e = .returned (.int .i64 7) ∧ St W (vaultL vb mb bb p [] 3 R) w' :=
  cancelV_no vb mb bb p [] 3 kb 2 W w R rfl hS
theorem rf_yes (h : RfOk P M C F) (hf : 0 < F) (hS : St W (vaultL vb mb bb (q5 P M C F) [sB P M 2 F] 3 R) w) :
    Calls Try.prog 13 #[.pointer (some ⟨vb, 0, none⟩), .string ⟨#[98]⟩, .int .i64 2] w fun e w' => e = .returned (.int .i64 0) ∧ St W (vaultL vb mb bb (q6 P M C F) [] 3 R) w' := by
  refine cancelV_yes vb mb bb (q5 P M C F) [sB P M 2 F] 3 kb 2 W w R (q5_ok P M C F h) (sB P M 2 F) [] (h.mayB2 hf) ?_ rfl rfl rfl hS
  have e : hitC 2 kb (sB P M 2 F) = true := by
    unfold hitC
    show (_ && (kb.toList == kb.toList)) = true
    simp [sB]
  rw [List.any_cons, e]; rfl
end
end Go.Proofs.Ytbcokphjpllbiaa
