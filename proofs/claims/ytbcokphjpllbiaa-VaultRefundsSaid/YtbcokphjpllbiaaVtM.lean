/-
  VaultOthers: what each step does. For all names and counts.
-/
import Derived.Test.YtbcokphjpllbiaaVtL
set_option linter.unusedSimpArgs false
set_option linter.unusedVariables false
namespace Go.Proofs.Ytbcokphjpllbiaa
open Go.RowKit Go.Sl
theorem addIt_zero (i : It) : addIt it0 i = i := by
  obtain ⟨a, b, c, d⟩ := i
  simp [addIt, it0]
theorem put_one {p : Ps} {k : ByteArray} {i : It} (hz : purseA p k = it0) (hk : whoB k = true) (hi : isIt i = true) : putE p k i = 0 ∧ putP p k i = layP p k i := by
  have h0 : isIt it0 = true := rfl
  have h1 : addL [it0, i] it0 = some i := by
    rw [addL, addIt_zero, if_pos ⟨h0, h0⟩, addL, addIt_zero, if_pos ⟨hi, hi⟩, addL]
  unfold putE putP
  rw [hz, h1]
  simp [hk, hi]
theorem purse_give (p : Ps) (who : ByteArray) (k n : Int) : purseA (giveP p who k n) who = giveI (purseA p who) k n := purse_same p who _
section
variable {a b : ByteArray} {n : Int}
def oA (a : ByteArray) (n : Int) : Ord := ⟨0, a, false, 1, n, 1⟩
def oA1 (a : ByteArray) (n : Int) : Ord := ⟨1, a, false, 1, n, 1⟩
theorem oA_may (ha : 1 ≤ a.size ∧ a.size ≤ 16) (hn : 1 ≤ n ∧ n ≤ 1000) : MayP (oA1 a n) := ⟨by simp [oA1], by simp [oA1], ha.1, ha.2, by simp [oA1], by simp [oA1], hn.1, by show n ≤ 1048576; omega, by simp [oA1], by simp [oA1]⟩
theorem oA_may1 (ha : 1 ≤ a.size ∧ a.size ≤ 16) (hn : 1 ≤ n ∧ n ≤ 1000) : may1 (oA a n) = true := mayB_true.2 (oA_may ha hn)
theorem oA_holds (a : ByteArray) (n : Int) : holdsF (oA a n) = ⟨0, n, 0, 0⟩ := rfl
theorem whoB_true (ha : 1 ≤ a.size ∧ a.size ≤ 16) : whoB a = true := by unfold whoB; simp; omega
theorem one_in (hn : 0 ≤ n ∧ n ≤ 1000) : isIt ⟨0, n, 0, 0⟩ = true := by
  have z : (0 : Int) ≤ 0 ∧ (0 : Int) ≤ 1152921504606846976 := ⟨by decide, by decide⟩
  exact isIt_true.2 ⟨z, ⟨hn.1, show n ≤ 1152921504606846976 by omega⟩, z, z⟩
theorem take_poor {p : Ps} (hz : purseA p b = it0) (hb : 1 ≤ b.size ∧ b.size ≤ 16) (hn : 1 ≤ n ∧ n ≤ 1000) : takeE p b ⟨0, n, 0, 0⟩ = 14 ∧ takeP p b ⟨0, n, 0, 0⟩ = p := by
  have h : subOk it0 ⟨0, n, 0, 0⟩ = false := by
    have hd : decide ((0 : Int) < n) = true := decide_eq_true (by omega)
    have hl : lessIt it0 ⟨0, n, 0, 0⟩ = true := by
      unfold lessIt it0
      simp only [hd, Bool.true_or, Bool.or_true]
    unfold subOk
    rw [hl]
    simp
  have h1 := whoB_true hb
  have h2 := one_in (n := n) ⟨by omega, hn.2⟩
  unfold takeE takeP
  rw [hz]
  simp [h1, h2, h]
theorem take_rich {p : Ps} (hz : purseA p a = ⟨0, n, 0, 0⟩) (ha : 1 ≤ a.size ∧ a.size ≤ 16) (hn : 1 ≤ n ∧ n ≤ 1000) : takeE p a ⟨0, n, 0, 0⟩ = 0 ∧ takeP p a ⟨0, n, 0, 0⟩ = layP p a it0 := by
  have h2 := one_in (n := n) ⟨by omega, hn.2⟩
  have h : subOk ⟨0, n, 0, 0⟩ ⟨0, n, 0, 0⟩ = true := by
    unfold subOk lessIt
    rw [h2]
    simp
  have e : subIt ⟨0, n, 0, 0⟩ ⟨0, n, 0, 0⟩ = it0 := by simp [subIt, it0]
  have h1 := whoB_true ha
  unfold takeE takeP
  rw [hz, e]
  simp [h1, h2, h]
theorem oA_run (hn : 1 ≤ n) : runT [] (oA1 a n) = [] ∧ runL [] (oA1 a n) = [oA1 a n] := by
  have h : refLoop (([] : List Ord).length + 1) (oA1 a n) [] [] = (oA1 a n, [], []) := by
    show refLoop (0 + 1) _ _ _ = _
    rw [refLoop, if_pos (show 0 < (oA1 a n).cnt by show 0 < n; omega)]
    rfl
  unfold runT runL
  rw [h]
  refine ⟨rfl, ?_⟩
  rw [if_pos (show 0 < (oA1 a n).cnt by show 0 < n; omega)]
  rfl
theorem bytes_toList {x y : ByteArray} (h : x ≠ y) : (x.toList == y.toList) = false := by
  rw [Lib.toList_data, Lib.toList_data]
  cases hb : x.data.toList == y.data.toList with
  | false => rfl
  | true =>
    have h2 : x.data.toList = y.data.toList := by simpa using hb
    refine absurd ?_ h
    cases x with
    | mk dx => cases y with
      | mk dy =>
        have : dx = dy := Array.toList_inj.1 h2
        rw [this]
end
section
variable (vb mb bb : Nat) (a b : ByteArray) (n : Int) (W w : World) (R : List HP)
def p1O (a : ByteArray) (n : Int) : Ps := layP [] a ⟨0, n, 0, 0⟩
def p2O (a : ByteArray) (n : Int) : Ps := layP (p1O a n) a it0
def p3O (a : ByteArray) (n : Int) : Ps := backP (p2O a n) a ⟨0, n, 0, 0⟩
theorem p1_ok (hn : 1 ≤ n ∧ n ≤ 1000) : PsOk (p1O a n) := psOk_lay psOk_nil a (one_in ⟨by omega, hn.2⟩)
theorem p2_ok (hn : 1 ≤ n ∧ n ≤ 1000) : PsOk (p2O a n) := psOk_lay (p1_ok a n hn) a rfl
theorem p3_has (hn : 1 ≤ n ∧ n ≤ 1000) : purseA (p3O a n) a = ⟨0, n, 0, 0⟩ := by
  unfold p3O backP
  rw [purse_give, purse_give, purse_give, purse_give]
  have e : purseA (p2O a n) a = it0 := purse_same _ _ _
  rw [e]
  have c : capI n = n := by unfold capI; rw [if_neg (by omega)]
  simp [giveI, setK, getK, it0, c]
  decide
theorem oth_put (u1 u2 : Value) (ha : 1 ≤ a.size ∧ a.size ≤ 16) (hn : 1 ≤ n ∧ n ≤ 1000) (hS : St W (blk vb [.map (some mb), u1, u2] 56 :: amap eS eP mb [] :: R) w) :
    Calls Try.prog 10 #[.pointer (some ⟨vb, 0, none⟩), .string a, .agg #[.int .i64 0, .int .i64 n, .int .i64 0, .int .i64 0]] w fun e w' => e = .returned (.int .i64 0) ∧ St W (blk vb [.map (some mb), u1, u2] 56 :: amap eS eP mb (p1O a n) :: R) w' := by
  have h := put_one (p := []) (k := a) (i := ⟨0, n, 0, 0⟩) rfl (whoB_true ha) (one_in ⟨by omega, hn.2⟩)
  refine (put_spec vb mb [] a u1 u2 ⟨0, n, 0, 0⟩ W w R hS).mono ?_
  rw [h.1, h.2]
  exact fun e w' h => h
theorem oth_poor (hb : 1 ≤ b.size ∧ b.size ≤ 16) (hn : 1 ≤ n ∧ n ≤ 1000) (hab : b ≠ a) (hS : St W (vaultL vb mb bb (p1O a n) [] 1 R) w) :
    Calls Try.prog 11 #[.pointer (some ⟨vb, 0, none⟩), .agg #[.int .i64 0, .string b, .bool false, .int .i64 1, .int .i64 n, .int .i64 1]] w fun e w' => e = .returned (.tuple #[.int .i64 0, .int .i64 14]) ∧ St W (vaultL vb mb bb (p1O a n) [] 1 R) w' :=
  order_funds vb mb bb (p1O a n) [] 1 (oA b n) W w R (oA_may1 hb hn) (by decide) (by decide) (take_poor (by unfold p1O; rw [purse_other _ hab]; rfl) hb hn).1 hS
theorem oth_rich (ha : 1 ≤ a.size ∧ a.size ≤ 16) (hn : 1 ≤ n ∧ n ≤ 1000) (hS : St W (vaultL vb mb bb (p1O a n) [] 1 R) w) :
    Calls Try.prog 11 #[.pointer (some ⟨vb, 0, none⟩), .agg #[.int .i64 0, .string a, .bool false, .int .i64 1, .int .i64 n, .int .i64 1]] w fun e w' => e = .returned (.tuple #[.int .i64 1, .int .i64 0]) ∧ St W (vaultL vb mb bb (p2O a n) [oA1 a n] 2 R) w' := by
  have ht := take_rich (p := p1O a n) (purse_same _ _ _) ha hn
  refine (order_ok vb mb bb (p1O a n) [] 1 (oA a n) W w R (p1_ok a n hn) (oA_may1 ha hn) (by decide) (by decide) (by decide) ht.1 hS).mono ?_
  rintro e w' ⟨he, hS⟩
  refine ⟨he, ?_⟩
  have e1 : takeP (p1O a n) (oA a n).who (holdsF (oA a n)) = p2O a n := ht.2
  have e2 : runT [] { oA a n with id := 1 } = [] := (oA_run hn.1).1
  have e3 : runL [] { oA a n with id := 1 } = [oA1 a n] := (oA_run hn.1).2
  rw [e1, e2, e3] at hS
  exact hS
theorem oth_no (hab : b ≠ a) (hS : St W (vaultL vb mb bb (p2O a n) [oA1 a n] 2 R) w) :
    Calls Try.prog 13 #[.pointer (some ⟨vb, 0, none⟩), .string b, .int .i64 1] w fun e w' => e = .returned (.int .i64 7) ∧ St W (vaultL vb mb bb (p2O a n) [oA1 a n] 2 R) w' := by
  refine cancelV_no vb mb bb (p2O a n) [oA1 a n] 2 b 1 W w R ?_ hS
  have e : hitC 1 b (oA1 a n) = false := by
    unfold hitC
    have := bytes_toList (x := a) (y := b) (fun h => hab h.symm)
    show (_ && (a.toList == b.toList)) = false
    rw [this, Bool.and_false]
  rw [List.any_cons, e]; rfl
theorem oth_take (ha : 1 ≤ a.size ∧ a.size ≤ 16) (hS : St W (vaultL vb mb bb (p2O a n) [oA1 a n] 2 R) w) :
    Calls Try.prog 14 #[.pointer (some ⟨vb, 0, none⟩), .string a, .agg #[.int .i64 0, .int .i64 1, .int .i64 0, .int .i64 0]] w fun e w' => e = .returned (.int .i64 14) ∧ St W (vaultL vb mb bb (p2O a n) [oA1 a n] 2 R) w' := by
  have h := take_poor (p := p2O a n) (b := a) (n := 1) (purse_same _ _ _) ha (by decide)
  refine (take_spec vb mb (p2O a n) a _ _ ⟨0, 1, 0, 0⟩ W w _ hS).mono ?_
  rw [h.1, h.2]
  exact fun e w' h => h
theorem oth_yes (ha : 1 ≤ a.size ∧ a.size ≤ 16) (hn : 1 ≤ n ∧ n ≤ 1000) (hS : St W (vaultL vb mb bb (p2O a n) [oA1 a n] 2 R) w) :
    Calls Try.prog 13 #[.pointer (some ⟨vb, 0, none⟩), .string a, .int .i64 1] w fun e w' => e = .returned (.int .i64 0) ∧ St W (vaultL vb mb bb (p3O a n) [] 2 R) w' := by
  refine cancelV_yes vb mb bb (p2O a n) [oA1 a n] 2 a 1 W w R (p2_ok a n hn) (oA1 a n) [] (oA_may ha hn) ?_ rfl rfl rfl hS
  have e : hitC 1 a (oA1 a n) = true := by
    unfold hitC
    show (_ && (a.toList == a.toList)) = true
    simp [oA1]
  rw [List.any_cons, e]; rfl
theorem oth_has (u1 u2 : Value) (hn : 1 ≤ n ∧ n ≤ 1000) (hS : St W (blk vb [.map (some mb), u1, u2] 56 :: amap eS eP mb (p3O a n) :: R) w) :
    Calls Try.prog 12 #[.pointer (some ⟨vb, 0, none⟩), .string a] w fun e w' => e = .returned (.agg #[.int .i64 0, .int .i64 n, .int .i64 0, .int .i64 0]) ∧ St W R w' := by
  refine (has_spec vb mb _ a u1 u2 W w R hS).mono ?_
  rw [p3_has a n hn]
  exact fun e w' h => ⟨h.1, h.2.drop.drop⟩
end
end Go.Proofs.Ytbcokphjpllbiaa
