/-
  LoadMiddle: the plain law. For all hits of letters.
-/
import Derived.Test.YtbogmenlhdpjlaaLdI
import Derived.Test.YtbogmenlhdpjlaaConv
set_option linter.unusedSimpArgs false
set_option linter.unusedVariables false
namespace Go.Proofs.Ytbogmenlhdpjlaa
open Go.RowKit Go.Sl
def kO (i : Nat) : ByteArray := bstr [97 + (i : Int)]
theorem kO_table : ((List.range 26).all fun i => (List.range i).all fun j => ltb (kO j) (kO i)) = true := by decide +kernel
theorem kO_size : ((List.range 26).all fun i => decide ((kO i).size = 1)) = true := by decide +kernel
theorem kO_lt {i j : Nat} (hi : i < 26) (hj : j < i) : ltb (kO j) (kO i) = true := by
  have h1 := List.all_eq_true.1 kO_table i (List.mem_range.2 hi)
  exact List.all_eq_true.1 h1 j (List.mem_range.2 hj)
theorem kO_one {i : Nat} (hi : i < 26) : (kO i).size = 1 := by
  have h1 := List.all_eq_true.1 kO_size i (List.mem_range.2 hi)
  simpa using h1
theorem kO_ne {i j : Nat} (hi : i < 26) (hj : j < i) : kO j ≠ kO i := fun e => by
  have := kO_lt hi hj
  rw [e, ltb_irrefl] at this
  cases this
def tlC (k : Nat) (m : Int) : Cs := if m ≤ 0 then [] else [(kO k, m)]
def letC : Nat → List Int → Cs
  | _, [] => []
  | k, m :: ms => tlC k m ++ letC (k + 1) ms
theorem letC_append : ∀ (k : Nat) (a b : List Int), letC k (a ++ b) = letC k a ++ letC (k + a.length) b
  | k, [], b => rfl
  | k, m :: a, b => by
    rw [List.cons_append, letC, letC, letC_append (k + 1) a b, List.append_assoc, List.length_cons, show k + 1 + a.length = k + (a.length + 1) by omega]
theorem letC_mem : ∀ {k : Nat} {ms : List Int} {x : ByteArray × Int}, x ∈ letC k ms → ∃ j, k ≤ j ∧ j < k + ms.length ∧ x.1 = kO j
  | k, m :: ms, x, h => by
    rw [letC] at h
    rcases List.mem_append.1 h with h | h
    · unfold tlC at h
      split at h
      · cases h
      · rw [List.mem_singleton.1 h]
        exact ⟨k, Nat.le_refl _, by simp, rfl⟩
    · obtain ⟨j, h1, h2, h3⟩ := letC_mem h
      exact ⟨j, by omega, by rw [List.length_cons]; omega, h3⟩
theorem letC_len : ∀ (k : Nat) (ms : List Int), (letC k ms).length ≤ ms.length
  | _, [] => Nat.le_refl _
  | k, m :: ms => by
    have ih := letC_len (k + 1) ms
    rw [letC, List.length_append, List.length_cons]
    unfold tlC
    split <;> simp <;> omega
theorem letC_sum : ∀ (k : Nat) (ms : List Int), (∀ m ∈ ms, 0 ≤ m) → sumC (letC k ms) = ms.sum
  | _, [], _ => rfl
  | k, m :: ms, h => by
    have ih := letC_sum (k + 1) ms fun x hx => h x (List.mem_cons_of_mem _ hx)
    have hm := h m (List.mem_cons_self ..)
    rw [letC, sumC_append, ih, List.sum_cons]
    unfold tlC
    split
    · simp [sumC]; omega
    · simp [sumC]
def ltL (ms : List Int) : List Cl := (letC 0 ms).map (mkC 7)
def tlL (k : Nat) (m : Int) : List Cl := (tlC k m).map (mkC 7)
theorem ltL_snoc (ms : List Int) (m : Int) : ltL (ms ++ [m]) = ltL ms ++ tlL ms.length m := by
  unfold ltL tlL
  rw [letC_append, List.map_append, Nat.zero_add]
  simp [letC]
theorem ltL_hit {ms : List Int} {c : Int} (hi : ms.length < 26) (h0 : 0 ≤ c) (h1 : c < 1048576) : hitR (ltL ms ++ tlL ms.length c) 7 (kO ms.length) = ltL ms ++ tlL ms.length (c + 1) := by
  have hb : ¬ bad 7 (kO ms.length) := by unfold bad; rw [kO_one hi]; omega
  have hP : ∀ x ∈ ltL ms, x.zone = 7 ∧ ∃ j, j < ms.length ∧ x.key = kO j := fun x hx => by
    obtain ⟨y, hy, rfl⟩ := List.mem_map.1 hx
    obtain ⟨j, _, h2, h3⟩ := letC_mem hy
    exact ⟨rfl, j, by omega, h3⟩
  have hPn : ∀ x ∈ ltL ms, ¬ (x.zone = 7 ∧ x.key = kO ms.length) := fun x hx e => by
    obtain ⟨_, j, hj, hk⟩ := hP x hx
    exact kO_ne hi hj (hk.symm.trans e.2)
  have e1 : tlL ms.length (c + 1) = [⟨7, kO ms.length, c + 1⟩] := by unfold tlL tlC; rw [if_neg (by omega)]; rfl
  rw [e1]
  by_cases hc : c ≤ 0
  · obtain rfl : c = 0 := by omega
    have e0 : tlL ms.length 0 = [] := by unfold tlL tlC; rw [if_pos (by omega)]; rfl
    rw [e0, List.append_nil]
    unfold hitR
    rw [if_neg hb, if_neg (fun ⟨x, hx, h⟩ => hPn x hx h), if_neg]
    · have hbf : ∀ x ∈ ltL ms, before 7 (kO ms.length) x = true := fun x hx => by
        obtain ⟨h1, j, hj, hk⟩ := hP x hx
        unfold before
        rw [h1, hk, kO_lt hi hj]
        simp
      rw [List.filter_eq_self.2 hbf, List.filter_eq_nil_iff.2 (fun x hx => by rw [hbf x hx]; simp)]
      rfl
    · have h2 := List.length_filter_le (fun x : Cl => x.zone == 7) (ltL ms)
      have h3 : (ltL ms).length ≤ ms.length := by unfold ltL; rw [List.length_map]; exact letC_len 0 ms
      omega
  · have e0 : tlL ms.length c = [⟨7, kO ms.length, c⟩] := by unfold tlL tlC; rw [if_neg hc]; rfl
    rw [e0]
    unfold hitR
    rw [if_neg hb, if_pos ⟨_, List.mem_append_right _ (List.mem_singleton.2 rfl), rfl, rfl⟩, List.map_append, map_bump_other hPn]
    congr 1
    simp [bump, h1]
theorem ltL_tbl (ms : List Int) : tblL (ltL ms) = if letC 0 ms = [] then [] else [⟨7, sumC (letC 0 ms), midF (sumC (letC 0 ms)) (letC 0 ms) 0⟩] := by
  unfold tblL ltL
  by_cases h : letC 0 ms = []
  · rw [if_pos h, h]; rfl
  · rw [if_neg h]
    have := grp_group 7 [] (letC 0 ms) h (fun p hp => (by cases hp)) [] rfl
    rw [List.append_nil] at this
    rw [this]; rfl
theorem letC_nil : ∀ {k : Nat} {ms : List Int}, (∀ m ∈ ms, 0 ≤ m) → letC k ms = [] → ms.sum = 0
  | k, ms, h, e => by
    have := letC_sum k ms h
    rw [e] at this
    rw [← this]; rfl
theorem letC_ne : ∀ {k : Nat} {ms : List Int}, (∀ m ∈ ms, 0 ≤ m) → ms.sum = 0 → letC k ms = []
  | _, [], _, _ => rfl
  | k, m :: ms, h, e => by
    have hm := h m (List.mem_cons_self ..)
    have hs : 0 ≤ ms.sum := by
      have : ∀ l : List Int, (∀ m ∈ l, 0 ≤ m) → 0 ≤ l.sum := by
        intro l hl
        induction l with
        | nil => exact Int.le_refl _
        | cons a l ih =>
          have h1 := hl a (List.mem_cons_self ..)
          have h2 := ih fun x hx => hl x (List.mem_cons_of_mem _ hx)
          rw [List.sum_cons]; omega
      exact this ms fun x hx => h x (List.mem_cons_of_mem _ hx)
    rw [List.sum_cons] at e
    rw [letC, letC_ne (fun x hx => h x (List.mem_cons_of_mem _ hx)) (by omega)]
    unfold tlC
    rw [if_pos (by omega)]; rfl
/-- The middle: ahead of it less than half, with it half or more. -/
theorem mid_law (h : Int) : ∀ (k : Nat) (ms : List Int) (acc : Int), (∀ m ∈ ms, 0 ≤ m) → 2 * acc < h → h ≤ 2 * (acc + ms.sum) →
    ∃ j, j < ms.length ∧ midF h (letC k ms) acc = kO (k + j) ∧ 2 * (acc + (ms.take j).sum) < h ∧ h ≤ 2 * (acc + (ms.take j).sum + ms.getD j 0)
  | k, [], acc, _, h1, h2 => by simp at h2; omega
  | k, m :: ms, acc, hm, h1, h2 => by
    have hm0 := hm m (List.mem_cons_self ..)
    have hms := fun x hx => hm x (List.mem_cons_of_mem m hx)
    rw [List.sum_cons] at h2
    by_cases hz : m ≤ 0
    · obtain ⟨j, j1, j2, j3, j4⟩ := mid_law h (k + 1) ms acc hms h1 (by omega)
      refine ⟨j + 1, by simpa using j1, ?_, ?_, ?_⟩
      · rw [letC]; unfold tlC; rw [if_pos hz, List.nil_append, j2, show k + 1 + j = k + (j + 1) by omega]
      · rw [List.take_succ_cons, List.sum_cons]; omega
      · rw [List.take_succ_cons, List.sum_cons, List.getD_cons_succ]; omega
    · have e : letC k (m :: ms) = (kO k, m) :: letC (k + 1) ms := by rw [letC]; unfold tlC; rw [if_neg hz]; rfl
      rw [e]
      by_cases hh : 2 * (acc + m) ≥ h
      · refine ⟨0, by simp, ?_, by simpa using h1, by simp; omega⟩
        unfold midF
        rw [if_pos hh]; rfl
      · obtain ⟨j, j1, j2, j3, j4⟩ := mid_law h (k + 1) ms (acc + m) hms (by omega) (by omega)
        refine ⟨j + 1, by simpa using j1, ?_, ?_, ?_⟩
        · rw [midF, if_neg hh, j2, show k + 1 + j = k + (j + 1) by omega]
        · rw [List.take_succ_cons, List.sum_cons]; omega
        · rw [List.take_succ_cons, List.sum_cons, List.getD_cons_succ]; omega
theorem sum_bounds : ∀ (ms : List Int), (∀ m ∈ ms, 0 ≤ m ∧ m ≤ 15) → 0 ≤ ms.sum ∧ ms.sum ≤ 15 * ms.length
  | [], _ => by simp
  | m :: ms, h => by
    have h1 := h m (List.mem_cons_self ..)
    have h2 := sum_bounds ms fun x hx => h x (List.mem_cons_of_mem _ hx)
    rw [List.sum_cons, List.length_cons]
    omega
end Go.Proofs.Ytbogmenlhdpjlaa
