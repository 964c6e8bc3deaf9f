/-
  The plain law of a heap of orders: put, take, take out keep what is there, and keep the heap. No program in sight.
-/
import Derived.Test.YtbcokphjpllbiaaGreatVaultPlaysM15

section
set_option linter.unusedSimpArgs false
set_option linter.unusedVariables false
namespace Go.Proofs.YtbcokphjpllbiaaGreat
open Go.RowKit Go.Sl
theorem swapL_perm {α : Type} (xs : List α) (i j : Nat) (hi : i < xs.length) (hj : j < xs.length) : (swapL xs i j hi hj).Perm xs := List.set_set_perm hi hj
theorem swapL_get {α : Type} (xs : List α) (i j : Nat) (hi : i < xs.length) (hj : j < xs.length) (k : Nat) (hk : k < (swapL xs i j hi hj).length) :
    (swapL xs i j hi hj)[k] = if k = j then xs[i] else if k = i then xs[j] else xs[k]'(by rw [swapL_length] at hk; exact hk) := by
  simp only [swapL, List.getElem_set]
  by_cases h1 : j = k
  · subst h1; simp
  · by_cases h2 : i = k
    · subst h2; simp [h1, Ne.symm h1]
    · simp [h1, h2, Ne.symm h1, Ne.symm h2]
theorem upF_perm : ∀ (f : Nat) (xs : List Ord) (j : Nat), (upF f xs j).Perm xs
  | 0, _, _ => .refl _
  | f + 1, xs, j => by
    rw [upF]
    split
    · split
      · exact (upF_perm f _ _).trans (swapL_perm _ _ _ _ _)
      · exact .refl _
    · exact .refl _
theorem downF_perm : ∀ (f : Nat) (xs : List Ord) (i n : Nat), (downF f xs i n).1.Perm xs
  | 0, _, _, _ => .refl _
  | f + 1, xs, i, n => by
    rw [downF]
    split
    · split
      · exact (downF_perm f _ _ _).trans (swapL_perm _ _ _ _ _)
      · exact .refl _
    · exact .refl _
/-- Behind the first n nothing is touched. -/
theorem downF_behind : ∀ (f : Nat) (xs : List Ord) (i n k : Nat), n ≤ k → (downF f xs i n).1[k]? = xs[k]?
  | 0, _, _, _, _, _ => rfl
  | f + 1, xs, i, n, k, hk => by
    rw [downF]
    split
    · rename_i h
      split
      · have hk1 := kid_lt h.2 h.1
        rw [downF_behind f _ _ _ _ hk]
        simp only [swapL]
        rw [List.getElem?_set_ne (by omega), List.getElem?_set_ne (by omega)]
      · rfl
    · rfl
theorem popF_last (xs : List Ord) (n : Nat) (h : xs.length = n + 1) : (popF xs n h)[n]? = xs[0]? := by
  unfold popF
  rw [downF_behind _ _ _ _ _ (Nat.le_refl _), List.getElem?_eq_getElem (by rw [swapL_length]; omega), swapL_get]
  rw [if_pos rfl, List.getElem?_eq_getElem (by omega)]
theorem popF_perm (xs : List Ord) (n : Nat) (h : xs.length = n + 1) : (popF xs n h).Perm xs := (downF_perm _ _ _ _).trans (swapL_perm _ _ _ _ _)
theorem popT_perm (x : Ord) (q : List Ord) : (popT (x :: q)).Perm q := by
  have h : (x :: q).length = q.length + 1 := rfl
  have e : popT (x :: q) = (popF (x :: q) q.length h).take q.length := by
    unfold popT
    rw [dif_pos (by simp)]
    rfl
  rw [e]
  have h1 := popF_perm (x :: q) q.length h
  have h2 := popF_last (x :: q) q.length h
  have h3 := popF_length h
  rw [List.getElem?_eq_getElem (by rw [h3]; omega)] at h2
  have h4 : (popF (x :: q) q.length h) = (popF (x :: q) q.length h).take q.length ++ [x] := by
    have h5 : (popF (x :: q) q.length h).drop q.length = [x] := by
      rw [List.drop_eq_getElem_cons (by rw [h3]; omega), List.drop_eq_nil_of_le (by rw [h3]; omega)]
      simp only [List.getElem?_cons_zero, Option.some.injEq] at h2
      rw [h2]
    rw [← h5, List.take_append_drop]
  rw [h4] at h1
  exact List.Perm.cons_inv ((List.perm_append_singleton x _).symm.trans h1)
theorem pushT_perm (xs : List Ord) (o : Ord) : (pushT xs o).Perm (o :: xs) := (upF_perm _ _ _).trans (List.perm_append_singleton o xs)
end Go.Proofs.YtbcokphjpllbiaaGreat
end
