/-
  The document's Of: any orders as a book, or refused. For every row of orders.
-/
import Derived.Test.YtbcokphjpllbiaaPrA
set_option linter.unusedSimpArgs false
set_option linter.unusedVariables false
namespace Go.Proofs.Ytbcokphjpllbiaa
open Go.RowKit Go.Sl
def lastOf (l : List Ord) : Nat → Int
  | 0 => 0
  | j + 1 => (at' l j).id
def badAt (l : List Ord) (i : Nat) : Bool := !(mayB (at' l i)) || (decide ((at' l i).id ≤ lastOf l i) || (bestTo (at' l i) (l.take i) (l.take i).length).isSome)
def OkTo (l : List Ord) (i : Nat) : Prop := ∀ j, j < i → badAt l j = false
def Refused (l : List Ord) : Prop := 32 < l.length ∨ ∃ i, i < l.length ∧ badAt l i = true
theorem OkTo.step {l : List Ord} {i : Nat} (h : OkTo l i) (hb : badAt l i = false) : OkTo l (i + 1) := fun j hj => by
  by_cases hji : j = i
  · rw [hji]; exact hb
  · exact h j (by omega)
theorem not_refused {l : List Ord} (h32 : l.length ≤ 32) (h : OkTo l l.length) : ¬ Refused l := by
  rintro (h1 | ⟨i, hi, hb⟩)
  · omega
  · rw [h i hi] at hb; cases hb
theorem take_step {l : List Ord} {i : Nat} (hi : i < l.length) : l.take (i + 1) = l.take i ++ [at' l i] := by rw [List.take_succ_eq_append_getElem hi, at'_get hi]
end Go.Proofs.Ytbcokphjpllbiaa
