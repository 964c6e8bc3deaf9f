/-
  VaultOfNothing: the walk; a purse, an order that come in. For every name, purse and order.
-/
import Derived.Test.YtbcokphjpllbiaaVtH
import Derived.Test.YtbcokphjpllbiaaArg
import Derived.Laws.IdiomArrays
set_option linter.unusedSimpArgs false
set_option linter.unusedVariables false
namespace Go.Proofs.Ytbcokphjpllbiaa
open Go.Joins Go.ChangeShapes Go.WideShapes Go.RowKit Go.Deep Go.Sl
section
variable {H : Type} {enc : TypeId × Value → H} {w : World} {base : Nat} {spare : Nat → Bool} {held : Bool}
set_option maxRecDepth 100000 in
theorem cells_items {n : Nat} {cs : List Value} {y : DataW H × List MemPlace} (h : DataW.trod enc Try.prog w base spare held n 28 cs = some y) : ∃ i : It, cs = i.cells := by
  obtain ⟨_, _, _, _, hl0, _, _⟩ := DataW.trod_array Try.underlying28 h
  have hl : cs.length = 4 := hl0.trans (by kernel_rfl)
  match cs, hl with
  | [c0, c1, c2, c3], _ =>
    obtain ⟨y0, y1, y2, y3, n', _, g0, g1, g2, g3⟩ := trod_array4 Try.underlying28 (by kernel_rfl) h
    obtain ⟨a, e0, _⟩ := DataW.trod_int Try.underlying3 g0
    obtain ⟨b, e1, _⟩ := DataW.trod_int Try.underlying3 g1
    obtain ⟨c, e2, _⟩ := DataW.trod_int Try.underlying3 g2
    obtain ⟨d, e3, _⟩ := DataW.trod_int Try.underlying3 g3
    simp only [List.cons.injEq, and_true] at e0 e1 e2 e3
    subst e0 e1 e2 e3
    exact ⟨⟨a, b, c, d⟩, rfl⟩
end
set_option maxRecDepth 100000 in
theorem open_items {H : Type} {enc : TypeId × Value → H} {w : World} {base : Nat} {spare : Nat → Bool} {held : Bool} {r : Reach} {b0 : Nat} {v : Value} {d : DataW H} {p : List MemPlace}
    (hv : Value.okWide Try.prog w r b0 28 v) (h : DataW.Trod enc Try.prog w base spare held 28 v d p) : ∃ i : It, v = .agg i.cells.toArray := by
  have hv2 := hv
  simp only [Value.okWide, Try.underlying28] at hv2
  obtain ⟨cs, rfl, _⟩ := hv2
  obtain ⟨fuel, hf⟩ := h
  obtain ⟨i, hi⟩ := cells_items (cs := cs.toList) hf
  exact ⟨i, by rw [← hi]⟩
end Go.Proofs.Ytbcokphjpllbiaa
