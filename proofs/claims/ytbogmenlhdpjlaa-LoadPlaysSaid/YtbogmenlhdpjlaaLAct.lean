/-
  A script of hits that comes in as an argument. For every slice.
-/
import Derived.Test.YtbogmenlhdpjlaaSliceV
set_option linter.unusedSimpArgs false
set_option linter.unusedVariables false
namespace Go.Proofs.Ytbogmenlhdpjlaa
open Go.Joins Go.ChangeShapes Go.WideShapes Go.RowKit Go.Deep Go.Sl
/-- An act of a script. -/
structure LAct where
  kind : Int
  zone : Int
  key : ByteArray
  wf : (Lit.int .i64 zone).wf = true
def LAct.cells (a : LAct) : List Value := [.int .i64 a.kind, .int .i64 a.zone, .string a.key]
theorem LAct.len (a : LAct) : a.cells.length = 3 := rfl
set_option maxRecDepth 100000 in
theorem cells_lact {H : Type} {enc : TypeId × Value → H} {w : World} {base : Nat} {spare : Nat → Bool} {held : Bool} {n : Nat} {cs : List Value} {y : DataW H × List MemPlace}
    (h : DataW.trod enc Try.prog w base spare held n 35 cs = some y) : ∃ a : LAct, cs = a.cells := by
  obtain ⟨xs, n', rfl, hx, hlen, hxl, hg⟩ := DataW.trod_struct Try.underlying35 h
  have hlen' : cs.length = 3 := hlen.trans (by kernel_rfl)
  match cs, hlen' with
  | [c0, c1, c2], _ =>
    match xs, hxl with
    | [y0, y1, y2], _ =>
      have g0 := hg 0 _ rfl
      have g1 := hg 1 _ rfl
      have g2 := hg 2 _ rfl
      obtain ⟨i, e0, _⟩ := DataW.trod_int Try.underlying3 (show DataW.trod enc Try.prog w base spare held n' 3 [c0] = some y0 from g0)
      obtain ⟨u, e1, _, hw⟩ := DataW.trod_int Try.underlying3 (show DataW.trod enc Try.prog w base spare held n' 3 [c1] = some y1 from g1)
      obtain ⟨s, e2, _⟩ := DataW.trod_string Try.underlying9 (show DataW.trod enc Try.prog w base spare held n' 9 [c2] = some y2 from g2)
      simp only [List.cons.injEq, and_true] at e0 e1 e2
      subst e0 e1 e2
      exact ⟨⟨i, u, s, hw⟩, rfl⟩
set_option maxRecDepth 100000 in
theorem open_lacts {H : Type} {enc : TypeId × Value → H} {w : World} {base : Nat} {spare : Nat → Bool} {held : Bool} {r : Reach} {b0 : Nat} {v : Value} {d : DataW H} {p : List MemPlace}
    (hv : Value.okWide Try.prog w r b0 33 v) (h : DataW.Trod enc Try.prog w base spare held 33 v d p) : ∃ xs, SliceV LAct.cells 3 w v xs :=
  open_sliceV LAct.cells ⟨0, 0, ⟨#[]⟩, rfl⟩ LAct.len (by decide) Try.underlying33 (by kernel_rfl) (fun _ _ _ _ h => cells_lact h) hv h
end Go.Proofs.Ytbogmenlhdpjlaa
