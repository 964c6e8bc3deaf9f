/-
  A slice of structs that comes in as an argument: orders, acts of a script. For every slice.
-/
import Derived.Test.YtihciopankhjgaaArg
import Derived.Deep.Slices
import Derived.Deep.Fields
import Derived.ChangeSame
set_option linter.unusedSimpArgs false
set_option linter.unusedVariables false
namespace Go.Proofs.Ytihciopankhjgaa
open Go.Joins Go.ChangeShapes Go.WideShapes Go.RowKit Go.Deep Go.Sl
/-- v is a slice that holds xs in the world w, each element as its cells. -/
def SliceV {α : Type} (enc : α → List Value) (k : Nat) (w : World) (v : Value) (xs : List α) : Prop :=
  ∃ a cap, v = .slice a xs.length cap ∧ xs.length ≤ 9223372036854775807 ∧ ∀ i (h : i < xs.length), ∃ b off, a = some ⟨b, off, none⟩ ∧ ∀ j u, (enc xs[i])[j]? = some u → w.cell? ⟨b, off + i * k + j, none⟩ = some u
section
variable {H : Type} {enc : TypeId × Value → H} {P : Program} {w : World} {base : Nat} {spare : Nat → Bool} {held : Bool}
theorem open_sliceV {α : Type} {r : Reach} {b0 : Nat} {t e : TypeId} {k : Nat} {v : Value} {d : DataW H} {p : List MemPlace} (en : α → List Value) (x0 : α) (hk : ∀ x, (en x).length = k) (h0 : 0 < k) (ht : P.underlying t = some (.slice e)) (hC : P.cellsOf e = k)
    (hE : ∀ (n : Nat) (cs : List Value) (y : DataW H × List MemPlace), cs.length = k → DataW.trod enc P w base spare held n e cs = some y → ∃ x, cs = en x)
    (hv : Value.okWide P w r b0 t v) (h : DataW.Trod enc P w base spare held t v d p) : ∃ xs, SliceV en k w v xs := by
  obtain ⟨a0, len, cap, rfl⟩ := okWide_slice ht hv
  obtain ⟨fuel, hf⟩ := h
  rcases open_slice ht hf with ⟨hcs, hx⟩ | ⟨a, len', cap', m, n, D, Pl, hcs, hb, hl, hm, hmm, hx, hi⟩
  · simp [Value.cells] at hcs
    obtain ⟨rfl, rfl, rfl⟩ := hcs
    exact ⟨[], none, 0, rfl, by simp, fun i hi => absurd hi (Nat.not_lt_zero _)⟩
  · simp [Value.cells] at hcs
    obtain ⟨rfl, rfl, rfl⟩ := hcs
    have hlm : len ≤ m := by rw [hmm]; split <;> omega
    have hex : ∀ i, ∃ x : α, i < len → ∀ j u, (en x)[j]? = some u → w.cell? ((a.add (i * k)).add j) = some u := fun i => by
      by_cases hil : i < len
      · obtain ⟨cs', hc, ht'⟩ := hi i (by omega)
        rw [hC] at hc
        obtain ⟨_, hcl, hat⟩ := World.cells?_some hc
        obtain ⟨x, rfl⟩ := hE n cs' _ hcl ht'
        refine ⟨x, fun _ j u hj => ?_⟩
        have hjk : j < k := by have := (List.getElem?_eq_some_iff.1 hj).1; rwa [hk] at this
        rw [hat j hjk]
        exact hj
      · exact ⟨x0, fun h => absurd h hil⟩
    obtain ⟨f, hf'⟩ := Classical.axiomOfChoice hex
    have hll : ((List.range len).map f).length = len := by simp
    refine ⟨(List.range len).map f, some a, cap, by rw [hll], by rw [hll]; unfold maxLen at hm; omega, fun i hi2 => ?_⟩
    rw [hll] at hi2
    have hspot : a.spot = none := by
      have hc := hf' 0 (by omega)
      have h1 : (en (f 0))[0]? = some ((en (f 0))[0]'(by rw [hk]; exact h0)) := List.getElem?_eq_getElem _
      have := World.cell?_spot (hc 0 _ h1)
      simpa [Addr.add] using this
    obtain ⟨b, off, spot⟩ := a
    simp only at hspot
    subst hspot
    refine ⟨b, off, rfl, fun j u hj => ?_⟩
    have e1 : ((List.range len).map f)[i] = f i := by simp
    rw [e1] at hj
    have := hf' i hi2 j u hj
    rwa [Addr.add_lit, Addr.add_lit] at this
end
set_option maxRecDepth 100000 in
theorem cells_ord {H : Type} {enc : TypeId × Value → H} {w : World} {base : Nat} {spare : Nat → Bool} {held : Bool} {n : Nat} {cs : List Value} {y : DataW H × List MemPlace}
    (h : DataW.trod enc Try.prog w base spare held n 31 cs = some y) : ∃ o : Ord, cs = o.cells := by
  obtain ⟨xs, n', rfl, hx, hlen, hxl, hg⟩ := DataW.trod_struct Try.underlying31 h
  have hlen' : cs.length = 6 := hlen.trans (by kernel_rfl)
  match cs, hlen' with
  | [c0, c1, c2, c3, c4, c5], _ =>
    match xs, hxl with
    | [y0, y1, y2, y3, y4, y5], _ =>
      have g0 := hg 0 _ rfl
      have g1 := hg 1 _ rfl
      have g2 := hg 2 _ rfl
      have g3 := hg 3 _ rfl
      have g4 := hg 4 _ rfl
      have g5 := hg 5 _ rfl
      obtain ⟨i, e0, _⟩ := DataW.trod_int Try.underlying3 (show DataW.trod enc Try.prog w base spare held n' 3 [c0] = some y0 from g0)
      obtain ⟨u, e1, _⟩ := DataW.trod_string Try.underlying9 (show DataW.trod enc Try.prog w base spare held n' 9 [c1] = some y1 from g1)
      obtain ⟨b, e2, _⟩ := DataW.trod_bool Try.underlying4 (show DataW.trod enc Try.prog w base spare held n' 4 [c2] = some y2 from g2)
      obtain ⟨t, e3, _⟩ := DataW.trod_int Try.underlying3 (show DataW.trod enc Try.prog w base spare held n' 3 [c3] = some y3 from g3)
      obtain ⟨c, e4, _⟩ := DataW.trod_int Try.underlying3 (show DataW.trod enc Try.prog w base spare held n' 3 [c4] = some y4 from g4)
      obtain ⟨q, e5, _⟩ := DataW.trod_int Try.underlying3 (show DataW.trod enc Try.prog w base spare held n' 3 [c5] = some y5 from g5)
      simp only [List.cons.injEq, and_true] at e0 e1 e2 e3 e4 e5
      subst e0 e1 e2 e3 e4 e5
      exact ⟨⟨i, u, b, t, c, q⟩, rfl⟩
/-- An act of a script. -/
structure Actn where
  kind : Int
  n : Int
  o : Ord
def Actn.cells (a : Actn) : List Value := .int .i64 a.kind :: .int .i64 a.n :: a.o.cells
theorem Actn.len (a : Actn) : a.cells.length = 8 := rfl
set_option maxRecDepth 100000 in
theorem cells_act {H : Type} {enc : TypeId × Value → H} {w : World} {base : Nat} {spare : Nat → Bool} {held : Bool} {n : Nat} {cs : List Value} {y : DataW H × List MemPlace}
    (h : DataW.trod enc Try.prog w base spare held n 61 cs = some y) : ∃ a : Actn, cs = a.cells := by
  obtain ⟨xs, n', rfl, hx, hlen, hxl, hg⟩ := DataW.trod_struct Try.underlying61 h
  have hlen' : cs.length = 8 := hlen.trans (by kernel_rfl)
  match cs, hlen' with
  | [c0, c1, c2, c3, c4, c5, c6, c7], _ =>
    match xs, hxl with
    | [y0, y1, y2], _ =>
      have g0 := hg 0 _ rfl
      have g1 := hg 1 _ rfl
      have g2 := hg 2 _ rfl
      obtain ⟨i, e0, _⟩ := DataW.trod_int Try.underlying3 (show DataW.trod enc Try.prog w base spare held n' 3 [c0] = some y0 from g0)
      obtain ⟨u, e1, _⟩ := DataW.trod_int Try.underlying3 (show DataW.trod enc Try.prog w base spare held n' 3 [c1] = some y1 from g1)
      obtain ⟨o, e2⟩ := cells_ord (show DataW.trod enc Try.prog w base spare held n' 31 [c2, c3, c4, c5, c6, c7] = some y2 from g2)
      simp only [List.cons.injEq, and_true] at e0 e1
      subst e0 e1
      rw [e2]
      exact ⟨⟨i, u, o⟩, rfl⟩
set_option maxRecDepth 100000 in
theorem open_ords {H : Type} {enc : TypeId × Value → H} {w : World} {base : Nat} {spare : Nat → Bool} {held : Bool} {r : Reach} {b0 : Nat} {v : Value} {d : DataW H} {p : List MemPlace}
    (hv : Value.okWide Try.prog w r b0 40 v) (h : DataW.Trod enc Try.prog w base spare held 40 v d p) : ∃ xs, SliceV Ord.cells 6 w v xs :=
  open_sliceV Ord.cells ⟨0, ⟨#[]⟩, false, 0, 0, 0⟩ Ord.len (by decide) Try.underlying40 (by kernel_rfl) (fun _ _ _ _ h => cells_ord h) hv h
set_option maxRecDepth 100000 in
theorem open_acts {H : Type} {enc : TypeId × Value → H} {w : World} {base : Nat} {spare : Nat → Bool} {held : Bool} {r : Reach} {b0 : Nat} {v : Value} {d : DataW H} {p : List MemPlace}
    (hv : Value.okWide Try.prog w r b0 54 v) (h : DataW.Trod enc Try.prog w base spare held 54 v d p) : ∃ xs, SliceV Actn.cells 8 w v xs :=
  open_sliceV Actn.cells ⟨0, 0, ⟨0, ⟨#[]⟩, false, 0, 0, 0⟩⟩ Actn.len (by decide) Try.underlying54 (by kernel_rfl) (fun _ _ _ _ h => cells_act h) hv h
end Go.Proofs.Ytihciopankhjgaa
