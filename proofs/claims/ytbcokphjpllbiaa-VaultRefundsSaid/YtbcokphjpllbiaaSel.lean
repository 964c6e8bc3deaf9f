/-
  Resources picked out of a list, in another order, others let go. Over any program.
-/
import Derived.Test.YtbcokphjpllbiaaFlow
set_option linter.unusedSimpArgs false
set_option linter.unusedVariables false
namespace Go.Sl
open Go.RowKit
/-- L' is the end of L. -/
inductive Suf : List HP → List HP → Prop
  | refl {L : List HP} : Suf L L
  | tail {X : HP} {L L' : List HP} (h : Suf L L') : Suf (X :: L) L'
/-- L' is made of parts of L. -/
inductive Sel : List HP → List HP → Prop
  | done {L L' : List HP} (h : Suf L L') : Sel L L'
  | cons {A : HP} {L L1 L' : List HP} (t : Take L A L1) (s : Sel L1 L') : Sel L (A :: L')
theorem St.suf {W w : World} {L L' : List HP} (h : St W L w) (s : Suf L L') : St W L' w := by
  induction s with
  | refl => exact h
  | tail _ ih => exact ih h.drop
theorem sats_suf {L L' : List HP} (s : Suf L L') : ∀ {h : Frag}, sats L h → sats L' h := by
  induction s with
  | refl => exact fun h => h
  | tail _ ih => exact fun ⟨S, _, h2⟩ => ih (sats_cut h2)
theorem Sel.sats {L L' : List HP} (s : Sel L L') : ∀ {h : Frag}, Sl.sats L h → Sl.sats L' h := by
  induction s with
  | done h => exact sats_suf h
  | cons t _ ih => exact fun h => sep_mono (fun _ x => x) (fun _ x => ih x) (t.sats h)
theorem St.sel {W w : World} {L L' : List HP} (h : St W L w) (s : Sel L L') : St W L' w := ⟨h.os, h.tape, h.output, s.sats h.sat⟩
end Go.Sl
