/-
  A row that is only read; a slice literal as an owned row; a part of a row as a source of append. Over any program.
-/
import Derived.Test.YtbcokphjpllbiaaFlow
set_option linter.unusedSimpArgs false
set_option linter.unusedVariables false
namespace Go.Sl
open Go.RowKit
/-! A row that is only read. -/
section
variable {W w : World} {L : List HP} {a : Option Addr} {v : Value} {k n c g off : Nat} {T : TypeId} {cs : List Value}
theorem St.rowAddr (h : St W (row (.slice a n c) k T n cs :: L) w) (hn : 0 < n) : (∃ g, a = some ⟨g, 0, none⟩) ∧ c ≤ 9223372036854775807 ∧ n ≤ c := by
  rcases h.rowOpen with ⟨_, h0, _⟩ | ⟨g, cap, junk, hv, hn1, hm1, _⟩
  · omega
  · injection hv with e1 e2 e3
    subst e3
    exact ⟨⟨g, e1⟩, hm1, hn1⟩
theorem Cell.row (hn : 0 < n) (h : cs[off]? = some v) : Cell (Sl.row (.slice (some ⟨g, 0, none⟩) n c) k T n cs :: L) g off v := fun W w hS => by
  rcases hS.rowOpen with ⟨_, h0, _⟩ | ⟨g', cap, junk, hv, hn1, hm1, hj1, hl1, hS'⟩
  · omega
  · injection hv with e1 e2 e3
    injection e1 with e1
    injection e1 with e1
    subst e1
    exact hS'.cell .head (by rw [List.getElem?_append_left (List.getElem?_eq_some_iff.1 h).1]; exact h)
theorem Cells.rowE {α : Type} {enc : α → List Value} (henc : ∀ x, (enc x).length = k) {xs : List α} {i : Nat} (h : i < xs.length) : Cells (Sl.row (.slice (some ⟨g, 0, none⟩) xs.length c) k T xs.length (xs.flatMap enc) :: L) g (i * k) (enc xs[i]) := fun j v hj => by
  refine Cell.row (by omega) ?_
  have hl : j < (enc xs[i]).length := (List.getElem?_eq_some_iff.1 hj).1
  have := flat_get henc xs [] i h j (by rwa [henc] at hl)
  rw [List.append_nil] at this
  rw [this]
  exact hj
theorem Cell.rowE {α : Type} {enc : α → List Value} (henc : ∀ x, (enc x).length = k) {xs : List α} {i j : Nat} (h : i < xs.length) (hv : (enc xs[i])[j]? = some v) : Cell (Sl.row (.slice (some ⟨g, 0, none⟩) xs.length c) k T xs.length (xs.flatMap enc) :: L) g (i * k + j) v :=
  Cells.rowE henc h j v hv
end
section
variable {P : Program} {W : World} {ops : Array Oper} {t : List Nat} {toks : List Tok} {fresh : Nat → Bool} {pin : Nat → Option Value} {Qf : Act → Prop} {nd : Nat → Value} {i : Nat} {o : Oper} {l : List Oper} {a : Act}
/-- A slice literal as an owned row. -/
theorem ch_bsR {ty e n : TypeId} {z : Value} {k bytes : Nat} {xs : Array (Nat × Operand)} {parts : List (Nat × Value)} {ls : List Value} (hf : fresh i = true) (ho : o.op = .buildSlice ty n xs) (hg : Region.wanted o (yielded ops a.tmps) = true) (hx : (xs.map fun (i, x) => (i, a.eval x)) = parts.toArray)
    (ht : tyElem P ty = some e) (hi : tyRow P e = some (some z, k, bytes)) (hz : z.cells.size = k) (hn : decide (n * k ≤ 16777216) = true) (hp : partsOk k n parts = true) (hl : fillL k (zerosL z n) parts = ls) (hll : ls.length = n * k) (hn63 : n ≤ maxLen) (hk : ∀ v, kpL toks t i (upd nd i v) = kpL toks t i nd) (hc : cnL toks t i nd = [])
    (hm : ∀ v, mdL toks i (upd nd i v) = [row v k e n ls]) (h : Chain P W ops t toks fresh pin Qf nd (i + 1) l (a.put o.dst (nd i))) : Chain P W ops t toks fresh pin Qf nd i (o :: l) a :=
  ch_new hf hg hk (fun F w hS => by
    rw [hc] at hS
    obtain ⟨b, w', h1, h2⟩ := exec_bs (P := P) hS ho hx ht hi hz hn hp hl
    refine ⟨_, w', h1, ?_⟩
    rw [hm]
    have h3 : St W (blk b (ls ++ []) e :: (kpL toks t i nd ++ F)) w' := by rw [List.append_nil]; exact h2
    exact St.rowShut h3 (Nat.le_refl _) hn63 (by rw [List.append_nil]; exact hll) hll) h
end
/-- A part of a row is a source. -/
theorem src_part {W w : World} {L R : List HP} {g n c k m c' off : Nat} {T : TypeId} {cs news : List Value} (hS : St W L w) (hu : Take L (Sl.row (.slice (some ⟨g, 0, none⟩) n c) k T n cs) R) (h : ∀ j u, news[j]? = some u → cs[off + j]? = some u) :
    SrcW w (.slice (some ⟨g, off, none⟩) m c') m news := by
  refine .inr ⟨g, off, c', rfl, fun j u hj => ?_⟩
  have h1 := h j u hj
  rcases (hS.take hu).rowOpen with ⟨hv, _⟩ | ⟨g', cap, junk, hv, _, _, _, _, hS'⟩
  · cases hv
  · injection hv with e1 e2 e3
    injection e1 with e1
    injection e1 with e1
    subst e1
    exact hS'.cell .head (by rw [List.getElem?_append_left (List.getElem?_eq_some_iff.1 h1).1]; exact h1)
end Go.Sl
