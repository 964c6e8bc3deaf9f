/-
  Rows that are read and copied in parts: the walk's rules. Over any program.
-/
import Derived.Test.YtbcokphjpllbiaaRow
import Derived.Test.YtbcokphjpllbiaaSel
set_option linter.unusedSimpArgs false
set_option linter.unusedVariables false
namespace Go.Sl
open Go.RowKit
section
variable {W w : World} {L : List HP} {a : Option Addr} {v : Value} {k n c g off : Nat} {T : TypeId} {cs news : List Value}
theorem St.rowCase (h : St W (row (.slice a n c) k T n cs :: L) w) : (a = none ∧ n = 0 ∧ c = 0 ∧ cs = []) ∨ ∃ g, a = some ⟨g, 0, none⟩ ∧ c ≤ 9223372036854775807 ∧ n ≤ c := by
  rcases h.rowOpen with ⟨hv, h0, hc, _⟩ | ⟨g, cap, junk, hv, hn1, hm1, _⟩
  · injection hv with e1 e2 e3
    exact .inl ⟨e1, h0, e3, hc⟩
  · injection hv with e1 e2 e3
    subst e3
    exact .inr ⟨g, e1, hm1, hn1⟩
theorem Cell.rowS (h : cs[off]? = some v) : Cell (Sl.row (.slice (some ⟨g, 0, none⟩) n c) k T n cs :: L) g off v := fun W w hS => by
  rcases hS.rowOpen with ⟨hv, _⟩ | ⟨g', cap, junk, hv, hn1, hm1, hj1, hl1, hS'⟩
  · cases hv
  · injection hv with e1 e2 e3
    injection e1 with e1
    injection e1 with e1
    subst e1
    exact hS'.cell .head (by rw [List.getElem?_append_left (List.getElem?_eq_some_iff.1 h).1]; exact h)
/-- .. wherever the row stands. -/
theorem Cell.rowM {L' : List HP} (hu : Take L (Sl.row (.slice (some ⟨g, 0, none⟩) n c) k T n cs) L') (h : cs[off]? = some v) : Cell L g off v := fun W w hS => Cell.rowS h W w (hS.take hu)
theorem Cells.rowM {L' : List HP} (hu : Take L (Sl.row (.slice (some ⟨g, 0, none⟩) n c) k T n cs) L') (h : ∀ j u, news[j]? = some u → cs[off + j]? = some u) : Cells L g off news := fun j v hj => Cell.rowM hu (h j v hj)
theorem Cells.elemM {α : Type} {enc : α → List Value} (henc : ∀ x, (enc x).length = k) {xs : List α} {i : Nat} {L' : List HP} (hu : Take L (Sl.row (.slice (some ⟨g, 0, none⟩) xs.length c) k T xs.length (xs.flatMap enc)) L') (h : i < xs.length) : Cells L g (i * k) (enc xs[i]) :=
  Cells.rowM hu fun j u hj => by
    have hl : j < (enc xs[i]).length := (List.getElem?_eq_some_iff.1 hj).1
    have := flat_get henc xs [] i h j (by rwa [henc] at hl)
    rw [List.append_nil] at this
    rw [this]; exact hj
/-- A part of a row as a source. -/
theorem Src.partM {L' : List HP} {m c' : Nat} (hu : Take L (Sl.row (.slice (some ⟨g, 0, none⟩) n c) k T n cs) L') (h : ∀ j u, news[j]? = some u → cs[off + j]? = some u) : Src L (.slice (some ⟨g, off, none⟩) m c') m news := .inr ⟨g, off, c', rfl, Cells.rowM hu h⟩
/-- .. the part from i on. -/
theorem Src.behindM {L' : List HP} {m c' i : Nat} (hu : Take L (Sl.row (.slice (some ⟨g, 0, none⟩) n c) k T n cs) L') (h0 : c = i → m = 0 ∧ news = []) (h : ∀ j u, news[j]? = some u → cs[i * k + j]? = some u) :
    Src L (.slice (if c = i then some ⟨g, 0, none⟩ else some ⟨g, i * k, none⟩) m c') m news := by
  split
  · rename_i hc
    obtain ⟨rfl, rfl⟩ := h0 hc
    exact .inr ⟨g, 0, c', rfl, fun j u hj => by simp at hj⟩
  · exact .inr ⟨g, i * k, c', rfl, Cells.rowM hu h⟩
theorem flat_take' {α : Type} {enc : α → List Value} (xs : List α) (i j : Nat) (u : Value) (h : ((xs.take i).flatMap enc)[j]? = some u) : (xs.flatMap enc)[0 + j]? = some u := by
  rw [Nat.zero_add]
  have e : xs.flatMap enc = (xs.take i).flatMap enc ++ (xs.drop i).flatMap enc := by rw [← List.flatMap_append, List.take_append_drop]
  rw [e, List.getElem?_append_left (List.getElem?_eq_some_iff.1 h).1]
  exact h
theorem flat_drop' {α : Type} {enc : α → List Value} (henc : ∀ x, (enc x).length = k) (xs : List α) (i j : Nat) (u : Value) (hi : i ≤ xs.length) (h : ((xs.drop i).flatMap enc)[j]? = some u) : (xs.flatMap enc)[i * k + j]? = some u := by
  have e : xs.flatMap enc = (xs.take i).flatMap enc ++ (xs.drop i).flatMap enc := by rw [← List.flatMap_append, List.take_append_drop]
  have hl : ((xs.take i).flatMap enc).length = i * k := by rw [flat_length henc, List.length_take, Nat.min_eq_left hi]
  rw [e, List.getElem?_append_right (by omega), hl, Nat.add_sub_cancel_left]
  exact h
/-- One field of one element stored anew. -/
theorem flat_set1 {α : Type} {enc : α → List Value} (henc : ∀ x, (enc x).length = k) : ∀ (xs : List α) (junk : List Value) (i j : Nat) (h : i < xs.length) (y : α) (u : Value), j < k → enc y = (enc xs[i]).set j u → (xs.flatMap enc ++ junk).set (i * k + j) u = (xs.set i y).flatMap enc ++ junk
  | x :: xs, junk, 0, j, _, y, u, hj, he => by
    have he' : enc y = (enc x).set j u := he
    rw [List.flatMap_cons, List.append_assoc, Nat.zero_mul, Nat.zero_add, List.set_append, if_pos (by rw [henc]; exact hj), List.set_cons_zero, List.flatMap_cons, he', List.append_assoc]
  | x :: xs, junk, i + 1, j, h, y, u, hj, he => by
    have e : (i + 1) * k + j = k + (i * k + j) := by rw [Nat.add_mul, Nat.one_mul]; omega
    rw [List.flatMap_cons, List.append_assoc, e, List.set_append, if_neg (by rw [henc]; omega), henc, Nat.add_sub_cancel_left, List.set_cons_succ, List.flatMap_cons, List.append_assoc,
      flat_set1 henc xs junk i j (by simpa using h) y u hj he]
end
section
variable {P : Program} {ops : Array Oper} {Q : Exit → Act → World → Prop} {a : Act} {w : World} {W : World} {L R : List HP} {rest : List Oper} {o : Oper}
/-- An operation that is left out. -/
theorem wl_skip (hg : Region.wanted o (yielded ops a.tmps) = false) (h : wpList P ops Q rest (a.put o.dst undef) w) : wpList P ops Q (o :: rest) a w :=
  wpList_step fun K hK => by
    rw [if_neg (by rw [hg]; exact Bool.false_ne_true)]
    exact hK _ _ h
/-- A slice literal as an owned row. -/
theorem wl_bsR {t e n : TypeId} {z : Value} {k bytes : Nat} {xs : Array (Nat × Operand)} {parts : List (Nat × Value)} {l : List Value} (hS : St W L w) (ho : o.op = .buildSlice t n xs) (hg : Region.wanted o (yielded ops a.tmps) = true) (hx : (xs.map fun (i, x) => (i, a.eval x)) = parts.toArray)
    (ht : tyElem P t = some e) (hi : tyRow P e = some (some z, k, bytes)) (hz : z.cells.size = k) (hn : decide (n * k ≤ 16777216) = true) (hp : partsOk k n parts = true) (hl : fillL k (zerosL z n) parts = l) (hll : l.length = n * k) (hn63 : n ≤ maxLen)
    (h : ∀ v w', St W (row v k e n l :: L) w' → wpList P ops Q rest (a.put o.dst v) w') : wpList P ops Q (o :: rest) a w := by
  obtain ⟨b, w', hr, hS'⟩ := exec_bs (P := P) hS ho hx ht hi hz hn hp hl
  refine wpList_run hg hr (h _ w' ?_)
  have h3 : St W (blk b (l ++ []) e :: L) w' := by rw [List.append_nil]; exact hS'
  exact St.rowShut h3 (Nat.le_refl _) hn63 (by rw [List.append_nil]; exact hll) hll
end
end Go.Sl
