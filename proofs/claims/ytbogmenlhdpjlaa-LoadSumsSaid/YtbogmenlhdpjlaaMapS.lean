/-
  A map's keys, sorted: from a map as a resource to the library's contracts on slices.Sorted(maps.Keys(m)), and back to a row as a resource. Over any program.
-/
import Derived.Test.YtbogmenlhdpjlaaMap
import Derived.Shelf.SlIter.Nil
import Derived.Shelf.SlIterI.Nil
set_option linter.unusedSimpArgs false
set_option linter.unusedVariables false
namespace Go.Sl
open Go.RowKit
section
variable {P : Program} {W w w' : World} {L : List HP}
/-- What a call left that turned nothing that was there, and handed back a row. -/
theorem St.called {v : Value} {k n : Nat} {T : TypeId} {cs : List Value} (h : St W L w) (hb : Below w.heap.size w w') (hr : w'.ownsRow w.heap.size T k v n cs) : St W (row v k T n cs :: L) w' := by
  refine ⟨hb.os.trans h.os, hb.tape.trans h.tape, hb.output.trans h.output, fun b => decide (w.heap.size ≤ b), ?_, ?_⟩
  · obtain ⟨hl, h1⟩ := hr
    refine ⟨hl, ?_⟩
    rcases h1 with ⟨hv, hn⟩ | ⟨g, cap, cur, hv, hg, hh, h3, h4, h5, h6⟩
    · exact .inl ⟨hv, hn⟩
    · have e : cs ++ cur.toList.drop (n * k) = cur.toList := by rw [← h6, List.take_append_drop]
      refine .inr ⟨g, cap, cur.toList.drop (n * k), hv, h3, h4, ?_, ?_⟩
      · rw [e]; simpa using h5
      · show cond (decide (w.heap.size ≤ g)) (w'.heap[g]?) none = _
        rw [decide_eq_true hg, e]
        show w'.heap[g]? = _
        rw [hh]
  · have e : cutOut (fun b => decide (w.heap.size ≤ b)) (fun b => w'.heap[b]?) = fun b => w.heap[b]? := by
      funext b
      show cond (decide (w.heap.size ≤ b)) none (w'.heap[b]?) = w.heap[b]?
      by_cases hb' : w.heap.size ≤ b
      · rw [decide_eq_true hb', Array.getElem?_eq_none hb']; rfl
      · rw [decide_eq_false hb', hb.block b (by omega)]; rfl
    rw [e]
    exact h.sat
/-- How a map's values are read here: not at all. -/
def R1 : Value → Option (DataW Unit × List MemPlace) := fun _ => some (.lit (.bool true), [])
theorem nodup_map_of {α β : Type} (f : α → β) : ∀ l : List α, (l.map f).Nodup → l.Nodup
  | [], _ => List.nodup_nil
  | x :: l, h => by
    rw [List.map_cons, List.nodup_cons] at h
    exact List.nodup_cons.2 ⟨fun hx => h.1 (List.mem_map_of_mem hx), nodup_map_of f l h.2⟩
theorem nodup_inj {α β : Type} (f : α → β) (hf : ∀ x y, f x = f y → x = y) : ∀ l : List α, l.Nodup → (l.map f).Nodup
  | [], _ => List.nodup_nil
  | x :: l, h => by
    rw [List.nodup_cons] at h
    rw [List.map_cons, List.nodup_cons]
    refine ⟨fun hx => ?_, nodup_inj f hf l h.2⟩
    obtain ⟨y, hy, e⟩ := List.mem_map.1 hx
    exact h.1 (hf y x e ▸ hy)
section
variable {ι : Type} {enc : ι → MapEntry} {K : TypeId} {b c : Nat} {l : List ι}
theorem stampedOf (hst : Stamps (l.map enc)) (hc : ∀ x ∈ l, (enc x).born < c) (hk : (l.map fun x => (enc x).key).Nodup) : MapKept.Stamped (l.map enc).toArray c := by
  refine ⟨fun x hx => ?_, ?_, ?_⟩
  · have hx' : x ∈ l.map enc := by simpa using hx
    obtain ⟨y, hy, rfl⟩ := List.mem_map.1 hx'
    exact hc y hy
  · simpa [Stamps] using hst
  · have : ((l.map enc).toArray.toList.map (·.key)) = l.map fun x => (enc x).key := by simp
    rw [this]; exact hk
theorem ownsI {kf : ι → Int} (h : St W (mapR b (l.map enc) c :: L) w) (hK : P.underlying K = some (.int .i64)) (hkf : ∀ x, (enc x).key = .int .i64 (kf x)) (hwf : ∀ x ∈ l, (Lit.int .i64 (kf x)).wf = true)
    (hst : Stamps (l.map enc)) (hc : ∀ x ∈ l, (enc x).born < c) (hn : (l.map kf).Nodup) (hl : l.length ≤ maxLen) :
    ∃ D : DataW Unit, w.ownsMap P K R1 b l.length D ∧ Maps.size D = l.length ∧ (intKeys D).Perm (l.map kf) := by
  have hrd : ∀ x ∈ l, WideElems.rd P K R1 (enc x) = some (.int .i64 (kf x), .lit (.bool true)) := fun x hx => by
    have h1 : keyOf P K (.int .i64 (kf x)) = some (.int .i64 (kf x)) := by
      unfold keyOf mapKey
      simp [hK, hwf x hx]
    unfold WideElems.rd
    rw [hkf x, h1]
    rfl
  have hrg : (l.map enc).map (WideElems.rg P K R1) = l.map fun x => ((.int .i64 (kf x), .lit (.bool true)) : Lit × DataW Unit) := by
    rw [List.map_map]
    refine List.map_congr_left fun x hx => ?_
    show (WideElems.rd P K R1 (enc x)).getD _ = _
    rw [hrd x hx]; rfl
  have hp := WideShapes.sorted_perm (l.map fun x => ((.int .i64 (kf x), .lit (.bool true)) : Lit × DataW Unit))
  refine ⟨.map (((l.map enc).map (WideElems.rg P K R1)).foldr DataW.insert []), ⟨_, c, h.get (b := b) .head, ⟨by simpa using hl, stampedOf hst hc ?_, fun x hx => ?_⟩, by simp, by simp⟩, ?_, ?_⟩
  · have e : (l.map fun x => (enc x).key) = (l.map kf).map (Value.int .i64) := by
      rw [List.map_map]; exact List.map_congr_left fun x _ => hkf x
    rw [e]
    exact nodup_inj _ (fun x y h => by simpa using h) _ hn
  · have hx' : x ∈ l.map enc := by simpa using hx
    obtain ⟨y, hy, rfl⟩ := List.mem_map.1 hx'
    exact ⟨_, hrd y hy⟩
  · rw [Maps.size_eq, hrg, hp.length_eq, List.length_map]
  · rw [hrg]
    refine (hp.map fun p => intOf p.1).trans ?_
    rw [List.map_map]
    exact .refl _
theorem ownsS {kf : ι → ByteArray} (h : St W (mapR b (l.map enc) c :: L) w) (hK : P.underlying K = some .string) (hkf : ∀ x, (enc x).key = .string (kf x)) (hwf : ∀ x ∈ l, (kf x).size ≤ maxLen)
    (hst : Stamps (l.map enc)) (hc : ∀ x ∈ l, (enc x).born < c) (hn : (l.map kf).Nodup) (hl : l.length ≤ maxLen) :
    ∃ D : DataW Unit, w.ownsMap P K R1 b l.length D ∧ Maps.size D = l.length ∧ (strKeys D).Perm (l.map fun x => (kf x).data.toList) := by
  have hrd : ∀ x ∈ l, WideElems.rd P K R1 (enc x) = some (.string (kf x).data.toList, .lit (.bool true)) := fun x hx => by
    have h1 : keyOf P K (.string (kf x)) = some (.string (kf x).data.toList) := by
      unfold keyOf mapKey
      simp [hK, hwf x hx]
    unfold WideElems.rd
    rw [hkf x, h1]
    rfl
  have hrg : (l.map enc).map (WideElems.rg P K R1) = l.map fun x => ((.string (kf x).data.toList, .lit (.bool true)) : Lit × DataW Unit) := by
    rw [List.map_map]
    refine List.map_congr_left fun x hx => ?_
    show (WideElems.rd P K R1 (enc x)).getD _ = _
    rw [hrd x hx]; rfl
  have hp := WideShapes.sorted_perm (l.map fun x => ((.string (kf x).data.toList, .lit (.bool true)) : Lit × DataW Unit))
  refine ⟨.map (((l.map enc).map (WideElems.rg P K R1)).foldr DataW.insert []), ⟨_, c, h.get (b := b) .head, ⟨by simpa using hl, stampedOf hst hc ?_, fun x hx => ?_⟩, by simp, by simp⟩, ?_, ?_⟩
  · have e : (l.map fun x => (enc x).key) = (l.map kf).map Value.string := by
      rw [List.map_map]; exact List.map_congr_left fun x _ => hkf x
    rw [e]
    exact nodup_inj _ (fun x y h => by simpa using h) _ hn
  · have hx' : x ∈ l.map enc := by simpa using hx
    obtain ⟨y, hy, rfl⟩ := List.mem_map.1 hx'
    exact ⟨_, hrd y hy⟩
  · rw [Maps.size_eq, hrg, hp.length_eq, List.length_map]
  · rw [hrg]
    refine (hp.map fun p => strOf p.1).trans ?_
    rw [List.map_map]
    exact .refl _
end
end
end Go.Sl
