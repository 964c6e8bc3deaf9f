/-
  Maps as resources: made, looked up, written, deleted from. Over any program; no condition.
-/
import Derived.Test.YtbcokphjpllbiaaSlw
import Derived.MapKept
import Derived.Maps.RangeRun
set_option linter.unusedSimpArgs false
set_option linter.unusedVariables false
namespace Go.Sl
open Go.RowKit
/-- Block b is a map with these entries. -/
def mapR (b : Nat) (es : List MapEntry) (clk : Nat) : HP := blkO b (.map es.toArray clk)
def tyMap (P : Program) (t : TypeId) : Option (TypeId × TypeId) := (P.underlying t).bind fun | .map k e => some (k, e) | _ => none
def tyZeroV (P : Program) (t : TypeId) : Option Value := (P.info? t).bind (·.zero)
/-- The key's kind: numbers or strings. -/
def plainKd : TypeDesc → Bool
  | .int _ | .string => true
  | _ => false
section
variable {P : Program} {W w : World} {L R : List HP}
theorem tyMap_spec {t K E : TypeId} (h : tyMap P t = some (K, E)) : P.underlying t = some (.map K E) := by
  unfold tyMap at h
  obtain ⟨d, hd, hx⟩ := Option.bind_eq_some_iff.1 h
  cases d <;> simp at hx
  rw [hd, hx.1, hx.2]
theorem run_zeroV {t : TypeId} {z : Value} (h : tyZeroV P t = some z) : (zeroValue t).run P w = .ok z w := by
  unfold tyZeroV at h
  obtain ⟨i, hi, hz⟩ := Option.bind_eq_some_iff.1 h
  simp [zeroValue, typeInfo, hi, hz]
theorem run_checkKey {K : TypeId} {kd : TypeDesc} (hK : P.underlying K = some kd) (h : plainKd kd = true) (e : Bool) (n : Nat) (v : Value) : (Instr.checkKey e (n + 1) K v).run P w = .ok () w := by
  unfold Instr.checkKey
  cases kd <;> simp [plainKd] at h <;> simp [run_underlying hK]
theorem run_findKey {K : TypeId} {kd : TypeDesc} {key : Value} {es : List MapEntry} {r : Option (Nat × Value)} (hK : P.underlying K = some kd) (hf : Instr.findNow kd key es 0 = some r) : (Instr.findKey K key es).run P w = .ok r w := by
  unfold Instr.findKey
  simp [run_underlying hK, hf]
theorem St.newObj (h : St W L w) (es : List MapEntry) (c : Nat) : St W (mapR w.heap.size es c :: L) (w.alloc (.map es.toArray c)) := h.alloc _
theorem St.setMap {b : Nat} {es es' : List MapEntry} {c c' : Nat} (h : St W (mapR b es c :: L) w) : St W (mapR b es' c' :: L) { w with heap := w.heap.setIfInBounds b (.map es'.toArray c') } := by
  have hg := h.get (b := b) .head
  refine h.putO (b := b) (o := .map es.toArray c) (o' := .map es'.toArray c') .head rfl rfl rfl fun k => ?_
  show (w.heap.setIfInBounds b _)[k]? = _
  have hb : b < w.heap.size := (Array.getElem?_eq_some_iff.1 hg).1
  rw [Array.getElem?_setIfInBounds]
  by_cases hk : b = k
  · subst hk; rw [if_pos rfl, if_pos hb, if_pos rfl]
  · rw [if_neg hk, if_neg (fun h => hk h.symm)]
theorem map_get {b : Nat} {es : List MapEntry} {c : Nat} (h : St W (mapR b es c :: L) w) : (getObj b).run P w = .ok (.map es.toArray c) w := MapKept.run_getObj_map (h.get (b := b) .head)

/-- What a lookup hands back. -/
def lookV (ok : Bool) (z : Value) : Option (Nat × Value) → Value
  | some (_, v) => if ok then .tuple #[v, .bool true] else v
  | none => if ok then .tuple #[z, .bool false] else z
theorem run_lookup {t K E : TypeId} {kd : TypeDesc} {b : Nat} {es : List MapEntry} {c : Nat} {key z : Value} {ok : Bool} {r : Option (Nat × Value)} (h : St W (mapR b es c :: L) w) (ht : tyMap P t = some (K, E)) (hK : P.underlying K = some kd)
    (hkd : plainKd kd = true) (hz : tyZeroV P E = some z) (hf : Instr.findNow kd key es 0 = some r) : (Instr.lookup t (.map (some b)) key ok).run P w = .ok (lookV ok z r) w := by
  unfold Instr.lookup
  have hu := run_underlying (P := P) (tyMap_spec ht) w
  cases r with
  | none => cases ok <;> simp [hu, map_get h, run_checkKey hK hkd, run_findKey hK hf, run_zeroV hz, lookV]
  | some p => cases ok <;> simp [hu, map_get h, run_checkKey hK hkd, run_findKey hK hf, lookV]
theorem run_lookup_nil {t K E : TypeId} {kd : TypeDesc} {key z : Value} {ok : Bool} (ht : tyMap P t = some (K, E)) (hK : P.underlying K = some kd)
    (hkd : plainKd kd = true) (hz : tyZeroV P E = some z) : (Instr.lookup t (.map none) key ok).run P w = .ok (lookV ok z none) w := by
  unfold Instr.lookup
  have hu := run_underlying (P := P) (tyMap_spec ht) w
  have hf : Instr.findNow kd key [] 0 = some none := rfl
  cases ok <;> simp [hu, run_checkKey hK hkd, run_findKey hK hf, run_zeroV hz, lookV]
/-- What a store of a new key leaves. -/
theorem run_mapNew {t K E : TypeId} {kd : TypeDesc} {b : Nat} {es : List MapEntry} {c : Nat} {key v : Value} (h : St W (mapR b es c :: L) w) (ht : tyMap P t = some (K, E)) (hK : P.underlying K = some kd)
    (hkd : plainKd kd = true) (hf : Instr.findNow kd key es 0 = some none) :
    ∃ w', (Instr.mapUpdate t (.map (some b)) key v).run P w = .ok () w' ∧ St W (mapR b (es ++ [(⟨key, v, c⟩ : MapEntry)]) (c + 1) :: L) w' := by
  refine ⟨_, ?_, h.setMap⟩
  unfold Instr.mapUpdate
  have hu := run_underlying (P := P) (tyMap_spec ht) w
  have hs := MapKept.run_setObj_map (P := P) (.map (es ++ [(⟨key, v, c⟩ : MapEntry)]).toArray (c + 1)) (h.get (b := b) .head)
  have e : es.toArray.push (⟨key, v, c⟩ : MapEntry) = (es ++ [(⟨key, v, c⟩ : MapEntry)]).toArray := by simp
  simp only [hu, Sem.run_bind, Result.andThen_ok, map_get h, run_checkKey hK hkd, run_findKey hK hf, e, hs]
theorem run_delete {t K E ty : TypeId} {kd : TypeDesc} {b : Nat} {es : List MapEntry} {c : Nat} {key : Value} {i : Nat} {x : Value} (h : St W (mapR b es c :: L) w) (ht : tyMap P t = some (K, E)) (hK : P.underlying K = some kd)
    (hkd : plainKd kd = true) (hf : Instr.findNow kd key es 0 = some (some (i, x))) (hi : i < es.length) (k2 : TypeId) :
    ∃ w', (Builtin.delete_ #[t, k2] ty #[.map (some b), key]).run P w = .ok (.tuple #[]) w' ∧ St W (mapR b (es.eraseIdx i) c :: L) w' := by
  refine ⟨_, ?_, h.setMap⟩
  unfold Builtin.delete_
  have hu := run_underlying (P := P) (tyMap_spec ht) w
  have hs := MapKept.run_setObj_map (P := P) (.map (es.eraseIdx i).toArray c) (h.get (b := b) .head)
  have e : es.toArray.eraseIdxIfInBounds i = (es.eraseIdx i).toArray := by simp
  simp [hu, map_get h, run_checkKey hK hkd, run_findKey hK hf, e, hs]
theorem run_makeMap {t : TypeId} (h : St W L w) : ∃ b w', (Instr.makeMap t none).run P w = .ok (.map (some b)) w' ∧ St W (mapR b [] 0 :: L) w' :=
  ⟨w.heap.size, w.alloc (.map #[] 0), by unfold Instr.makeMap; simp, h.alloc _⟩
/-- Each entry has a stamp of its own. -/
def Stamps (es : List MapEntry) : Prop := (es.map (·.born)).Nodup
theorem find_stamp {es : List MapEntry} (h : Stamps es) {i : Nat} (hi : i < es.length) : es.findIdx? (fun e => (e.born : Int) == ((es[i].born : Nat) : Int)) = some i := by
  rw [List.findIdx?_eq_some_iff_getElem]
  refine ⟨hi, by simp, fun j hj => ?_⟩
  simp only [beq_iff_eq, Int.ofNat_inj, ne_eq]
  intro he
  have := List.pairwise_iff_getElem.1 h j i (by simp; omega) (by simpa using hi) hj
  simp only [List.getElem_map] at this
  exact this (by omega)
/-- m[k] is about to be written: the key is there. -/
theorem run_mapEntry_old {t K E : TypeId} {kd : TypeDesc} {b : Nat} {es : List MapEntry} {c i : Nat} {key x : Value} (h : St W (mapR b es c :: L) w) (ht : tyMap P t = some (K, E)) (hK : P.underlying K = some kd)
    (hkd : plainKd kd = true) (hf : Instr.findNow kd key es 0 = some (some (i, x))) (hi : i < es.length) (hk : es[i].key = key) (hb : Instr.sameBits 10000 key key = true) :
    ∃ w', (Instr.mapEntry t (.map (some b)) key).run P w = .ok (.tuple #[x, goInt es[i].born]) w' ∧ St W (mapR b es c :: L) w' := by
  have e : es.modify i (fun e => { e with key := key }) = es := by
    apply List.ext_getElem?
    intro j
    rw [List.getElem?_modify]
    by_cases hj : i = j
    · subst hj
      simp [hi, ← hk]
    · simp [hj]
  refine ⟨_, ?_, h.setMap (es' := es) (c' := c)⟩
  unfold Instr.mapEntry
  have hu := run_underlying (P := P) (tyMap_spec ht) w
  have hs := MapKept.run_setObj_map (P := P) (.map es.toArray c) (h.get (b := b) .head)
  have hks : (Instr.keyThatStays key key).run P w = .ok key w := by unfold Instr.keyThatStays; simp [hb]
  simp [hu, map_get h, run_checkKey hK hkd, run_findKey hK hf, hi, hk, hks, e, hs]
theorem run_mapEntry_new {t K E : TypeId} {kd : TypeDesc} {b : Nat} {es : List MapEntry} {c : Nat} {key z : Value} (h : St W (mapR b es c :: L) w) (ht : tyMap P t = some (K, E)) (hK : P.underlying K = some kd)
    (hkd : plainKd kd = true) (hf : Instr.findNow kd key es 0 = some none) (hz : tyZeroV P E = some z) :
    ∃ w', (Instr.mapEntry t (.map (some b)) key).run P w = .ok (.tuple #[z, goInt c]) w' ∧ St W (mapR b (es ++ [(⟨key, z, c⟩ : MapEntry)]) (c + 1) :: L) w' := by
  refine ⟨_, ?_, h.setMap⟩
  unfold Instr.mapEntry
  have hu := run_underlying (P := P) (tyMap_spec ht) w
  have hs := MapKept.run_setObj_map (P := P) (.map (es ++ [(⟨key, z, c⟩ : MapEntry)]).toArray (c + 1)) (h.get (b := b) .head)
  have e : es.toArray.push (⟨key, z, c⟩ : MapEntry) = (es ++ [(⟨key, z, c⟩ : MapEntry)]).toArray := by simp
  simp only [hu, Sem.run_bind, Sem.run_pure, Result.andThen_ok, map_get h, run_checkKey hK hkd, run_findKey hK hf, run_zeroV hz, e, hs]
/-- .. and is written. -/
theorem run_entryStore {t : TypeId} {b : Nat} {es : List MapEntry} {c i : Nat} {v : Value} (h : St W (mapR b es c :: L) w) (hst : Stamps es) (hi : i < es.length) :
    ∃ w', (Instr.entryStore t (.map (some b)) (goInt es[i].born) v).run P w = .ok () w' ∧ St W (mapR b (es.set i { es[i] with val := v }) c :: L) w' := by
  refine ⟨_, ?_, h.setMap⟩
  unfold Instr.entryStore
  have hs := MapKept.run_setObj_map (P := P) (.map (es.set i { es[i] with val := v }).toArray c) (h.get (b := b) .head)
  have e : es.modify i (fun e => { e with val := v }) = es.set i { es[i] with val := v } := by
    apply List.ext_getElem?
    intro j
    rw [List.getElem?_modify, List.getElem?_set]
    by_cases hj : i = j
    · subst hj
      simp [hi]
    · simp [hj]
  have hf := find_stamp hst hi
  simp [map_get h, goInt, asInt, asIntOf, hf, e, hs]
end
/-! Where a key stands, in a list that is given in one's own terms. -/
theorem findNow_no {ι : Type} {kd : TypeDesc} {key : Value} {enc : ι → MapEntry} {p : ι → Bool} (h : ∀ x, Instr.sameNow kd key (enc x).key = some (p x)) : ∀ (l : List ι) (i : Nat), (∀ x ∈ l, p x = false) → Instr.findNow kd key (l.map enc) i = some none
  | [], _, _ => rfl
  | x :: l, i, hp => by
    rw [List.map_cons, Instr.findNow, h x, hp x (List.mem_cons_self ..)]
    exact findNow_no h l (i + 1) fun y hy => hp y (List.mem_cons_of_mem _ hy)
theorem findNow_yes {ι : Type} {kd : TypeDesc} {key : Value} {enc : ι → MapEntry} {p : ι → Bool} (h : ∀ x, Instr.sameNow kd key (enc x).key = some (p x)) : ∀ (l : List ι) (i j : Nat) (hj : j < l.length), p l[j] = true → (∀ m (hm : m < j), p (l[m]'(by omega)) = false) →
    Instr.findNow kd key (l.map enc) i = some (some (i + j, (enc l[j]).val))
  | [], _, _, hj, _, _ => absurd hj (Nat.not_lt_zero _)
  | x :: l, i, 0, _, hp, _ => by
    have hp' : p x = true := hp
    rw [List.map_cons, Instr.findNow, h x, hp']
    rfl
  | x :: l, i, j + 1, hj, hp, hb => by
    have h0 : p x = false := hb 0 (Nat.succ_pos _)
    rw [List.map_cons, Instr.findNow, h x, h0]
    have := findNow_yes h l (i + 1) j (by simpa using hj) hp (fun m hm => hb (m + 1) (by omega))
    rw [show i + (j + 1) = i + 1 + j by omega]
    exact this
theorem same_int (a b : Int) : Instr.sameNow (.int .i64) (.int .i64 a) (.int .i64 b) = some (a == b) := by simp [Instr.sameNow]
theorem same_str (a b : ByteArray) : Instr.sameNow .string (.string a) (.string b) = some (a == b) := rfl
/-! A range over a map. -/
/-- Block r walks over the map m. -/
def iterR (r m since : Nat) (seen : Array Nat) (stepped : Nat) : HP := blkO r (.mapIter (some m) since seen stepped)
section
variable {P : Program} {W w : World} {L : List HP}
theorem run_range {t K E : TypeId} {m : Nat} {es : List MapEntry} {c : Nat} (h : St W (mapR m es c :: L) w) (ht : tyMap P t = some (K, E)) :
    ∃ r w', (Instr.range t (.map (some m))).run P w = .ok (.pointer (some ⟨r, 0, none⟩)) w' ∧ St W (iterR r m c #[] c :: mapR m es c :: L) w' := by
  refine ⟨w.heap.size, w.alloc (.mapIter (some m) c #[] c), ?_, h.alloc _⟩
  unfold Instr.range
  have hu := run_underlying (P := P) (tyMap_spec ht) w
  simp [hu, map_get h]
theorem run_range_nil {t K E : TypeId} (h : St W L w) (ht : tyMap P t = some (K, E)) :
    ∃ r w', (Instr.range t (.map none)).run P w = .ok (.pointer (some ⟨r, 0, none⟩)) w' ∧ St W (blkO r (.mapIter none 0 #[] 0) :: L) w' := by
  refine ⟨w.heap.size, w.alloc (.mapIter none 0 #[] 0), ?_, h.alloc _⟩
  unfold Instr.range
  have hu := run_underlying (P := P) (tyMap_spec ht) w
  simp [hu]
/-- A step: nothing is left, or one that is left comes out, whichever the tape says. -/
theorem run_step {ty : TypeId} {r m since c0 c : Nat} {seen : Array Nat} {es : List MapEntry} (h : St W (iterR r m since seen c0 :: mapR m es c :: L) w) (hold : ∀ x ∈ es, x.born < since) (hsc : since ≤ c0) :
    ((∀ x ∈ es, x.born ∈ seen) ∧ (Instr.next (.pointer (some ⟨r, 0, none⟩)) false ty).run P w = .ok (.tuple #[.bool false]) w) ∨
    ∃ e ∈ es, e.born ∉ seen ∧ ∃ w', (Instr.next (.pointer (some ⟨r, 0, none⟩)) false ty).run P w = .ok (.tuple #[.bool true, e.key, e.val]) w' ∧ St W (iterR r m since (seen.push e.born) c :: mapR m es c :: L) w' := by
  have hr := h.get (b := r) .head
  have hb := h.get (b := m) (.tail .head)
  rcases run_next_at (P := P) w ty r m since c0 seen es.toArray c hr hb (by simpa using hold) hsc with ⟨h0, hrun⟩ | ⟨e, he, w1, hw, hrun⟩
  · left
    refine ⟨fun x hx => ?_, hrun⟩
    have h1 : leftOf es.toArray seen = #[] := Array.eq_empty_of_size_eq_zero h0
    unfold leftOf at h1
    rw [Array.filter_eq_empty_iff] at h1
    have := h1 x (by simpa using hx)
    simpa using this
  · right
    unfold leftOf at he
    simp at he
    refine ⟨e, he.1, by simpa using he.2, _, hrun, ?_⟩
    have h1 : St W (iterR r m since seen c0 :: mapR m es c :: L) w1 := by
      rcases hw with rfl | rfl
      · exact h
      · exact h.drew
    have hr1 := h1.get (b := r) .head
    refine h1.putO (b := r) (o := .mapIter (some m) since seen c0) (o' := .mapIter (some m) since (seen.push e.born) c) .head rfl rfl rfl fun k => ?_
    show (w1.heap.setIfInBounds r _)[k]? = _
    have hlt : r < w1.heap.size := (Array.getElem?_eq_some_iff.1 hr1).1
    rw [Array.getElem?_setIfInBounds]
    by_cases hk : r = k
    · subst hk; rw [if_pos rfl, if_pos hlt, if_pos rfl]
    · rw [if_neg hk, if_neg (fun h => hk h.symm)]
theorem run_entry {r m since c : Nat} {seen : Array Nat} {es : List MapEntry} {e : MapEntry} (h : St W (iterR r m since (seen.push e.born) c :: mapR m es c :: L) w) (he : e ∈ es) (hn : Stamps es) :
    (Instr.entry (.pointer (some ⟨r, 0, none⟩))).run P w = .ok (.tuple #[e.key, e.val]) w :=
  run_entry_at w r m since seen es.toArray c e (h.get (b := r) .head) (h.get (b := m) (.tail .head)) (by simpa using he) (by unfold Stamps at hn; simpa using hn)
end
/-! The walk's rules. -/
section
variable {P : Program} {ops : Array Oper} {Q : Exit → Act → World → Prop} {a : Act} {w : World} {W : World} {L L' R : List HP} {rest : List Oper} {o : Oper}
theorem wl_makeMap {t : TypeId} (hS : St W L w) (ho : o.op = .makeMap t none) (hg : Region.wanted o (yielded ops a.tmps) = true)
    (h : ∀ b w', St W (mapR b [] 0 :: L) w' → wpList P ops Q rest (a.put o.dst (.map (some b))) w') : wpList P ops Q (o :: rest) a w := by
  obtain ⟨b, w', hr, hS'⟩ := run_makeMap (P := P) (t := t) hS
  refine wpList_run hg (v := .map (some b)) (w' := w') ?_ (h b w' hS')
  unfold execOp
  simp [ho, hr]
theorem wl_lookup {t K E : TypeId} {kd : TypeDesc} {x y : Operand} {b : Nat} {es : List MapEntry} {c : Nat} {key z : Value} {ok : Bool} {r : Option (Nat × Value)} (hS : St W L w) (ho : o.op = .lookup t x y ok) (hg : Region.wanted o (yielded ops a.tmps) = true)
    (hx : a.eval x = .map (some b)) (hy : a.eval y = key) (ht : tyMap P t = some (K, E)) (hK : P.underlying K = some kd) (hkd : plainKd kd = true) (hz : tyZeroV P E = some z) (hu : Take L (mapR b es c) R) (hf : Instr.findNow kd key es 0 = some r)
    (h : wpList P ops Q rest (a.put o.dst (lookV ok z r)) w) : wpList P ops Q (o :: rest) a w := by
  refine wpList_run hg (v := lookV ok z r) (w' := w) ?_ h
  unfold execOp
  simp [ho, hx, hy, run_lookup (hS.take hu) ht hK hkd hz hf]
theorem wl_lookup_nil {t K E : TypeId} {kd : TypeDesc} {x y : Operand} {key z : Value} {ok : Bool} (ho : o.op = .lookup t x y ok) (hg : Region.wanted o (yielded ops a.tmps) = true)
    (hx : a.eval x = .map none) (hy : a.eval y = key) (ht : tyMap P t = some (K, E)) (hK : P.underlying K = some kd) (hkd : plainKd kd = true) (hz : tyZeroV P E = some z)
    (h : wpList P ops Q rest (a.put o.dst (lookV ok z none)) w) : wpList P ops Q (o :: rest) a w := by
  refine wpList_run hg (v := lookV ok z none) (w' := w) ?_ h
  unfold execOp
  simp [ho, hx, hy, run_lookup_nil (key := key) ht hK hkd hz]
theorem wl_mapNew {t K E : TypeId} {kd : TypeDesc} {x y v : Operand} {b : Nat} {es : List MapEntry} {c : Nat} {key val : Value} (hS : St W L w) (ho : o.op = .mapUpdate t x y v) (hg : Region.wanted o (yielded ops a.tmps) = true)
    (hx : a.eval x = .map (some b)) (hy : a.eval y = key) (hv : a.eval v = val) (ht : tyMap P t = some (K, E)) (hK : P.underlying K = some kd) (hkd : plainKd kd = true) (hu : Take L (mapR b es c) R) (hf : Instr.findNow kd key es 0 = some none)
    (h : ∀ w', St W (mapR b (es ++ [(⟨key, val, c⟩ : MapEntry)]) (c + 1) :: R) w' → wpList P ops Q rest (a.put o.dst undef) w') : wpList P ops Q (o :: rest) a w := by
  obtain ⟨w', hr, hS'⟩ := run_mapNew (P := P) (v := val) (hS.take hu) ht hK hkd hf
  refine wpList_runSkip hg (w' := w') ?_ (h w' hS')
  unfold execOp
  simp [ho, hx, hy, hv, hr]
theorem wl_entryOld {t K E : TypeId} {kd : TypeDesc} {x y : Operand} {b : Nat} {es : List MapEntry} {c i : Nat} {key u : Value} (hS : St W L w) (ho : o.op = .mapEntry t x y) (hg : Region.wanted o (yielded ops a.tmps) = true)
    (hx : a.eval x = .map (some b)) (hy : a.eval y = key) (ht : tyMap P t = some (K, E)) (hK : P.underlying K = some kd) (hkd : plainKd kd = true) (hu : Take L (mapR b es c) R) (hf : Instr.findNow kd key es 0 = some (some (i, u))) (hi : i < es.length) (hk : es[i].key = key) (hb : Instr.sameBits 10000 key key = true)
    (h : ∀ w', St W (mapR b es c :: R) w' → wpList P ops Q rest (a.put o.dst (.tuple #[u, goInt es[i].born])) w') : wpList P ops Q (o :: rest) a w := by
  obtain ⟨w', hr, hS'⟩ := run_mapEntry_old (P := P) (hS.take hu) ht hK hkd hf hi hk hb
  refine wpList_run hg (v := .tuple #[u, goInt es[i].born]) (w' := w') ?_ (h w' hS')
  unfold execOp
  simp [ho, hx, hy, hr]
theorem wl_entryNew {t K E : TypeId} {kd : TypeDesc} {x y : Operand} {b : Nat} {es : List MapEntry} {c : Nat} {key z : Value} (hS : St W L w) (ho : o.op = .mapEntry t x y) (hg : Region.wanted o (yielded ops a.tmps) = true)
    (hx : a.eval x = .map (some b)) (hy : a.eval y = key) (ht : tyMap P t = some (K, E)) (hK : P.underlying K = some kd) (hkd : plainKd kd = true) (hz : tyZeroV P E = some z) (hu : Take L (mapR b es c) R) (hf : Instr.findNow kd key es 0 = some none)
    (h : ∀ w', St W (mapR b (es ++ [(⟨key, z, c⟩ : MapEntry)]) (c + 1) :: R) w' → wpList P ops Q rest (a.put o.dst (.tuple #[z, goInt c])) w') : wpList P ops Q (o :: rest) a w := by
  obtain ⟨w', hr, hS'⟩ := run_mapEntry_new (P := P) (hS.take hu) ht hK hkd hf hz
  refine wpList_run hg (v := .tuple #[z, goInt c]) (w' := w') ?_ (h w' hS')
  unfold execOp
  simp [ho, hx, hy, hr]
theorem wl_entryStore {t : TypeId} {x y v : Operand} {b : Nat} {es : List MapEntry} {c i : Nat} {val : Value} (hS : St W L w) (ho : o.op = .entryStore t x y v) (hg : Region.wanted o (yielded ops a.tmps) = true)
    (hu : Take L (mapR b es c) R) (hst : Stamps es) (hi : i < es.length) (hx : a.eval x = .map (some b)) (hy : a.eval y = goInt es[i].born) (hv : a.eval v = val)
    (h : ∀ w', St W (mapR b (es.set i { es[i] with val := val }) c :: R) w' → wpList P ops Q rest (a.put o.dst undef) w') : wpList P ops Q (o :: rest) a w := by
  obtain ⟨w', hr, hS'⟩ := run_entryStore (P := P) (t := t) (v := val) (hS.take hu) hst hi
  refine wpList_runSkip hg (w' := w') ?_ (h w' hS')
  unfold execOp
  simp [ho, hx, hy, hv, hr]
theorem wl_range {t K E : TypeId} {x : Operand} {b : Nat} {es : List MapEntry} {c : Nat} (hS : St W L w) (ho : o.op = .range t x) (hg : Region.wanted o (yielded ops a.tmps) = true) (hx : a.eval x = .map (some b)) (ht : tyMap P t = some (K, E)) (hu : Take L (mapR b es c) R)
    (h : ∀ r w', St W (iterR r b c #[] c :: mapR b es c :: R) w' → wpList P ops Q rest (a.put o.dst (.pointer (some ⟨r, 0, none⟩))) w') : wpList P ops Q (o :: rest) a w := by
  obtain ⟨r, w', hr, hS'⟩ := run_range (P := P) (hS.take hu) ht
  refine wpList_run hg (v := .pointer (some ⟨r, 0, none⟩)) (w' := w') ?_ (h r w' hS')
  unfold execOp
  simp [ho, hx, hr]
theorem wl_next {x : Operand} {r m since c0 c : Nat} {seen : Array Nat} {es : List MapEntry} (hS : St W (iterR r m since seen c0 :: mapR m es c :: L) w) (ho : o.op = .next x false) (hg : Region.wanted o (yielded ops a.tmps) = true) (hx : a.eval x = .pointer (some ⟨r, 0, none⟩)) (hold : ∀ x ∈ es, x.born < since) (hsc : since ≤ c0)
    (h0 : (∀ x ∈ es, x.born ∈ seen) → wpList P ops Q rest (a.put o.dst (.tuple #[.bool false])) w)
    (h1 : ∀ e ∈ es, e.born ∉ seen → ∀ w', St W (iterR r m since (seen.push e.born) c :: mapR m es c :: L) w' → wpList P ops Q rest (a.put o.dst (.tuple #[.bool true, e.key, e.val])) w') : wpList P ops Q (o :: rest) a w := by
  rcases run_step (P := P) (ty := o.type) hS hold hsc with ⟨h2, hr⟩ | ⟨e, he, hn, w', hr, hS'⟩
  · refine wpList_run hg (v := .tuple #[.bool false]) (w' := w) ?_ (h0 h2)
    unfold execOp
    simp [ho, hx, hr]
  · refine wpList_run hg (v := .tuple #[.bool true, e.key, e.val]) (w' := w') ?_ (h1 e he hn w' hS')
    unfold execOp
    simp [ho, hx, hr]
theorem wl_delete {t k2 K E : TypeId} {kd : TypeDesc} {x y : Operand} {b : Nat} {es : List MapEntry} {c i : Nat} {key u : Value} (hS : St W L w) (ho : o.op = .call { callee := .builtin .delete, args := #[x, y], argTypes := #[t, k2] }) (hg : Region.wanted o (yielded ops a.tmps) = true)
    (hx : a.eval x = .map (some b)) (hy : a.eval y = key) (ht : tyMap P t = some (K, E)) (hK : P.underlying K = some kd) (hkd : plainKd kd = true) (hu : Take L (mapR b es c) R) (hf : Instr.findNow kd key es 0 = some (some (i, u))) (hi : i < es.length)
    (h : ∀ w', St W (mapR b (es.eraseIdx i) c :: R) w' → wpList P ops Q rest (a.put o.dst (.tuple #[])) w') : wpList P ops Q (o :: rest) a w := by
  obtain ⟨w', hr, hS'⟩ := run_delete (P := P) (ty := o.type) (hS.take hu) ht hK hkd hf hi k2
  refine wpList_run hg (v := .tuple #[]) (w' := w') ?_ (h w' hS')
  unfold execOp
  simp [ho, resolve, invoke, builtin, hx, hy, hr]
/-- A store at a key that is there. -/
theorem run_mapOld {t K E : TypeId} {kd : TypeDesc} {b : Nat} {es : List MapEntry} {c i : Nat} {key x v : Value} (h : St W (mapR b es c :: L) w) (ht : tyMap P t = some (K, E)) (hK : P.underlying K = some kd)
    (hkd : plainKd kd = true) (hf : Instr.findNow kd key es 0 = some (some (i, x))) (hi : i < es.length) (hk : es[i].key = key) (hb : Instr.sameBits 10000 key key = true) :
    ∃ w', (Instr.mapUpdate t (.map (some b)) key v).run P w = .ok () w' ∧ St W (mapR b (es.set i { es[i] with val := v }) c :: L) w' := by
  have e : es.modify i (fun e => { e with key := key, val := v }) = es.set i { es[i] with val := v } := by
    apply List.ext_getElem?
    intro j
    rw [List.getElem?_modify, List.getElem?_set]
    by_cases hj : i = j
    · subst hj
      simp [hi, ← hk]
    · simp [hj]
  refine ⟨_, ?_, h.setMap⟩
  unfold Instr.mapUpdate
  have hu := run_underlying (P := P) (tyMap_spec ht) w
  have hks : (Instr.keyThatStays key key).run P w = .ok key w := by unfold Instr.keyThatStays; simp [hb]
  simp [hu, map_get h, run_checkKey hK hkd, run_findKey hK hf, hi, hk, hks, e]
  exact MapKept.run_setObj_map (P := P) _ (h.get (b := b) .head)
theorem wl_mapOld {t K E : TypeId} {kd : TypeDesc} {x y v : Operand} {b : Nat} {es : List MapEntry} {c i : Nat} {key u val : Value} (hS : St W L w) (ho : o.op = .mapUpdate t x y v) (hg : Region.wanted o (yielded ops a.tmps) = true)
    (hx : a.eval x = .map (some b)) (hy : a.eval y = key) (hv : a.eval v = val) (ht : tyMap P t = some (K, E)) (hK : P.underlying K = some kd) (hkd : plainKd kd = true) (hu : Take L (mapR b es c) R) (hf : Instr.findNow kd key es 0 = some (some (i, u))) (hi : i < es.length) (hk : es[i].key = key) (hb : Instr.sameBits 10000 key key = true)
    (h : ∀ w', St W (mapR b (es.set i { es[i] with val := val }) c :: R) w' → wpList P ops Q rest (a.put o.dst undef) w') : wpList P ops Q (o :: rest) a w := by
  obtain ⟨w', hr, hS'⟩ := run_mapOld (P := P) (v := val) (hS.take hu) ht hK hkd hf hi hk hb
  refine wpList_runSkip hg (w' := w') ?_ (h w' hS')
  unfold execOp
  simp [ho, hx, hy, hv, hr]
theorem wl_entry {x : Operand} {r m since c : Nat} {seen : Array Nat} {es : List MapEntry} {e : MapEntry} (hS : St W (iterR r m since (seen.push e.born) c :: mapR m es c :: L) w) (ho : o.op = .entry x) (hg : Region.wanted o (yielded ops a.tmps) = true) (hx : a.eval x = .pointer (some ⟨r, 0, none⟩))
    (he : e ∈ es) (hn : Stamps es) (h : wpList P ops Q rest (a.put o.dst (.tuple #[e.key, e.val])) w) : wpList P ops Q (o :: rest) a w := by
  refine wpList_run hg (v := .tuple #[e.key, e.val]) (w' := w) ?_ h
  unfold execOp
  simp [ho, hx, run_entry hS he hn]
theorem wl_lenMap {t K E : TypeId} {x : Operand} {b : Nat} {es : List MapEntry} {c : Nat} (hS : St W L w) (ho : o.op = .call { callee := .builtin .len, args := #[x], argTypes := #[t] }) (hg : Region.wanted o (yielded ops a.tmps) = true)
    (hx : a.eval x = .map (some b)) (ht : tyMap P t = some (K, E)) (hu : Take L (mapR b es c) R) (h : wpList P ops Q rest (a.put o.dst (.int .i64 es.length)) w) : wpList P ops Q (o :: rest) a w := by
  refine wpList_run hg (v := .int .i64 es.length) (w' := w) ?_ h
  unfold execOp
  simp [ho, resolve, invoke, builtin, hx, Builtin.len_, run_underlying (P := P) (tyMap_spec ht), map_get (hS.take hu), goInt]
end
end Go.Sl
