/-
  Maps as resources up to order: what may be done to a map while a range walks over it; the walk's rules. Over any program; no condition.
-/
import Derived.Test.YtbcokphjpllbiaaMapB
set_option linter.unusedSimpArgs false
set_option linter.unusedVariables false
namespace Go.Sl
open Go.RowKit
section
variable {κ ν : Type}
theorem todo_key {ps : List (κ × ν × Nat)} {todo : List (κ × ν)} {seen : Array Nat} {k : κ} (hp : ((ps.filter fun x => decide (x.2.2 ∉ seen)).map prj).Perm todo) (hk : ∀ x ∈ todo, x.1 ≠ k) : ∀ x ∈ ps, x.2.2 ∉ seen → x.1 ≠ k := by
  intro x hx hs
  exact hk (prj x) (hp.mem_iff.1 (List.mem_map_of_mem (List.mem_filter.2 ⟨hx, by simpa using hs⟩)))
end
section
variable {κ ν : Type} [DecidableEq κ] {W w : World} {L : List HP} {ek : κ → Value} {ev : ν → Value} {b r : Nat} {l todo : List (κ × ν)} {P : Program} {t K E : TypeId}
theorem run_ilook_at {x : κ × ν} {ok : Bool} (h : St W (itR ek ev r b l todo :: L) w) (ht : tyMap P t = some (K, E)) (hK : KeyOk P K ek) (hx : x ∈ l) :
    (Instr.lookup t (.map (some b)) (ek x.1) ok).run P w = .ok (if ok then .tuple #[ev x.2, .bool true] else ev x.2) w := run_alook_at (itEnd h) ht hK hx
theorem run_ilook_no {k : κ} {z : Value} {ok : Bool} (h : St W (itR ek ev r b l todo :: L) w) (ht : tyMap P t = some (K, E)) (hK : KeyOk P K ek) (hz : tyZeroV P E = some z) (hk : ∀ x ∈ l, x.1 ≠ k) :
    (Instr.lookup t (.map (some b)) (ek k) ok).run P w = .ok (if ok then .tuple #[z, .bool false] else z) w := run_alook_no (itEnd h) ht hK hz hk
theorem todo_set {ps : List (κ × ν × Nat)} {seen : Array Nat} {k : κ} {v : ν} (hk : ∀ x ∈ ps, x.2.2 ∉ seen → x.1 ≠ k) :
    ((ps.map fun x => if x.1 = k then (x.1, v, x.2.2) else x).filter fun x => decide (x.2.2 ∉ seen)) = ps.filter fun x => decide (x.2.2 ∉ seen) := by
  induction ps with
  | nil => rfl
  | cons x ps ih =>
    have ih := ih fun y hy => hk y (List.mem_cons_of_mem _ hy)
    by_cases hs : x.2.2 ∈ seen
    · have e2 : List.filter (fun x => decide (x.2.2 ∉ seen)) (x :: ps) = ps.filter (fun x => decide (x.2.2 ∉ seen)) := by rw [List.filter_cons, if_neg (by simpa using hs)]
      rw [e2, List.map_cons, List.filter_cons, if_neg, ih]
      by_cases hx : x.1 = k
      · rw [if_pos hx]; simpa using hs
      · rw [if_neg hx]; simpa using hs
    · have hx := hk x (List.mem_cons_self ..) hs
      rw [List.map_cons, if_neg hx, List.filter_cons, if_pos (by simpa using hs), List.filter_cons, if_pos (by simpa using hs), ih]
theorem todo_del {ps : List (κ × ν × Nat)} {seen : Array Nat} {k : κ} (hk : ∀ x ∈ ps, x.2.2 ∉ seen → x.1 ≠ k) :
    ((ps.filter fun x => decide (x.1 ≠ k)).filter fun x => decide (x.2.2 ∉ seen)) = ps.filter fun x => decide (x.2.2 ∉ seen) := by
  rw [List.filter_filter]
  refine List.filter_congr fun x hx => ?_
  by_cases hs : x.2.2 ∈ seen
  · simp [hs]
  · simp [hs, hk x hx hs]
theorem run_iset {k : κ} {u v : ν} (h : St W (itR ek ev r b l todo :: L) w) (ht : tyMap P t = some (K, E)) (hK : KeyOk P K ek) (hu : (k, u) ∈ l) (hk : ∀ x ∈ todo, x.1 ≠ k) :
    ∃ w', (Instr.mapUpdate t (.map (some b)) (ek k) (ev v)).run P w = .ok () w' ∧ St W (itR ek ev r b (putL l k v) todo :: L) w' := by
  obtain ⟨⟨ps, c, since, c0, seen⟩, ⟨h1, h2, h3, h4, h5⟩, hS⟩ := itOpen h
  obtain ⟨s, hs⟩ := mem_prj h1 hu
  obtain ⟨w', hr, hS'⟩ := runA_set_at (v := ev v) hS.swap ht hK (by rw [evs_keys]; exact h2.ks) (mem_evs hs)
  rw [evs_setA] at hS'
  refine ⟨w', hr, itShut (q := ⟨_, c, since, c0, seen⟩) ⟨?_, h2.set k v, h3, h4, ?_⟩ hS'.swap⟩
  · rw [set_prj]; exact putL_perm h1 k v
  · rw [todo_set (todo_key h5 hk)]; exact h5
theorem run_idel {k : κ} {k2 ty : TypeId} (h : St W (itR ek ev r b l todo :: L) w) (ht : tyMap P t = some (K, E)) (hK : KeyOk P K ek) (hk : ∀ x ∈ todo, x.1 ≠ k) :
    ∃ w', (Builtin.delete_ #[t, k2] ty #[.map (some b), ek k]).run P w = .ok (.tuple #[]) w' ∧ St W (itR ek ev r b (delL l k) todo :: L) w' := by
  obtain ⟨⟨ps, c, since, c0, seen⟩, ⟨h1, h2, h3, h4, h5⟩, hS⟩ := itOpen h
  obtain ⟨w', hr, hS'⟩ := runA_del (k := k) (k2 := k2) (ty := ty) hS.swap ht hK (by rw [evs_keys]; exact h2.ks)
  rw [evs_delA] at hS'
  refine ⟨w', hr, itShut (q := ⟨_, c, since, c0, seen⟩) ⟨?_, h2.del k, h3, h4, ?_⟩ hS'.swap⟩
  · rw [del_prj]; exact delL_perm h1 k
  · rw [todo_del (todo_key h5 hk)]; exact h5
end
section
variable {κ ν : Type} {W w : World} {L : List HP} {ek : κ → Value} {ev : ν → Value} {b r : Nat} {l todo : List (κ × ν)} {P : Program} {t K E : TypeId}
theorem run_alen {ty : TypeId} (h : St W (amap ek ev b l :: L) w) (ht : tyMap P t = some (K, E)) : (Builtin.len_ #[t] ty #[.map (some b)]).run P w = .ok (.int .i64 l.length) w := by
  obtain ⟨ps, c, h1, h2, h3⟩ := amapOpen h
  have hl : ps.length = l.length := by have := h1.length_eq; rwa [List.length_map] at this
  simp [Builtin.len_, run_underlying (P := P) (tyMap_spec ht), map_get h3, goInt, hl]
theorem run_ilen {ty : TypeId} (h : St W (itR ek ev r b l todo :: L) w) (ht : tyMap P t = some (K, E)) : (Builtin.len_ #[t] ty #[.map (some b)]).run P w = .ok (.int .i64 l.length) w := run_alen (itEnd h) ht
end
/-! The walk's rules. -/
section
variable {κ ν : Type} {W w : World} {L R : List HP} {ek : κ → Value} {ev : ν → Value} {b r : Nat} {l todo : List (κ × ν)} {P : Program} {t K E : TypeId} {ops : Array Oper} {Q : Exit → Act → World → Prop} {a : Act} {rest : List Oper} {o : Oper}
/-- A map compared with nil. -/
theorem wl_eqMapNil {t2 : TypeId} {x y : Operand} {m : Option Nat} (ho : o.op = .binOp .eql t x y t2) (hg : Region.wanted o (yielded ops a.tmps) = true) (hx : a.eval x = .map m) (hy : a.eval y = .map none) (ht : tyMap P t = some (K, E))
    (h : wpList P ops Q rest (a.put o.dst (.bool m.isNone)) w) : wpList P ops Q (o :: rest) a w := by
  refine wpList_run hg (v := .bool m.isNone) (w' := w) ?_ h
  unfold execOp
  have hq : (eqGuard .eql t x y (.map m) (.map none)).run P w = .ok () w := by unfold eqGuard; simp
  simp [ho, hx, hy, hq, run_eql_map_nil w t K E m (tyMap_spec ht)]
theorem wl_amake (ek : κ → Value) (ev : ν → Value) (hS : St W L w) (ho : o.op = .makeMap t none) (hg : Region.wanted o (yielded ops a.tmps) = true)
    (h : ∀ b w', St W (amap ek ev b [] :: L) w' → wpList P ops Q rest (a.put o.dst (.map (some b))) w') : wpList P ops Q (o :: rest) a w := by
  obtain ⟨b, w', hr, hS'⟩ := run_amake (P := P) (t := t) (ek := ek) (ev := ev) hS
  refine wpList_run hg (v := .map (some b)) (w' := w') ?_ (h b w' hS')
  unfold execOp
  simp [ho, hr]
theorem wl_alen {x : Operand} (hS : St W L w) (ho : o.op = .call { callee := .builtin .len, args := #[x], argTypes := #[t] }) (hg : Region.wanted o (yielded ops a.tmps) = true)
    (hx : a.eval x = .map (some b)) (ht : tyMap P t = some (K, E)) (hu : Take L (amap ek ev b l) R) (h : wpList P ops Q rest (a.put o.dst (.int .i64 l.length)) w) : wpList P ops Q (o :: rest) a w := by
  refine wpList_run hg (v := .int .i64 l.length) (w' := w) ?_ h
  unfold execOp
  simp [ho, resolve, invoke, builtin, hx, run_alen (hS.take hu) ht]
theorem wl_ilen {x : Operand} (hS : St W L w) (ho : o.op = .call { callee := .builtin .len, args := #[x], argTypes := #[t] }) (hg : Region.wanted o (yielded ops a.tmps) = true)
    (hx : a.eval x = .map (some b)) (ht : tyMap P t = some (K, E)) (hu : Take L (itR ek ev r b l todo) R) (h : wpList P ops Q rest (a.put o.dst (.int .i64 l.length)) w) : wpList P ops Q (o :: rest) a w := by
  refine wpList_run hg (v := .int .i64 l.length) (w' := w) ?_ h
  unfold execOp
  simp [ho, resolve, invoke, builtin, hx, run_ilen (hS.take hu) ht]
theorem wl_arange {x : Operand} (hS : St W L w) (ho : o.op = .range t x) (hg : Region.wanted o (yielded ops a.tmps) = true) (hx : a.eval x = .map (some b)) (ht : tyMap P t = some (K, E)) (hu : Take L (amap ek ev b l) R)
    (h : ∀ r w', St W (itR ek ev r b l l :: R) w' → wpList P ops Q rest (a.put o.dst (.pointer (some ⟨r, 0, none⟩))) w') : wpList P ops Q (o :: rest) a w := by
  obtain ⟨r, w', hr, hS'⟩ := run_arange (P := P) (hS.take hu) ht
  refine wpList_run hg (v := .pointer (some ⟨r, 0, none⟩)) (w' := w') ?_ (h r w' hS')
  unfold execOp
  simp [ho, hx, hr]
theorem wl_inext {x : Operand} (hS : St W L w) (ho : o.op = .next x false) (hg : Region.wanted o (yielded ops a.tmps) = true) (hx : a.eval x = .pointer (some ⟨r, 0, none⟩)) (hu : Take L (itR ek ev r b l todo) R)
    (h0 : todo = [] → wpList P ops Q rest (a.put o.dst (.tuple #[.bool false])) w)
    (h1 : ∀ y todo', todo.Perm (y :: todo') → y ∈ l → ∀ w', St W (itAt ek ev r b l todo' y :: R) w' → wpList P ops Q rest (a.put o.dst (.tuple #[.bool true, ek y.1, ev y.2])) w') : wpList P ops Q (o :: rest) a w := by
  rcases run_inext (P := P) (ty := o.type) (hS.take hu) with ⟨h2, hr⟩ | ⟨y, todo', hp, hy, w', hr, hS'⟩
  · refine wpList_run hg (v := .tuple #[.bool false]) (w' := w) ?_ (h0 h2)
    unfold execOp
    simp [ho, hx, hr]
  · refine wpList_run hg (v := .tuple #[.bool true, ek y.1, ev y.2]) (w' := w') ?_ (h1 y todo' hp hy w' hS')
    unfold execOp
    simp [ho, hx, hr]
theorem wl_ientry {x : Operand} {y : κ × ν} (hS : St W L w) (ho : o.op = .entry x) (hg : Region.wanted o (yielded ops a.tmps) = true) (hx : a.eval x = .pointer (some ⟨r, 0, none⟩)) (hu : Take L (itAt ek ev r b l todo y) R)
    (h : St W (itR ek ev r b l todo :: R) w → wpList P ops Q rest (a.put o.dst (.tuple #[ek y.1, ev y.2])) w) : wpList P ops Q (o :: rest) a w := by
  refine wpList_run hg (v := .tuple #[ek y.1, ev y.2]) (w' := w) ?_ (h (itAtR (hS.take hu)))
  unfold execOp
  simp [ho, hx, run_ientry (hS.take hu)]
theorem itPerm {l' todo' : List (κ × ν)} (hp : l.Perm l') (hq : todo.Perm todo') (h : St W (itR ek ev r b l todo :: L) w) : St W (itR ek ev r b l' todo' :: L) w := by
  obtain ⟨q, ⟨h1, h2, h3, h4, h5⟩, hS⟩ := itOpen h
  exact itShut ⟨h1.trans hp, h2, h3, h4, h5.trans hq⟩ hS
theorem itAtPerm {l' todo' : List (κ × ν)} {x : κ × ν} (hp : l.Perm l') (hq : todo.Perm todo') (h : St W (itAt ek ev r b l todo x :: L) w) : St W (itAt ek ev r b l' todo' x :: L) w :=
  h.imp fun _ ⟨q, ⟨⟨h1, h2, h3, h4, h5⟩, h6⟩, h7⟩ => ⟨q, ⟨⟨h1.trans hp, h2, h3, h4, h5.trans hq⟩, h6⟩, h7⟩
theorem wl_inext0 {x : Operand} (hS : St W L w) (ho : o.op = .next x false) (hg : Region.wanted o (yielded ops a.tmps) = true) (hx : a.eval x = .pointer (some ⟨r, 0, none⟩)) (hu : Take L (itR ek ev r b l todo) R) (ht : todo = [])
    (h0 : wpList P ops Q rest (a.put o.dst (.tuple #[.bool false])) w) : wpList P ops Q (o :: rest) a w :=
  wl_inext hS ho hg hx hu (fun _ => h0) (fun y todo' hp _ _ _ => by rw [ht] at hp; exact absurd hp.length_eq (by simp))
theorem wl_inext1 {x : Operand} (hS : St W L w) (ho : o.op = .next x false) (hg : Region.wanted o (yielded ops a.tmps) = true) (hx : a.eval x = .pointer (some ⟨r, 0, none⟩)) (hu : Take L (itR ek ev r b l todo) R) (ht : todo ≠ [])
    (h1 : ∀ y todo', todo.Perm (y :: todo') → y ∈ l → ∀ w', St W (itAt ek ev r b l todo' y :: R) w' → wpList P ops Q rest (a.put o.dst (.tuple #[.bool true, ek y.1, ev y.2])) w') : wpList P ops Q (o :: rest) a w :=
  wl_inext hS ho hg hx hu (fun h => absurd h ht) h1
/-- How much a range has before it. -/
def itLeft (r b : Nat) (w : World) : Nat := match w.heap[r]?, w.heap[b]? with
  | some (.mapIter _ _ seen _), some (.map es _) => (es.toList.filter fun e => decide (e.born ∉ seen)).length
  | _, _ => 0
theorem itLeft_eq (h : St W (itR ek ev r b l todo :: L) w) : itLeft r b w = todo.length := by
  obtain ⟨⟨ps, c, since, c0, seen⟩, ⟨h1, h2, h3, h4, h5⟩, hS⟩ := itOpen h
  have e1 := hS.get (b := r) .head
  have e2 := hS.get (b := b) (.tail .head)
  unfold itLeft
  rw [e1, e2]
  have e3 : (((ps.map (evs ev)).map (entA ek)).toArray.toList.filter fun e => decide (e.born ∉ seen)).length = (ps.filter fun x => decide (x.2.2 ∉ seen)).length := by
    show (((ps.map (evs ev)).map (entA ek)).filter _).length = _
    rw [List.map_map, List.filter_map, List.length_map]
    rfl
  have e4 := h5.length_eq
  rw [List.length_map] at e4
  exact e3.trans e4
variable [DecidableEq κ]
/-- What a lookup hands back. -/
def lookR (ok : Bool) (z : Value) : Option Value → Value
  | some v => if ok then .tuple #[v, .bool true] else v
  | none => if ok then .tuple #[z, .bool false] else z
def getL (l : List (κ × ν)) (k : κ) : Option ν := (l.find? fun x => decide (x.1 = k)).map (·.2)
theorem getL_none {k : κ} (h : getL l k = none) : ∀ x ∈ l, x.1 ≠ k := by
  unfold getL at h
  rw [Option.map_eq_none_iff, List.find?_eq_none] at h
  intro x hx
  simpa using h x hx
theorem getL_some {k : κ} {v : ν} (h : getL l k = some v) : (k, v) ∈ l := by
  unfold getL at h
  obtain ⟨x, hx, rfl⟩ := Option.map_eq_some_iff.1 h
  have h1 := List.find?_some hx
  have h2 := List.mem_of_find?_eq_some hx
  simp only [decide_eq_true_eq] at h1
  rw [← h1]; exact h2
theorem getL_no {k : κ} (h : ∀ x ∈ l, x.1 ≠ k) : getL l k = none := by
  unfold getL
  rw [Option.map_eq_none_iff, List.find?_eq_none]
  intro x hx
  simpa using h x hx
theorem getL_at {k : κ} {v : ν} (hn : (l.map (·.1)).Nodup) (h : (k, v) ∈ l) : getL l k = some v := by
  induction l with
  | nil => cases h
  | cons x l ih =>
    rw [List.map_cons, List.nodup_cons] at hn
    unfold getL at ih ⊢
    rcases List.mem_cons.1 h with h1 | h1
    · subst h1; simp
    · have hx : x.1 ≠ k := fun e => hn.1 (List.mem_map.2 ⟨_, h1, e.symm⟩)
      rw [List.find?_cons_of_neg (by simpa using hx)]
      exact ih hn.2 h1
theorem getL_perm {l l' : List (κ × ν)} (hn : (l.map (·.1)).Nodup) (hp : l.Perm l') (k : κ) : getL l k = getL l' k := by
  cases h : getL l k with
  | some v => exact (getL_at ((hp.map (·.1)).nodup_iff.1 hn) (hp.mem_iff.1 (getL_some h))).symm
  | none => exact (getL_no fun x hx => getL_none h x (hp.mem_iff.2 hx)).symm
theorem getL_put {k : κ} {u v : ν} : ∀ {l : List (κ × ν)}, (k, u) ∈ l → getL (putL l k v) k = some v
  | x :: l, h => by
    by_cases hx : x.1 = k
    · have e : putL (x :: l) k v = (x.1, v) :: putL l k v := by
        have : putL (x :: l) k v = (if x.1 = k then (x.1, v) else x) :: putL l k v := rfl
        rw [this, if_pos hx]
      rw [e]; unfold getL; simp [hx]
    · have e : putL (x :: l) k v = x :: putL l k v := by
        have : putL (x :: l) k v = (if x.1 = k then (x.1, v) else x) :: putL l k v := rfl
        rw [this, if_neg hx]
      have h' : (k, u) ∈ l := by
        rcases List.mem_cons.1 h with h | h
        · exact absurd (by rw [← h]) hx
        · exact h
      have ih := getL_put (v := v) h'
      rw [e]
      unfold getL at ih ⊢
      rw [List.find?_cons_of_neg (by simpa using hx)]
      exact ih
theorem run_alook {k : κ} {z : Value} {ok : Bool} (h : St W (amap ek ev b l :: L) w) (ht : tyMap P t = some (K, E)) (hK : KeyOk P K ek) (hz : tyZeroV P E = some z) :
    (Instr.lookup t (.map (some b)) (ek k) ok).run P w = .ok (lookR ok z ((getL l k).map ev)) w := by
  cases hg : getL l k with
  | some v => exact run_alook_at (x := (k, v)) h ht hK (getL_some hg)
  | none => exact run_alook_no h ht hK hz (getL_none hg)
/-- A lookup. -/
theorem wl_alook {x y : Operand} {k : κ} {z : Value} {ok : Bool} (hS : St W L w) (ho : o.op = .lookup t x y ok) (hg : Region.wanted o (yielded ops a.tmps) = true) (hx : a.eval x = .map (some b)) (hy : a.eval y = ek k) (hu : Take L (amap ek ev b l) R)
    (ht : tyMap P t = some (K, E)) (hK : KeyOk P K ek) (hz : tyZeroV P E = some z) (h : wpList P ops Q rest (a.put o.dst (lookR ok z ((getL l k).map ev))) w) : wpList P ops Q (o :: rest) a w := by
  refine wpList_run hg (w' := w) ?_ h
  unfold execOp
  simp [ho, hx, hy, run_alook (hS.take hu) ht hK hz]
theorem wl_ilook {x y : Operand} {k : κ} {z : Value} {ok : Bool} (hS : St W L w) (ho : o.op = .lookup t x y ok) (hg : Region.wanted o (yielded ops a.tmps) = true) (hx : a.eval x = .map (some b)) (hy : a.eval y = ek k) (hu : Take L (itR ek ev r b l todo) R)
    (ht : tyMap P t = some (K, E)) (hK : KeyOk P K ek) (hz : tyZeroV P E = some z) (h : wpList P ops Q rest (a.put o.dst (lookR ok z ((getL l k).map ev))) w) : wpList P ops Q (o :: rest) a w := by
  refine wpList_run hg (w' := w) ?_ h
  unfold execOp
  simp [ho, hx, hy, run_alook (itEnd (hS.take hu)) ht hK hz]
/-- A lookup in a nil map. -/
theorem wl_nlook {x y : Operand} {k : κ} {z : Value} {ok : Bool} (ek : κ → Value) (ho : o.op = .lookup t x y ok) (hg : Region.wanted o (yielded ops a.tmps) = true) (hx : a.eval x = .map none) (hy : a.eval y = ek k)
    (ht : tyMap P t = some (K, E)) (hK : KeyOk P K ek) (hz : tyZeroV P E = some z) (h : wpList P ops Q rest (a.put o.dst (lookR ok z none)) w) : wpList P ops Q (o :: rest) a w := by
  refine wpList_run hg (w' := w) ?_ h
  unfold execOp
  simp [ho, hx, hy, runA_look_nil ht hK hz, lookR]
/-- The same, one rule for each case. -/
theorem wl_alook1 {x y : Operand} {k : κ} {u : ν} {z : Value} (hS : St W L w) (ho : o.op = .lookup t x y false) (hg : Region.wanted o (yielded ops a.tmps) = true) (hx : a.eval x = .map (some b)) (hy : a.eval y = ek k) (hu : Take L (amap ek ev b l) R)
    (ht : tyMap P t = some (K, E)) (hK : KeyOk P K ek) (hz : tyZeroV P E = some z) (hgl : getL l k = some u) (h : wpList P ops Q rest (a.put o.dst (ev u)) w) : wpList P ops Q (o :: rest) a w :=
  wl_alook hS ho hg hx hy hu ht hK hz (by rw [hgl]; exact h)
theorem wl_alook0 {x y : Operand} {k : κ} {z : Value} (hS : St W L w) (ho : o.op = .lookup t x y false) (hg : Region.wanted o (yielded ops a.tmps) = true) (hx : a.eval x = .map (some b)) (hy : a.eval y = ek k) (hu : Take L (amap ek ev b l) R)
    (ht : tyMap P t = some (K, E)) (hK : KeyOk P K ek) (hz : tyZeroV P E = some z) (hgl : getL l k = none) (h : wpList P ops Q rest (a.put o.dst z) w) : wpList P ops Q (o :: rest) a w :=
  wl_alook hS ho hg hx hy hu ht hK hz (by rw [hgl]; exact h)
theorem wl_alook1k {x y : Operand} {k : κ} {u : ν} {z : Value} (hS : St W L w) (ho : o.op = .lookup t x y true) (hg : Region.wanted o (yielded ops a.tmps) = true) (hx : a.eval x = .map (some b)) (hy : a.eval y = ek k) (hu : Take L (amap ek ev b l) R)
    (ht : tyMap P t = some (K, E)) (hK : KeyOk P K ek) (hz : tyZeroV P E = some z) (hgl : getL l k = some u) (h : wpList P ops Q rest (a.put o.dst (.tuple #[ev u, .bool true])) w) : wpList P ops Q (o :: rest) a w :=
  wl_alook hS ho hg hx hy hu ht hK hz (by rw [hgl]; exact h)
theorem wl_alook0k {x y : Operand} {k : κ} {z : Value} (hS : St W L w) (ho : o.op = .lookup t x y true) (hg : Region.wanted o (yielded ops a.tmps) = true) (hx : a.eval x = .map (some b)) (hy : a.eval y = ek k) (hu : Take L (amap ek ev b l) R)
    (ht : tyMap P t = some (K, E)) (hK : KeyOk P K ek) (hz : tyZeroV P E = some z) (hgl : getL l k = none) (h : wpList P ops Q rest (a.put o.dst (.tuple #[z, .bool false])) w) : wpList P ops Q (o :: rest) a w :=
  wl_alook hS ho hg hx hy hu ht hK hz (by rw [hgl]; exact h)
theorem wl_ilook1 {x y : Operand} {k : κ} {u : ν} {z : Value} (hS : St W L w) (ho : o.op = .lookup t x y false) (hg : Region.wanted o (yielded ops a.tmps) = true) (hx : a.eval x = .map (some b)) (hy : a.eval y = ek k) (hu : Take L (itR ek ev r b l todo) R)
    (ht : tyMap P t = some (K, E)) (hK : KeyOk P K ek) (hz : tyZeroV P E = some z) (hgl : getL l k = some u) (h : wpList P ops Q rest (a.put o.dst (ev u)) w) : wpList P ops Q (o :: rest) a w :=
  wl_ilook hS ho hg hx hy hu ht hK hz (by rw [hgl]; exact h)
/-- A store. -/
theorem wl_aset {x y v : Operand} {k : κ} {u : ν} (hS : St W L w) (ho : o.op = .mapUpdate t x y v) (hg : Region.wanted o (yielded ops a.tmps) = true) (hx : a.eval x = .map (some b)) (hy : a.eval y = ek k) (hu : Take L (amap ek ev b l) R) (hv : a.eval v = ev u)
    (ht : tyMap P t = some (K, E)) (hK : KeyOk P K ek) (h : ∀ w', St W (amap ek ev b ((k, u) :: delL l k) :: R) w' → wpList P ops Q rest (a.put o.dst undef) w') : wpList P ops Q (o :: rest) a w := by
  obtain ⟨w', hr, hS'⟩ := run_aset (P := P) (k := k) (v := u) (hS.take hu) ht hK
  refine wpList_runSkip hg (w' := w') ?_ (h w' hS')
  unfold execOp
  simp [ho, hx, hy, hv, hr]
theorem wl_iset {x y v : Operand} {k : κ} {u u0 : ν} (hS : St W L w) (ho : o.op = .mapUpdate t x y v) (hg : Region.wanted o (yielded ops a.tmps) = true) (hx : a.eval x = .map (some b)) (hy : a.eval y = ek k) (hu : Take L (itR ek ev r b l todo) R) (hv : a.eval v = ev u)
    (ht : tyMap P t = some (K, E)) (hK : KeyOk P K ek) (h0 : (k, u0) ∈ l) (hk : ∀ x ∈ todo, x.1 ≠ k) (h : ∀ w', St W (itR ek ev r b (putL l k u) todo :: R) w' → wpList P ops Q rest (a.put o.dst undef) w') : wpList P ops Q (o :: rest) a w := by
  obtain ⟨w', hr, hS'⟩ := run_iset (P := P) (k := k) (v := u) (hS.take hu) ht hK h0 hk
  refine wpList_runSkip hg (w' := w') ?_ (h w' hS')
  unfold execOp
  simp [ho, hx, hy, hv, hr]
theorem wl_adel {x y : Operand} {k : κ} {k2 : TypeId} (hS : St W L w) (ho : o.op = .call { callee := .builtin .delete, args := #[x, y], argTypes := #[t, k2] }) (hg : Region.wanted o (yielded ops a.tmps) = true) (hx : a.eval x = .map (some b)) (hy : a.eval y = ek k) (hu : Take L (amap ek ev b l) R)
    (ht : tyMap P t = some (K, E)) (hK : KeyOk P K ek) (h : ∀ w', St W (amap ek ev b (delL l k) :: R) w' → wpList P ops Q rest (a.put o.dst (.tuple #[])) w') : wpList P ops Q (o :: rest) a w := by
  obtain ⟨w', hr, hS'⟩ := run_adel (P := P) (k := k) (k2 := k2) (ty := o.type) (hS.take hu) ht hK
  refine wpList_run hg (v := .tuple #[]) (w' := w') ?_ (h w' hS')
  unfold execOp
  simp [ho, resolve, invoke, builtin, hx, hy, hr]
theorem wl_idel {x y : Operand} {k : κ} {k2 : TypeId} (hS : St W L w) (ho : o.op = .call { callee := .builtin .delete, args := #[x, y], argTypes := #[t, k2] }) (hg : Region.wanted o (yielded ops a.tmps) = true) (hx : a.eval x = .map (some b)) (hy : a.eval y = ek k) (hu : Take L (itR ek ev r b l todo) R)
    (ht : tyMap P t = some (K, E)) (hK : KeyOk P K ek) (hk : ∀ x ∈ todo, x.1 ≠ k) (h : ∀ w', St W (itR ek ev r b (delL l k) todo :: R) w' → wpList P ops Q rest (a.put o.dst (.tuple #[])) w') : wpList P ops Q (o :: rest) a w := by
  obtain ⟨w', hr, hS'⟩ := run_idel (P := P) (k := k) (k2 := k2) (ty := o.type) (hS.take hu) ht hK hk
  refine wpList_run hg (v := .tuple #[]) (w' := w') ?_ (h w' hS')
  unfold execOp
  simp [ho, resolve, invoke, builtin, hx, hy, hr]
end
end Go.Sl
