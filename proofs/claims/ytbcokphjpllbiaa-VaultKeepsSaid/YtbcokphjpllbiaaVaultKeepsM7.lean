/-
  Maps as resources up to order: what may be done to a map while a range walks over it; the walk's rules. Over any program; no condition.
  The vault's purses: Has, lays, Put, Take. For every vault.
-/
import Derived.Test.YtbcokphjpllbiaaVaultKeepsM6

section
set_option linter.unusedSimpArgs false
set_option linter.unusedVariables false
namespace Go.Sl
open Go.RowKit
section
variable {κ ν : Type}
theorem todo_key {ps : List (κ × ν × Nat)} {todo : List (κ × ν)} {seen : Array Nat} {k : κ} (hp : ((ps.filter fun x => decide (x.2.2 ∉ seen)).map prj).Perm todo) (hk : ∀ x ∈ todo, x.1 ≠ k) : ∀ x ∈ ps, x.2.2 ∉ seen → x.1 ≠ k := by
  intro x hx hs
  exact hk (prj x) (hp.mem_iff.1 (List.mem_map_of_mem (List.mem_filter.2 ⟨hx, by simpa using hs⟩)))
end
section
variable {κ ν : Type} [DecidableEq κ] {W w : World} {L : List HP} {ek : κ → Value} {ev : ν → Value} {b r : Nat} {l todo : List (κ × ν)} {P : Program} {t K E : TypeId}
theorem run_ilook_at {x : κ × ν} {ok : Bool} (h : St W (itR ek ev r b l todo :: L) w) (ht : tyMap P t = some (K, E)) (hK : KeyOk P K ek) (hx : x ∈ l) :
    (Instr.lookup t (.map (some b)) (ek x.1) ok).run P w = .ok (if ok then .tuple #[ev x.2, .bool true] else ev x.2) w := run_alook_at (itEnd h) ht hK hx
theorem run_ilook_no {k : κ} {z : Value} {ok : Bool} (h : St W (itR ek ev r b l todo :: L) w) (ht : tyMap P t = some (K, E)) (hK : KeyOk P K ek) (hz : tyZeroV P E = some z) (hk : ∀ x ∈ l, x.1 ≠ k) :
    (Instr.lookup t (.map (some b)) (ek k) ok).run P w = .ok (if ok then .tuple #[z, .bool false] else z) w := run_alook_no (itEnd h) ht hK hz hk
theorem todo_set {ps : List (κ × ν × Nat)} {seen : Array Nat} {k : κ} {v : ν} (hk : ∀ x ∈ ps, x.2.2 ∉ seen → x.1 ≠ k) :
    ((ps.map fun x => if x.1 = k then (x.1, v, x.2.2) else x).filter fun x => decide (x.2.2 ∉ seen)) = ps.filter fun x => decide (x.2.2 ∉ seen) := by
  induction ps with
  | nil => rfl
  | cons x ps ih =>
    have ih := ih fun y hy => hk y (List.mem_cons_of_mem _ hy)
    by_cases hs : x.2.2 ∈ seen
    · have e2 : List.filter (fun x => decide (x.2.2 ∉ seen)) (x :: ps) = ps.filter (fun x => decide (x.2.2 ∉ seen)) := by rw [List.filter_cons, if_neg (by simpa using hs)]
      rw [e2, List.map_cons, List.filter_cons, if_neg, ih]
      by_cases hx : x.1 = k
      · rw [if_pos hx]; simpa using hs
      · rw [if_neg hx]; simpa using hs
    · have hx := hk x (List.mem_cons_self ..) hs
      rw [List.map_cons, if_neg hx, List.filter_cons, if_pos (by simpa using hs), List.filter_cons, if_pos (by simpa using hs), ih]
theorem todo_del {ps : List (κ × ν × Nat)} {seen : Array Nat} {k : κ} (hk : ∀ x ∈ ps, x.2.2 ∉ seen → x.1 ≠ k) :
    ((ps.filter fun x => decide (x.1 ≠ k)).filter fun x => decide (x.2.2 ∉ seen)) = ps.filter fun x => decide (x.2.2 ∉ seen) := by
  rw [List.filter_filter]
  refine List.filter_congr fun x hx => ?_
  by_cases hs : x.2.2 ∈ seen
  · simp [hs]
  · simp [hs, hk x hx hs]
theorem run_iset {k : κ} {u v : ν} (h : St W (itR ek ev r b l todo :: L) w) (ht : tyMap P t = some (K, E)) (hK : KeyOk P K ek) (hu : (k, u) ∈ l) (hk : ∀ x ∈ todo, x.1 ≠ k) :
    ∃ w', (Instr.mapUpdate t (.map (some b)) (ek k) (ev v)).run P w = .ok () w' ∧ St W (itR ek ev r b (putL l k v) todo :: L) w' := by
  obtain ⟨⟨ps, c, since, c0, seen⟩, ⟨h1, h2, h3, h4, h5⟩, hS⟩ := itOpen h
  obtain ⟨s, hs⟩ := mem_prj h1 hu
  obtain ⟨w', hr, hS'⟩ := runA_set_at (v := ev v) hS.swap ht hK (by rw [evs_keys]; exact h2.ks) (mem_evs hs)
  rw [evs_setA] at hS'
  refine ⟨w', hr, itShut (q := ⟨_, c, since, c0, seen⟩) ⟨?_, h2.set k v, h3, h4, ?_⟩ hS'.swap⟩
  · rw [set_prj]; exact putL_perm h1 k v
  · rw [todo_set (todo_key h5 hk)]; exact h5
theorem run_idel {k : κ} {k2 ty : TypeId} (h : St W (itR ek ev r b l todo :: L) w) (ht : tyMap P t = some (K, E)) (hK : KeyOk P K ek) (hk : ∀ x ∈ todo, x.1 ≠ k) :
    ∃ w', (Builtin.delete_ #[t, k2] ty #[.map (some b), ek k]).run P w = .ok (.tuple #[]) w' ∧ St W (itR ek ev r b (delL l k) todo :: L) w' := by
  obtain ⟨⟨ps, c, since, c0, seen⟩, ⟨h1, h2, h3, h4, h5⟩, hS⟩ := itOpen h
  obtain ⟨w', hr, hS'⟩ := runA_del (k := k) (k2 := k2) (ty := ty) hS.swap ht hK (by rw [evs_keys]; exact h2.ks)
  rw [evs_delA] at hS'
  refine ⟨w', hr, itShut (q := ⟨_, c, since, c0, seen⟩) ⟨?_, h2.del k, h3, h4, ?_⟩ hS'.swap⟩
  · rw [del_prj]; exact delL_perm h1 k
  · rw [todo_del (todo_key h5 hk)]; exact h5
end
section
variable {κ ν : Type} {W w : World} {L : List HP} {ek : κ → Value} {ev : ν → Value} {b r : Nat} {l todo : List (κ × ν)} {P : Program} {t K E : TypeId}
theorem run_alen {ty : TypeId} (h : St W (amap ek ev b l :: L) w) (ht : tyMap P t = some (K, E)) : (Builtin.len_ #[t] ty #[.map (some b)]).run P w = .ok (.int .i64 l.length) w := by
  obtain ⟨ps, c, h1, h2, h3⟩ := amapOpen h
  have hl : ps.length = l.length := by have := h1.length_eq; rwa [List.length_map] at this
  simp [Builtin.len_, run_underlying (P := P) (tyMap_spec ht), map_get h3, goInt, hl]
theorem run_ilen {ty : TypeId} (h : St W (itR ek ev r b l todo :: L) w) (ht : tyMap P t = some (K, E)) : (Builtin.len_ #[t] ty #[.map (some b)]).run P w = .ok (.int .i64 l.length) w := run_alen (itEnd h) ht
end
/-! The walk's rules. -/
section
variable {κ ν : Type} {W w : World} {L R : List HP} {ek : κ → Value} {ev : ν → Value} {b r : Nat} {l todo : List (κ × ν)} {P : Program} {t K E : TypeId} {ops : Array Oper} {Q : Exit → Act → World → Prop} {a : Act} {rest : List Oper} {o : Oper}
/-- A map compared with nil. -/
theorem wl_eqMapNil {t2 : TypeId} {x y : Operand} {m : Option Nat} (ho : o.op = .binOp .eql t x y t2) (hg : Region.wanted o (yielded ops a.tmps) = true) (hx : a.eval x = .map m) (hy : a.eval y = .map none) (ht : tyMap P t = some (K, E))
    (h : wpList P ops Q rest (a.put o.dst (.bool m.isNone)) w) : wpList P ops Q (o :: rest) a w := by
  refine wpList_run hg (v := .bool m.isNone) (w' := w) ?_ h
  unfold execOp
  have hq : (eqGuard .eql t x y (.map m) (.map none)).run P w = .ok () w := by unfold eqGuard; simp
  simp [ho, hx, hy, hq, run_eql_map_nil w t K E m (tyMap_spec ht)]
theorem wl_amake (ek : κ → Value) (ev : ν → Value) (hS : St W L w) (ho : o.op = .makeMap t none) (hg : Region.wanted o (yielded ops a.tmps) = true)
    (h : ∀ b w', St W (amap ek ev b [] :: L) w' → wpList P ops Q rest (a.put o.dst (.map (some b))) w') : wpList P ops Q (o :: rest) a w := by
  obtain ⟨b, w', hr, hS'⟩ := run_amake (P := P) (t := t) (ek := ek) (ev := ev) hS
  refine wpList_run hg (v := .map (some b)) (w' := w') ?_ (h b w' hS')
  unfold execOp
  simp [ho, hr]
theorem wl_alen {x : Operand} (hS : St W L w) (ho : o.op = .call { callee := .builtin .len, args := #[x], argTypes := #[t] }) (hg : Region.wanted o (yielded ops a.tmps) = true)
    (hx : a.eval x = .map (some b)) (ht : tyMap P t = some (K, E)) (hu : Take L (amap ek ev b l) R) (h : wpList P ops Q rest (a.put o.dst (.int .i64 l.length)) w) : wpList P ops Q (o :: rest) a w := by
  refine wpList_run hg (v := .int .i64 l.length) (w' := w) ?_ h
  unfold execOp
  simp [ho, resolve, invoke, builtin, hx, run_alen (hS.take hu) ht]
theorem wl_ilen {x : Operand} (hS : St W L w) (ho : o.op = .call { callee := .builtin .len, args := #[x], argTypes := #[t] }) (hg : Region.wanted o (yielded ops a.tmps) = true)
    (hx : a.eval x = .map (some b)) (ht : tyMap P t = some (K, E)) (hu : Take L (itR ek ev r b l todo) R) (h : wpList P ops Q rest (a.put o.dst (.int .i64 l.length)) w) : wpList P ops Q (o :: rest) a w := by
  refine wpList_run hg (v := .int .i64 l.length) (w' := w) ?_ h
  unfold execOp
  simp [ho, resolve, invoke, builtin, hx, run_ilen (hS.take hu) ht]
theorem wl_arange {x : Operand} (hS : St W L w) (ho : o.op = .range t x) (hg : Region.wanted o (yielded ops a.tmps) = true) (hx : a.eval x = .map (some b)) (ht : tyMap P t = some (K, E)) (hu : Take L (amap ek ev b l) R)
    (h : ∀ r w', St W (itR ek ev r b l l :: R) w' → wpList P ops Q rest (a.put o.dst (.pointer (some ⟨r, 0, none⟩))) w') : wpList P ops Q (o :: rest) a w := by
  obtain ⟨r, w', hr, hS'⟩ := run_arange (P := P) (hS.take hu) ht
  refine wpList_run hg (v := .pointer (some ⟨r, 0, none⟩)) (w' := w') ?_ (h r w' hS')
  unfold execOp
  simp [ho, hx, hr]
theorem wl_inext {x : Operand} (hS : St W L w) (ho : o.op = .next x false) (hg : Region.wanted o (yielded ops a.tmps) = true) (hx : a.eval x = .pointer (some ⟨r, 0, none⟩)) (hu : Take L (itR ek ev r b l todo) R)
    (h0 : todo = [] → wpList P ops Q rest (a.put o.dst (.tuple #[.bool false])) w)
    (h1 : ∀ y todo', todo.Perm (y :: todo') → y ∈ l → ∀ w', St W (itAt ek ev r b l todo' y :: R) w' → wpList P ops Q rest (a.put o.dst (.tuple #[.bool true, ek y.1, ev y.2])) w') : wpList P ops Q (o :: rest) a w := by
  rcases run_inext (P := P) (ty := o.type) (hS.take hu) with ⟨h2, hr⟩ | ⟨y, todo', hp, hy, w', hr, hS'⟩
  · refine wpList_run hg (v := .tuple #[.bool false]) (w' := w) ?_ (h0 h2)
    unfold execOp
    simp [ho, hx, hr]
  · refine wpList_run hg (v := .tuple #[.bool true, ek y.1, ev y.2]) (w' := w') ?_ (h1 y todo' hp hy w' hS')
    unfold execOp
    simp [ho, hx, hr]
theorem wl_ientry {x : Operand} {y : κ × ν} (hS : St W L w) (ho : o.op = .entry x) (hg : Region.wanted o (yielded ops a.tmps) = true) (hx : a.eval x = .pointer (some ⟨r, 0, none⟩)) (hu : Take L (itAt ek ev r b l todo y) R)
    (h : St W (itR ek ev r b l todo :: R) w → wpList P ops Q rest (a.put o.dst (.tuple #[ek y.1, ev y.2])) w) : wpList P ops Q (o :: rest) a w := by
  refine wpList_run hg (v := .tuple #[ek y.1, ev y.2]) (w' := w) ?_ (h (itAtR (hS.take hu)))
  unfold execOp
  simp [ho, hx, run_ientry (hS.take hu)]
theorem itPerm {l' todo' : List (κ × ν)} (hp : l.Perm l') (hq : todo.Perm todo') (h : St W (itR ek ev r b l todo :: L) w) : St W (itR ek ev r b l' todo' :: L) w := by
  obtain ⟨q, ⟨h1, h2, h3, h4, h5⟩, hS⟩ := itOpen h
  exact itShut ⟨h1.trans hp, h2, h3, h4, h5.trans hq⟩ hS
theorem itAtPerm {l' todo' : List (κ × ν)} {x : κ × ν} (hp : l.Perm l') (hq : todo.Perm todo') (h : St W (itAt ek ev r b l todo x :: L) w) : St W (itAt ek ev r b l' todo' x :: L) w :=
  h.imp fun _ ⟨q, ⟨⟨h1, h2, h3, h4, h5⟩, h6⟩, h7⟩ => ⟨q, ⟨⟨h1.trans hp, h2, h3, h4, h5.trans hq⟩, h6⟩, h7⟩
theorem wl_inext0 {x : Operand} (hS : St W L w) (ho : o.op = .next x false) (hg : Region.wanted o (yielded ops a.tmps) = true) (hx : a.eval x = .pointer (some ⟨r, 0, none⟩)) (hu : Take L (itR ek ev r b l todo) R) (ht : todo = [])
    (h0 : wpList P ops Q rest (a.put o.dst (.tuple #[.bool false])) w) : wpList P ops Q (o :: rest) a w :=
  wl_inext hS ho hg hx hu (fun _ => h0) (fun y todo' hp _ _ _ => by rw [ht] at hp; exact absurd hp.length_eq (by simp))
theorem wl_inext1 {x : Operand} (hS : St W L w) (ho : o.op = .next x false) (hg : Region.wanted o (yielded ops a.tmps) = true) (hx : a.eval x = .pointer (some ⟨r, 0, none⟩)) (hu : Take L (itR ek ev r b l todo) R) (ht : todo ≠ [])
    (h1 : ∀ y todo', todo.Perm (y :: todo') → y ∈ l → ∀ w', St W (itAt ek ev r b l todo' y :: R) w' → wpList P ops Q rest (a.put o.dst (.tuple #[.bool true, ek y.1, ev y.2])) w') : wpList P ops Q (o :: rest) a w :=
  wl_inext hS ho hg hx hu (fun h => absurd h ht) h1
/-- How much a range has before it. -/
def itLeft (r b : Nat) (w : World) : Nat := match w.heap[r]?, w.heap[b]? with
  | some (.mapIter _ _ seen _), some (.map es _) => (es.toList.filter fun e => decide (e.born ∉ seen)).length
  | _, _ => 0
theorem itLeft_eq (h : St W (itR ek ev r b l todo :: L) w) : itLeft r b w = todo.length := by
  obtain ⟨⟨ps, c, since, c0, seen⟩, ⟨h1, h2, h3, h4, h5⟩, hS⟩ := itOpen h
  have e1 := hS.get (b := r) .head
  have e2 := hS.get (b := b) (.tail .head)
  unfold itLeft
  rw [e1, e2]
  have e3 : (((ps.map (evs ev)).map (entA ek)).toArray.toList.filter fun e => decide (e.born ∉ seen)).length = (ps.filter fun x => decide (x.2.2 ∉ seen)).length := by
    show (((ps.map (evs ev)).map (entA ek)).filter _).length = _
    rw [List.map_map, List.filter_map, List.length_map]
    rfl
  have e4 := h5.length_eq
  rw [List.length_map] at e4
  exact e3.trans e4
variable [DecidableEq κ]
/-- What a lookup hands back. -/
def lookR (ok : Bool) (z : Value) : Option Value → Value
  | some v => if ok then .tuple #[v, .bool true] else v
  | none => if ok then .tuple #[z, .bool false] else z
def getL (l : List (κ × ν)) (k : κ) : Option ν := (l.find? fun x => decide (x.1 = k)).map (·.2)
theorem getL_none {k : κ} (h : getL l k = none) : ∀ x ∈ l, x.1 ≠ k := by
  unfold getL at h
  rw [Option.map_eq_none_iff, List.find?_eq_none] at h
  intro x hx
  simpa using h x hx
theorem getL_some {k : κ} {v : ν} (h : getL l k = some v) : (k, v) ∈ l := by
  unfold getL at h
  obtain ⟨x, hx, rfl⟩ := Option.map_eq_some_iff.1 h
  have h1 := List.find?_some hx
  have h2 := List.mem_of_find?_eq_some hx
  simp only [decide_eq_true_eq] at h1
  rw [← h1]; exact h2
theorem getL_no {k : κ} (h : ∀ x ∈ l, x.1 ≠ k) : getL l k = none := by
  unfold getL
  rw [Option.map_eq_none_iff, List.find?_eq_none]
  intro x hx
  simpa using h x hx
theorem getL_at {k : κ} {v : ν} (hn : (l.map (·.1)).Nodup) (h : (k, v) ∈ l) : getL l k = some v := by
  induction l with
  | nil => cases h
  | cons x l ih =>
    rw [List.map_cons, List.nodup_cons] at hn
    unfold getL at ih ⊢
    rcases List.mem_cons.1 h with h1 | h1
    · subst h1; simp
    · have hx : x.1 ≠ k := fun e => hn.1 (List.mem_map.2 ⟨_, h1, e.symm⟩)
      rw [List.find?_cons_of_neg (by simpa using hx)]
      exact ih hn.2 h1
theorem getL_perm {l l' : List (κ × ν)} (hn : (l.map (·.1)).Nodup) (hp : l.Perm l') (k : κ) : getL l k = getL l' k := by
  cases h : getL l k with
  | some v => exact (getL_at ((hp.map (·.1)).nodup_iff.1 hn) (hp.mem_iff.1 (getL_some h))).symm
  | none => exact (getL_no fun x hx => getL_none h x (hp.mem_iff.2 hx)).symm
theorem getL_put {k : κ} {u v : ν} : ∀ {l : List (κ × ν)}, (k, u) ∈ l → getL (putL l k v) k = some v
  | x :: l, h => by
    by_cases hx : x.1 = k
    · have e : putL (x :: l) k v = (x.1, v) :: putL l k v := by
        have : putL (x :: l) k v = (if x.1 = k then (x.1, v) else x) :: putL l k v := rfl
        rw [this, if_pos hx]
      rw [e]; unfold getL; simp [hx]
    · have e : putL (x :: l) k v = x :: putL l k v := by
        have : putL (x :: l) k v = (if x.1 = k then (x.1, v) else x) :: putL l k v := rfl
        rw [this, if_neg hx]
      have h' : (k, u) ∈ l := by
        rcases List.mem_cons.1 h with h | h
        · exact absurd (by rw [← h]) hx
        · exact h
      have ih := getL_put (v := v) h'
      rw [e]
      unfold getL at ih ⊢
      rw [List.find?_cons_of_neg (by simpa using hx)]
      exact ih
theorem run_alook {k : κ} {z : Value} {ok : Bool} (h : St W (amap ek ev b l :: L) w) (ht : tyMap P t = some (K, E)) (hK : KeyOk P K ek) (hz : tyZeroV P E = some z) :
    (Instr.lookup t (.map (some b)) (ek k) ok).run P w = .ok (lookR ok z ((getL l k).map ev)) w := by
  cases hg : getL l k with
  | some v => exact run_alook_at (x := (k, v)) h ht hK (getL_some hg)
  | none => exact run_alook_no h ht hK hz (getL_none hg)
/-- A lookup. -/
theorem wl_alook {x y : Operand} {k : κ} {z : Value} {ok : Bool} (hS : St W L w) (ho : o.op = .lookup t x y ok) (hg : Region.wanted o (yielded ops a.tmps) = true) (hx : a.eval x = .map (some b)) (hy : a.eval y = ek k) (hu : Take L (amap ek ev b l) R)
    (ht : tyMap P t = some (K, E)) (hK : KeyOk P K ek) (hz : tyZeroV P E = some z) (h : wpList P ops Q rest (a.put o.dst (lookR ok z ((getL l k).map ev))) w) : wpList P ops Q (o :: rest) a w := by
  refine wpList_run hg (w' := w) ?_ h
  unfold execOp
  simp [ho, hx, hy, run_alook (hS.take hu) ht hK hz]
theorem wl_ilook {x y : Operand} {k : κ} {z : Value} {ok : Bool} (hS : St W L w) (ho : o.op = .lookup t x y ok) (hg : Region.wanted o (yielded ops a.tmps) = true) (hx : a.eval x = .map (some b)) (hy : a.eval y = ek k) (hu : Take L (itR ek ev r b l todo) R)
    (ht : tyMap P t = some (K, E)) (hK : KeyOk P K ek) (hz : tyZeroV P E = some z) (h : wpList P ops Q rest (a.put o.dst (lookR ok z ((getL l k).map ev))) w) : wpList P ops Q (o :: rest) a w := by
  refine wpList_run hg (w' := w) ?_ h
  unfold execOp
  simp [ho, hx, hy, run_alook (itEnd (hS.take hu)) ht hK hz]
/-- A lookup in a nil map. -/
theorem wl_nlook {x y : Operand} {k : κ} {z : Value} {ok : Bool} (ek : κ → Value) (ho : o.op = .lookup t x y ok) (hg : Region.wanted o (yielded ops a.tmps) = true) (hx : a.eval x = .map none) (hy : a.eval y = ek k)
    (ht : tyMap P t = some (K, E)) (hK : KeyOk P K ek) (hz : tyZeroV P E = some z) (h : wpList P ops Q rest (a.put o.dst (lookR ok z none)) w) : wpList P ops Q (o :: rest) a w := by
  refine wpList_run hg (w' := w) ?_ h
  unfold execOp
  simp [ho, hx, hy, runA_look_nil ht hK hz, lookR]
/-- The same, one rule for each case. -/
theorem wl_alook1 {x y : Operand} {k : κ} {u : ν} {z : Value} (hS : St W L w) (ho : o.op = .lookup t x y false) (hg : Region.wanted o (yielded ops a.tmps) = true) (hx : a.eval x = .map (some b)) (hy : a.eval y = ek k) (hu : Take L (amap ek ev b l) R)
    (ht : tyMap P t = some (K, E)) (hK : KeyOk P K ek) (hz : tyZeroV P E = some z) (hgl : getL l k = some u) (h : wpList P ops Q rest (a.put o.dst (ev u)) w) : wpList P ops Q (o :: rest) a w :=
  wl_alook hS ho hg hx hy hu ht hK hz (by rw [hgl]; exact h)
theorem wl_alook0 {x y : Operand} {k : κ} {z : Value} (hS : St W L w) (ho : o.op = .lookup t x y false) (hg : Region.wanted o (yielded ops a.tmps) = true) (hx : a.eval x = .map (some b)) (hy : a.eval y = ek k) (hu : Take L (amap ek ev b l) R)
    (ht : tyMap P t = some (K, E)) (hK : KeyOk P K ek) (hz : tyZeroV P E = some z) (hgl : getL l k = none) (h : wpList P ops Q rest (a.put o.dst z) w) : wpList P ops Q (o :: rest) a w :=
  wl_alook hS ho hg hx hy hu ht hK hz (by rw [hgl]; exact h)
theorem wl_alook1k {x y : Operand} {k : κ} {u : ν} {z : Value} (hS : St W L w) (ho : o.op = .lookup t x y true) (hg : Region.wanted o (yielded ops a.tmps) = true) (hx : a.eval x = .map (some b)) (hy : a.eval y = ek k) (hu : Take L (amap ek ev b l) R)
    (ht : tyMap P t = some (K, E)) (hK : KeyOk P K ek) (hz : tyZeroV P E = some z) (hgl : getL l k = some u) (h : wpList P ops Q rest (a.put o.dst (.tuple #[ev u, .bool true])) w) : wpList P ops Q (o :: rest) a w :=
  wl_alook hS ho hg hx hy hu ht hK hz (by rw [hgl]; exact h)
theorem wl_alook0k {x y : Operand} {k : κ} {z : Value} (hS : St W L w) (ho : o.op = .lookup t x y true) (hg : Region.wanted o (yielded ops a.tmps) = true) (hx : a.eval x = .map (some b)) (hy : a.eval y = ek k) (hu : Take L (amap ek ev b l) R)
    (ht : tyMap P t = some (K, E)) (hK : KeyOk P K ek) (hz : tyZeroV P E = some z) (hgl : getL l k = none) (h : wpList P ops Q rest (a.put o.dst (.tuple #[z, .bool false])) w) : wpList P ops Q (o :: rest) a w :=
  wl_alook hS ho hg hx hy hu ht hK hz (by rw [hgl]; exact h)
theorem wl_ilook1 {x y : Operand} {k : κ} {u : ν} {z : Value} (hS : St W L w) (ho : o.op = .lookup t x y false) (hg : Region.wanted o (yielded ops a.tmps) = true) (hx : a.eval x = .map (some b)) (hy : a.eval y = ek k) (hu : Take L (itR ek ev r b l todo) R)
    (ht : tyMap P t = some (K, E)) (hK : KeyOk P K ek) (hz : tyZeroV P E = some z) (hgl : getL l k = some u) (h : wpList P ops Q rest (a.put o.dst (ev u)) w) : wpList P ops Q (o :: rest) a w :=
  wl_ilook hS ho hg hx hy hu ht hK hz (by rw [hgl]; exact h)
/-- A store. -/
theorem wl_aset {x y v : Operand} {k : κ} {u : ν} (hS : St W L w) (ho : o.op = .mapUpdate t x y v) (hg : Region.wanted o (yielded ops a.tmps) = true) (hx : a.eval x = .map (some b)) (hy : a.eval y = ek k) (hu : Take L (amap ek ev b l) R) (hv : a.eval v = ev u)
    (ht : tyMap P t = some (K, E)) (hK : KeyOk P K ek) (h : ∀ w', St W (amap ek ev b ((k, u) :: delL l k) :: R) w' → wpList P ops Q rest (a.put o.dst undef) w') : wpList P ops Q (o :: rest) a w := by
  obtain ⟨w', hr, hS'⟩ := run_aset (P := P) (k := k) (v := u) (hS.take hu) ht hK
  refine wpList_runSkip hg (w' := w') ?_ (h w' hS')
  unfold execOp
  simp [ho, hx, hy, hv, hr]
theorem wl_iset {x y v : Operand} {k : κ} {u u0 : ν} (hS : St W L w) (ho : o.op = .mapUpdate t x y v) (hg : Region.wanted o (yielded ops a.tmps) = true) (hx : a.eval x = .map (some b)) (hy : a.eval y = ek k) (hu : Take L (itR ek ev r b l todo) R) (hv : a.eval v = ev u)
    (ht : tyMap P t = some (K, E)) (hK : KeyOk P K ek) (h0 : (k, u0) ∈ l) (hk : ∀ x ∈ todo, x.1 ≠ k) (h : ∀ w', St W (itR ek ev r b (putL l k u) todo :: R) w' → wpList P ops Q rest (a.put o.dst undef) w') : wpList P ops Q (o :: rest) a w := by
  obtain ⟨w', hr, hS'⟩ := run_iset (P := P) (k := k) (v := u) (hS.take hu) ht hK h0 hk
  refine wpList_runSkip hg (w' := w') ?_ (h w' hS')
  unfold execOp
  simp [ho, hx, hy, hv, hr]
theorem wl_adel {x y : Operand} {k : κ} {k2 : TypeId} (hS : St W L w) (ho : o.op = .call { callee := .builtin .delete, args := #[x, y], argTypes := #[t, k2] }) (hg : Region.wanted o (yielded ops a.tmps) = true) (hx : a.eval x = .map (some b)) (hy : a.eval y = ek k) (hu : Take L (amap ek ev b l) R)
    (ht : tyMap P t = some (K, E)) (hK : KeyOk P K ek) (h : ∀ w', St W (amap ek ev b (delL l k) :: R) w' → wpList P ops Q rest (a.put o.dst (.tuple #[])) w') : wpList P ops Q (o :: rest) a w := by
  obtain ⟨w', hr, hS'⟩ := run_adel (P := P) (k := k) (k2 := k2) (ty := o.type) (hS.take hu) ht hK
  refine wpList_run hg (v := .tuple #[]) (w' := w') ?_ (h w' hS')
  unfold execOp
  simp [ho, resolve, invoke, builtin, hx, hy, hr]
theorem wl_idel {x y : Operand} {k : κ} {k2 : TypeId} (hS : St W L w) (ho : o.op = .call { callee := .builtin .delete, args := #[x, y], argTypes := #[t, k2] }) (hg : Region.wanted o (yielded ops a.tmps) = true) (hx : a.eval x = .map (some b)) (hy : a.eval y = ek k) (hu : Take L (itR ek ev r b l todo) R)
    (ht : tyMap P t = some (K, E)) (hK : KeyOk P K ek) (hk : ∀ x ∈ todo, x.1 ≠ k) (h : ∀ w', St W (itR ek ev r b (delL l k) todo :: R) w' → wpList P ops Q rest (a.put o.dst (.tuple #[])) w') : wpList P ops Q (o :: rest) a w := by
  obtain ⟨w', hr, hS'⟩ := run_idel (P := P) (k := k) (k2 := k2) (ty := o.type) (hS.take hu) ht hK hk
  refine wpList_run hg (v := .tuple #[]) (w' := w') ?_ (h w' hS')
  unfold execOp
  simp [ho, resolve, invoke, builtin, hx, hy, hr]
end
end Go.Sl
end
section
set_option linter.unusedSimpArgs false
set_option linter.unusedVariables false
namespace Go.Sl
open Go.RowKit
section
variable {κ ν : Type} [DecidableEq κ] {P : Program} {t K E : TypeId} {ek : κ → Value} {ev : ν → Value} {W w : World} {L R : List HP} {b : Nat} {l : List (κ × ν)} {ops : Array Oper} {a : Act} {rest : List Oper} {o : Oper}
theorem lookR_u {k : κ} {z : Value} {d u : ν} (hd : z = ev d) (hu : (getL l k).getD d = u) : lookR false z ((getL l k).map ev) = ev u := by
  subst hu hd
  cases getL l k <;> rfl
/-- What stands at a key, or nothing. -/
theorem wl_alookU {Q : Exit → Act → World → Prop} {x y : Operand} {k : κ} {z : Value} (d u : ν) (hS : St W L w) (ho : o.op = .lookup t x y false) (hg : Region.wanted o (yielded ops a.tmps) = true) (hx : a.eval x = .map (some b)) (hy : a.eval y = ek k) (hu : Take L (amap ek ev b l) R)
    (ht : tyMap P t = some (K, E)) (hK : KeyOk P K ek) (hz : tyZeroV P E = some z) (hd : z = ev d) (hv : (getL l k).getD d = u) (h : wpList P ops Q rest (a.put o.dst (ev u)) w) : wpList P ops Q (o :: rest) a w :=
  wl_alook hS ho hg hx hy hu ht hK hz (by rw [lookR_u hd hv]; exact h)
theorem wq_alookU {Q : Act → Prop} {x y : Operand} {k : κ} {z : Value} (d u : ν) (ho : o.op = .lookup t x y false) (hg : Region.wanted o (yielded ops a.tmps) = true) (hx : a.eval x = .map (some b)) (hy : a.eval y = ek k) (hu : Take L (amap ek ev b l) R)
    (ht : tyMap P t = some (K, E)) (hK : KeyOk P K ek) (hz : tyZeroV P E = some z) (hd : z = ev d) (hv : (getL l k).getD d = u) (h : wpQuiet P ops (St W L) Q rest (a.put o.dst (ev u))) : wpQuiet P ops (St W L) Q (o :: rest) a :=
  wq_val hg (fun w hS => by
    unfold execOp
    simp [ho, hx, hy, run_alook (hS.take hu) ht hK hz, lookR_u hd hv]) h
theorem ch_alookU {tb : List Nat} {toks : List Tok} {fresh : Nat → Bool} {pin : Nat → Option Value} {Qf : Act → Prop} {nd : Nat → Value} {i : Nat} {x y : Operand} {k : κ} {z : Value} (d u : ν) (hf : fresh i = false) (hn : noTok toks i = true) (ho : o.op = .lookup t x y false) (hg : Region.wanted o (yielded ops a.tmps) = true) (hx : a.eval x = .map (some b)) (hy : a.eval y = ek k)
    (hu : ∀ F, ∃ R, Take (kpL toks tb i nd ++ F) (amap ek ev b l) R) (ht : tyMap P t = some (K, E)) (hK : KeyOk P K ek) (hz : tyZeroV P E = some z) (hd : z = ev d) (hv : (getL l k).getD d = u)
    (h : Chain P W ops tb toks fresh pin Qf nd (i + 1) rest (a.put o.dst (ev u))) : Chain P W ops tb toks fresh pin Qf nd i (o :: rest) a :=
  ch_val hf hn hg (fun F w hS => by
    obtain ⟨R, hu⟩ := hu F
    unfold execOp
    simp [ho, hx, hy, run_alook (hS.take hu) ht hK hz, lookR_u hd hv]) h
end
end Go.Sl
namespace Go.Sl
open Go.RowKit
section
variable {P : Program} {w : World} {ops : Array Oper} {Q : Exit → Act → World → Prop} {a : Act} {rest : List Oper} {o : Oper}
theorem wl_eqA {t t2 : TypeId} {x y : Operand} {xs ys : Array Value} {r : Bool} (ho : o.op = .binOp .eql t x y t2) (hg : Region.wanted o (yielded ops a.tmps) = true) (hx : a.eval x = .agg xs) (hy : a.eval y = .agg ys) (hm : P.eqGuardType P.depth t = false) (hr : ∀ w : World, (Op.equalIn 10000 t (.agg xs) (.agg ys)).run P w = .ok r w)
    (h : wpList P ops Q rest (a.put o.dst (.bool r)) w) : wpList P ops Q (o :: rest) a w := by
  refine wpList_run hg (v := .bool r) (w' := w) ?_ h
  unfold execOp
  simp [ho, hx, hy, run_eqGuard_agg w .eql t x y xs ys hm, run_eql_struct, hr]
theorem wl_neA {t t2 : TypeId} {x y : Operand} {xs ys : Array Value} {r : Bool} (ho : o.op = .binOp .neq t x y t2) (hg : Region.wanted o (yielded ops a.tmps) = true) (hx : a.eval x = .agg xs) (hy : a.eval y = .agg ys) (hm : P.eqGuardType P.depth t = false) (hr : ∀ w : World, (Op.equalIn 10000 t (.agg xs) (.agg ys)).run P w = .ok r w)
    (h : wpList P ops Q rest (a.put o.dst (.bool (!r))) w) : wpList P ops Q (o :: rest) a w := by
  refine wpList_run hg (v := .bool (!r)) (w' := w) ?_ h
  unfold execOp
  simp [ho, hx, hy, run_eqGuard_agg w .neq t x y xs ys hm, run_neq_struct, hr]
end
end Go.Sl
namespace Go.Proofs.Ytbcokphjpllbiaa
open Go.RowKit Go.Sl
theorem eqI (x0 x1 x2 x3 y0 y1 y2 y3 : Int) (w : World) : (Op.equalIn 10000 28 (.agg #[.int .i64 x0, .int .i64 x1, .int .i64 x2, .int .i64 x3]) (.agg #[.int .i64 y0, .int .i64 y1, .int .i64 y2, .int .i64 y3])).run Try.prog w = .ok (x0 == y0 && (x1 == y1 && (x2 == y2 && x3 == y3))) w := by
  have u3 := Try.underlying3
  have a3 := Try.isAgg3
  have z3 := Try.sizeOf3
  rw [show (10000 : Nat) = 9999 + 1 from rfl, Op.equalIn]
  simp only [Sem.run_bind, run_underlying Try.underlying28, Result.andThen_ok]
  simp only [Std.Legacy.Range.forIn_eq_forIn_range', Std.Legacy.Range.size, Nat.sub_zero, Nat.add_sub_cancel, Nat.div_one, List.range'_succ, List.range'_zero, List.forIn_cons, List.forIn_nil]
  go_simp
  by_cases h1 : x0 = y0 <;> by_cases h2 : x1 = y1 <;> by_cases h3 : x2 = y2 <;> by_cases h4 : x3 = y3 <;> simp [h1, h2, h3, h4]
abbrev eS (k : ByteArray) : Value := .string k
abbrev eP (i : It) : Value := .agg i.cells.toArray
theorem kS : KeyOk Try.prog 9 eS := KeyOk.str Try.underlying9
theorem mP : tyMap Try.prog 52 = some (9, 28) := by kernel_rfl
theorem zP : tyZeroV Try.prog 28 = some (.agg #[.int .i64 0, .int .i64 0, .int .i64 0, .int .i64 0]) := by kernel_rfl
abbrev Ps := List (ByteArray × It)
def purseA (p : Ps) (k : ByteArray) : It := (getL p k).getD it0
def isZ (i : It) : Bool := decide (i.x0 = 0) && (decide (i.x1 = 0) && (decide (i.x2 = 0) && decide (i.x3 = 0)))
def layP (p : Ps) (k : ByteArray) (i : It) : Ps := if isZ i = true then delL p k else (k, i) :: delL p k
section
variable (vb mb : Nat) (p : Ps) (k : ByteArray) (u1 u2 : Value) (W w : World) (R : List HP)
set_option maxRecDepth 100000 in
theorem has_spec (hS : St W (blk vb [.map (some mb), u1, u2] 56 :: amap eS eP mb p :: R) w) :
    Calls Try.prog 12 #[.pointer (some ⟨vb, 0, none⟩), .string k] w fun e w' => e = .returned (eP (purseA p k)) ∧ St W (blk vb [.map (some mb), u1, u2] 56 :: amap eS eP mb p :: R) w' := by
  obtain ⟨x, hx⟩ : ∃ x, purseA p k = x := ⟨_, rfl⟩
  rw [hx]
  obtain ⟨x0, x1, x2, x3⟩ := x
  have Hx := Lib.hid hx
  clear hx
  go_enter Try.func12, Try.ntmps12
  go_wp2_with (first | ((with_reducible apply wl_alookU (ek := eS) (ev := eP) (k := k) it0 ⟨x0, x1, x2, x3⟩ hS); (with_reducible rfl); rfl; rfl; rfl; ((focus ((repeat (first | exact Take.head | apply Take.tail)); done))); exact mP; exact kS; exact zP; rfl; exact Hx.out; (simp only [Act.put, List.setIfInBounds_toArray, List.set_cons_succ, List.set_cons_zero, Nat.reduceAdd, eP, It.cells])) | ((with_reducible apply wl_ld1 hS); (with_reducible rfl); rfl; rfl; decide +kernel; (first | (focus ((repeat (first | exact Cell.here rfl | apply Cell.there)); done)) | assumption); (simp only [Act.put, List.setIfInBounds_toArray, List.set_cons_succ, List.set_cons_zero, Nat.reduceAdd])) | ((with_reducible apply wl_ldN hS); (with_reducible rfl); rfl; rfl; decide +kernel; (first | (focus ((repeat (first | exact Cells.whole | apply Cells.there)); done)) | assumption); kernel_rfl; (simp only [Act.put, List.setIfInBounds_toArray, List.set_cons_succ, List.set_cons_zero, Nat.reduceAdd])) | ((with_reducible apply wl_st1 hS); (with_reducible rfl); rfl; rfl; (focus ((conv => lhs; whnf); try rfl)); kernel_rfl; rfl; rfl; ((focus ((repeat (first | exact Upd.head | apply Upd.tail)); done))); (simp only [List.length_cons, List.length_nil]; omega); ((simp only [List.set_cons_zero, List.set_cons_succ, setAll]); rfl); clear hS; intro w hS; try (simp only [Act.put, List.setIfInBounds_toArray, List.set_cons_succ, List.set_cons_zero, Nat.reduceAdd])) | ((with_reducible apply wl_stN hS); (with_reducible rfl); rfl; rfl; (focus ((conv => lhs; whnf); try rfl)); kernel_rfl; rfl; ((focus ((repeat (first | exact Upd.head | apply Upd.tail)); done))); (simp only [List.length_cons, List.length_nil]; omega); ((simp only [List.set_cons_zero, List.set_cons_succ, setAll]); rfl); clear hS; intro w hS; try (simp only [Act.put, List.setIfInBounds_toArray, List.set_cons_succ, List.set_cons_zero, Nat.reduceAdd])) | ((with_reducible apply wl_box hS); (with_reducible rfl); rfl; rfl; rfl; clear hS; intro b w hS; (simp only [Act.put, List.setIfInBounds_toArray, List.set_cons_succ, List.set_cons_zero, Nat.reduceAdd])) | ((with_reducible apply wl_alloc hS); (with_reducible rfl); rfl; (with_reducible first | exact Ty.z3 | exact Ty.z28 | exact Ty.z32 | exact Ty.z40 | exact Ty.z46 | exact Ty.z69 | exact Ty.z86 | exact Ty.z146); clear hS; intro b w hS; (simp only [Act.put, List.setIfInBounds_toArray, List.set_cons_succ, List.set_cons_zero, Nat.reduceAdd])))
  (apply bp_cell; rfl; rfl; rfl; exact hS; decide +kernel; (first | (focus ((repeat (first | exact Cells.whole | apply Cells.there)); done)) | assumption); kernel_rfl)
  exact ⟨rfl, hS.drop⟩
set_option maxHeartbeats 1000000 in
set_option maxRecDepth 100000 in
theorem lays_spec (i : It) (hS : St W (blk vb [.map (some mb), u1, u2] 56 :: amap eS eP mb p :: R) w) :
    Calls Try.prog 23 #[.pointer (some ⟨vb, 0, none⟩), .string k, .agg i.cells.toArray] w fun e w' => e = .returned (.tuple #[]) ∧ St W (blk vb [.map (some mb), u1, u2] 56 :: amap eS eP mb (layP p k i) :: R) w' := by
  obtain ⟨x0, x1, x2, x3⟩ := i
  unfold layP
  cases hz : isZ ⟨x0, x1, x2, x3⟩ with
  | true =>
    rw [if_pos rfl]
    simp only [isZ, Bool.and_eq_true, decide_eq_true_eq] at hz
    obtain ⟨rfl, rfl, rfl, rfl⟩ := hz
    have h4 : (((0 : Int) == 0) && (((0 : Int) == 0) && (((0 : Int) == 0) && ((0 : Int) == 0)))) = true := rfl
    simp only [It.cells]
    go_enter Try.func23, Try.ntmps23
    go_wp2_with (first | ((with_reducible apply wl_eqA); (with_reducible rfl); rfl; rfl; rfl; kernel_rfl; exact eqI _ _ _ _ _ _ _ _; rw [h4]; (simp only [Act.put, List.setIfInBounds_toArray, List.set_cons_succ, List.set_cons_zero, Nat.reduceAdd, eP, It.cells])) | ((with_reducible apply wl_adel (ek := eS) (ev := eP) (k := k) hS); (with_reducible rfl); rfl; rfl; rfl; ((focus ((repeat (first | exact Take.head | apply Take.tail)); done))); exact mP; exact kS; clear hS; intro w hS; try (simp only [Act.put, List.setIfInBounds_toArray, List.set_cons_succ, List.set_cons_zero, Nat.reduceAdd, eP, It.cells])) | ((with_reducible apply wl_ld1 hS); (with_reducible rfl); rfl; rfl; decide +kernel; (first | (focus ((repeat (first | exact Cell.here rfl | apply Cell.there)); done)) | assumption); (simp only [Act.put, List.setIfInBounds_toArray, List.set_cons_succ, List.set_cons_zero, Nat.reduceAdd])) | ((with_reducible apply wl_ldN hS); (with_reducible rfl); rfl; rfl; decide +kernel; (first | (focus ((repeat (first | exact Cells.whole | apply Cells.there)); done)) | assumption); kernel_rfl; (simp only [Act.put, List.setIfInBounds_toArray, List.set_cons_succ, List.set_cons_zero, Nat.reduceAdd])) | ((with_reducible apply wl_st1 hS); (with_reducible rfl); rfl; rfl; (focus ((conv => lhs; whnf); try rfl)); kernel_rfl; rfl; rfl; ((focus ((repeat (first | exact Upd.head | apply Upd.tail)); done))); (simp only [List.length_cons, List.length_nil]; omega); ((simp only [List.set_cons_zero, List.set_cons_succ, setAll]); rfl); clear hS; intro w hS; try (simp only [Act.put, List.setIfInBounds_toArray, List.set_cons_succ, List.set_cons_zero, Nat.reduceAdd])) | ((with_reducible apply wl_stN hS); (with_reducible rfl); rfl; rfl; (focus ((conv => lhs; whnf); try rfl)); kernel_rfl; rfl; ((focus ((repeat (first | exact Upd.head | apply Upd.tail)); done))); (simp only [List.length_cons, List.length_nil]; omega); ((simp only [List.set_cons_zero, List.set_cons_succ, setAll]); rfl); clear hS; intro w hS; try (simp only [Act.put, List.setIfInBounds_toArray, List.set_cons_succ, List.set_cons_zero, Nat.reduceAdd])) | ((with_reducible apply wl_box hS); (with_reducible rfl); rfl; rfl; rfl; clear hS; intro b w hS; (simp only [Act.put, List.setIfInBounds_toArray, List.set_cons_succ, List.set_cons_zero, Nat.reduceAdd])) | ((with_reducible apply wl_alloc hS); (with_reducible rfl); rfl; (with_reducible first | exact Ty.z3 | exact Ty.z28 | exact Ty.z32 | exact Ty.z40 | exact Ty.z46 | exact Ty.z69 | exact Ty.z86 | exact Ty.z146); clear hS; intro b w hS; (simp only [Act.put, List.setIfInBounds_toArray, List.set_cons_succ, List.set_cons_zero, Nat.reduceAdd])))
    refine bodyPost_ret (results_none rfl _ _ _) rfl ?_
    exact ⟨rfl, hS.sel (by (repeat' (first | (with_reducible first | exact Sel.done Suf.refl | exact Sel.done (Suf.tail Suf.refl) | exact Sel.done (Suf.tail (Suf.tail Suf.refl)) | exact Sel.done (Suf.tail (Suf.tail (Suf.tail Suf.refl))) | (apply Sel.done; (focus ((repeat (first | exact Suf.refl | apply Suf.tail)); done)))) | (refine Sel.cons (by with_reducible (focus ((repeat (first | exact Take.head | apply Take.tail)); done))) ?_))))⟩
  | false =>
    rw [if_neg (by simp)]
    have h4 : (x0 == 0 && (x1 == 0 && (x2 == 0 && x3 == 0))) = false := hz
    clear hz
    simp only [It.cells]
    go_enter Try.func23, Try.ntmps23
    go_wp2_with (first | ((with_reducible apply wl_eqA); (with_reducible rfl); rfl; rfl; rfl; kernel_rfl; exact eqI _ _ _ _ _ _ _ _; rw [h4]; (simp only [Act.put, List.setIfInBounds_toArray, List.set_cons_succ, List.set_cons_zero, Nat.reduceAdd, eP, It.cells])) | ((with_reducible apply wl_aset (ek := eS) (ev := eP) (k := k) (u := ⟨x0, x1, x2, x3⟩) hS); (with_reducible rfl); rfl; rfl; rfl; ((focus ((repeat (first | exact Take.head | apply Take.tail)); done))); (focus (rfl)); exact mP; exact kS; clear hS; intro w hS; try (simp only [Act.put, List.setIfInBounds_toArray, List.set_cons_succ, List.set_cons_zero, Nat.reduceAdd, eP, It.cells])) | ((with_reducible apply wl_ld1 hS); (with_reducible rfl); rfl; rfl; decide +kernel; (first | (focus ((repeat (first | exact Cell.here rfl | apply Cell.there)); done)) | assumption); (simp only [Act.put, List.setIfInBounds_toArray, List.set_cons_succ, List.set_cons_zero, Nat.reduceAdd])) | ((with_reducible apply wl_ldN hS); (with_reducible rfl); rfl; rfl; decide +kernel; (first | (focus ((repeat (first | exact Cells.whole | apply Cells.there)); done)) | assumption); kernel_rfl; (simp only [Act.put, List.setIfInBounds_toArray, List.set_cons_succ, List.set_cons_zero, Nat.reduceAdd])) | ((with_reducible apply wl_st1 hS); (with_reducible rfl); rfl; rfl; (focus ((conv => lhs; whnf); try rfl)); kernel_rfl; rfl; rfl; ((focus ((repeat (first | exact Upd.head | apply Upd.tail)); done))); (simp only [List.length_cons, List.length_nil]; omega); ((simp only [List.set_cons_zero, List.set_cons_succ, setAll]); rfl); clear hS; intro w hS; try (simp only [Act.put, List.setIfInBounds_toArray, List.set_cons_succ, List.set_cons_zero, Nat.reduceAdd])) | ((with_reducible apply wl_stN hS); (with_reducible rfl); rfl; rfl; (focus ((conv => lhs; whnf); try rfl)); kernel_rfl; rfl; ((focus ((repeat (first | exact Upd.head | apply Upd.tail)); done))); (simp only [List.length_cons, List.length_nil]; omega); ((simp only [List.set_cons_zero, List.set_cons_succ, setAll]); rfl); clear hS; intro w hS; try (simp only [Act.put, List.setIfInBounds_toArray, List.set_cons_succ, List.set_cons_zero, Nat.reduceAdd])) | ((with_reducible apply wl_box hS); (with_reducible rfl); rfl; rfl; rfl; clear hS; intro b w hS; (simp only [Act.put, List.setIfInBounds_toArray, List.set_cons_succ, List.set_cons_zero, Nat.reduceAdd])) | ((with_reducible apply wl_alloc hS); (with_reducible rfl); rfl; (with_reducible first | exact Ty.z3 | exact Ty.z28 | exact Ty.z32 | exact Ty.z40 | exact Ty.z46 | exact Ty.z69 | exact Ty.z86 | exact Ty.z146); clear hS; intro b w hS; (simp only [Act.put, List.setIfInBounds_toArray, List.set_cons_succ, List.set_cons_zero, Nat.reduceAdd])))
    refine wp_region_tail 6 (by kernel_rfl) (by kernel_rfl) hS ?_
    repeat (first | go_big_quiet_skip | (apply wq_ld1; (with_reducible rfl); rfl; rfl; decide +kernel; (first | (focus ((repeat (first | exact Cell.here rfl | apply Cell.there)); done)) | assumption); (simp only [Act.put, List.setIfInBounds_toArray, List.set_cons_succ, List.set_cons_zero, Nat.reduceAdd])) | (apply wq_ldN; (with_reducible rfl); rfl; rfl; decide +kernel; (first | (focus ((repeat (first | exact Cells.whole | apply Cells.there)); done)) | assumption); kernel_rfl; (simp only [Act.put, List.setIfInBounds_toArray, List.set_cons_succ, List.set_cons_zero, Nat.reduceAdd])) | (apply wq_nil; (with_reducible rfl); rfl; rfl; (simp only [Act.put, List.setIfInBounds_toArray, List.set_cons_succ, List.set_cons_zero, Nat.reduceAdd])) | (refine wq_pure rfl rfl ?_; intro K hK; go_big_quiet_op; go_big_quiet_on))
    clear hS
    intro w hS
    simp only [List.drop_succ_cons, List.drop_zero]
    go_wp2_with (first | ((with_reducible apply wl_aset (ek := eS) (ev := eP) (k := k) (u := ⟨x0, x1, x2, x3⟩) hS); (with_reducible rfl); rfl; rfl; rfl; ((focus ((repeat (first | exact Take.head | apply Take.tail)); done))); (focus (rfl)); exact mP; exact kS; clear hS; intro w hS; try (simp only [Act.put, List.setIfInBounds_toArray, List.set_cons_succ, List.set_cons_zero, Nat.reduceAdd, eP, It.cells])) | ((with_reducible apply wl_ld1 hS); (with_reducible rfl); rfl; rfl; decide +kernel; (first | (focus ((repeat (first | exact Cell.here rfl | apply Cell.there)); done)) | assumption); (simp only [Act.put, List.setIfInBounds_toArray, List.set_cons_succ, List.set_cons_zero, Nat.reduceAdd])) | ((with_reducible apply wl_ldN hS); (with_reducible rfl); rfl; rfl; decide +kernel; (first | (focus ((repeat (first | exact Cells.whole | apply Cells.there)); done)) | assumption); kernel_rfl; (simp only [Act.put, List.setIfInBounds_toArray, List.set_cons_succ, List.set_cons_zero, Nat.reduceAdd])) | ((with_reducible apply wl_st1 hS); (with_reducible rfl); rfl; rfl; (focus ((conv => lhs; whnf); try rfl)); kernel_rfl; rfl; rfl; ((focus ((repeat (first | exact Upd.head | apply Upd.tail)); done))); (simp only [List.length_cons, List.length_nil]; omega); ((simp only [List.set_cons_zero, List.set_cons_succ, setAll]); rfl); clear hS; intro w hS; try (simp only [Act.put, List.setIfInBounds_toArray, List.set_cons_succ, List.set_cons_zero, Nat.reduceAdd])) | ((with_reducible apply wl_stN hS); (with_reducible rfl); rfl; rfl; (focus ((conv => lhs; whnf); try rfl)); kernel_rfl; rfl; ((focus ((repeat (first | exact Upd.head | apply Upd.tail)); done))); (simp only [List.length_cons, List.length_nil]; omega); ((simp only [List.set_cons_zero, List.set_cons_succ, setAll]); rfl); clear hS; intro w hS; try (simp only [Act.put, List.setIfInBounds_toArray, List.set_cons_succ, List.set_cons_zero, Nat.reduceAdd])) | ((with_reducible apply wl_box hS); (with_reducible rfl); rfl; rfl; rfl; clear hS; intro b w hS; (simp only [Act.put, List.setIfInBounds_toArray, List.set_cons_succ, List.set_cons_zero, Nat.reduceAdd])) | ((with_reducible apply wl_alloc hS); (with_reducible rfl); rfl; (with_reducible first | exact Ty.z3 | exact Ty.z28 | exact Ty.z32 | exact Ty.z40 | exact Ty.z46 | exact Ty.z69 | exact Ty.z86 | exact Ty.z146); clear hS; intro b w hS; (simp only [Act.put, List.setIfInBounds_toArray, List.set_cons_succ, List.set_cons_zero, Nat.reduceAdd])))
    go_end0
    exact ⟨rfl, hS.sel (by (repeat' (first | (with_reducible first | exact Sel.done Suf.refl | exact Sel.done (Suf.tail Suf.refl) | exact Sel.done (Suf.tail (Suf.tail Suf.refl)) | exact Sel.done (Suf.tail (Suf.tail (Suf.tail Suf.refl))) | (apply Sel.done; (focus ((repeat (first | exact Suf.refl | apply Suf.tail)); done)))) | (refine Sel.cons (by with_reducible (focus ((repeat (first | exact Take.head | apply Take.tail)); done))) ?_))))⟩
end
def whoB (k : ByteArray) : Bool := decide (1 ≤ k.size) && decide (k.size ≤ 16)
theorem who_spec (k : ByteArray) (W w : World) (R : List HP) (hS : St W R w) :
    Calls Try.prog 20 #[.string k] w fun e w' => e = .returned (.bool (whoB k)) ∧ St W R w' := by
  go_enter Try.func20, Try.ntmps20
  by_cases h1 : k.size < 1
  · have e : whoB k = false := by unfold whoB; simp; omega
    have d1 : decide ((1 : Int) ≤ (k.size : Int)) = false := by simp; omega
    rw [e]
    go_wp2_with (first | go_big_skip | ((with_reducible apply wl_ld1 hS); (with_reducible rfl); rfl; rfl; decide +kernel; (first | (focus ((repeat (first | exact Cell.here rfl | apply Cell.there)); done)) | assumption); (simp only [Act.put, List.setIfInBounds_toArray, List.set_cons_succ, List.set_cons_zero, Nat.reduceAdd])) | ((with_reducible apply wl_ldN hS); (with_reducible rfl); rfl; rfl; decide +kernel; (first | (focus ((repeat (first | exact Cells.whole | apply Cells.there)); done)) | assumption); kernel_rfl; (simp only [Act.put, List.setIfInBounds_toArray, List.set_cons_succ, List.set_cons_zero, Nat.reduceAdd])) | ((with_reducible apply wl_st1 hS); (with_reducible rfl); rfl; rfl; (focus ((conv => lhs; whnf); try rfl)); kernel_rfl; rfl; rfl; ((focus ((repeat (first | exact Upd.head | apply Upd.tail)); done))); (simp only [List.length_cons, List.length_nil]; omega); ((simp only [List.set_cons_zero, List.set_cons_succ, setAll]); rfl); clear hS; intro w hS; try (simp only [Act.put, List.setIfInBounds_toArray, List.set_cons_succ, List.set_cons_zero, Nat.reduceAdd])) | ((with_reducible apply wl_stN hS); (with_reducible rfl); rfl; rfl; (focus ((conv => lhs; whnf); try rfl)); kernel_rfl; rfl; ((focus ((repeat (first | exact Upd.head | apply Upd.tail)); done))); (simp only [List.length_cons, List.length_nil]; omega); ((simp only [List.set_cons_zero, List.set_cons_succ, setAll]); rfl); clear hS; intro w hS; try (simp only [Act.put, List.setIfInBounds_toArray, List.set_cons_succ, List.set_cons_zero, Nat.reduceAdd])) | ((with_reducible apply wl_box hS); (with_reducible rfl); rfl; rfl; rfl; clear hS; intro b w hS; (simp only [Act.put, List.setIfInBounds_toArray, List.set_cons_succ, List.set_cons_zero, Nat.reduceAdd])) | ((with_reducible apply wl_alloc hS); (with_reducible rfl); rfl; (with_reducible first | exact Ty.z3 | exact Ty.z28 | exact Ty.z32 | exact Ty.z40 | exact Ty.z46 | exact Ty.z69 | exact Ty.z86 | exact Ty.z146); clear hS; intro b w hS; (simp only [Act.put, List.setIfInBounds_toArray, List.set_cons_succ, List.set_cons_zero, Nat.reduceAdd])))
    go_ret
    exact ⟨rfl, hS⟩
  · have d1 : (1 : Int) ≤ (k.size : Int) := by omega
    by_cases h2 : k.size ≤ 16
    · have e : whoB k = true := by unfold whoB; simp; omega
      have d2 : (k.size : Int) ≤ 16 := by omega
      rw [e]
      go_wp2_with (first | go_big_skip | ((with_reducible apply wl_ld1 hS); (with_reducible rfl); rfl; rfl; decide +kernel; (first | (focus ((repeat (first | exact Cell.here rfl | apply Cell.there)); done)) | assumption); (simp only [Act.put, List.setIfInBounds_toArray, List.set_cons_succ, List.set_cons_zero, Nat.reduceAdd])) | ((with_reducible apply wl_ldN hS); (with_reducible rfl); rfl; rfl; decide +kernel; (first | (focus ((repeat (first | exact Cells.whole | apply Cells.there)); done)) | assumption); kernel_rfl; (simp only [Act.put, List.setIfInBounds_toArray, List.set_cons_succ, List.set_cons_zero, Nat.reduceAdd])) | ((with_reducible apply wl_st1 hS); (with_reducible rfl); rfl; rfl; (focus ((conv => lhs; whnf); try rfl)); kernel_rfl; rfl; rfl; ((focus ((repeat (first | exact Upd.head | apply Upd.tail)); done))); (simp only [List.length_cons, List.length_nil]; omega); ((simp only [List.set_cons_zero, List.set_cons_succ, setAll]); rfl); clear hS; intro w hS; try (simp only [Act.put, List.setIfInBounds_toArray, List.set_cons_succ, List.set_cons_zero, Nat.reduceAdd])) | ((with_reducible apply wl_stN hS); (with_reducible rfl); rfl; rfl; (focus ((conv => lhs; whnf); try rfl)); kernel_rfl; rfl; ((focus ((repeat (first | exact Upd.head | apply Upd.tail)); done))); (simp only [List.length_cons, List.length_nil]; omega); ((simp only [List.set_cons_zero, List.set_cons_succ, setAll]); rfl); clear hS; intro w hS; try (simp only [Act.put, List.setIfInBounds_toArray, List.set_cons_succ, List.set_cons_zero, Nat.reduceAdd])) | ((with_reducible apply wl_box hS); (with_reducible rfl); rfl; rfl; rfl; clear hS; intro b w hS; (simp only [Act.put, List.setIfInBounds_toArray, List.set_cons_succ, List.set_cons_zero, Nat.reduceAdd])) | ((with_reducible apply wl_alloc hS); (with_reducible rfl); rfl; (with_reducible first | exact Ty.z3 | exact Ty.z28 | exact Ty.z32 | exact Ty.z40 | exact Ty.z46 | exact Ty.z69 | exact Ty.z86 | exact Ty.z146); clear hS; intro b w hS; (simp only [Act.put, List.setIfInBounds_toArray, List.set_cons_succ, List.set_cons_zero, Nat.reduceAdd])))
      go_ret
      exact ⟨rfl, hS⟩
    · have e : whoB k = false := by unfold whoB; simp; omega
      have d2 : decide ((k.size : Int) ≤ 16) = false := by simp; omega
      rw [e]
      go_wp2_with (first | go_big_skip | ((with_reducible apply wl_ld1 hS); (with_reducible rfl); rfl; rfl; decide +kernel; (first | (focus ((repeat (first | exact Cell.here rfl | apply Cell.there)); done)) | assumption); (simp only [Act.put, List.setIfInBounds_toArray, List.set_cons_succ, List.set_cons_zero, Nat.reduceAdd])) | ((with_reducible apply wl_ldN hS); (with_reducible rfl); rfl; rfl; decide +kernel; (first | (focus ((repeat (first | exact Cells.whole | apply Cells.there)); done)) | assumption); kernel_rfl; (simp only [Act.put, List.setIfInBounds_toArray, List.set_cons_succ, List.set_cons_zero, Nat.reduceAdd])) | ((with_reducible apply wl_st1 hS); (with_reducible rfl); rfl; rfl; (focus ((conv => lhs; whnf); try rfl)); kernel_rfl; rfl; rfl; ((focus ((repeat (first | exact Upd.head | apply Upd.tail)); done))); (simp only [List.length_cons, List.length_nil]; omega); ((simp only [List.set_cons_zero, List.set_cons_succ, setAll]); rfl); clear hS; intro w hS; try (simp only [Act.put, List.setIfInBounds_toArray, List.set_cons_succ, List.set_cons_zero, Nat.reduceAdd])) | ((with_reducible apply wl_stN hS); (with_reducible rfl); rfl; rfl; (focus ((conv => lhs; whnf); try rfl)); kernel_rfl; rfl; ((focus ((repeat (first | exact Upd.head | apply Upd.tail)); done))); (simp only [List.length_cons, List.length_nil]; omega); ((simp only [List.set_cons_zero, List.set_cons_succ, setAll]); rfl); clear hS; intro w hS; try (simp only [Act.put, List.setIfInBounds_toArray, List.set_cons_succ, List.set_cons_zero, Nat.reduceAdd])) | ((with_reducible apply wl_box hS); (with_reducible rfl); rfl; rfl; rfl; clear hS; intro b w hS; (simp only [Act.put, List.setIfInBounds_toArray, List.set_cons_succ, List.set_cons_zero, Nat.reduceAdd])) | ((with_reducible apply wl_alloc hS); (with_reducible rfl); rfl; (with_reducible first | exact Ty.z3 | exact Ty.z28 | exact Ty.z32 | exact Ty.z40 | exact Ty.z46 | exact Ty.z69 | exact Ty.z86 | exact Ty.z146); clear hS; intro b w hS; (simp only [Act.put, List.setIfInBounds_toArray, List.set_cons_succ, List.set_cons_zero, Nat.reduceAdd])))
      go_ret
      exact ⟨rfl, hS⟩
theorem add_some {l : List It} {s0 s1 s2 s3 : Int} (h : addL l it0 = some ⟨s0, s1, s2, s3⟩) (v : Value) (W w : World) (R : List HP) (hS : St W (row v 4 28 l.length (l.flatMap It.cells) :: R) w) :
    Calls Try.prog 22 #[v] w fun e w' => e = .returned (.tuple #[.agg #[.int .i64 s0, .int .i64 s1, .int .i64 s2, .int .i64 s3], .bool true]) ∧ St W R w' :=
  (add_it l v W w R hS).mono fun e w' ⟨he, hS⟩ => ⟨by rw [he, addF, h]; rfl, hS.drop⟩
theorem add_none {l : List It} (h : addL l it0 = none) (v : Value) (W w : World) (R : List HP) (hS : St W (row v 4 28 l.length (l.flatMap It.cells) :: R) w) :
    Calls Try.prog 22 #[v] w fun e w' => e = .returned (.tuple #[.agg #[.int .i64 0, .int .i64 0, .int .i64 0, .int .i64 0], .bool false]) ∧ St W R w' :=
  (add_it l v W w R hS).mono fun e w' ⟨he, hS⟩ => ⟨by rw [he, addF, h]; rfl, hS.drop⟩
theorem sub_yes {x0 x1 x2 x3 y0 y1 y2 y3 : Int} (h : subOk ⟨x0, x1, x2, x3⟩ ⟨y0, y1, y2, y3⟩ = true) (W w : World) (R : List HP) (hS : St W R w) :
    Calls Try.prog 33 #[.agg #[.int .i64 x0, .int .i64 x1, .int .i64 x2, .int .i64 x3], .agg #[.int .i64 y0, .int .i64 y1, .int .i64 y2, .int .i64 y3]] w fun e w' => e = .returned (.tuple #[.agg #[.int .i64 (x0 - y0), .int .i64 (x1 - y1), .int .i64 (x2 - y2), .int .i64 (x3 - y3)], .bool true]) ∧ St W R w' :=
  (sub_it ⟨x0, x1, x2, x3⟩ ⟨y0, y1, y2, y3⟩ W w R hS).mono fun e w' ⟨he, hS⟩ => ⟨by rw [he, subF, h]; rfl, hS⟩
theorem sub_no {x0 x1 x2 x3 y0 y1 y2 y3 : Int} (h : subOk ⟨x0, x1, x2, x3⟩ ⟨y0, y1, y2, y3⟩ = false) (W w : World) (R : List HP) (hS : St W R w) :
    Calls Try.prog 33 #[.agg #[.int .i64 x0, .int .i64 x1, .int .i64 x2, .int .i64 x3], .agg #[.int .i64 y0, .int .i64 y1, .int .i64 y2, .int .i64 y3]] w fun e w' => e = .returned (.tuple #[.agg #[.int .i64 0, .int .i64 0, .int .i64 0, .int .i64 0], .bool false]) ∧ St W R w' :=
  (sub_it ⟨x0, x1, x2, x3⟩ ⟨y0, y1, y2, y3⟩ W w R hS).mono fun e w' ⟨he, hS⟩ => ⟨by rw [he, subF, h]; rfl, hS⟩
end Go.Proofs.Ytbcokphjpllbiaa
end
