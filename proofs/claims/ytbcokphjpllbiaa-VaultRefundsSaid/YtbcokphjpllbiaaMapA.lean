/-
  Maps as resources, in one's own terms: block b is a map in which these keys stand with these values, in whatever order and born whenever; a range over such a map. Over any program; no condition.
-/
import Derived.Test.YtbcokphjpllbiaaMap
import Derived.Test.YtbcokphjpllbiaaFlow
set_option linter.unusedSimpArgs false
set_option linter.unusedVariables false
namespace Go.Sl
open Go.RowKit
def findA {κ : Type} [DecidableEq κ] (k : κ) : List (κ × Value × Nat) → Nat → Option (Nat × Value)
  | [], _ => none
  | x :: l, i => if k = x.1 then some (i, x.2.1) else findA k l (i + 1)
def entA {κ : Type} (ek : κ → Value) (x : κ × Value × Nat) : MapEntry := ⟨ek x.1, x.2.1, x.2.2⟩
/-- Keys of type K, told by ek: they may be keys, each is found where it stands. -/
structure KeyOk (P : Program) (K : TypeId) {κ : Type} [DecidableEq κ] (ek : κ → Value) : Prop where
  chk : ∀ e k w, (Instr.checkKey e 10000 K (ek k)).run P w = .ok () w
  find : ∀ k (l : List (κ × Value × Nat)) w, (Instr.findKey K (ek k) (l.map (entA ek))).run P w = .ok (findA k l 0) w
  bits : ∀ k, Instr.sameBits 10000 (ek k) (ek k) = true
section
variable {κ : Type} [DecidableEq κ]
theorem findA_no {k : κ} : ∀ (l : List (κ × Value × Nat)) (i : Nat), (∀ x ∈ l, x.1 ≠ k) → findA k l i = none
  | [], _, _ => rfl
  | x :: l, i, h => by
    rw [findA, if_neg (fun e => h x (List.mem_cons_self ..) e.symm)]
    exact findA_no l (i + 1) fun y hy => h y (List.mem_cons_of_mem _ hy)
theorem findA_at {k : κ} {v : Value} {s : Nat} : ∀ (l : List (κ × Value × Nat)) (i : Nat), (l.map (·.1)).Nodup → (k, v, s) ∈ l → ∃ j, ∃ h : j < l.length, l[j] = (k, v, s) ∧ findA k l i = some (i + j, v)
  | x :: l, i, hn, hm => by
    rw [List.map_cons, List.nodup_cons] at hn
    by_cases hk : k = x.1
    · have hx : x = (k, v, s) := by
        rcases List.mem_cons.1 hm with h | h
        · exact h.symm
        · exact absurd (List.mem_map.2 ⟨_, h, hk⟩) hn.1
      exact ⟨0, Nat.succ_pos _, hx, by rw [findA, if_pos hk, hx]; rfl⟩
    · have hm' : (k, v, s) ∈ l := by
        rcases List.mem_cons.1 hm with h | h
        · exact absurd (by rw [← h]) hk
        · exact h
      obtain ⟨j, hj, h1, h2⟩ := findA_at l (i + 1) hn.2 hm'
      exact ⟨j + 1, by simpa using hj, h1, by rw [findA, if_neg hk, h2, show i + 1 + j = i + (j + 1) by omega]⟩
theorem findNow_findA {kd : TypeDesc} {ek : κ → Value} (h : ∀ a b, Instr.sameNow kd (ek a) (ek b) = some (decide (a = b))) (k : κ) : ∀ (l : List (κ × Value × Nat)) (i : Nat), Instr.findNow kd (ek k) (l.map (entA ek)) i = some (findA k l i)
  | [], _ => rfl
  | x :: l, i => by
    have e : (entA ek x).key = ek x.1 := rfl
    rw [List.map_cons, Instr.findNow, e, h, findA]
    by_cases hk : k = x.1
    · rw [decide_eq_true hk, if_pos hk]; rfl
    · rw [decide_eq_false hk, if_neg hk]; exact findNow_findA h k l (i + 1)
variable {P : Program} {K : TypeId} {kd : TypeDesc} {ek : κ → Value}
theorem KeyOk.plain (hK : P.underlying K = some kd) (hkd : plainKd kd = true) (h : ∀ a b, Instr.sameNow kd (ek a) (ek b) = some (decide (a = b))) (hb : ∀ k, Instr.sameBits 10000 (ek k) (ek k) = true) : KeyOk P K ek :=
  ⟨fun e k w => run_checkKey hK hkd e 9999 (ek k), fun k l w => run_findKey hK (findNow_findA h k l 0), hb⟩
end
theorem KeyOk.int {P : Program} {K : TypeId} (hK : P.underlying K = some (.int .i64)) : KeyOk P K (fun z : Int => .int .i64 z) :=
  .plain hK rfl (fun a b => by rw [same_int]; exact congrArg some (Bool.beq_eq_decide_eq a b)) (fun k => by simp [Instr.sameBits])
theorem KeyOk.str {P : Program} {K : TypeId} (hK : P.underlying K = some .string) : KeyOk P K (fun s : ByteArray => .string s) :=
  .plain hK rfl (fun a b => by
    rw [same_str]
    congr 1
    by_cases h : a = b
    · subst h; rw [decide_eq_true rfl]; exact (MapKept.bytes_beq _ _).2 rfl
    · rw [decide_eq_false h]
      cases hb : a == b with
      | false => rfl
      | true => exact absurd ((MapKept.bytes_beq a b).1 hb) h) (fun k => by
    show (k == k) = true
    exact (MapKept.bytes_beq _ _).2 rfl)
/-! At stamps that are told. -/
section
variable {κ : Type} [DecidableEq κ] {P : Program} {W w : World} {L R : List HP} {t K E : TypeId} {ek : κ → Value}
theorem runA_look_no {b c : Nat} {ps : List (κ × Value × Nat)} {k : κ} {z : Value} {ok : Bool} (h : St W (mapR b (ps.map (entA ek)) c :: L) w) (ht : tyMap P t = some (K, E)) (hK : KeyOk P K ek) (hz : tyZeroV P E = some z) (hn : ∀ x ∈ ps, x.1 ≠ k) :
    (Instr.lookup t (.map (some b)) (ek k) ok).run P w = .ok (if ok then .tuple #[z, .bool false] else z) w := by
  unfold Instr.lookup
  have hu := run_underlying (P := P) (tyMap_spec ht) w
  cases ok <;> simp [hu, map_get h, hK.chk, hK.find, findA_no ps 0 hn, run_zeroV hz]
theorem runA_look_at {b c : Nat} {ps : List (κ × Value × Nat)} {k : κ} {v : Value} {s : Nat} {ok : Bool} (h : St W (mapR b (ps.map (entA ek)) c :: L) w) (ht : tyMap P t = some (K, E)) (hK : KeyOk P K ek) (hn : (ps.map (·.1)).Nodup) (hm : (k, v, s) ∈ ps) :
    (Instr.lookup t (.map (some b)) (ek k) ok).run P w = .ok (if ok then .tuple #[v, .bool true] else v) w := by
  unfold Instr.lookup
  have hu := run_underlying (P := P) (tyMap_spec ht) w
  obtain ⟨j, hj, h1, h2⟩ := findA_at ps 0 hn hm
  cases ok <;> simp [hu, map_get h, hK.chk, hK.find, h2]
theorem runA_look_nil {k : κ} {z : Value} {ok : Bool} (ht : tyMap P t = some (K, E)) (hK : KeyOk P K ek) (hz : tyZeroV P E = some z) :
    (Instr.lookup t (.map none) (ek k) ok).run P w = .ok (if ok then .tuple #[z, .bool false] else z) w := by
  unfold Instr.lookup
  have hu := run_underlying (P := P) (tyMap_spec ht) w
  have hf := hK.find k [] w
  simp only [List.map_nil, findA] at hf
  cases ok <;> simp [hu, hK.chk, hf, run_zeroV hz]
theorem runA_set_new {b c : Nat} {ps : List (κ × Value × Nat)} {k : κ} {v : Value} (h : St W (mapR b (ps.map (entA ek)) c :: L) w) (ht : tyMap P t = some (K, E)) (hK : KeyOk P K ek) (hn : ∀ x ∈ ps, x.1 ≠ k) :
    ∃ w', (Instr.mapUpdate t (.map (some b)) (ek k) v).run P w = .ok () w' ∧ St W (mapR b ((ps ++ [(k, v, c)]).map (entA ek)) (c + 1) :: L) w' := by
  refine ⟨_, ?_, h.setMap⟩
  unfold Instr.mapUpdate
  have hu := run_underlying (P := P) (tyMap_spec ht) w
  have hs := MapKept.run_setObj_map (P := P) (.map (ps.map (entA ek) ++ [(⟨ek k, v, c⟩ : MapEntry)]).toArray (c + 1)) (h.get (b := b) .head)
  have e : (ps.map (entA ek)).toArray.push (⟨ek k, v, c⟩ : MapEntry) = (ps.map (entA ek) ++ [(⟨ek k, v, c⟩ : MapEntry)]).toArray := by simp
  have e2 : (ps ++ [(k, v, c)]).map (entA ek) = ps.map (entA ek) ++ [(⟨ek k, v, c⟩ : MapEntry)] := by rw [List.map_append]; rfl
  rw [e2]
  simp only [hu, Sem.run_bind, Result.andThen_ok, map_get h, hK.chk, hK.find, findA_no ps 0 hn, e, hs]
def setA (ps : List (κ × Value × Nat)) (k : κ) (v : Value) : List (κ × Value × Nat) := ps.map fun x => if x.1 = k then (x.1, v, x.2.2) else x
theorem setA_other {k : κ} {v : Value} : ∀ (ps : List (κ × Value × Nat)), k ∉ ps.map (·.1) → setA ps k v = ps
  | [], _ => rfl
  | x :: ps, h => by
    have hx : x.1 ≠ k := fun e => h (by rw [List.map_cons, e]; exact List.mem_cons_self ..)
    have := setA_other (k := k) (v := v) ps (fun e => h (List.mem_cons_of_mem _ e))
    unfold setA at this ⊢
    rw [List.map_cons, if_neg hx, this]
theorem setA_at {k : κ} {v u : Value} {s : Nat} : ∀ (ps : List (κ × Value × Nat)) (j : Nat) (hj : j < ps.length), (ps.map (·.1)).Nodup → ps[j] = (k, u, s) → setA ps k v = ps.set j (k, v, s)
  | x :: ps, 0, _, hn, hx => by
    have hx' : x = (k, u, s) := hx
    rw [List.map_cons, List.nodup_cons, hx'] at hn
    have := setA_other (v := v) ps hn.1
    unfold setA at this ⊢
    rw [List.map_cons, this, hx', if_pos rfl]; rfl
  | x :: ps, j + 1, hj, hn, hx => by
    rw [List.map_cons, List.nodup_cons] at hn
    have hj' : j < ps.length := by simpa using hj
    have hx' : ps[j] = (k, u, s) := hx
    have hne : x.1 ≠ k := fun e => hn.1 (List.mem_map.2 ⟨ps[j], List.getElem_mem _, by rw [hx', e]⟩)
    have := setA_at (v := v) ps j hj' hn.2 hx'
    unfold setA at this ⊢
    rw [List.map_cons, if_neg hne, this]; rfl
theorem runA_set_at {b c : Nat} {ps : List (κ × Value × Nat)} {k : κ} {u v : Value} {s : Nat} (h : St W (mapR b (ps.map (entA ek)) c :: L) w) (ht : tyMap P t = some (K, E)) (hK : KeyOk P K ek) (hn : (ps.map (·.1)).Nodup) (hm : (k, u, s) ∈ ps) :
    ∃ w', (Instr.mapUpdate t (.map (some b)) (ek k) v).run P w = .ok () w' ∧ St W (mapR b ((setA ps k v).map (entA ek)) c :: L) w' := by
  obtain ⟨j, hj, h1, h2⟩ := findA_at ps 0 hn hm
  rw [Nat.zero_add] at h2
  have e2 : (setA ps k v).map (entA ek) = (ps.map (entA ek)).set j ⟨ek k, v, s⟩ := by
    rw [setA_at ps j hj hn h1, List.map_set]; rfl
  have e : (ps.map (entA ek)).modify j (fun e => { e with key := ek k, val := v }) = (ps.map (entA ek)).set j ⟨ek k, v, s⟩ := by
    apply List.ext_getElem?
    intro i
    rw [List.getElem?_modify, List.getElem?_set]
    by_cases hi : j = i
    · subst hi
      simp [hj, h1, entA]
    · simp [hi]
  refine ⟨_, ?_, h.setMap⟩
  rw [e2]
  unfold Instr.mapUpdate
  have hu := run_underlying (P := P) (tyMap_spec ht) w
  have hks : (Instr.keyThatStays (ek k) (ek k)).run P w = .ok (ek k) w := by unfold Instr.keyThatStays; simp [hK.bits]
  have hkk : ((ps.map (entA ek)).toArray[j]?).map (·.key) = some (ek k) := by simp [hj, h1, entA]
  have hkj : (entA ek ps[j]).key = ek k := by rw [h1]; rfl
  simp [hu, map_get h, hK.chk, hK.find, h2, hj, hkj, hks]
  rw [e]
  exact MapKept.run_setObj_map (P := P) (.map ((ps.map (entA ek)).set j ⟨ek k, v, s⟩).toArray c) (h.get (b := b) .head)
theorem map_eraseIdx {α β : Type} (f : α → β) : ∀ (l : List α) (j : Nat), (l.map f).eraseIdx j = (l.eraseIdx j).map f
  | [], _ => by simp
  | x :: l, 0 => rfl
  | x :: l, j + 1 => by simp [map_eraseIdx f l j]
def delA (ps : List (κ × Value × Nat)) (k : κ) : List (κ × Value × Nat) := ps.filter fun x => decide (x.1 ≠ k)
theorem delA_other {k : κ} {ps : List (κ × Value × Nat)} (h : ∀ x ∈ ps, x.1 ≠ k) : delA ps k = ps := List.filter_eq_self.2 fun x hx => by simpa using h x hx
theorem delA_at {k : κ} {u : Value} {s : Nat} : ∀ (ps : List (κ × Value × Nat)) (j : Nat) (hj : j < ps.length), (ps.map (·.1)).Nodup → ps[j] = (k, u, s) → delA ps k = ps.eraseIdx j
  | x :: ps, 0, _, hn, hx => by
    have hx' : x = (k, u, s) := hx
    rw [List.map_cons, List.nodup_cons, hx'] at hn
    have h1 : delA ps k = ps := delA_other fun y hy e => hn.1 (List.mem_map.2 ⟨y, hy, e⟩)
    unfold delA at h1 ⊢
    rw [List.filter_cons, hx', if_neg (by simp), h1]; rfl
  | x :: ps, j + 1, hj, hn, hx => by
    rw [List.map_cons, List.nodup_cons] at hn
    have hj' : j < ps.length := by simpa using hj
    have hx' : ps[j] = (k, u, s) := hx
    have hne : x.1 ≠ k := fun e => hn.1 (List.mem_map.2 ⟨ps[j], List.getElem_mem _, by rw [hx', e]⟩)
    have := delA_at ps j hj' hn.2 hx'
    unfold delA at this ⊢
    rw [List.filter_cons, if_pos (by simpa using hne), this]; rfl
theorem runA_del {b c : Nat} {ps : List (κ × Value × Nat)} {k : κ} {k2 ty : TypeId} (h : St W (mapR b (ps.map (entA ek)) c :: L) w) (ht : tyMap P t = some (K, E)) (hK : KeyOk P K ek) (hn : (ps.map (·.1)).Nodup) :
    ∃ w', (Builtin.delete_ #[t, k2] ty #[.map (some b), ek k]).run P w = .ok (.tuple #[]) w' ∧ St W (mapR b ((delA ps k).map (entA ek)) c :: L) w' := by
  have hu := run_underlying (P := P) (tyMap_spec ht) w
  by_cases hk : ∃ x ∈ ps, x.1 = k
  · obtain ⟨⟨k', v, s⟩, hx, rfl⟩ := hk
    obtain ⟨j, hj, h1, h2⟩ := findA_at ps 0 hn hx
    rw [Nat.zero_add] at h2
    refine ⟨_, ?_, h.setMap⟩
    rw [delA_at ps j hj hn h1]
    unfold Builtin.delete_
    have hs := MapKept.run_setObj_map (P := P) (.map ((ps.eraseIdx j).map (entA ek)).toArray c) (h.get (b := b) .head)
    have e : (ps.map (entA ek)).eraseIdx j = (ps.eraseIdx j).map (entA ek) := map_eraseIdx (entA ek) ps j
    simp [hu, map_get h, hK.chk, hK.find, h2, e, hs]
  · have hn' : ∀ x ∈ ps, x.1 ≠ k := fun x hx e => hk ⟨x, hx, e⟩
    refine ⟨_, ?_, h.setMap⟩
    rw [delA_other hn']
    unfold Builtin.delete_
    have hs := MapKept.run_setObj_map (P := P) (.map (ps.map (entA ek)).toArray c) (h.get (b := b) .head)
    simp [hu, map_get h, hK.chk, hK.find, findA_no ps 0 hn', hs]
end
end Go.Sl
