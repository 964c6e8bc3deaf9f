/-
  BookGone: the plain law. For all prices, all that are cancelled, every order.
-/
import Derived.Test.YtbcokphjpllbiaaBkR
set_option linter.unusedSimpArgs false
set_option linter.unusedVariables false
namespace Go.Proofs.Ytbcokphjpllbiaa
open Go.RowKit Go.Sl
def sg (zs : List Int) (k : Nat) : Ord := ⟨(k : Int) + 1, ⟨#[115]⟩, false, 1, 2, 1 + (zs.getD k 0) % 8⟩
def bG (q : List Ord) (k : Nat) : Bk := ⟨[[], [], [], [], [], q, [], []], k⟩
theorem bG_len (q : List Ord) (k : Nat) : (bG q k).len = q.length := by simp [Bk.len, lenTo, bG, offs]
/-- What stands there: IDs up to n, each once. -/
structure GoneQ (n : Nat) (q : List Ord) : Prop where
  nodup : (q.map Ord.id).Nodup
  each : ∀ x ∈ q, x.cnt = 2 ∧ x.id ≤ n
theorem bG_ok {q : List Ord} {n k : Nat} (hq : q.length ≤ 32) (hc : GoneQ n q) (hk : k ≤ 32) : BkOk (bG q k) := ⟨rfl, by rw [bG_len]; exact hq, (by
  intro p hp x hx
  have hx' : x ∈ q := by
    simp [bG] at hp
    rcases hp with rfl | rfl | rfl
    · cases hx
    · exact hx
    · cases hx
  have := (hc.each x hx').1
  omega), by simp [bG], by simp [bG]; omega⟩
theorem sg_may (zs : List Int) (k : Nat) (hk : k < 30) : mayB (sg zs k) = true := by
  refine mayB_true.2 ⟨?_, ?_, ?_, ?_, ?_, ?_, ?_, ?_, ?_, ?_⟩
  all_goals simp only [sg]
  all_goals first | omega | decide
theorem gone_step (zs : List Int) (q : List Ord) (k : Nat) (hk : k < 30) (hq : q.length = k) : placeB (bG q k) (sg zs k) = ⟨[], 2, 0, bG (pushT q (sg zs k)) (k + 1)⟩ := by
  unfold placeB
  rw [if_neg (by rintro (h | h); (rw [sg_may zs k hk] at h; cases h); (simp [sg, bG] at h; omega)), if_neg (by rw [bG_len]; omega)]
  rfl
theorem gone_push {zs : List Int} {q : List Ord} {k : Nat} (h : GoneQ k q) : GoneQ (k + 1) (pushT q (sg zs k)) := by
  have hp := pushT_perm q (sg zs k)
  refine ⟨?_, fun x hx => ?_⟩
  · refine ((hp.map Ord.id).nodup_iff).2 ?_
    rw [List.map_cons, List.nodup_cons]
    refine ⟨fun hm => ?_, h.nodup⟩
    obtain ⟨x, hx, hid⟩ := List.mem_map.1 hm
    have := (h.each x hx).2
    simp only [sg] at hid
    omega
  · rcases List.mem_cons.1 (hp.mem_iff.1 hx) with rfl | hx
    · exact ⟨rfl, by simp only [sg]; omega⟩
    · have := h.each x hx
      exact ⟨this.1, by omega⟩
theorem cancel_bG (q : List Ord) (n : Nat) (id : Int) : cancelB (bG q n) id = match q.findIdx? (fun o => o.id == id) with
    | none => ⟨o0, 7, bG q n⟩
    | some i => ⟨q.getD i o0, 0, bG (remT q i) n⟩ := by
  unfold cancelB
  have e : findAt (bG q n).ps id offs = match q.findIdx? (fun o => o.id == id) with
      | none => none
      | some i => some (5, i) := by
    simp [findAt, offs, bG]
    cases q.findIdx? (fun o => o.id == id) <;> rfl
  rw [e]
  cases q.findIdx? (fun o => o.id == id) <;> rfl
theorem cancel_none {q : List Ord} {n : Nat} {id : Int} (h : ∀ x ∈ q, x.id ≠ id) : cancelB (bG q n) id = ⟨o0, 7, bG q n⟩ := by
  rw [cancel_bG, List.findIdx?_eq_none_iff.2]
  intro x hx
  simpa using h x hx
/-- One is cancelled: it is gone, the others stand. -/
theorem cancel_gone {q : List Ord} {n m : Nat} (id : Int) (h : GoneQ m q) : ∃ o e q', cancelB (bG q n) id = ⟨o, e, bG q' n⟩ ∧ (e = 0 ∨ e = 7) ∧ GoneQ m q' ∧ (∀ x ∈ q', x ∈ q ∧ x.id ≠ id) ∧ q'.length ≤ q.length := by
  rw [cancel_bG]
  cases hf : q.findIdx? (fun o => o.id == id) with
  | none => exact ⟨_, _, q, rfl, .inr rfl, h, fun x hx => ⟨hx, by simpa using List.findIdx?_eq_none_iff.1 hf x hx⟩, Nat.le_refl _⟩
  | some i =>
    obtain ⟨hi, hx, _⟩ := List.findIdx?_eq_some_iff_getElem.1 hf
    have hp := remT_perm q i hi
    have hmem : ∀ x ∈ remT q i, x ∈ q := fun x hx => hp.mem_iff.1 (List.mem_cons_of_mem _ hx)
    have hnd := ((hp.map Ord.id).nodup_iff).2 h.nodup
    rw [List.map_cons, List.nodup_cons] at hnd
    refine ⟨_, _, remT q i, rfl, .inl rfl, ⟨hnd.2, fun x hx => h.each x (hmem x hx)⟩, fun x hx' => ⟨hmem x hx', fun he => hnd.1 ?_⟩, by rw [remT_length _ _ hi]; omega⟩
    have hx2 : q[i].id = id := by simpa using hx
    rw [hx2, ← he]
    exact List.mem_map_of_mem hx'
/-- Who trades: the order itself, and those that stood there. -/
theorem loop_ids : ∀ (f : Nat) (o : Ord) (q : List Ord) (l : List Trd) (t : Trd), t ∈ (loopF f o q l).2.2 → t ∈ l ∨ ∃ i ∈ q.map Ord.id, (t.buy = o.id ∧ t.sell = i) ∨ (t.buy = i ∧ t.sell = o.id)
  | 0, o, q, l, t, h => .inl h
  | f + 1, o, [], l, t, h => .inl h
  | f + 1, o, x :: q, l, t, h => by
    rw [loopF] at h
    split at h
    · have hids : ∀ c : Int, ((if x.cnt - (tradeF o x).cnt = 0 then popT ({ x with cnt := c } :: q) else { x with cnt := c } :: q).map Ord.id) ⊆ (x :: q).map Ord.id := by
        intro c i hi
        split at hi
        · obtain ⟨z, hz, rfl⟩ := List.mem_map.1 hi
          exact List.mem_map_of_mem (List.mem_cons_of_mem _ ((popT_perm _ _).mem_iff.1 hz))
        · exact hi
      rcases loop_ids f _ _ _ t h with h | ⟨i, hi, h⟩
      · rcases List.mem_append.1 h with h | h
        · exact .inl h
        · rw [List.mem_singleton] at h
          subst h
          refine .inr ⟨x.id, by simp, ?_⟩
          unfold tradeF
          split
          · exact .inr ⟨rfl, rfl⟩
          · exact .inl ⟨rfl, rfl⟩
      · exact .inr ⟨i, hids _ hi, h⟩
    · exact .inl h
theorem gone_final (q : List Ord) (n : Nat) (o : Ord) (gone : List Int) (hq : ∀ x ∈ q, x.id ∉ gone) (ho : o.id ∉ gone) : ∀ t ∈ (placeB (bG q n) o).trades, ∀ k ∈ gone, t.sell ≠ k ∧ t.buy ≠ k := by
  intro t ht k hk
  have hpl : ∀ j x, x ∈ (bG q n).pile j → x ∈ q := by
    intro j x hx
    unfold Bk.pile bG at hx
    match j, hx with
    | 0, hx => cases hx
    | 1, hx => cases hx
    | 2, hx => cases hx
    | 3, hx => cases hx
    | 4, hx => cases hx
    | 5, hx => exact hx
    | 6, hx => cases hx
    | 7, hx => cases hx
    | j + 8, hx => cases hx
  have h1 : (placeB (bG q n) o).trades = [] ∨ (placeB (bG q n) o).trades = (loopF (((bG q n).pile (sideK (itemK o) (!o.buy))).length + 1) o ((bG q n).pile (sideK (itemK o) (!o.buy))) []).2.2 := by
    unfold placeB
    split
    · exact .inl rfl
    · split
      · exact .inl rfl
      · exact .inr rfl
  rcases h1 with h1 | h1
  · rw [h1] at ht; cases ht
  · rw [h1] at ht
    rcases loop_ids _ _ _ _ _ ht with h | ⟨i, hi, h⟩
    · cases h
    · obtain ⟨x, hx, rfl⟩ := List.mem_map.1 hi
      have hx' := hq x (hpl _ x hx)
      have a1 : x.id ≠ k := fun e => hx' (e ▸ hk)
      have a2 : o.id ≠ k := fun e => ho (e ▸ hk)
      rcases h with ⟨e1, e2⟩ | ⟨e1, e2⟩
      · rw [e1, e2]; exact ⟨a1, a2⟩
      · rw [e1, e2]; exact ⟨a2, a1⟩
end Go.Proofs.Ytbcokphjpllbiaa
