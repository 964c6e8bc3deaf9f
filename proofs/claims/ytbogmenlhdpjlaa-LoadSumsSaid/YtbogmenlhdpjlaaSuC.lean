/-
  The document's Sum: held.
-/
import Derived.Test.YtbogmenlhdpjlaaSuB
import Derived.Test.YtbogmenlhdpjlaaLrC
set_option linter.unusedSimpArgs false
set_option linter.unusedVariables false
namespace Go.Proofs.Ytbogmenlhdpjlaa
open Go.RowKit Go.Sl
theorem held_spec (n : Int) (W w : World) (R : List HP) (hS : St W R w) :
    Calls Try.prog 27 #[.int .i64 n] w fun e w' => e = .returned (.int .i64 (held n)) ∧ St W R w' := by
  go_enter Try.func27, Try.ntmps27
  go_wp2_with fail
  go_ret
  exact ⟨rfl, hS⟩
/-- v is a slice of tables that reads as l in every world that holds R. -/
def TabIn (R : List HP) (v : Value) (l : List (List Rw)) : Prop :=
  ∃ a cap, v = .slice a l.length cap ∧ l.length ≤ 9223372036854775807 ∧ cap ≤ 9223372036854775807 ∧ ∀ i (h : i < l.length), ∃ b off, a = some ⟨b, off, none⟩ ∧
    ∃ a2 c2, Cell R b (off + i) (.slice a2 l[i].length c2) ∧ l[i].length ≤ 9223372036854775807 ∧ ∀ j (hj : j < l[i].length), ∃ b2 off2, a2 = some ⟨b2, off2, none⟩ ∧ Cells R b2 (off2 + j * 3) (Rw.cells (l[i])[j])
theorem stepM_nodup {M : Ms} {r : Rw} (hn : (M.map (·.1)).Nodup) : ((stepM M r).map (·.1)).Nodup := by
  unfold stepM
  cases hg : getL M r.zone with
  | none =>
    show (r.zone :: M.map (·.1)).Nodup
    rw [List.nodup_cons]
    exact ⟨fun h => by
      obtain ⟨p, hp, e⟩ := List.mem_map.1 h
      exact getL_none hg p hp e, hn⟩
  | some s =>
    show (r.zone :: (delL M r.zone).map (·.1)).Nodup
    rw [List.nodup_cons]
    refine ⟨fun h => ?_, nodup_filter_map hn⟩
    obtain ⟨p, hp, e⟩ := List.mem_map.1 h
    have := (List.mem_filter.1 hp).2
    simp at this
    exact this e
theorem fold_nodup : ∀ (t : List Rw) {M : Ms}, (M.map (·.1)).Nodup → ((t.foldl stepM M).map (·.1)).Nodup
  | [], _, h => h
  | r :: t, _, h => fold_nodup t (stepM_nodup h)
theorem mostM_len (M : Ms) : (mostM M).length = M.length := by unfold mostM zonesM; rw [List.length_map, (sortI_perm _).length_eq, List.length_map]
theorem place_lt {M : Ms} (hn : (M.map (·.1)).Nodup) {z : Int} {j : Nat} {r : Rw} (hr : (resM M)[j]? = some r) : r.zone < z ↔ j < placeM M z := by
  have hs : (zonesM M).Pairwise (· < ·) := sortI_lt hn
  obtain ⟨e1, e2⟩ := sorted_split z (zonesM M) hs
  rw [resM_eq, List.getElem?_map] at hr
  obtain ⟨y, hy, hyr⟩ := Option.map_eq_some_iff.1 hr
  have hym : y ∈ M.map (·.1) := (sortI_perm _).mem_iff.1 (List.mem_of_getElem? hy)
  obtain ⟨p, hp, hpy⟩ := List.mem_map.1 hym
  have hz : r.zone = y := by
    rw [← hyr]
    unfold rowAt
    rw [getL_at hn (show (y, p.2) ∈ M by rw [← hpy]; exact hp)]; rfl
  rw [hz]
  constructor
  · intro h
    refine Nat.lt_of_not_le fun hle => ?_
    have : y ∈ (zonesM M).filter (fun y => !decide (y < z)) := by
      rw [e2]
      have h2 : ((zonesM M).drop (placeM M z))[j - placeM M z]? = some y := by
        rw [List.getElem?_drop, show placeM M z + (j - placeM M z) = j by omega]; exact hy
      exact List.mem_of_getElem? h2
    have := (List.mem_filter.1 this).2
    simp at this
    omega
  · intro h
    have : y ∈ (zonesM M).filter (fun y => decide (y < z)) := by
      rw [e1]
      have h2 : ((zonesM M).take (placeM M z))[j]? = some y := by
        rw [List.getElem?_take, if_pos h]; exact hy
      exact List.mem_of_getElem? h2
    have := (List.mem_filter.1 this).2
    simpa using this
def intsX (v : Value) (l : List Int) : HP := row v 1 3 l.length (l.map (Value.int .i64))
end Go.Proofs.Ytbogmenlhdpjlaa
