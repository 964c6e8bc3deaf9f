/-
  The document's Sum: the plain law: a row that comes in is laid at its place. For all tables.
-/
import Derived.Test.YtbogmenlhdpjlaaSuA
set_option linter.unusedSimpArgs false
set_option linter.unusedVariables false
namespace Go.Proofs.Ytbogmenlhdpjlaa
open Go.RowKit Go.Sl
/-- The zones, sorted; what is most of each. -/
def zonesM (M : Ms) : List Int := sortI (M.map (·.1))
def mostAt (M : Ms) (z : Int) : Int := ((getL M z).map (·.most)).getD 0
def mostM (M : Ms) : List Int := (zonesM M).map (mostAt M)
def placeM (M : Ms) (z : Int) : Nat := ((zonesM M).filter fun y => decide (y < z)).length
theorem resM_eq (M : Ms) : resM M = (zonesM M).map (rowAt M) := rfl
theorem sorted_split (z : Int) : ∀ (l : List Int), l.Pairwise (· < ·) → l.filter (fun y => decide (y < z)) = l.take (l.filter fun y => decide (y < z)).length ∧ l.filter (fun y => !decide (y < z)) = l.drop (l.filter fun y => decide (y < z)).length
  | [], _ => ⟨rfl, rfl⟩
  | x :: l, h => by
    rw [List.pairwise_cons] at h
    by_cases hx : x < z
    · obtain ⟨i1, i2⟩ := sorted_split z l h.2
      rw [List.filter_cons, if_pos (by simpa using hx), List.filter_cons, if_neg (by simpa using hx), List.length_cons, List.take_succ_cons, List.drop_succ_cons, ← i1, ← i2]
      exact ⟨rfl, rfl⟩
    · have e1 : (x :: l).filter (fun y => decide (y < z)) = [] := List.filter_eq_nil_iff.2 fun y hy => by
        rcases List.mem_cons.1 hy with rfl | hy
        · simpa using hx
        · have := h.1 y hy; simp; omega
      have e2 : (x :: l).filter (fun y => !decide (y < z)) = x :: l := List.filter_eq_self.2 fun y hy => by
        rcases List.mem_cons.1 hy with rfl | hy
        · simpa using hx
        · have := h.1 y hy; simp; omega
      rw [e1, e2]
      exact ⟨rfl, rfl⟩
theorem sortI_cons {z : Int} {l : List Int} (hn : (z :: l).Nodup) : sortI (z :: l) = (sortI l).take ((sortI l).filter fun y => decide (y < z)).length ++ z :: (sortI l).drop ((sortI l).filter fun y => decide (y < z)).length := by
  rw [List.nodup_cons] at hn
  have hs := sortI_lt hn.2
  obtain ⟨e1, e2⟩ := sorted_split z _ hs
  rw [← e1, ← e2]
  have hmem : ∀ y ∈ sortI l, y ≠ z := fun y hy e => hn.1 (e ▸ (sortI_perm l).mem_iff.1 hy)
  refine List.Perm.eq_of_pairwise (le := fun a b : Int => a ≤ b) (fun a b _ _ h1 h2 => by omega) (sortI_pairwise _) ?_ ?_
  · rw [List.pairwise_append]
    refine ⟨(hs.filter _).imp fun h => by omega, ?_, fun a ha b hb => ?_⟩
    · rw [List.pairwise_cons]
      refine ⟨fun y hy => ?_, (hs.filter _).imp fun h => by omega⟩
      have := (List.mem_filter.1 hy).2
      simp at this
      omega
    · have h1 := (List.mem_filter.1 ha).2
      simp at h1
      rcases List.mem_cons.1 hb with rfl | hb
      · omega
      · have h2 := (List.mem_filter.1 hb).2
        simp at h2
        omega
  · refine (sortI_perm _).trans (List.Perm.trans ((sortI_perm l).symm.cons z) ?_)
    exact ((List.filter_append_perm _ (sortI l)).symm.cons z).trans List.perm_middle.symm
theorem rowAt_other {M : Ms} {z y : Int} {s : Sm} (h : y ≠ z) : rowAt ((z, s) :: M) y = rowAt M y := by
  unfold rowAt getL
  rw [List.find?_cons_of_neg (by simpa using fun e => h e.symm)]
theorem mostAt_other {M : Ms} {z y : Int} {s : Sm} (h : y ≠ z) : mostAt ((z, s) :: M) y = mostAt M y := by
  unfold mostAt getL
  rw [List.find?_cons_of_neg (by simpa using fun e => h e.symm)]
theorem stepM_none {M : Ms} {r : Rw} (hg : getL M r.zone = none) : stepM M r = (r.zone, ⟨held r.hits, r.mid, held r.hits⟩) :: M := by unfold stepM; rw [hg]
/-- A new zone: laid at its place. -/
theorem sum_new {M : Ms} {r : Rw} (hn : (M.map (·.1)).Nodup) (hg : getL M r.zone = none) :
    resM (stepM M r) = (resM M).take (placeM M r.zone) ++ ⟨r.zone, held r.hits, r.mid⟩ :: (resM M).drop (placeM M r.zone) ∧ mostM (stepM M r) = (mostM M).take (placeM M r.zone) ++ held r.hits :: (mostM M).drop (placeM M r.zone) := by
  have hk : r.zone ∉ M.map (·.1) := fun h => by
    obtain ⟨p, hp, e⟩ := List.mem_map.1 h
    exact getL_none hg p hp e
  have hz : ∀ y ∈ zonesM M, y ≠ r.zone := fun y hy e => hk (e ▸ (sortI_perm _).mem_iff.1 hy)
  have e0 : zonesM (stepM M r) = (zonesM M).take (placeM M r.zone) ++ r.zone :: (zonesM M).drop (placeM M r.zone) := by
    rw [stepM_none hg]
    exact sortI_cons (List.nodup_cons.2 ⟨hk, hn⟩)
  have e1 : ∀ l : List Int, (∀ y ∈ l, y ≠ r.zone) → l.map (rowAt (stepM M r)) = l.map (rowAt M) := fun l hl => List.map_congr_left fun y hy => by rw [stepM_none hg]; exact rowAt_other (hl y hy)
  have e2 : ∀ l : List Int, (∀ y ∈ l, y ≠ r.zone) → l.map (mostAt (stepM M r)) = l.map (mostAt M) := fun l hl => List.map_congr_left fun y hy => by rw [stepM_none hg]; exact mostAt_other (hl y hy)
  have t1 : ∀ y ∈ (zonesM M).take (placeM M r.zone), y ≠ r.zone := fun y hy => hz y (List.mem_of_mem_take hy)
  have t2 : ∀ y ∈ (zonesM M).drop (placeM M r.zone), y ≠ r.zone := fun y hy => hz y (List.mem_of_mem_drop hy)
  constructor
  · rw [resM_eq, e0, List.map_append, List.map_cons, e1 _ t1, e1 _ t2, resM_eq, List.map_take, List.map_drop]
    congr 2
    rw [stepM_none hg]
    unfold rowAt getL
    simp
  · unfold mostM
    rw [e0, List.map_append, List.map_cons, e2 _ t1, e2 _ t2, List.map_take, List.map_drop]
    congr 2
    rw [stepM_none hg]
    unfold mostAt getL
    simp
theorem zone_at {l : List Int} (hs : l.Pairwise (· < ·)) {z : Int} (hz : z ∈ l) : l[(l.filter fun y => decide (y < z)).length]? = some z := by
  obtain ⟨e1, e2⟩ := sorted_split z l hs
  have hm : z ∈ l.filter (fun y => !decide (y < z)) := List.mem_filter.2 ⟨hz, by simp⟩
  have hsf : (l.filter (fun y => !decide (y < z))).Pairwise (· < ·) := hs.filter _
  have hge : ∀ y ∈ l.filter (fun y => !decide (y < z)), z ≤ y := fun y hy => by
    have := (List.mem_filter.1 hy).2
    simp at this
    exact this
  rw [e2] at hm hsf hge
  have h0 : l[(l.filter fun y => decide (y < z)).length]? = (l.drop (l.filter fun y => decide (y < z)).length)[0]? := by rw [List.getElem?_drop]; rfl
  rw [h0]
  generalize l.drop (l.filter fun y => decide (y < z)).length = d at hm hsf hge
  cases d with
  | nil => cases hm
  | cons y d =>
    rw [List.pairwise_cons] at hsf
    rcases List.mem_cons.1 hm with rfl | hm
    · rfl
    · have h1 := hsf.1 z hm
      have h2 := hge y (List.mem_cons_self ..)
      omega
theorem getL_del {κ ν : Type} [DecidableEq κ] {k y : κ} (h : y ≠ k) : ∀ l : List (κ × ν), getL (delL l k) y = getL l y
  | [] => rfl
  | x :: l => by
    have ih := getL_del h l
    unfold getL delL at ih ⊢
    by_cases hx : x.1 = k
    · rw [List.filter_cons, if_neg (by simpa using hx), ih, List.find?_cons_of_neg (by simpa using fun e => h (e.symm.trans hx))]
    · rw [List.filter_cons, if_pos (by simpa using hx)]
      by_cases hy : x.1 = y
      · rw [List.find?_cons_of_pos (by simpa using hy), List.find?_cons_of_pos (by simpa using hy)]
      · rw [List.find?_cons_of_neg (by simpa using hy), List.find?_cons_of_neg (by simpa using hy), ih]
theorem map_one {β : Type} {l : List Int} {f g : Int → β} {z : Int} {i : Nat} (hs : l.Pairwise (· < ·)) (hi : l[i]? = some z) (h : ∀ y, y ≠ z → f y = g y) : l.map f = (l.map g).set i (f z) := by
  apply List.ext_getElem?
  intro j
  rw [List.getElem?_map, List.getElem?_set, List.getElem?_map, List.length_map]
  have hil := (List.getElem?_eq_some_iff.1 hi).1
  by_cases hj : i = j
  · subst hj
    rw [if_pos rfl, if_pos hil, hi]; rfl
  · rw [if_neg hj]
    cases hx : l[j]? with
    | none => rfl
    | some y =>
      have hjl := (List.getElem?_eq_some_iff.1 hx).1
      have h1 := (List.getElem?_eq_some_iff.1 hi).2
      have h2 := (List.getElem?_eq_some_iff.1 hx).2
      rw [Option.map_some, Option.map_some, h y]
      intro e
      rcases Nat.lt_or_gt_of_ne hj with hlt | hlt
      · have := List.pairwise_iff_getElem.1 hs i j hil hjl hlt
        omega
      · have := List.pairwise_iff_getElem.1 hs j i hjl hil hlt
        omega
/-- A zone that is there: turned where it stands. -/
theorem sum_old {M : Ms} {r : Rw} {s s' : Sm} (hn : (M.map (·.1)).Nodup) (hg : getL M r.zone = some s) (he : stepM M r = (r.zone, s') :: delL M r.zone) :
    (resM M)[placeM M r.zone]? = some ⟨r.zone, s.hits, s.mid⟩ ∧ (mostM M)[placeM M r.zone]? = some s.most ∧
    resM (stepM M r) = (resM M).set (placeM M r.zone) ⟨r.zone, s'.hits, s'.mid⟩ ∧ mostM (stepM M r) = (mostM M).set (placeM M r.zone) s'.most := by
  have hk : r.zone ∈ M.map (·.1) := List.mem_map.2 ⟨_, getL_some hg, rfl⟩
  have hs : (zonesM M).Pairwise (· < ·) := sortI_lt hn
  have hi : (zonesM M)[placeM M r.zone]? = some r.zone := zone_at hs ((sortI_perm _).mem_iff.2 hk)
  have hzs : zonesM (stepM M r) = zonesM M := by
    unfold zonesM
    rw [he]
    obtain ⟨l', hl'⟩ := perm_pick (getL_some hg)
    have h1 := delL_perm hl' r.zone
    rw [delL_head ((hl'.map (·.1)).nodup_iff.1 hn)] at h1
    refine List.Perm.eq_of_pairwise (le := fun a b : Int => a ≤ b) (fun a b _ _ h1 h2 => by omega) (sortI_pairwise _) (sortI_pairwise _) ((sortI_perm _).trans (List.Perm.trans ?_ (sortI_perm _).symm))
    have q1 : ((delL M r.zone).map (·.1)).Perm (l'.map (·.1)) := h1.map _
    have q2 : (M.map (·.1)).Perm (r.zone :: l'.map (·.1)) := hl'.map _
    rw [List.map_cons]
    exact (q1.cons r.zone).trans q2.symm
  have e1 : ∀ y, y ≠ r.zone → rowAt (stepM M r) y = rowAt M y := fun y hy => by
    rw [he, rowAt_other hy]; unfold rowAt; rw [getL_del hy]
  have e2 : ∀ y, y ≠ r.zone → mostAt (stepM M r) y = mostAt M y := fun y hy => by
    rw [he, mostAt_other hy]; unfold mostAt; rw [getL_del hy]
  have r1 : rowAt (stepM M r) r.zone = ⟨r.zone, s'.hits, s'.mid⟩ := by rw [he]; unfold rowAt getL; simp
  have r2 : mostAt (stepM M r) r.zone = s'.most := by rw [he]; unfold mostAt getL; simp
  refine ⟨?_, ?_, ?_, ?_⟩
  · rw [resM_eq, List.getElem?_map, hi]
    show some (rowAt M r.zone) = _
    unfold rowAt
    rw [hg]; rfl
  · unfold mostM
    rw [List.getElem?_map, hi]
    show some (mostAt M r.zone) = _
    unfold mostAt
    rw [hg]; rfl
  · rw [resM_eq, hzs, resM_eq, map_one hs hi e1, r1]
  · unfold mostM
    rw [hzs, map_one hs hi e2, r2]
end Go.Proofs.Ytbogmenlhdpjlaa
