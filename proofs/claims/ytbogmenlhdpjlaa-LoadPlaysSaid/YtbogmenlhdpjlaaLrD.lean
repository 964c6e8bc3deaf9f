/-
  The document's Table: the plain law: its two loops make the table of the list. For every sorted list.
-/
import Derived.Test.YtbogmenlhdpjlaaLrC
set_option linter.unusedSimpArgs false
set_option linter.unusedVariables false
namespace Go.Proofs.Ytbogmenlhdpjlaa
open Go.RowKit Go.Sl
def stepG : Zs → Cl → Zs
  | [], x => [(x.zone, [(x.key, x.n)])]
  | [p], x => if p.1 = x.zone then [(p.1, p.2 ++ [(x.key, x.n)])] else [p, (x.zone, [(x.key, x.n)])]
  | p :: q :: G, x => p :: stepG (q :: G) x
def consG (y : Cl) : Zs → Zs
  | [] => [(y.zone, [(y.key, y.n)])]
  | p :: G => if p.1 = y.zone then (p.1, (y.key, y.n) :: p.2) :: G else (y.zone, [(y.key, y.n)]) :: p :: G
theorem grp_cons (y : Cl) (L : List Cl) : grp (y :: L) = consG y (grp L) := by
  show (match grp L with | [] => _ | p :: G => _) = _
  cases grp L with
  | nil => rfl
  | cons p G => rfl
theorem step_cons (y x : Cl) : ∀ G : Zs, consG y (stepG G x) = stepG (consG y G) x
  | [] => by
    show (if x.zone = y.zone then _ else _) = (if y.zone = x.zone then _ else _)
    by_cases h : x.zone = y.zone
    · rw [if_pos h, if_pos h.symm, h]; rfl
    · rw [if_neg h, if_neg (fun e => h e.symm)]
  | [p] => by
    show consG y (if p.1 = x.zone then _ else _) = stepG (if p.1 = y.zone then _ else _) x
    by_cases h : p.1 = x.zone
    · rw [if_pos h]
      show (if p.1 = y.zone then _ else _) = _
      by_cases h2 : p.1 = y.zone
      · rw [if_pos h2, if_pos h2]
        show _ = (if p.1 = x.zone then _ else _)
        rw [if_pos h]; rfl
      · rw [if_neg h2, if_neg h2]
        show _ = _ :: (if p.1 = x.zone then _ else _)
        rw [if_pos h]
    · rw [if_neg h]
      show (if p.1 = y.zone then _ else _) = _
      by_cases h2 : p.1 = y.zone
      · rw [if_pos h2, if_pos h2]
        show _ = (if p.1 = x.zone then _ else _)
        rw [if_neg h]
      · rw [if_neg h2, if_neg h2]
        show _ = _ :: (if p.1 = x.zone then _ else _)
        rw [if_neg h]
  | p :: q :: G => by
    show (if p.1 = y.zone then _ else _) = stepG (if p.1 = y.zone then _ else _) x
    by_cases h2 : p.1 = y.zone
    · rw [if_pos h2, if_pos h2]; rfl
    · rw [if_neg h2, if_neg h2]; rfl
theorem grp_snoc : ∀ (L : List Cl) (x : Cl), grp (L ++ [x]) = stepG (grp L) x
  | [], x => rfl
  | y :: L, x => by rw [List.cons_append, grp_cons, grp_snoc L x, step_cons, grp_cons]
theorem stepG_last : ∀ (G : Zs) (p : Int × Cs) (x : Cl), stepG (G ++ [p]) x = G ++ (if p.1 = x.zone then [(p.1, p.2 ++ [(x.key, x.n)])] else [p, (x.zone, [(x.key, x.n)])])
  | [], p, x => rfl
  | [q], p, x => rfl
  | q :: r :: G, p, x => by
    show q :: stepG (r :: G ++ [p]) x = _
    rw [stepG_last (r :: G) p x]; rfl
/-- One row's middle: as the document finds it. -/
def innS (z h : Int) (s : Int × ByteArray) (x : Cl) : Int × ByteArray := if x.zone ≠ z ∨ 2 * s.1 ≥ h then s else (s.1 + x.n, x.key)
def inn (z h : Int) (L : List Cl) : Int × ByteArray := L.foldl (innS z h) (0, ⟨#[]⟩)
theorem inn_skip {z h : Int} : ∀ (L : List Cl) (s : Int × ByteArray), (∀ x ∈ L, x.zone ≠ z) → L.foldl (innS z h) s = s
  | [], _, _ => rfl
  | x :: L, s, hz => by
    have e : innS z h s x = s := by unfold innS; rw [if_pos (.inl (hz x (List.mem_cons_self ..)))]
    rw [List.foldl_cons, e]
    exact inn_skip L s fun y hy => hz y (List.mem_cons_of_mem _ hy)
theorem inn_done {z h : Int} : ∀ (L : List Cl) (s : Int × ByteArray), 2 * s.1 ≥ h → L.foldl (innS z h) s = s
  | [], _, _ => rfl
  | x :: L, s, hs => by
    have e : innS z h s x = s := by unfold innS; rw [if_pos (.inr hs)]
    rw [List.foldl_cons, e]
    exact inn_done L s hs
theorem inn_group {z h : Int} : ∀ (cs : Cs) (a : Int) (m : ByteArray), 2 * a < h → h ≤ 2 * (a + sumC cs) → ((cs.map (mkC z)).foldl (innS z h) (a, m)).2 = midF h cs a
  | [], a, m, h1, h2 => by simp [sumC] at h2; omega
  | c :: cs, a, m, h1, h2 => by
    have e : innS z h (a, m) (mkC z c) = (a + c.2, c.1) := by
      unfold innS mkC
      rw [if_neg]
      simp only [ne_eq, not_true_eq_false, false_or, ge_iff_le, Int.not_le]
      exact h1
    rw [List.map_cons, List.foldl_cons, e]
    have hs : sumC (c :: cs) = c.2 + sumC cs := by simp [sumC]
    rw [hs] at h2
    by_cases hh : 2 * (a + c.2) ≥ h
    · rw [inn_done _ _ hh]
      unfold midF
      rw [if_pos hh]
    · rw [midF, if_neg hh]
      exact inn_group cs (a + c.2) c.1 (by omega) (by omega)
theorem inn_flat {z : Int} {cs : Cs} : ∀ (G : Zs), (G.map (·.1)).Nodup → (z, cs) ∈ G → 0 < sumC cs → (inn z (sumC cs) (flatZ G)).2 = midF (sumC cs) cs 0 := by
  intro G hn hm h0
  obtain ⟨G1, G2, rfl⟩ := List.append_of_mem hm
  have hn' := hn
  rw [List.map_append, List.map_cons, List.nodup_append] at hn'
  obtain ⟨_, n2, n3⟩ := hn'
  rw [List.nodup_cons] at n2
  have z1 : ∀ x ∈ flatZ G1, x.zone ≠ z := fun x hx e => by
    obtain ⟨p, hp, hpz, _⟩ := mem_flatZ.1 hx
    exact n3 p.1 (List.mem_map_of_mem hp) z (List.mem_cons_self ..) (hpz.trans e)
  have z2 : ∀ x ∈ flatZ G2, x.zone ≠ z := fun x hx e => by
    obtain ⟨p, hp, hpz, _⟩ := mem_flatZ.1 hx
    exact n2.1 (List.mem_map.2 ⟨p, hp, hpz.trans e⟩)
  have e : flatZ (G1 ++ (z, cs) :: G2) = flatZ G1 ++ (cs.map (mkC z) ++ flatZ G2) := by
    unfold flatZ
    rw [List.flatMap_append, List.flatMap_cons]
  unfold inn
  rw [e, List.foldl_append, inn_skip _ _ z1, List.foldl_append, inn_skip _ _ z2]
  exact inn_group cs 0 _ (by omega) (by omega)
theorem inn_snoc (z h : Int) (L : List Cl) (x : Cl) : inn z h (L ++ [x]) = innS z h (inn z h L) x := by
  unfold inn
  rw [List.foldl_append]; rfl
/-- A row as the first loop leaves it. -/
def row0 (p : Int × Cs) : Rw := ⟨p.1, sumC p.2, ⟨#[]⟩⟩
def rowI (L : List Cl) (p : Int × Cs) : Rw := ⟨p.1, sumC p.2, (inn p.1 (sumC p.2) L).2⟩
theorem grp_of_flat : ∀ L : List Cl, flatZ (grp L) = L
  | [] => rfl
  | y :: L => by
    have ih := grp_of_flat L
    rw [grp_cons]
    cases hg : grp L with
    | nil =>
      rw [hg] at ih
      rw [← ih]; rfl
    | cons p G =>
      rw [hg] at ih
      show flatZ (if p.1 = y.zone then _ else _) = _
      by_cases h : p.1 = y.zone
      · rw [if_pos h, flatZ_cons, List.map_cons, ← ih, flatZ_cons, List.cons_append]
        congr 1
        unfold mkC
        simp only [h]
      · rw [if_neg h, flatZ_cons, ih]
        rfl
theorem grp_zones : ∀ (L : List Cl), L.Pairwise Clt → (((grp L).map (·.1)).Pairwise (· < ·)) ∧ (∀ p ∈ grp L, p.2 ≠ [] ∧ ∃ x ∈ L, x.zone = p.1)
  | [], _ => ⟨List.Pairwise.nil, fun p hp => (by cases hp)⟩
  | y :: L, h => by
    rw [List.pairwise_cons] at h
    obtain ⟨i1, i2⟩ := grp_zones L h.2
    rw [grp_cons]
    cases hg : grp L with
    | nil => exact ⟨List.pairwise_singleton _ _, fun p hp => by rw [List.mem_singleton.1 hp]; exact ⟨by simp, y, List.mem_cons_self .., rfl⟩⟩
    | cons p G =>
      rw [hg] at i1 i2
      show ((List.map _ (if p.1 = y.zone then _ else _)).Pairwise _) ∧ _
      have hpy : p.1 = y.zone ∨ y.zone < p.1 := by
        obtain ⟨_, x, hx, hxz⟩ := i2 p (List.mem_cons_self ..)
        have := h.1 x hx
        rw [clt_iff] at this
        omega
      by_cases he : p.1 = y.zone
      · rw [if_pos he]
        refine ⟨i1, fun q hq => ?_⟩
        show q.2 ≠ [] ∧ _
        have hq' : q ∈ (if p.1 = y.zone then (p.1, (y.key, y.n) :: p.2) :: G else (y.zone, [(y.key, y.n)]) :: p :: G) := hq
        rw [if_pos he] at hq'
        rcases List.mem_cons.1 hq' with rfl | hq'
        · exact ⟨by simp, y, List.mem_cons_self .., he.symm⟩
        · obtain ⟨a, x, hx, hxz⟩ := i2 q (List.mem_cons_of_mem _ hq')
          exact ⟨a, x, List.mem_cons_of_mem _ hx, hxz⟩
      · rw [if_neg he]
        refine ⟨?_, fun q hq => ?_⟩
        · rw [List.map_cons, List.pairwise_cons]
          refine ⟨fun z hz => ?_, i1⟩
          rw [List.map_cons] at hz
          rcases List.mem_cons.1 hz with rfl | hz
          · show y.zone < p.1
            omega
          · rw [List.map_cons, List.pairwise_cons] at i1
            have := i1.1 z hz
            show y.zone < z
            omega
        · have hq' : q ∈ (if p.1 = y.zone then (p.1, (y.key, y.n) :: p.2) :: G else (y.zone, [(y.key, y.n)]) :: p :: G) := hq
          rw [if_neg he] at hq'
          rcases List.mem_cons.1 hq' with rfl | hq'
          · exact ⟨by simp, y, List.mem_cons_self .., rfl⟩
          · obtain ⟨a, x, hx, hxz⟩ := i2 q hq'
            exact ⟨a, x, List.mem_cons_of_mem _ hx, hxz⟩
/-- The document's table is the table. -/
theorem tbl_doc {L : List Cl} (hs : L.Pairwise Clt) (hn : ∀ x ∈ L, 0 < x.n) : (grp L).map (rowI L) = tblL L := by
  unfold tblL
  refine List.map_congr_left fun p hp => ?_
  obtain ⟨z1, z2⟩ := grp_zones L hs
  have hnd : ((grp L).map (·.1)).Nodup := by
    rw [List.nodup_iff_pairwise_ne]
    exact z1.imp fun h => by omega
  have hpos : 0 < sumC p.2 := by
    have hall : ∀ c ∈ p.2, 0 < c.2 := fun c hc => by
      have : mkC p.1 c ∈ L := by
        rw [← grp_of_flat L]
        exact mem_flatZ.2 ⟨p, hp, rfl, hc⟩
      exact hn _ this
    have : ∀ l : Cs, l ≠ [] → (∀ c ∈ l, 0 < c.2) → 0 < sumC l := by
      intro l
      induction l with
      | nil => intro h; exact absurd rfl h
      | cons c l ih =>
        intro _ h
        have h1 := h c (List.mem_cons_self ..)
        have e : sumC (c :: l) = c.2 + sumC l := by simp [sumC]
        by_cases hl : l = []
        · subst hl; rw [e]; simp [sumC]; exact h1
        · have := ih hl fun x hx => h x (List.mem_cons_of_mem _ hx)
          omega
    exact this p.2 (z2 p hp).1 hall
  obtain ⟨z, cs⟩ := p
  have := inn_flat (grp L) hnd hp hpos
  rw [grp_of_flat] at this
  unfold rowI rowOf
  simp only at this ⊢
  rw [this]
end Go.Proofs.Ytbogmenlhdpjlaa
