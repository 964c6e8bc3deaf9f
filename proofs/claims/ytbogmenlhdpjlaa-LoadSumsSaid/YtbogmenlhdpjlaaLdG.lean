/-
  A Load as one sorted list of cells, as the document has it: Hit, Fade, Gone on it; the program's maps and the list go on together. For every Load.
-/
import Derived.Test.YtbogmenlhdpjlaaLdF
set_option linter.unusedSimpArgs false
set_option linter.unusedVariables false
namespace Go.Proofs.Ytbogmenlhdpjlaa
open Go.RowKit Go.Sl
structure Cl where
  zone : Int
  key : ByteArray
  n : Int
def mkC (z : Int) (c : ByteArray × Int) : Cl := ⟨z, c.1, c.2⟩
def flatZ (D : Zs) : List Cl := D.flatMap fun p => p.2.map (mkC p.1)
def ltb (a b : ByteArray) : Bool := decide (a.data.toList < b.data.toList)
def before (z : Int) (k : ByteArray) (x : Cl) : Bool := decide (x.zone < z) || (x.zone == z && ltb x.key k)
def Clt (x y : Cl) : Prop := before y.zone y.key x = true
theorem ltb_irrefl (a : ByteArray) : ltb a a = false := by unfold ltb; rw [decide_eq_false_iff_not]; exact List.lt_irrefl _
theorem ltb_trans {a b c : ByteArray} (h1 : ltb a b = true) (h2 : ltb b c = true) : ltb a c = true := by
  unfold ltb at *; simp only [decide_eq_true_eq] at *; exact List.lt_trans h1 h2
theorem bytes_eq {a b : ByteArray} (h : a.data.toList = b.data.toList) : a = b := by
  obtain ⟨⟨a⟩⟩ := a
  obtain ⟨⟨b⟩⟩ := b
  simp at h
  rw [h]
theorem ltb_total {a b : ByteArray} (h : ltb a b = false) (hn : a ≠ b) : ltb b a = true := by
  unfold ltb at *
  simp only [decide_eq_true_eq, decide_eq_false_iff_not] at *
  by_cases h2 : b.data.toList < a.data.toList
  · exact h2
  · exact absurd (bytes_eq (List.le_antisymm (List.not_lt.1 h2) (List.not_lt.1 h))) hn
theorem clt_iff {x y : Cl} : Clt x y ↔ x.zone < y.zone ∨ (x.zone = y.zone ∧ ltb x.key y.key = true) := by
  unfold Clt before; simp
theorem clt_trans {x y z : Cl} (h1 : Clt x y) (h2 : Clt y z) : Clt x z := by
  rw [clt_iff] at *
  rcases h1 with h1 | ⟨h1, h3⟩ <;> rcases h2 with h2 | ⟨h2, h4⟩
  · left; omega
  · left; omega
  · left; omega
  · right; exact ⟨by omega, ltb_trans h3 h4⟩
theorem clt_asymm {x y : Cl} (h1 : Clt x y) : ¬ Clt y x := fun h2 => by
  have := clt_trans h1 h2
  rw [clt_iff] at this
  rcases this with h | ⟨_, h⟩
  · omega
  · rw [ltb_irrefl] at h; cases h
structure Rep (D : Zs) (L : List Cl) : Prop where
  flat : (flatZ D).Perm L
  srt : L.Pairwise Clt
  zn : (D.map (·.1)).Nodup
  ok : ∀ p ∈ D, CsOk p.2 ∧ p.2 ≠ [] ∧ (p.2.map (·.1)).Nodup ∧ (Lit.int .i64 p.1).wf = true
def bad (z : Int) (k : ByteArray) : Prop := z < 1 ∨ k.size < 1 ∨ 16 < k.size
instance (z : Int) (k : ByteArray) : Decidable (bad z k) := inferInstanceAs (Decidable (_ ∨ _ ∨ _))
def is (z : Int) (k : ByteArray) (x : Cl) : Bool := x.zone == z && x.key == k
def bump (z : Int) (k : ByteArray) (x : Cl) : Cl := if x.zone = z ∧ x.key = k ∧ x.n < 1048576 then { x with n := x.n + 1 } else x
def hitR (L : List Cl) (z : Int) (k : ByteArray) : List Cl :=
  if bad z k then L
  else if ∃ x ∈ L, x.zone = z ∧ x.key = k then L.map (bump z k)
  else if 64 ≤ (L.filter (fun x => x.zone == z)).length then L
  else L.filter (before z k) ++ ⟨z, k, 1⟩ :: L.filter (fun x => !before z k x)
def goneR (L : List Cl) (z : Int) : List Cl := L.filter fun x => x.zone != z
def fadeR (L : List Cl) : List Cl := (L.map fun x => { x with n := x.n / 2 }).filter fun x => decide (0 < x.n)
theorem flatZ_perm {D D' : Zs} (h : D.Perm D') : (flatZ D).Perm (flatZ D') := h.flatMap_right _
theorem flatZ_cons (p : Int × Cs) (D : Zs) : flatZ (p :: D) = p.2.map (mkC p.1) ++ flatZ D := rfl
theorem mem_flatZ {D : Zs} {x : Cl} : x ∈ flatZ D ↔ ∃ p ∈ D, p.1 = x.zone ∧ (x.key, x.n) ∈ p.2 := by
  unfold flatZ
  rw [List.mem_flatMap]
  constructor
  · rintro ⟨p, hp, hx⟩
    obtain ⟨c, hc, rfl⟩ := List.mem_map.1 hx
    exact ⟨p, hp, rfl, hc⟩
  · rintro ⟨p, hp, h1, h2⟩
    exact ⟨p, hp, List.mem_map.2 ⟨_, h2, by unfold mkC; rw [h1]⟩⟩
section
variable {D D' : Zs} {L : List Cl} {z : Int} {k : ByteArray} {cells : Cs}
theorem Rep.apart (h : Rep D L) (hp : D.Perm ((z, cells) :: D')) : ∀ x ∈ flatZ D', x.zone ≠ z := by
  have h1 := (hp.map (·.1)).nodup_iff.1 h.zn
  rw [List.map_cons, List.nodup_cons] at h1
  intro x hx e
  obtain ⟨p, hp, hpz, _⟩ := mem_flatZ.1 hx
  exact h1.1 (List.mem_map.2 ⟨p, hp, hpz.trans e⟩)
theorem cells_split {n : Int} (hn : (cells.map (·.1)).Nodup) (h : getL cells k = some n) : cells.Perm ((k, n) :: delL cells k) := by
  obtain ⟨l', hl⟩ := perm_pick (getL_some h)
  have h1 := (hl.map (·.1)).nodup_iff.1 hn
  have h2 : (delL cells k).Perm l' := by
    have := delL_perm hl k
    rw [delL_head h1] at this
    exact this
  exact hl.trans (h2.symm.cons _)
theorem Rep.perm (h : Rep D L) (hp : D.Perm D') : Rep D' L :=
  ⟨(flatZ_perm hp).symm.trans h.flat, h.srt, (hp.map (·.1)).nodup_iff.1 h.zn, fun p hp' => h.ok p (hp.mem_iff.2 hp')⟩
theorem bump_same {x : Cl} : (bump z k x).zone = x.zone ∧ (bump z k x).key = x.key := by
  unfold bump; split <;> exact ⟨rfl, rfl⟩
theorem srt_map {f : Cl → Cl} (hf : ∀ x, (f x).zone = x.zone ∧ (f x).key = x.key) (h : L.Pairwise Clt) : (L.map f).Pairwise Clt := by
  rw [List.pairwise_map]
  refine h.imp fun {x y} hxy => ?_
  rw [clt_iff] at hxy ⊢
  rw [(hf x).1, (hf x).2, (hf y).1, (hf y).2]
  exact hxy
theorem bump_other {x : Cl} (h : ¬ (x.zone = z ∧ x.key = k)) : bump z k x = x := by
  unfold bump; rw [if_neg fun h' => h ⟨h'.1, h'.2.1⟩]
theorem map_bump_other {l : List Cl} (h : ∀ x ∈ l, ¬ (x.zone = z ∧ x.key = k)) : l.map (bump z k) = l :=
  (List.map_congr_left fun x hx => bump_other (h x hx)).trans (List.map_id l)
/-- One more of a key that is there. -/
theorem rep_one {n : Int} (h : Rep D L) (hp : D.Perm ((z, cells) :: D')) (hb : ¬ bad z k) (hn : getL cells k = some n) (h20 : n < 1048576) : Rep ((z, (k, n + 1) :: delL cells k) :: D') (hitR L z k) := by
  obtain ⟨hc, hne, hnd, hwf⟩ := h.ok (z, cells) (hp.mem_iff.2 (List.mem_cons_self ..))
  have hs := cells_split hnd hn
  have hdk : ∀ c ∈ delL cells k, c.1 ≠ k := fun c hc => by simpa using (List.mem_filter.1 hc).2
  have hmem : ∃ x ∈ L, x.zone = z ∧ x.key = k := ⟨⟨z, k, n⟩, h.flat.mem_iff.1 (mem_flatZ.2 ⟨(z, cells), hp.mem_iff.2 (List.mem_cons_self ..), rfl, getL_some hn⟩), rfl, rfl⟩
  have e : hitR L z k = L.map (bump z k) := by unfold hitR; rw [if_neg hb, if_pos hmem]
  have hck := hc.each (k, n) (getL_some hn)
  rw [e]
  refine ⟨?_, srt_map (fun x => bump_same) h.srt, ?_, ?_⟩
  · refine List.Perm.trans ?_ (h.flat.map (bump z k))
    refine List.Perm.trans ?_ ((flatZ_perm hp).map (bump z k)).symm
    rw [flatZ_cons, flatZ_cons, List.map_append, map_bump_other (l := flatZ D') (fun x hx e => h.apart hp x hx e.1)]
    refine List.Perm.append_right _ ?_
    refine List.Perm.trans ?_ ((hs.map (mkC z)).map (bump z k)).symm
    simp only [List.map_cons]
    have e1 : bump z k (mkC z (k, n)) = mkC z (k, n + 1) := by unfold bump mkC; rw [if_pos ⟨rfl, rfl, h20⟩]
    rw [e1, map_bump_other (l := (delL cells k).map (mkC z)) (fun x hx e => by
      obtain ⟨c, hc, rfl⟩ := List.mem_map.1 hx
      exact hdk c hc e.2)]
  · have := (hp.map (·.1)).nodup_iff.1 h.zn
    exact this
  · intro p hp'
    rcases List.mem_cons.1 hp' with rfl | hp'
    · refine ⟨⟨?_, fun c hc' => ?_⟩, by simp, ?_, hwf⟩
      · have hl2 : cells.length = (delL cells k).length + 1 := hs.length_eq
        have h64 : cells.length ≤ 64 := hc.len
        show (delL cells k).length + 1 ≤ 64
        omega
      · rcases List.mem_cons.1 hc' with rfl | hc'
        · exact ⟨by omega, by simp only; omega, hck.2.2⟩
        · exact hc.each c (List.mem_filter.1 hc').1
      · have := (hs.map (·.1)).nodup_iff.1 hnd
        exact this
    · exact h.ok p (hp.mem_iff.2 (List.mem_cons_of_mem _ hp'))
theorem rep_most {n : Int} (h : Rep D L) (hp : D.Perm ((z, cells) :: D')) (hb : ¬ bad z k) (hn : getL cells k = some n) (h20 : 1048576 ≤ n) : hitR L z k = L := by
  obtain ⟨hc, hne, hnd, hwf⟩ := h.ok (z, cells) (hp.mem_iff.2 (List.mem_cons_self ..))
  have hmem : ∃ x ∈ L, x.zone = z ∧ x.key = k := ⟨⟨z, k, n⟩, h.flat.mem_iff.1 (mem_flatZ.2 ⟨(z, cells), hp.mem_iff.2 (List.mem_cons_self ..), rfl, getL_some hn⟩), rfl, rfl⟩
  unfold hitR
  rw [if_neg hb, if_pos hmem]
  refine (List.map_congr_left fun x hx => ?_).trans (List.map_id L)
  unfold bump
  rw [if_neg]
  · rfl
  · rintro ⟨h1, h2, h3⟩
    obtain ⟨p, hp', hpz, hpk⟩ := mem_flatZ.1 (h.flat.mem_iff.2 hx)
    rcases List.mem_cons.1 (hp.mem_iff.1 hp') with rfl | hpd
    · have := getL_at hnd hpk
      rw [h2, hn] at this
      injection this with this
      omega
    · exact h.apart hp x (mem_flatZ.2 ⟨p, hpd, hpz, hpk⟩) h1
theorem filter_zone (h : Rep D L) (hp : D.Perm ((z, cells) :: D')) : (L.filter (fun x => x.zone == z)).length = cells.length := by
  have h1 := ((h.flat.symm.trans (flatZ_perm hp)).filter (fun x => x.zone == z)).length_eq
  rw [h1, flatZ_cons, List.filter_append, List.filter_eq_self.2, List.filter_eq_nil_iff.2, List.append_nil, List.length_map]
  · intro x hx
    simpa using h.apart hp x hx
  · intro x hx
    obtain ⟨c, _, rfl⟩ := List.mem_map.1 hx
    simp [mkC]
theorem not_there (h : Rep D L) (hp : D.Perm ((z, cells) :: D')) (hn : getL cells k = none) : ¬ ∃ x ∈ L, x.zone = z ∧ x.key = k := by
  rintro ⟨x, hx, h1, h2⟩
  obtain ⟨p, hp', hpz, hpk⟩ := mem_flatZ.1 (h.flat.mem_iff.2 hx)
  rcases List.mem_cons.1 (hp.mem_iff.1 hp') with rfl | hpd
  · exact getL_none hn _ hpk h2
  · exact h.apart hp x (mem_flatZ.2 ⟨p, hpd, hpz, hpk⟩) h1
theorem rep_full (h : Rep D L) (hp : D.Perm ((z, cells) :: D')) (hb : ¬ bad z k) (hn : getL cells k = none) (h64 : 64 ≤ cells.length) : hitR L z k = L := by
  unfold hitR
  rw [if_neg hb, if_neg (not_there h hp hn), if_pos (by rw [filter_zone h hp]; exact h64)]
theorem ins_srt (h : L.Pairwise Clt) (hn : ¬ ∃ x ∈ L, x.zone = z ∧ x.key = k) (n : Int) : (L.filter (before z k) ++ ⟨z, k, n⟩ :: L.filter (fun x => !before z k x)).Pairwise Clt := by
  have ha : ∀ x ∈ L, before z k x = false → Clt ⟨z, k, n⟩ x := fun x hx hb => by
    rw [clt_iff]
    unfold before at hb
    simp only [Bool.or_eq_false_iff, decide_eq_false_iff_not, Bool.and_eq_false_iff, beq_eq_false_iff_ne] at hb
    by_cases hz : x.zone = z
    · right
      refine ⟨hz.symm, ltb_total (hb.2.resolve_left fun h => h hz) fun e => hn ⟨x, hx, hz, e⟩⟩
    · left
      show z < x.zone
      omega
  rw [List.pairwise_append]
  refine ⟨h.filter _, ?_, fun x hx y hy => ?_⟩
  · rw [List.pairwise_cons]
    refine ⟨fun x hx => ?_, h.filter _⟩
    obtain ⟨h1, h2⟩ := List.mem_filter.1 hx
    exact ha x h1 (by simpa using h2)
  · obtain ⟨h1, h2⟩ := List.mem_filter.1 hx
    have hxz : Clt x ⟨z, k, n⟩ := h2
    rcases List.mem_cons.1 hy with rfl | hy
    · exact hxz
    · obtain ⟨h3, h4⟩ := List.mem_filter.1 hy
      exact clt_trans hxz (ha y h3 (by simpa using h4))
theorem ins_perm (L : List Cl) (p : Cl → Bool) (x : Cl) : (L.filter p ++ x :: L.filter (fun y => !p y)).Perm (x :: L) :=
  List.perm_middle.trans ((List.filter_append_perm p L).cons x)
theorem rep_key (h : Rep D L) (hp : D.Perm ((z, cells) :: D')) (hb : ¬ bad z k) (hn : getL cells k = none) (h64 : cells.length < 64) : Rep ((z, (k, 1) :: cells) :: D') (hitR L z k) := by
  obtain ⟨hc, hne, hnd, hwf⟩ := h.ok (z, cells) (hp.mem_iff.2 (List.mem_cons_self ..))
  have hnt := not_there h hp hn
  have e : hitR L z k = L.filter (before z k) ++ ⟨z, k, 1⟩ :: L.filter (fun x => !before z k x) := by
    unfold hitR; rw [if_neg hb, if_neg hnt, if_neg (by rw [filter_zone h hp]; omega)]
  have hb' : 1 ≤ z ∧ 1 ≤ k.size ∧ k.size ≤ 16 := by unfold bad at hb; omega
  rw [e]
  refine ⟨?_, ins_srt h.srt hnt 1, (hp.map (·.1)).nodup_iff.1 h.zn, fun p hp' => ?_⟩
  · refine List.Perm.trans ?_ (ins_perm L _ _).symm
    rw [flatZ_cons]
    show (mkC z (k, 1) :: (cells.map (mkC z) ++ flatZ D')).Perm _
    exact ((flatZ_perm hp).symm.trans h.flat).cons _
  · rcases List.mem_cons.1 hp' with rfl | hp'
    · refine ⟨⟨by simp only [List.length_cons]; omega, fun c hc' => ?_⟩, by simp, ?_, hwf⟩
      · rcases List.mem_cons.1 hc' with rfl | hc'
        · exact ⟨by omega, by omega, hb'.2⟩
        · exact hc.each c hc'
      · rw [List.map_cons, List.nodup_cons]
        exact ⟨fun hm => by obtain ⟨c, hc, e⟩ := List.mem_map.1 hm; exact getL_none hn c hc e, hnd⟩
    · exact h.ok p (hp.mem_iff.2 (List.mem_cons_of_mem _ hp'))
theorem rep_zone (h : Rep D L) (hb : ¬ bad z k) (hn : getL D z = none) (hwf : (Lit.int .i64 z).wf = true) : Rep ((z, [(k, 1)]) :: D) (hitR L z k) := by
  have hz : ∀ x ∈ L, x.zone ≠ z := fun x hx e => by
    obtain ⟨p, hp', hpz, hpk⟩ := mem_flatZ.1 (h.flat.mem_iff.2 hx)
    exact getL_none hn p hp' (hpz.trans e)
  have hnt : ¬ ∃ x ∈ L, x.zone = z ∧ x.key = k := fun ⟨x, hx, h1, _⟩ => hz x hx h1
  have hf : L.filter (fun x => x.zone == z) = [] := List.filter_eq_nil_iff.2 fun x hx => by simpa using hz x hx
  have e : hitR L z k = L.filter (before z k) ++ ⟨z, k, 1⟩ :: L.filter (fun x => !before z k x) := by
    unfold hitR; rw [if_neg hb, if_neg hnt, if_neg (by rw [hf]; simp)]
  have hb' : 1 ≤ z ∧ 1 ≤ k.size ∧ k.size ≤ 16 := by unfold bad at hb; omega
  rw [e]
  refine ⟨?_, ins_srt h.srt hnt 1, ?_, fun p hp' => ?_⟩
  · exact (h.flat.cons (mkC z (k, 1))).trans (ins_perm L _ _).symm
  · rw [List.map_cons, List.nodup_cons]
    exact ⟨fun hm => by obtain ⟨c, hc, e⟩ := List.mem_map.1 hm; exact getL_none hn c hc e, h.zn⟩
  · rcases List.mem_cons.1 hp' with rfl | hp'
    · exact ⟨⟨by simp, fun c hc' => by rw [List.mem_singleton.1 hc']; exact ⟨by omega, by omega, hb'.2⟩⟩, by simp, by simp, hwf⟩
    · exact h.ok p hp'
/-! Gone, Fade. -/
theorem rep_gone (h : Rep D L) (hp : D.Perm ((z, cells) :: D')) : Rep D' (goneR L z) := by
  have hzn := (hp.map (·.1)).nodup_iff.1 h.zn
  rw [List.map_cons, List.nodup_cons] at hzn
  refine ⟨?_, h.srt.filter _, hzn.2, fun p hp' => h.ok p (hp.mem_iff.2 (List.mem_cons_of_mem _ hp'))⟩
  have h1 := (h.flat.symm.trans (flatZ_perm hp)).filter (fun x => x.zone != z)
  refine List.Perm.trans ?_ h1.symm
  rw [flatZ_cons, List.filter_append, List.filter_eq_nil_iff.2, List.nil_append, List.filter_eq_self.2]
  · intro x hx
    simpa using h.apart hp x hx
  · intro x hx
    obtain ⟨c, _, rfl⟩ := List.mem_map.1 hx
    simp [mkC]
theorem gone_same (h : Rep D L) (hn : getL D z = none) : goneR L z = L := by
  refine List.filter_eq_self.2 fun x hx => ?_
  obtain ⟨p, hp', hpz, hpk⟩ := mem_flatZ.1 (h.flat.mem_iff.2 hx)
  have : x.zone ≠ z := fun e => getL_none hn p hp' (hpz.trans e)
  simpa using this
def halfC (x : Cl) : Cl := { x with n := x.n / 2 }
theorem flat_fade (z : Int) : ∀ l : Cs, (∀ c ∈ l, 0 < c.2) → ((l.map (mkC z)).map halfC).filter (fun x => decide (0 < x.n)) = (fadeC l).map (mkC z)
  | [], _ => rfl
  | c :: l, h => by
    have ih := flat_fade z l fun y hy => h y (List.mem_cons_of_mem _ hy)
    have hc := h c (List.mem_cons_self ..)
    by_cases h2 : c.2 / 2 = 0
    · rw [fadeC_cons0 h2, List.map_cons, List.map_cons, List.filter_cons, if_neg, ih]
      show ¬ decide (0 < c.2 / 2) = true
      simp only [decide_eq_true_eq]; omega
    · rw [fadeC_cons1 h2, List.map_cons, List.map_cons, List.filter_cons, if_pos, ih]
      · rfl
      · show decide (0 < c.2 / 2) = true
        simp only [decide_eq_true_eq]; omega
theorem flatZ_fade : ∀ D : Zs, (∀ p ∈ D, CsOk p.2) → ((flatZ D).map halfC).filter (fun x => decide (0 < x.n)) = flatZ (fadeZ D)
  | [], _ => rfl
  | p :: D, h => by
    have ih := flatZ_fade D fun y hy => h y (List.mem_cons_of_mem _ hy)
    have hp := flat_fade p.1 p.2 fun c hc => ((h p (List.mem_cons_self ..)).each c hc).1
    rw [flatZ_cons, List.map_append, List.filter_append, hp, ih]
    by_cases hf : fadeC p.2 = []
    · rw [fadeZ_cons0 hf, hf]; rfl
    · rw [fadeZ_cons1 hf, flatZ_cons]
theorem fadeZ_sub : ∀ {D : Zs} {p : Int × Cs}, p ∈ fadeZ D → ∃ q ∈ D, p = (q.1, fadeC q.2) ∧ fadeC q.2 ≠ [] := by
  intro D p hp
  unfold fadeZ at hp
  obtain ⟨h1, h2⟩ := List.mem_filter.1 hp
  obtain ⟨q, hq, rfl⟩ := List.mem_map.1 h1
  exact ⟨q, hq, rfl, by simpa using h2⟩
theorem rep_fade (h : Rep D L) : Rep (fadeZ D) (fadeR L) := by
  refine ⟨?_, ?_, ?_, fun p hp => ?_⟩
  · rw [← flatZ_fade D fun p hp => (h.ok p hp).1]
    exact (h.flat.map halfC).filter _
  · exact (srt_map (f := halfC) (fun x => ⟨rfl, rfl⟩) h.srt).filter _
  · unfold fadeZ
    have h1 : (D.map fun p => (p.1, fadeC p.2)).map (·.1) = D.map (·.1) := by rw [List.map_map]; rfl
    exact nodup_filter_map (by rw [h1]; exact h.zn)
  · obtain ⟨q, hq, rfl, hne⟩ := fadeZ_sub hp
    obtain ⟨hc, _, hnd, hwf⟩ := h.ok q hq
    refine ⟨⟨?_, fun c hc' => ?_⟩, hne, ?_, hwf⟩
    · have h1 : (fadeC q.2).length ≤ q.2.length := by
        unfold fadeC
        exact Nat.le_trans (List.length_filter_le _ _) (by rw [List.length_map]; exact Nat.le_refl _)
      have h2 := hc.len
      exact Nat.le_trans h1 h2
    · unfold fadeC at hc'
      obtain ⟨h1, h2⟩ := List.mem_filter.1 hc'
      obtain ⟨c0, hc0, rfl⟩ := List.mem_map.1 h1
      have h3 := hc.each c0 hc0
      simp only [decide_eq_true_eq, ne_eq] at h2
      exact ⟨by simp only; omega, by simp only; omega, h3.2.2⟩
    · unfold fadeC
      have h1 : (q.2.map fun x => (x.1, x.2 / 2)).map (·.1) = q.2.map (·.1) := by rw [List.map_map]; rfl
      exact nodup_filter_map (by rw [h1]; exact hnd)
end
end Go.Proofs.Ytbogmenlhdpjlaa
