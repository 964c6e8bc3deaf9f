/-
  The table of a sorted list of cells; a Load as one resource with its list; Hit, Fade, Gone, Table on it. For every Load.
-/
import Derived.Test.YtbogmenlhdpjlaaLdG
set_option linter.unusedSimpArgs false
set_option linter.unusedVariables false
namespace Go.Proofs.Ytbogmenlhdpjlaa
open Go.RowKit Go.Sl
structure Rw where
  zone : Int
  hits : Int
  mid : ByteArray
def Rw.cells (r : Rw) : List Value := [.int .i64 r.zone, .int .i64 r.hits, .string r.mid]
theorem Rw.len (r : Rw) : r.cells.length = 3 := rfl
/-- The cells by zones. -/
def grp : List Cl → Zs
  | [] => []
  | x :: L => match grp L with
    | [] => [(x.zone, [(x.key, x.n)])]
    | p :: G => if p.1 = x.zone then (p.1, (x.key, x.n) :: p.2) :: G else (x.zone, [(x.key, x.n)]) :: p :: G
def rowOf (p : Int × Cs) : Rw := ⟨p.1, sumC p.2, midF (sumC p.2) p.2 0⟩
def tblL (L : List Cl) : List Rw := (grp L).map rowOf
theorem sorted_unique {L L' : List Cl} (hp : L.Perm L') (h : L.Pairwise Clt) (h' : L'.Pairwise Clt) : L = L' :=
  List.Perm.eq_of_pairwise (fun a b _ _ h1 h2 => absurd h2 (clt_asymm h1)) h h' hp
theorem grp_group (z : Int) (G : Zs) : ∀ (cs : Cs), cs ≠ [] → (∀ p ∈ G.head?, p.1 ≠ z) → ∀ L, grp L = G → grp (cs.map (mkC z) ++ L) = (z, cs) :: G
  | [], h, _, _, _ => absurd rfl h
  | [c], _, hz, L, hL => by
    show grp (mkC z c :: L) = _
    unfold grp
    rw [hL]
    cases G with
    | nil => rfl
    | cons p G =>
      have : p.1 ≠ (mkC z c).zone := hz p rfl
      show (if p.1 = (mkC z c).zone then _ else _) = _
      rw [if_neg this]; rfl
  | c :: d :: cs, _, hz, L, hL => by
    have ih := grp_group z G (d :: cs) (by simp) hz L hL
    show grp (mkC z c :: ((d :: cs).map (mkC z) ++ L)) = _
    unfold grp
    rw [ih]
    show (if z = (mkC z c).zone then _ else _) = _
    rw [if_pos (show z = (mkC z c).zone from rfl)]; rfl
theorem grp_flat : ∀ (G : Zs), (∀ p ∈ G, p.2 ≠ []) → (G.map (·.1)).Pairwise (· < ·) → grp (flatZ G) = G
  | [], _, _ => rfl
  | p :: G, hne, hs => by
    rw [List.map_cons, List.pairwise_cons] at hs
    have ih := grp_flat G (fun q hq => hne q (List.mem_cons_of_mem _ hq)) hs.2
    rw [flatZ_cons]
    refine grp_group p.1 G p.2 (hne p (List.mem_cons_self ..)) (fun q hq => ?_) _ ih
    have h1 : q ∈ G := by
      cases G with
      | nil => cases hq
      | cons a G => rw [List.head?_cons, Option.mem_def, Option.some.injEq] at hq; rw [hq]; exact List.mem_cons_self ..
    have := hs.1 q.1 (List.mem_map_of_mem h1)
    omega
theorem sortI_lt {l : List Int} (hn : l.Nodup) : (sortI l).Pairwise (· < ·) := by
  have h1 := sortI_pairwise l
  have h2 : (sortI l).Nodup := (sortI_perm l).nodup_iff.2 hn
  rw [List.nodup_iff_pairwise_ne] at h2
  exact (h1.and h2).imp fun h => by have := h.1; have := h.2; omega
theorem leB_ltb {a b : ByteArray} (h : leB a b = true) (hn : a ≠ b) : ltb a b = true := by
  cases hb : ltb b a with
  | false => exact ltb_total hb (Ne.symm hn)
  | true =>
    unfold leB at h
    unfold ltb at hb
    simp only [decide_eq_true_eq] at h hb
    exact absurd hb (List.not_lt.2 h)
theorem sortB_lt {l : List ByteArray} (hn : l.Nodup) : (sortB l).Pairwise fun a b => ltb a b = true := by
  have h1 := sortB_pairwise l
  have h2 : (sortB l).Nodup := (sortB_perm l).nodup_iff.2 hn
  rw [List.nodup_iff_pairwise_ne] at h2
  exact (h1.and h2).imp fun h => leB_ltb h.1 h.2
def canon (D : Zs) : Zs := (tblZ D).map fun p => (p.1, sortC p.2)
theorem flatZ_srt : ∀ (G : Zs), (G.map (·.1)).Pairwise (· < ·) → (∀ p ∈ G, (p.2.map (·.1)).Pairwise fun a b => ltb a b = true) → (flatZ G).Pairwise Clt
  | [], _, _ => List.Pairwise.nil
  | p :: G, hs, hk => by
    rw [List.map_cons, List.pairwise_cons] at hs
    have ih := flatZ_srt G hs.2 fun q hq => hk q (List.mem_cons_of_mem _ hq)
    rw [flatZ_cons, List.pairwise_append]
    refine ⟨?_, ih, fun x hx y hy => ?_⟩
    · have h1 := hk p (List.mem_cons_self ..)
      rw [List.pairwise_map] at h1 ⊢
      refine h1.imp fun {a b} h => ?_
      rw [clt_iff]
      exact .inr ⟨rfl, h⟩
    · obtain ⟨c, _, rfl⟩ := List.mem_map.1 hx
      obtain ⟨q, hq, hqz, _⟩ := mem_flatZ.1 hy
      have := hs.1 q.1 (List.mem_map_of_mem hq)
      rw [clt_iff]
      left
      show p.1 < y.zone
      omega
theorem sortC_keys {l : Cs} : (sortC l).map (·.1) = sortB (l.map (·.1)) := by
  unfold sortC
  rw [List.map_map]
  exact (List.map_congr_left fun x _ => rfl).trans (List.map_id _)
section
variable {D : Zs} {L : List Cl}
theorem canon_mem (h : Rep D L) {p : Int × Cs} (hp : p ∈ canon D) : ∃ q ∈ D, p = (q.1, sortC q.2) := by
  obtain ⟨q, hq, rfl⟩ := List.mem_map.1 hp
  exact ⟨q, (tblZ_perm h.zn).mem_iff.1 hq, rfl⟩
theorem canon_zones (h : Rep D L) : ((canon D).map (·.1)).Pairwise (· < ·) := by
  have e : (canon D).map (·.1) = sortI (D.map (·.1)) := by
    unfold canon tblZ
    rw [List.map_map, List.map_map]
    exact (List.map_congr_left fun x _ => rfl).trans (List.map_id _)
  rw [e]
  exact sortI_lt h.zn
theorem flat_perm2 : ∀ (l : Zs), (∀ p ∈ l, (p.2.map (·.1)).Nodup) → (flatZ (l.map fun p => (p.1, sortC p.2))).Perm (flatZ l)
  | [], _ => List.Perm.refl _
  | p :: l, h => by
    rw [List.map_cons, flatZ_cons, flatZ_cons]
    exact ((sortC_perm (h p (List.mem_cons_self ..))).map _).append (flat_perm2 l fun q hq => h q (List.mem_cons_of_mem _ hq))
theorem canon_flat (h : Rep D L) : flatZ (canon D) = L := by
  have hp := tblZ_perm h.zn
  refine sorted_unique ?_ (flatZ_srt _ (canon_zones h) fun p hp' => ?_) h.srt
  · refine (flat_perm2 (tblZ D) fun p hp' => (h.ok p (hp.mem_iff.1 hp')).2.2.1).trans ?_
    exact (flatZ_perm hp).trans h.flat
  · obtain ⟨q, hq, rfl⟩ := canon_mem h hp'
    show ((sortC q.2).map (·.1)).Pairwise _
    rw [sortC_keys]
    exact sortB_lt (h.ok q hq).2.2.1
theorem rep_grp (h : Rep D L) : grp L = canon D := by
  have h1 := grp_flat (canon D) (fun p hp => by
    obtain ⟨q, hq, rfl⟩ := canon_mem h hp
    obtain ⟨_, hne, hnd, _⟩ := h.ok q hq
    intro e
    have := (sortC_perm hnd).length_eq
    rw [show sortC q.2 = [] from e] at this
    exact hne (List.eq_nil_of_length_eq_zero this.symm)) (canon_zones h)
  rw [canon_flat h] at h1
  exact h1
theorem rep_rows (h : Rep D L) : (tblL L).flatMap Rw.cells = (tblZ D).flatMap rc ∧ (tblL L).length = D.length := by
  have hp := tblZ_perm h.zn
  constructor
  · unfold tblL
    rw [rep_grp h]
    unfold canon
    rw [List.map_map, List.flatMap_map]
    have : ∀ l : Zs, (∀ p ∈ l, (p.2.map (·.1)).Nodup) → (l.flatMap fun p => Rw.cells ((rowOf ∘ fun p => (p.1, sortC p.2)) p)) = l.flatMap rc := by
      intro l hl
      induction l with
      | nil => rfl
      | cons p l ih =>
        rw [List.flatMap_cons, List.flatMap_cons, ih fun q hq => hl q (List.mem_cons_of_mem _ hq)]
        congr 1
        have e := sumC_perm (sortC_perm (hl p (List.mem_cons_self ..)))
        show [Value.int .i64 p.1, .int .i64 (sumC (sortC p.2)), .string (midF (sumC (sortC p.2)) (sortC p.2) 0)] = rowCells p.1 p.2
        rw [e]; rfl
    exact this _ fun p hp' => (h.ok p (hp.mem_iff.1 hp')).2.2.1
  · unfold tblL
    rw [rep_grp h]
    unfold canon
    rw [List.length_map, List.length_map, hp.length_eq]
theorem rep_len (h : Rep D L) : D.length ≤ L.length := by
  have e := h.flat.length_eq
  rw [← e]
  have : ∀ l : Zs, (∀ p ∈ l, p.2 ≠ []) → l.length ≤ (flatZ l).length := by
    intro l hl
    induction l with
    | nil => exact Nat.le_refl _
    | cons p l ih =>
      have h1 := hl p (List.mem_cons_self ..)
      have h2 := ih fun q hq => hl q (List.mem_cons_of_mem _ hq)
      have h3 : 0 < p.2.length := List.length_pos_iff.2 h1
      rw [flatZ_cons, List.length_append, List.length_map, List.length_cons]
      omega
  exact this D fun p hp => (h.ok p hp).2.1
end
/-- A Load, told by its list of cells. -/
def loadL (lb : Nat) (L : List Cl) : HP := fun f => ∃ D : Zs, Rep D L ∧ loadP lb D f
section
variable {W w : World} {R : List HP} {lb : Nat} {L : List Cl}
theorem loadLOpen (h : St W (loadL lb L :: R) w) : ∃ D, Rep D L ∧ St W (loadP lb D :: R) w := by
  obtain ⟨D, h⟩ := St.ex (F := fun D f => Rep D L ∧ loadP lb D f) h
  obtain ⟨h1, h2⟩ := St.and h
  exact ⟨D, h1, h2⟩
theorem loadLShut {D : Zs} (hR : Rep D L) (h : St W (loadP lb D :: R) w) : St W (loadL lb L :: R) w := h.imp fun _ hf => ⟨D, hR, hf⟩
end
theorem rep_nil : Rep [] [] := ⟨List.Perm.refl _, List.Pairwise.nil, List.nodup_nil, fun p hp => (by cases hp)⟩
theorem new_spec (W w : World) (R : List HP) (hS : St W R w) :
    Calls Try.prog 10 #[] w fun e w' => ∃ b, e = .returned (.pointer (some ⟨b, 0, none⟩)) ∧ St W (loadL b [] :: R) w' :=
  (new_load W w R hS).mono fun e w' ⟨b, he, h⟩ => ⟨b, he, loadLShut rep_nil h⟩
theorem hit_spec (lb : Nat) (L : List Cl) (z : Int) (k : ByteArray) (hwf : (Lit.int .i64 z).wf = true) (W w : World) (R : List HP) (hS : St W (loadL lb L :: R) w) :
    Calls Try.prog 11 #[.pointer (some ⟨lb, 0, none⟩), .int .i64 z, .string k] w fun e w' => e = .returned (.tuple #[]) ∧ St W (loadL lb (hitR L z k) :: R) w' := by
  obtain ⟨D, hR, hS⟩ := loadLOpen hS
  by_cases hb : bad z k
  · have e : hitR L z k = L := by unfold hitR; rw [if_pos hb]
    rw [e]
    exact (hit_bad lb z k hb W w _ hS).mono fun e w' ⟨he, h⟩ => ⟨he, loadLShut hR h⟩
  · have hb' := hb
    unfold bad at hb'
    have h1 : ¬ z < 1 := fun h => hb' (.inl h)
    have h2 : ¬ k.size < 1 := fun h => hb' (.inr (.inl h))
    have h3 : ¬ 16 < k.size := fun h => hb' (.inr (.inr h))
    cases hz : getL D z with
    | none => exact (hit_zone h1 h2 h3 hz W w _ hS).mono fun e w' ⟨he, h⟩ => ⟨he, loadLShut (rep_zone hR hb hz hwf) h⟩
    | some cells =>
      obtain ⟨D', hp⟩ := perm_pick (getL_some hz)
      have hc := (hR.ok (z, cells) (getL_some hz)).1
      cases hk : getL cells k with
      | none =>
        by_cases h64 : cells.length < 64
        · exact (hit_key h1 h2 h3 hp hk h64 W w _ hS).mono fun e w' ⟨he, h⟩ => ⟨he, loadLShut (rep_key hR hp hb hk h64) h⟩
        · rw [rep_full hR hp hb hk (by omega)]
          exact (hit_full h1 h2 h3 hp hk (by omega) W w _ hS).mono fun e w' ⟨he, h⟩ => ⟨he, loadLShut hR h⟩
      | some n =>
        have hn := hc.each (k, n) (getL_some hk)
        by_cases h20 : n < 1048576
        · exact (hit_one h1 h2 h3 hp hk hn.1 h20 W w _ hS).mono fun e w' ⟨he, h⟩ => ⟨he, loadLShut (rep_one hR hp hb hk h20) h⟩
        · rw [rep_most hR hp hb hk (by omega)]
          exact (hit_most h1 h2 h3 hp hk (by omega) W w _ hS).mono fun e w' ⟨he, h⟩ => ⟨he, loadLShut hR h⟩
theorem gone_spec (lb : Nat) (L : List Cl) (z : Int) (W w : World) (R : List HP) (hS : St W (loadL lb L :: R) w) :
    Calls Try.prog 16 #[.pointer (some ⟨lb, 0, none⟩), .int .i64 z] w fun e w' => e = .returned (.tuple #[]) ∧ St W (loadL lb (goneR L z) :: R) w' := by
  obtain ⟨D, hR, hS⟩ := loadLOpen hS
  cases hz : getL D z with
  | none =>
    rw [gone_same hR hz]
    exact (gone_no hz W w _ hS).mono fun e w' ⟨he, h⟩ => ⟨he, loadLShut hR h⟩
  | some cells =>
    obtain ⟨D', hp⟩ := perm_pick (getL_some hz)
    exact (gone_has hp W w _ hS).mono fun e w' ⟨he, h⟩ => ⟨he, loadLShut (rep_gone hR hp) h⟩
theorem fadeL_spec (lb : Nat) (L : List Cl) (W w : World) (R : List HP) (hS : St W (loadL lb L :: R) w) :
    Calls Try.prog 13 #[.pointer (some ⟨lb, 0, none⟩)] w fun e w' => e = .returned (.tuple #[]) ∧ St W (loadL lb (fadeR L) :: R) w' := by
  obtain ⟨D, hR, hS⟩ := loadLOpen hS
  exact (fade_spec lb D (fun p hp => (hR.ok p hp).1) W w _ hS).mono fun e w' ⟨he, D', hp, h⟩ => ⟨he, loadLShut ((rep_fade hR).perm hp.symm) h⟩
def rowsR (v : Value) (l : List Rw) : HP := row v 3 31 l.length (l.flatMap Rw.cells)
theorem tableL_spec (lb : Nat) (L : List Cl) (hl : L.length ≤ 1000) (W w : World) (R : List HP) (hS : St W (loadL lb L :: R) w) :
    Calls Try.prog 12 #[.pointer (some ⟨lb, 0, none⟩)] w fun e w' => ∃ v, e = .returned v ∧ St W (rowsR v (tblL L) :: loadL lb L :: R) w' := by
  obtain ⟨D, hR, hS⟩ := loadLOpen hS
  have h1 := rep_len hR
  refine (table_spec lb D ⟨by omega, fun p hp => ⟨(hR.ok p hp).1, (hR.ok p hp).2.2.2⟩⟩ W w _ hS).mono fun e w' ⟨v, he, h⟩ => ⟨v, he, ?_⟩
  obtain ⟨e1, e2⟩ := rep_rows hR
  unfold rowsR
  rw [e1, e2]
  exact (loadLShut hR h.swap).swap
end Go.Proofs.Ytbogmenlhdpjlaa
