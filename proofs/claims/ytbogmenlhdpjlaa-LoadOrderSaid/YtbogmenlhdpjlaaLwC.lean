/-
  In what order hits come does not matter, if there are not too many of them. For all hits.
-/
import Derived.Test.YtbogmenlhdpjlaaLdI
set_option linter.unusedSimpArgs false
set_option linter.unusedVariables false
namespace Go.Proofs.Ytbogmenlhdpjlaa
open Go.RowKit Go.Sl
abbrev Ht := Int × ByteArray
def hitF (L : List Cl) (h : Ht) : List Cl := hitR L h.1 h.2
def cntH (hs : List Ht) (z : Int) (k : ByteArray) : Nat := (hs.filter fun h => decide (h.1 = z ∧ h.2 = k)).length
structure Inv (L : List Cl) (hs : List Ht) : Prop where
  srt : L.Pairwise Clt
  len : L.length ≤ hs.length
  each : ∀ x ∈ L, ¬ bad x.zone x.key ∧ x.n = cntH hs x.zone x.key ∧ 1 ≤ cntH hs x.zone x.key
  all : ∀ z k, ¬ bad z k → 1 ≤ cntH hs z k → ∃ x ∈ L, x.zone = z ∧ x.key = k
theorem cntH_snoc (hs : List Ht) (h : Ht) (z : Int) (k : ByteArray) : cntH (hs ++ [h]) z k = cntH hs z k + (if h.1 = z ∧ h.2 = k then 1 else 0) := by
  unfold cntH
  rw [List.filter_append, List.length_append]
  by_cases hx : h.1 = z ∧ h.2 = k
  · rw [if_pos hx, List.filter_cons, if_pos (by simpa using hx)]; rfl
  · rw [if_neg hx, List.filter_cons, if_neg (by simpa using hx)]; rfl
theorem cntH_le (hs : List Ht) (z : Int) (k : ByteArray) : cntH hs z k ≤ hs.length := List.length_filter_le _ _
theorem inv_step {L : List Cl} {hs : List Ht} (h : Inv L hs) (hl : hs.length < 64) (x : Ht) : Inv (hitF L x) (hs ++ [x]) := by
  obtain ⟨z, k⟩ := x
  show Inv (hitR L z k) _
  unfold hitR
  by_cases hb : bad z k
  · rw [if_pos hb]
    refine ⟨h.srt, by rw [List.length_append]; have := h.len; simp; omega, fun y hy => ?_, fun z' k' hb' hc => ?_⟩
    · obtain ⟨h1, h2, h3⟩ := h.each y hy
      rw [cntH_snoc, if_neg (fun e => h1 (by rw [← e.1, ← e.2]; exact hb))]
      exact ⟨h1, h2, h3⟩
    · rw [cntH_snoc, if_neg (fun e => hb' (by rw [← e.1, ← e.2]; exact hb))] at hc
      exact h.all z' k' hb' hc
  · rw [if_neg hb]
    by_cases hm : ∃ y ∈ L, y.zone = z ∧ y.key = k
    · rw [if_pos hm]
      refine ⟨srt_map (fun x => bump_same) h.srt, by rw [List.length_map, List.length_append]; have := h.len; simp; omega, fun y hy => ?_, fun z' k' hb' hc => ?_⟩
      · obtain ⟨y, hy0, rfl⟩ := List.mem_map.1 hy
        obtain ⟨h1, h2, h3⟩ := h.each y hy0
        rw [bump_same.1, bump_same.2, cntH_snoc]
        refine ⟨h1, ?_, by omega⟩
        have hc := cntH_le hs y.zone y.key
        unfold bump
        by_cases e : y.zone = z ∧ y.key = k
        · rw [if_pos ⟨e.1, e.2, by omega⟩, if_pos ⟨e.1.symm, e.2.symm⟩]
          show y.n + 1 = _
          omega
        · rw [if_neg (fun e' => e ⟨e'.1, e'.2.1⟩), if_neg (fun e' => e ⟨e'.1.symm, e'.2.symm⟩)]
          omega
      · have : ∃ y ∈ L, y.zone = z' ∧ y.key = k' := by
          by_cases e : z = z' ∧ k = k'
          · rw [← e.1, ← e.2]; exact hm
          · rw [cntH_snoc, if_neg e] at hc
            exact h.all z' k' hb' hc
        obtain ⟨y, hy, e1, e2⟩ := this
        exact ⟨bump z k y, List.mem_map_of_mem hy, by rw [bump_same.1]; exact e1, by rw [bump_same.2]; exact e2⟩
    · rw [if_neg hm, if_neg (by have := List.length_filter_le (fun x : Cl => x.zone == z) L; have := h.len; omega)]
      have h0 : cntH hs z k = 0 := by
        by_cases e : 1 ≤ cntH hs z k
        · exact absurd (h.all z k hb e) hm
        · omega
      have hp := ins_perm L (before z k) ⟨z, k, 1⟩
      refine ⟨ins_srt h.srt hm 1, by rw [hp.length_eq, List.length_cons, List.length_append]; have := h.len; simp; omega, fun y hy => ?_, fun z' k' hb' hc => ?_⟩
      · rcases List.mem_cons.1 (hp.mem_iff.1 hy) with rfl | hy
        · refine ⟨hb, ?_, ?_⟩
          · rw [cntH_snoc, if_pos ⟨rfl, rfl⟩, h0]; rfl
          · rw [cntH_snoc, if_pos ⟨rfl, rfl⟩]; omega
        · obtain ⟨h1, h2, h3⟩ := h.each y hy
          rw [cntH_snoc, if_neg (fun e => hm ⟨y, hy, e.1.symm, e.2.symm⟩)]
          exact ⟨h1, h2, h3⟩
      · by_cases e : z = z' ∧ k = k'
        · exact ⟨⟨z, k, 1⟩, hp.mem_iff.2 (List.mem_cons_self ..), e.1, e.2⟩
        · rw [cntH_snoc, if_neg e] at hc
          obtain ⟨y, hy, e1⟩ := h.all z' k' hb' hc
          exact ⟨y, hp.mem_iff.2 (List.mem_cons_of_mem _ hy), e1⟩
theorem inv_fold : ∀ (t hs : List Ht) (L : List Cl), Inv L hs → hs.length + t.length ≤ 64 → Inv (t.foldl hitF L) (hs ++ t)
  | [], hs, L, h, _ => by rw [List.append_nil]; exact h
  | x :: t, hs, L, h, hl => by
    have := inv_fold t (hs ++ [x]) (hitF L x) (inv_step h (by simp at hl; omega) x) (by simp at hl ⊢; omega)
    rw [List.append_assoc] at this
    exact this
theorem inv_nil : Inv [] [] := ⟨List.Pairwise.nil, Nat.le_refl _, fun x hx => (by cases hx), fun z k _ hc => absurd hc (by unfold cntH; simp)⟩
theorem clt_nodup {L : List Cl} (h : L.Pairwise Clt) : L.Nodup := by
  rw [List.nodup_iff_pairwise_ne]
  exact h.imp fun {x y} hxy e => by rw [e] at hxy; exact clt_asymm hxy hxy
theorem inv_unique {L L' : List Cl} {hs hs' : List Ht} (h : Inv L hs) (h' : Inv L' hs') (hp : hs.Perm hs') : L = L' := by
  have hc : ∀ z k, cntH hs z k = cntH hs' z k := fun z k => (hp.filter _).length_eq
  refine sorted_unique ((List.perm_ext_iff_of_nodup (clt_nodup h.srt) (clt_nodup h'.srt)).2 fun x => ⟨fun hx => ?_, fun hx => ?_⟩) h.srt h'.srt
  · obtain ⟨h1, h2, h3⟩ := h.each x hx
    obtain ⟨y, hy, e1, e2⟩ := h'.all x.zone x.key h1 (by rw [← hc]; exact h3)
    obtain ⟨_, h5, _⟩ := h'.each y hy
    have : y = x := by
      obtain ⟨a, b, c⟩ := x
      obtain ⟨d, e, f⟩ := y
      simp only at e1 e2 h2 h5
      subst e1 e2
      rw [h5, h2, hc]
    rw [← this]; exact hy
  · obtain ⟨h1, h2, h3⟩ := h'.each x hx
    obtain ⟨y, hy, e1, e2⟩ := h.all x.zone x.key h1 (by rw [hc]; exact h3)
    obtain ⟨_, h5, _⟩ := h.each y hy
    have : y = x := by
      obtain ⟨a, b, c⟩ := x
      obtain ⟨d, e, f⟩ := y
      simp only at e1 e2 h2 h5
      subst e1 e2
      rw [h5, h2, hc]
    rw [← this]; exact hy
theorem order_eq (hs : List Ht) (hl : hs.length ≤ 64) : hs.foldl hitF [] = hs.reverse.foldl hitF [] := by
  have h1 := inv_fold hs [] [] inv_nil (by simpa using hl)
  have h2 := inv_fold hs.reverse [] [] inv_nil (by simpa using hl)
  exact inv_unique h1 h2 (by simpa using (List.reverse_perm hs).symm)
theorem fold_few (hs : List Ht) (hl : hs.length ≤ 64) : (hs.foldl hitF []).length ≤ 64 := by
  have h1 := (inv_fold hs [] [] inv_nil (by simpa using hl)).len
  simp at h1
  omega
end Go.Proofs.Ytbogmenlhdpjlaa
