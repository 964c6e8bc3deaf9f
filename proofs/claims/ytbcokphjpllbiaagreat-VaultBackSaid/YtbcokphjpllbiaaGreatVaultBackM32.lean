/-
  A vault out of bytes: the document's way and the program's come to the same. The plain law: no program in sight.
  The document's Reader: rows of bytes, items, purses. For all of them.
  The document's purses out of bytes. For all of them.
  Orders out of bytes: how many bytes they take; the document's Of on a row of its own. For every row.
  The document's Decode: any bytes as a vault, or refused. For all bytes.
  The program's Reader: numbers into items, into an order; bytes.Equal. For all of them.
-/
import Derived.Test.YtbcokphjpllbiaaGreatVaultBackM5
import Derived.Test.YtbcokphjpllbiaaGreatVaultBackM17
import Derived.Test.YtbcokphjpllbiaaGreatVaultBackM18
import Derived.Test.YtbcokphjpllbiaaGreatVaultBackM30
import Derived.Test.YtbcokphjpllbiaaGreatVaultBackM31

section
set_option linter.unusedSimpArgs false
set_option linter.unusedVariables false
namespace Go.Proofs.YtbcokphjpllbiaaGreat
open Go.RowKit Go.Sl
/-! A purse out of bytes. -/
def rdIt (s : RS) : It := ⟨(rdNum s).1, (rdNum (rdNum s).2).1, (rdNum (rdNum (rdNum s).2).2).1, (rdNum (rdNum (rdNum (rdNum s).2).2).2).1⟩
def rdItS (s : RS) : RS := (rdNum (rdNum (rdNum (rdNum s).2).2).2).2
def rdH (s : RS) : Hd := ⟨bstr (rdBytes s).1, rdIt (rdBytes s).2⟩
def rdHS (s : RS) : RS := rdItS (rdBytes s).2
def okH (l : List Hd) (h : Hd) : Bool := whoB h.who && (isIt h.has && (!(isZ h.has) && (l.getLast?).all fun y => Op.bytesLess y.who.toList h.who.toList))
def purD : Nat → List Hd → RS → List Hd × RS
  | 0, l, s => (l, s)
  | _ + 1, l, none => (l, none)
  | n + 1, l, some b => purD n (l ++ [rdH (some b)]) (if okH l (rdH (some b)) = true then rdHS (some b) else none)
def purP : Nat → Ps → RS → Option (Ps × RS)
  | 0, p, s => some (p, s)
  | _ + 1, p, none => some (p, none)
  | n + 1, p, some b => if (whoB (rdH (some b)).who && isIt (rdH (some b)).has) = true then purP n (layP p (rdH (some b)).who (rdH (some b)).has) (rdHS (some b)) else none
/-! An order out of bytes. -/
def rdO1 (s : RS) : RS := (rdBytes (rdNum s).2).2
def rdO (s : RS) : Ord := ⟨(rdNum s).1, bstr (rdBytes (rdNum s).2).1, decide ((rdIt (rdO1 s)).x0 = 1), (rdIt (rdO1 s)).x1, (rdIt (rdO1 s)).x2, (rdIt (rdO1 s)).x3⟩
def rdOS (s : RS) : RS := rdItS (rdO1 s)
def ordD : Nat → List Ord → RS → List Ord × RS
  | 0, l, s => (l, s)
  | _ + 1, l, none => (l, none)
  | n + 1, l, some b => ordD n (l ++ [rdO (some b)]) (if (rdIt (rdO1 (some b))).x0 ≤ 1 ∧ l.length < 32 then rdOS (some b) else none)
def ordP : Nat → List Ord → RS → List Ord × RS
  | 0, l, s => (l, s)
  | _ + 1, l, none => (l, none)
  | n + 1, l, some b => ordP n (l ++ [rdO (some b)]) (rdOS (some b))
theorem rdNum_back {s : RS} {r : List Int} (h : (rdNum s).2 = some r) : ∃ l, s = some l := by
  cases s with
  | none => cases h
  | some l => exact ⟨l, rfl⟩
theorem rdBytes_back {s : RS} {r : List Int} (h : (rdBytes s).2 = some r) : ∃ l, s = some l := by
  cases s with
  | none => cases h
  | some l => exact ⟨l, rfl⟩
theorem numB_pos1 (n : Int) : 1 ≤ (numB n).length := numB_pos n
theorem rdNum_at {s : RS} {r : List Int} (hb : BS s) (h : (rdNum s).2 = some r) : s = some (numB (rdNum s).1 ++ r) ∧ 0 ≤ (rdNum s).1 ∧ (rdNum s).1 ≤ 4611686018427387904 ∧ ByB r := by
  obtain ⟨l, rfl⟩ := rdNum_back h
  obtain ⟨h1, h2, h3, h4⟩ := rdNum_some (hb l rfl) (show rdNum (some l) = ((rdNum (some l)).1, some r) by rw [← h])
  exact ⟨by rw [← h1], h2, h3, h4⟩
theorem rdIt_at {s : RS} {r : List Int} (hb : BS s) (h : rdItS s = some r) : s = some (numsB [(rdIt s).x0, (rdIt s).x1, (rdIt s).x2, (rdIt s).x3] ++ r) ∧ ByB r ∧ (0 ≤ (rdIt s).x0) := by
  unfold rdItS at h
  obtain ⟨l3, e3⟩ := rdNum_back h
  obtain ⟨l2, e2⟩ := rdNum_back e3
  obtain ⟨l1, e1⟩ := rdNum_back e2
  obtain ⟨a1, a2, a3, a4⟩ := rdNum_at hb e1
  have hb1 : BS (rdNum s).2 := fun l hl => by rw [e1] at hl; cases hl; exact a4
  obtain ⟨b1, b2, b3, b4⟩ := rdNum_at hb1 e2
  have hb2 : BS (rdNum (rdNum s).2).2 := fun l hl => by rw [e2] at hl; cases hl; exact b4
  obtain ⟨c1, c2, c3, c4⟩ := rdNum_at hb2 e3
  have hb3 : BS (rdNum (rdNum (rdNum s).2).2).2 := fun l hl => by rw [e3] at hl; cases hl; exact c4
  obtain ⟨d1, d2, d3, d4⟩ := rdNum_at hb3 h
  refine ⟨?_, d4, a2⟩
  rw [e1] at b1
  rw [e2] at c1
  rw [e3] at d1
  simp only [Option.some.injEq] at b1 c1 d1
  rw [← e1] at b1
  rw [← e2] at c1
  rw [← e3] at d1
  unfold numsB rdIt
  simp only [List.flatMap_cons, List.flatMap_nil, List.append_nil, List.append_assoc]
  rw [← d1, ← c1, ← b1]
  exact a1
theorem rdBytes_at {s : RS} {r : List Int} (hb : BS s) (h : (rdBytes s).2 = some r) : s = some (strE (bstr (rdBytes s).1) ++ r) ∧ ByB r := by
  obtain ⟨l, rfl⟩ := rdBytes_back h
  obtain ⟨h1, h2, h3⟩ := rdBytes_some (hb l rfl) (show rdBytes (some l) = ((rdBytes (some l)).1, some r) by rw [← h])
  exact ⟨by rw [← h1], h3⟩
theorem rdIt_back {s : RS} {r : List Int} (h : rdItS s = some r) : ∃ l, s = some l := by
  unfold rdItS at h
  obtain ⟨l3, e3⟩ := rdNum_back h
  obtain ⟨l2, e2⟩ := rdNum_back e3
  obtain ⟨l1, e1⟩ := rdNum_back e2
  exact rdNum_back e1
theorem rdH_at {b r : List Int} (hb : ByB b) (h : rdHS (some b) = some r) : b = encH (rdH (some b)) ++ r ∧ ByB r := by
  have hbs : BS (some b) := fun l hl => by cases hl; exact hb
  unfold rdHS at h
  obtain ⟨l1, e1⟩ := rdIt_back h
  obtain ⟨a1, a2⟩ := rdBytes_at hbs e1
  have hb1 : BS (rdBytes (some b)).2 := fun l hl => by rw [e1] at hl; cases hl; exact a2
  obtain ⟨c1, c2, _⟩ := rdIt_at hb1 h
  refine ⟨?_, c2⟩
  rw [e1] at c1
  simp only [Option.some.injEq] at a1 c1
  rw [← e1] at c1
  unfold encH rdH
  simp only [List.append_assoc]
  rw [← c1]
  exact a1
theorem rdO_at {b r : List Int} (hb : ByB b) (h : rdOS (some b) = some r) (hx : (rdIt (rdO1 (some b))).x0 ≤ 1) : b = encO (rdO (some b)) ++ r ∧ ByB r := by
  have hbs : BS (some b) := fun l hl => by cases hl; exact hb
  unfold rdOS at h
  obtain ⟨l2, e2⟩ := rdIt_back h
  unfold rdO1 at e2
  obtain ⟨l1, e1⟩ := rdBytes_back e2
  obtain ⟨a1, a2, a3, a4⟩ := rdNum_at hbs e1
  have hb1 : BS (rdNum (some b)).2 := fun l hl => by rw [e1] at hl; cases hl; exact a4
  obtain ⟨c1, c2⟩ := rdBytes_at hb1 e2
  have hb2 : BS (rdO1 (some b)) := fun l hl => by unfold rdO1 at hl; rw [e2] at hl; cases hl; exact c2
  obtain ⟨d1, d2, d3⟩ := rdIt_at hb2 h
  refine ⟨?_, d2⟩
  have e3 : rdO1 (some b) = some l2 := e2
  rw [e1] at c1
  rw [e3] at d1
  simp only [Option.some.injEq] at a1 c1 d1
  rw [← e1] at c1
  rw [← e3] at d1
  have hbuy : boolI (decide ((rdIt (rdO1 (some b))).x0 = 1)) = (rdIt (rdO1 (some b))).x0 := by
    unfold boolI
    by_cases h1 : (rdIt (rdO1 (some b))).x0 = 1
    · rw [h1]; rfl
    · rw [if_neg (by simpa using h1)]; omega
  unfold encO rdO
  simp only [hbuy, List.append_assoc]
  rw [← d1, ← c1]
  exact a1
theorem encH_pos (h : Hd) : 1 ≤ (encH h).length := by
  unfold encH strE
  have := numB_pos1 h.who.size
  simp only [List.length_append]
  omega
theorem rdH_len {b r : List Int} (hb : ByB b) (h : rdHS (some b) = some r) : r.length + 1 ≤ b.length := by
  obtain ⟨h1, _⟩ := rdH_at hb h
  have := encH_pos (rdH (some b))
  rw [h1, List.length_append]
  omega
theorem rdNum_len {s : RS} {r : List Int} (hb : BS s) (h : (rdNum s).2 = some r) {l : List Int} (hl : s = some l) : r.length + 1 ≤ l.length := by
  obtain ⟨h1, _⟩ := rdNum_at hb h
  have := numB_pos1 (rdNum s).1
  rw [hl] at h1
  simp only [Option.some.injEq] at h1
  have h2 := congrArg List.length h1
  rw [List.length_append, ← hl] at h2
  omega
theorem purD_none (n : Nat) (l : List Hd) : purD n l none = (l, none) := by
  cases n <;> rfl
theorem ordD_none (n : Nat) (l : List Ord) : ordD n l none = (l, none) := by
  cases n <;> rfl
theorem sp_end : ∀ (H : List Hd) (k : ByteArray), (∀ x ∈ H, blt x.who k) → spI H k = H.length ∧ spB H k = false
  | [], k, _ => ⟨rfl, rfl⟩
  | h :: H, k, hl => by
    have h1 := hl h (List.mem_cons_self ..)
    obtain ⟨i1, i2⟩ := sp_end H k fun x hx => hl x (List.mem_cons_of_mem _ hx)
    rw [spI, spB, if_pos h1, if_pos h1, i1, i2]
    exact ⟨rfl, rfl⟩
theorem setH_end {H : List Hd} {h : Hd} (hl : ∀ x ∈ H, blt x.who h.who) (hz : isZ h.has = false) : setH H h.who h.has = H ++ [h] := by
  obtain ⟨h1, h2⟩ := sp_end H h.who hl
  unfold setH
  rw [h1, h2, hz]
  simp
theorem srt_last {H : List Hd} {k : ByteArray} (hs : SrtH H) (h : (H.getLast?).all (fun y => Op.bytesLess y.who.toList k.toList) = true) : ∀ x ∈ H, blt x.who k := by
  intro x hx
  cases hl : H.getLast? with
  | none => rw [List.getLast?_eq_none_iff.1 hl] at hx; cases hx
  | some y =>
    rw [hl] at h
    have hy : blt y.who k := h
    obtain ⟨ys, rfl⟩ := List.getLast?_eq_some_iff.1 hl
    rcases List.mem_append.1 hx with hx | hx
    · exact blt_trans ((List.pairwise_append.1 hs).2.2 x hx y (List.mem_singleton.2 rfl)) hy
    · rw [List.mem_singleton.1 hx]; exact hy
/-- What the purses are, as they are laid. -/
structure PuI (p : Ps) (N : Nat) : Prop where
  ok : PsOk p
  w : PsW p N
  who : ∀ x ∈ p, whoB x.1 = true
theorem puI_nil (N : Nat) : PuI [] N := ⟨psOk_nil, psW_nil N, fun _ h => (by cases h)⟩
theorem puI_lay {p : Ps} {N : Nat} (h : PuI p N) {k : ByteArray} {i : It} (hk : whoB k = true) (hi : isIt i = true) : PuI (layP p k i) (N + 1) := by
  refine ⟨psOk_lay h.ok k hi, psW_lay h.w hk i, ?_⟩
  unfold layP
  split
  · exact fun x hx => h.who x (mem_delP hx).1
  · intro x hx
    rcases List.mem_cons.1 hx with rfl | hx
    · exact hk
    · exact h.who x (mem_delP hx).1
theorem puI_mono {p : Ps} {N M : Nat} (h : PuI p N) (hm : N ≤ M) : PuI p M := ⟨h.ok, psW_mono h.w hm, h.who⟩
theorem hdL_each {p : Ps} {N : Nat} (h : PuI p N) : ∀ x ∈ hdL p, whoB x.who = true ∧ isIt x.has = true ∧ isZ x.has = false := by
  intro x hx
  have hk : x.who ∈ kL p := by rw [← hdL_who]; exact List.mem_map_of_mem hx
  obtain ⟨y, hy, e⟩ := kL_mem hk
  refine ⟨e ▸ h.who y hy, by rw [hdL_has hx]; exact h.ok _, by rw [hdL_has hx]; exact kL_nz h.w hk⟩
/-- What the document reads to its end, the program reads. -/
theorem purD_good : ∀ (n : Nat) (l : List Hd) (b : List Int) (L : List Hd) (r : List Int) (p : Ps) (N : Nat), ByB b → hdL p = l → PuI p N → purD n l (some b) = (L, some r) →
    ∃ p', purP n p (some b) = some (p', some r) ∧ hdL p' = L ∧ PuI p' (N + n) ∧ ByB r ∧ ∃ l2, L = l ++ l2 ∧ l2.length = n ∧ b = l2.flatMap encH ++ r
  | 0, l, b, L, r, p, N, hb, hl, hp, h => by
    rw [purD] at h
    simp only [Prod.mk.injEq, Option.some.injEq] at h
    obtain ⟨rfl, rfl⟩ := h
    exact ⟨p, rfl, hl, hp, hb, [], by simp, rfl, rfl⟩
  | n + 1, l, b, L, r, p, N, hb, hl, hp, h => by
    rw [purD] at h
    by_cases hok : okH l (rdH (some b)) = true
    · rw [if_pos hok] at h
      cases hs : rdHS (some b) with
      | none => rw [hs, purD_none] at h; cases h
      | some b2 =>
        rw [hs] at h
        obtain ⟨h1, h2⟩ := rdH_at hb hs
        have hok2 := hok
        unfold okH at hok2
        simp only [Bool.and_eq_true, Bool.not_eq_true'] at hok2
        obtain ⟨k1, k2, k3, k4⟩ := hok2
        have hall := srt_last (hl ▸ hdL_srt hp.w) k4
        have hl2 : hdL (layP p (rdH (some b)).who (rdH (some b)).has) = l ++ [rdH (some b)] := by
          rw [← setH_eq hp.w, hl]
          exact setH_end hall k3
        obtain ⟨p', i1, i2, i3, i4, l2, i5, i6, i7⟩ := purD_good n _ b2 L r _ (N + 1) h2 hl2 (puI_lay hp k1 k2) h
        refine ⟨p', ?_, i2, puI_mono i3 (by omega), i4, rdH (some b) :: l2, by rw [i5]; simp, by simp [i6], ?_⟩
        · rw [purP, if_pos (by rw [k1, k2]; rfl), hs]
          exact i1
        · rw [List.flatMap_cons, List.append_assoc, ← i7]
          exact h1
    · rw [if_neg hok, purD_none] at h
      cases h
theorem purP_ok : ∀ (n : Nat) (p : Ps) (s : RS) (p' : Ps) (s' : RS) (N : Nat), BS s → PuI p N → purP n p s = some (p', s') → PuI p' (N + (match s with | none => 0 | some b => b.length + 1)) ∧ BS s'
  | 0, p, s, p', s', N, hb, hp, h => by
    rw [purP] at h
    simp only [Option.some.injEq, Prod.mk.injEq] at h
    obtain ⟨rfl, rfl⟩ := h
    exact ⟨puI_mono hp (by omega), hb⟩
  | n + 1, p, none, p', s', N, hb, hp, h => by
    rw [purP] at h
    simp only [Option.some.injEq, Prod.mk.injEq] at h
    obtain ⟨rfl, rfl⟩ := h
    exact ⟨hp, hb⟩
  | n + 1, p, some b, p', s', N, hb, hp, h => by
    rw [purP] at h
    by_cases hc : (whoB (rdH (some b)).who && isIt (rdH (some b)).has) = true
    · rw [if_pos hc] at h
      rw [Bool.and_eq_true] at hc
      have hbb := hb b rfl
      have hb2 : BS (rdHS (some b)) := fun l hl => (rdH_at hbb hl).2
      have ih := purP_ok n _ _ _ _ (N + 1) hb2 (puI_lay hp hc.1 hc.2) h
      refine ⟨puI_mono ih.1 ?_, ih.2⟩
      cases hs : rdHS (some b) with
      | none => simp only; omega
      | some r =>
        have := rdH_len hbb hs
        simp only
        omega
    · rw [if_neg hc] at h
      cases h
theorem whoB_len {k : ByteArray} (h : whoB k = true) : k.size ≤ 16 := whoB_le h
theorem rdIt_enc {i : It} (hi : isIt i = true) (r : List Int) : rdIt (some (numsB [i.x0, i.x1, i.x2, i.x3] ++ r)) = i ∧ rdItS (some (numsB [i.x0, i.x1, i.x2, i.x3] ++ r)) = some r := by
  obtain ⟨a0, a1, a2, a3⟩ := isIt_true.1 hi
  have e : numsB [i.x0, i.x1, i.x2, i.x3] ++ r = numB i.x0 ++ (numB i.x1 ++ (numB i.x2 ++ (numB i.x3 ++ r))) := by
    unfold numsB
    simp
  rw [e]
  unfold rdIt rdItS
  rw [rdNum_enc (by omega) (by omega)]
  dsimp only
  rw [rdNum_enc (by omega) (by omega)]
  dsimp only
  rw [rdNum_enc (by omega) (by omega)]
  dsimp only
  rw [rdNum_enc (by omega) (by omega)]
  exact ⟨rfl, rfl⟩
theorem rdH_enc {h : Hd} (h1 : h.who.size ≤ 16) (h2 : isIt h.has = true) (r : List Int) : rdH (some (encH h ++ r)) = h ∧ rdHS (some (encH h ++ r)) = some r := by
  unfold rdH rdHS encH
  rw [List.append_assoc, rdBytes_enc h.who (by omega)]
  dsimp only
  obtain ⟨e1, e2⟩ := rdIt_enc h2 r
  rw [e1, e2, bstr_strI]
  exact ⟨rfl, rfl⟩
theorem purD_enc : ∀ (l2 l : List Hd) (r : List Int), (∀ h ∈ l2, whoB h.who = true ∧ isIt h.has = true ∧ isZ h.has = false) → SrtH (l ++ l2) → purD l2.length l (some (l2.flatMap encH ++ r)) = (l ++ l2, some r)
  | [], l, r, _, _ => by
    rw [List.append_nil]
    rfl
  | h :: l2, l, r, hh, hs => by
    obtain ⟨k1, k2, k3⟩ := hh h (List.mem_cons_self ..)
    obtain ⟨e1, e2⟩ := rdH_enc (whoB_len k1) k2 (l2.flatMap encH ++ r)
    rw [List.length_cons, List.flatMap_cons, List.append_assoc, purD, e1, e2]
    have hok : okH l h = true := by
      unfold okH
      rw [k1, k2, k3]
      simp only [Bool.true_and, Bool.not_false]
      cases hl : l.getLast? with
      | none => rfl
      | some y =>
        obtain ⟨ys, rfl⟩ := List.getLast?_eq_some_iff.1 hl
        exact (List.pairwise_append.1 hs).2.2 y (List.mem_append_right _ (List.mem_singleton.2 rfl)) h (List.mem_cons_self ..)
    rw [if_pos hok, purD_enc l2 (l ++ [h]) r (fun x hx => hh x (List.mem_cons_of_mem _ hx)) (by rw [List.append_assoc]; exact hs)]
    rw [List.append_assoc]
    rfl
theorem ordD_good : ∀ (n : Nat) (l : List Ord) (b : List Int) (L : List Ord) (r : List Int), ByB b → ordD n l (some b) = (L, some r) →
    ordP n l (some b) = (L, some r) ∧ ByB r ∧ ∃ l2, L = l ++ l2 ∧ l2.length = n ∧ b = l2.flatMap encO ++ r
  | 0, l, b, L, r, hb, h => by
    rw [ordD] at h
    simp only [Prod.mk.injEq, Option.some.injEq] at h
    obtain ⟨rfl, rfl⟩ := h
    exact ⟨rfl, hb, [], by simp, rfl, rfl⟩
  | n + 1, l, b, L, r, hb, h => by
    rw [ordD] at h
    by_cases hok : (rdIt (rdO1 (some b))).x0 ≤ 1 ∧ l.length < 32
    · rw [if_pos hok] at h
      cases hs : rdOS (some b) with
      | none => rw [hs, ordD_none] at h; cases h
      | some b2 =>
        rw [hs] at h
        obtain ⟨h1, h2⟩ := rdO_at hb hs hok.1
        obtain ⟨i1, i4, l2, i5, i6, i7⟩ := ordD_good n _ b2 L r h2 h
        refine ⟨?_, i4, rdO (some b) :: l2, by rw [i5]; simp, by simp [i6], ?_⟩
        · rw [ordP, hs]
          exact i1
        · rw [List.flatMap_cons, List.append_assoc, ← i7]
          exact h1
    · rw [if_neg hok, ordD_none] at h
      cases h
theorem rdO_enc {o : Ord} (h : MayP o) (r : List Int) : rdO (some (encO o ++ r)) = o ∧ rdOS (some (encO o ++ r)) = some r ∧ (rdIt (rdO1 (some (encO o ++ r)))).x0 ≤ 1 := by
  obtain ⟨oi, ou, oy, ot, oc, op⟩ := o
  have i0 : 1 ≤ oi := h.id0
  have i1 : oi ≤ 1099511627776 := h.id1
  have w1 : ou.size ≤ 16 := h.who1
  have t0 : 1 ≤ ot := h.item0
  have t1 : ot ≤ 3 := h.item1
  have c0 : 1 ≤ oc := h.cnt0
  have c1 : oc ≤ 1048576 := h.cnt1
  have p0 : 1 ≤ op := h.price0
  have p1 : op ≤ 1024 := h.price1
  have hit : isIt ⟨boolI oy, ot, oc, op⟩ = true := by
    refine isIt_true.2 ⟨?_, ⟨by simp only; omega, by simp only; omega⟩, ⟨by simp only; omega, by simp only; omega⟩, by simp only; omega, by simp only; omega⟩
    unfold boolI
    cases oy <;> simp
  obtain ⟨e1, e2⟩ := rdIt_enc hit r
  simp only at e1 e2
  have e0 : rdO1 (some (encO ⟨oi, ou, oy, ot, oc, op⟩ ++ r)) = some (numsB [boolI oy, ot, oc, op] ++ r) := by
    unfold rdO1 encO
    simp only [List.append_assoc]
    rw [rdNum_enc (by omega) (by omega)]
    dsimp only
    rw [rdBytes_enc ou (by omega)]
  refine ⟨?_, ?_, ?_⟩
  · unfold rdO
    rw [e0, e1]
    unfold encO
    simp only [List.append_assoc]
    rw [rdNum_enc (by omega) (by omega)]
    dsimp only
    rw [rdBytes_enc ou (by omega)]
    dsimp only
    rw [bstr_strI]
    cases oy <;> rfl
  · unfold rdOS
    rw [e0, e2]
  · rw [e0, e1]
    show boolI oy ≤ 1
    cases oy <;> decide
theorem ordD_enc : ∀ (l2 l : List Ord) (r : List Int), (∀ o ∈ l2, MayP o) → (l ++ l2).length ≤ 32 → ordD l2.length l (some (l2.flatMap encO ++ r)) = (l ++ l2, some r)
  | [], l, r, _, _ => by
    rw [List.append_nil]
    rfl
  | o :: l2, l, r, hh, hs => by
    obtain ⟨e1, e2, e3⟩ := rdO_enc (hh o (List.mem_cons_self ..)) (l2.flatMap encO ++ r)
    rw [List.length_cons, List.flatMap_cons, List.append_assoc, ordD, e1, e2]
    have hlen : l.length < 32 := by
      rw [List.length_append, List.length_cons] at hs
      omega
    rw [if_pos ⟨e3, hlen⟩, ordD_enc l2 (l ++ [o]) r (fun x hx => hh x (List.mem_cons_of_mem _ hx)) (by rw [List.append_assoc]; exact hs)]
    rw [List.append_assoc]
    rfl
/-! All of it. -/
def dP (b : List Int) : List Hd × RS := purD (rdNum (some b)).1.toNat [] (rdNum (some b)).2
def dO (b : List Int) : List Ord × RS := ordD (rdNum (dP b).2).1.toNat [] (rdNum (dP b).2).2
def dN (b : List Int) : Int × RS := rdNum (dO b).2
structure OkN (l : List Ord) (n : Int) : Prop where
  few : l.length ≤ 32
  ok : OkTo l l.length
  last : lastOf l l.length < n
  n0 : 1 ≤ n
  n1 : n ≤ 1099511627777
def DOk (b : List Int) : Prop := (dN b).2 = some [] ∧ OkN (dO b).1 (dN b).1
def gP (b : List Int) : Option (Ps × RS) := purP (rdNum (some b)).1.toNat [] (rdNum (some b)).2
def gO (s : RS) : List Ord × RS := ordP (rdNum s).1.toNat [] (rdNum s).2
def gN (s : RS) : Int × RS := rdNum (gO s).2
theorem okTo_may {l : List Ord} (h : OkTo l l.length) : ∀ o ∈ l, MayP o := by
  intro o ho
  obtain ⟨i, hi, rfl⟩ := List.mem_iff_getElem.1 ho
  have h1 := h i hi
  unfold badAt at h1
  rw [at'_get hi] at h1
  simp only [Bool.or_eq_false_iff, Bool.not_eq_false'] at h1
  exact mayB_true.1 h1.1
/-- What the document takes, the program reads; and it is those bytes. -/
theorem doc_good {b : List Int} (hb : ByB b) (h : DOk b) : ∃ p s, gP b = some (p, s) ∧ hdL p = (dP b).1 ∧ gO s = dO b ∧ encV p (dO b).1 (dN b).1 = b := by
  obtain ⟨h1, h2⟩ := h
  have hbs : BS (some b) := fun l hl => by cases hl; exact hb
  obtain ⟨b4, e4⟩ := rdNum_back h1
  have hO : ∃ b3, (rdNum (dP b).2).2 = some b3 := by
    cases hs : (rdNum (dP b).2).2 with
    | none => unfold dO at e4; rw [hs, ordD_none] at e4; cases e4
    | some b3 => exact ⟨b3, rfl⟩
  obtain ⟨b3, e3⟩ := hO
  obtain ⟨b2, e2⟩ := rdNum_back e3
  have hP : ∃ b1, (rdNum (some b)).2 = some b1 := by
    cases hs : (rdNum (some b)).2 with
    | none => unfold dP at e2; rw [hs, purD_none] at e2; cases e2
    | some b1 => exact ⟨b1, rfl⟩
  obtain ⟨b1, e1⟩ := hP
  obtain ⟨a1, a2, a3, a4⟩ := rdNum_at hbs e1
  have hp : purD (rdNum (some b)).1.toNat [] (some b1) = ((dP b).1, some b2) := by
    have : dP b = ((dP b).1, some b2) := by rw [← e2]
    rw [← this]
    unfold dP
    rw [e1]
  obtain ⟨p, c1, c2, c3, c4, l2, c5, c6, c7⟩ := purD_good _ [] b1 _ b2 [] 0 a4 (List.eq_nil_of_length_eq_zero (hdL_len [])) (puI_nil 0) hp
  have hb2 : BS (dP b).2 := fun l hl => by rw [e2] at hl; cases hl; exact c4
  obtain ⟨d1, d2, d3, d4⟩ := rdNum_at hb2 e3
  have ho : ordD (rdNum (dP b).2).1.toNat [] (some b3) = ((dO b).1, some b4) := by
    have : dO b = ((dO b).1, some b4) := by rw [← e4]
    rw [← this]
    unfold dO
    rw [e3]
  obtain ⟨f1, f2, l3, f5, f6, f7⟩ := ordD_good _ [] b3 _ b4 d4 ho
  have hb4 : BS (dO b).2 := fun l hl => by rw [e4] at hl; cases hl; exact f2
  have h1' : (rdNum (dO b).2).2 = some [] := h1
  obtain ⟨g1, g2, g3, g4⟩ := rdNum_at hb4 h1'
  refine ⟨p, (dP b).2, ?_, c2, ?_, ?_⟩
  · unfold gP
    rw [e1, c1, e2]
  · unfold gO
    rw [e3, f1, ← e4]
  · rw [List.nil_append] at c5 f5
    unfold encV
    rw [c2, c5, f5]
    rw [e2] at d1
    rw [e4] at g1
    simp only [Option.some.injEq] at a1 d1 g1
    rw [List.append_nil] at g1
    have k1 : ((l2.length : Nat) : Int) = (rdNum (some b)).1 := by rw [c6]; omega
    have k2 : ((l3.length : Nat) : Int) = (rdNum (dP b).2).1 := by rw [f6]; omega
    rw [k1, k2]
    have g1' : b4 = numB (dN b).1 := by
      rw [← e4] at g1
      exact g1
    rw [← g1', List.append_assoc, List.append_assoc, List.append_assoc, ← f7]
    rw [← e2] at d1
    rw [← d1, ← c7]
    exact a1.symm
theorem gP_ok {b : List Int} (hb : ByB b) {p : Ps} {s : RS} (hg : gP b = some (p, s)) : PuI p (b.length + 1) ∧ BS s := by
  have hbs : BS (some b) := fun l hl => by cases hl; exact hb
  have hb1 : BS (rdNum (some b)).2 := fun l hl => (rdNum_at hbs hl).2.2.2
  obtain ⟨h1, h2⟩ := purP_ok _ [] _ p s 0 hb1 (puI_nil 0) hg
  refine ⟨puI_mono h1 ?_, h2⟩
  cases hs : (rdNum (some b)).2 with
  | none => simp only; omega
  | some r =>
    have := rdNum_len hbs hs rfl
    simp only
    omega
/-- What the program takes is what the document takes. -/
theorem enc_good {b : List Int} {p : Ps} {N : Nat} (hpi : PuI p N) (hB : N ≤ 4611686018427387904) {l : List Ord} {n : Int} (hn : OkN l n) (he : encV p l n = b) : DOk b ∧ (dP b).1 = hdL p ∧ (dO b).1 = l ∧ (dN b).1 = n := by
  have hlen : ((hdL p).length : Int) ≤ 4611686018427387904 := by
    have h2 := hpi.w.len
    rw [hdL_len]
    omega
  have hmay := okTo_may hn.ok
  have hn0 := hn.n0
  have hn1 := hn.n1
  have hl32 := hn.few
  have he2 : b = numB (hdL p).length ++ ((hdL p).flatMap encH ++ (numB l.length ++ (l.flatMap encO ++ (numB n ++ [])))) := by
    rw [← he]
    unfold encV
    simp
  have e1 : rdNum (some b) = (((hdL p).length : Int), some ((hdL p).flatMap encH ++ (numB l.length ++ (l.flatMap encO ++ (numB n ++ []))))) := by
    rw [he2]
    exact rdNum_enc (by omega) hlen _
  have e2 : dP b = (hdL p, some (numB l.length ++ (l.flatMap encO ++ (numB n ++ [])))) := by
    unfold dP
    rw [e1]
    exact purD_enc (hdL p) [] _ (hdL_each hpi) (hdL_srt hpi.w)
  have e3 : dO b = (l, some (numB n ++ [])) := by
    unfold dO
    rw [e2]
    dsimp only
    rw [rdNum_enc (by omega) (by omega)]
    exact ordD_enc l [] _ hmay hl32
  have e4 : dN b = (n, some []) := by
    unfold dN
    rw [e3]
    exact rdNum_enc (by omega) (by omega) _
  refine ⟨⟨by rw [e4], ?_⟩, by rw [e2], by rw [e3], by rw [e4]⟩
  rw [e3, e4]
  exact hn
end Go.Proofs.YtbcokphjpllbiaaGreat
end
section
set_option linter.unusedSimpArgs false
set_option linter.unusedVariables false
namespace Go.Proofs.YtbcokphjpllbiaaGreat
open Go.RowKit Go.Sl
/-! Items. -/
def ReR (W : World) (D : HP) (rb bX b0 : Nat) (L : List HP) (s : RS) (v : Value) (w : World) : Prop :=
  (v = .int .i64 0 ∧ St W (rdX D rb s :: blk bX [.int .i64 0, .int .i64 0, .int .i64 0, .int .i64 0] 39 :: blk b0 [.int .i64 0, .int .i64 0, .int .i64 0, .int .i64 0] 39 :: L) w) ∨
  (v = .int .i64 1 ∧ St W (rdX D rb (rdNum s).2 :: blk bX [.int .i64 (rdIt s).x0, .int .i64 0, .int .i64 0, .int .i64 0] 39 :: blk b0 [.int .i64 0, .int .i64 0, .int .i64 0, .int .i64 0] 39 :: L) w) ∨
  (v = .int .i64 2 ∧ St W (rdX D rb (rdNum (rdNum s).2).2 :: blk bX [.int .i64 (rdIt s).x0, .int .i64 (rdIt s).x1, .int .i64 0, .int .i64 0] 39 :: blk b0 [.int .i64 0, .int .i64 0, .int .i64 0, .int .i64 0] 39 :: L) w) ∨
  (v = .int .i64 3 ∧ St W (rdX D rb (rdNum (rdNum (rdNum s).2).2).2 :: blk bX [.int .i64 (rdIt s).x0, .int .i64 (rdIt s).x1, .int .i64 (rdIt s).x2, .int .i64 0] 39 :: blk b0 [.int .i64 0, .int .i64 0, .int .i64 0, .int .i64 0] 39 :: L) w) ∨
  (v = .int .i64 4 ∧ St W (rdX D rb (rdItS s) :: blk bX [.int .i64 (rdIt s).x0, .int .i64 (rdIt s).x1, .int .i64 (rdIt s).x2, .int .i64 (rdIt s).x3] 39 :: blk b0 [.int .i64 0, .int .i64 0, .int .i64 0, .int .i64 0] 39 :: L) w)
end Go.Proofs.YtbcokphjpllbiaaGreat
end
section
set_option linter.unusedSimpArgs false
set_option linter.unusedVariables false
namespace Go.Proofs.YtbcokphjpllbiaaGreat
open Go.RowKit Go.Sl
/-- How many bytes a reader has yet. -/
def szR (s : RS) (n N : Nat) : Prop := match s with
  | none => n ≤ N + 1
  | some b => n + b.length ≤ N
theorem RdOk.it {s : RS} (h : RdOk s) : RdOk (rdItS s) := h.num.num.num.num
theorem RdOk.hs {s : RS} (h : RdOk s) : RdOk (rdHS s) := h.bytes.it
theorem rdOk_none : RdOk none := ⟨fun l hl => (by cases hl), fun l hl => (by cases hl)⟩
theorem RdOk.cond {s : RS} (h : RdOk s) (c : Prop) [Decidable c] : RdOk (if c then s else none) := by
  split
  · exact h
  · exact rdOk_none
/-- Is it behind the last one? -/
def aftB (l : List Hd) (k : ByteArray) : Bool := (l.getLast?).all fun y => Op.bytesLess y.who.toList k.toList
def PuX (W : World) (D : HP) (rb : Nat) (L : List HP) (n N : Nat) (T : List Hd × RS) (v3 v5 : Value) (w : World) : Prop :=
  ∃ (l : List Hd) (s : RS), v5 = .int .i64 l.length ∧ l.length ≤ n ∧ RdOk s ∧ szR s l.length N ∧ purD (n - l.length) l s = T ∧ St W (rdX D rb s :: hdR v3 l :: L) w
end Go.Proofs.YtbcokphjpllbiaaGreat
end
section
set_option linter.unusedSimpArgs false
set_option linter.unusedVariables false
namespace Go.Proofs.YtbcokphjpllbiaaGreat
open Go.RowKit Go.Sl
theorem rdOk_of {s : RS} (hb : BS s) {l r : List Int} (hl : s = some l) (hr : (rdBytes s).2 = some r) : r.length ≤ l.length := by
  have h := (rdBytes_at hb hr).1
  rw [hl] at h
  simp only [Option.some.injEq] at h
  have h2 := congrArg List.length h
  rw [List.length_append] at h2
  omega
theorem rdO_len {b r : List Int} (hb : RdOk (some b)) (h : rdOS (some b) = some r) : r.length + 1 ≤ b.length := by
  unfold rdOS rdItS at h
  obtain ⟨l4, e4⟩ := rdNum_back h
  obtain ⟨l3, e3⟩ := rdNum_back e4
  obtain ⟨l2, e2⟩ := rdNum_back e3
  have e1 : ∃ l1, rdO1 (some b) = some l1 := rdNum_back e2
  obtain ⟨l1, e1⟩ := e1
  have hB : (rdBytes (rdNum (some b)).2).2 = some l1 := e1
  obtain ⟨l0, e0⟩ := rdBytes_back hB
  have k0 := rdNum_len hb.b e0 rfl
  have k1 := rdOk_of hb.num.b e0 hB
  have hok1 : RdOk (rdO1 (some b)) := hb.num.bytes
  have k2 := rdNum_le hok1.b e1 e2
  have k3 := rdNum_le hok1.num.b e2 e3
  have k4 := rdNum_le hok1.num.num.b e3 e4
  have k5 := rdNum_le hok1.num.num.num.b e4 h
  omega
theorem szR_os {b : List Int} {n N : Nat} (hb : RdOk (some b)) (h : szR (some b) n N) (c : Prop) [Decidable c] : szR (if c then rdOS (some b) else none) (n + 1) N := by
  have h1 : n + b.length ≤ N := h
  split
  · cases hs : rdOS (some b) with
    | none => show n + 1 ≤ N + 1; omega
    | some r =>
      have := rdO_len hb hs
      show n + 1 + r.length ≤ N
      omega
  · show n + 1 ≤ N + 1
    omega
theorem RdOk.os {s : RS} (h : RdOk s) : RdOk (rdOS s) := h.num.bytes.it
def OdR (W : World) (D : HP) (rb : Nat) (L : List HP) (n N : Nat) (T : List Ord × RS) (v7 v8 : Value) (w : World) : Prop :=
  ∃ (l : List Ord) (s : RS), v8 = .int .i64 l.length ∧ l.length ≤ n ∧ RdOk s ∧ szR s l.length N ∧ ordD (n - l.length) l s = T ∧ St W (rdX D rb s :: pileR v7 l :: L) w
theorem ord_push {W w : World} {v : Value} {l : List Ord} {oi ot oc op : Int} {ou : ByteArray} {oy : Bool} {R : List HP} (h : St W (row v 6 41 (l.length + 1) (l.flatMap Ord.cells ++ [.int .i64 oi, .string ou, .bool oy, .int .i64 ot, .int .i64 oc, .int .i64 op]) :: R) w) : St W (pileR v (l ++ [⟨oi, ou, oy, ot, oc, op⟩]) :: R) w := by
  unfold pileR
  rw [List.length_append, List.flatMap_append]
  exact h
end Go.Proofs.YtbcokphjpllbiaaGreat
end
section
set_option linter.unusedSimpArgs false
set_option linter.unusedVariables false
namespace Go.Proofs.YtbcokphjpllbiaaGreat
open Go.RowKit Go.Sl
theorem end_no {s : RS} (h : isEnd s = false) : s ≠ some [] := by
  rintro rfl
  cases h
theorem end_yes {s : RS} (h : isEnd s = true) : s = some [] := by
  cases s with
  | none => cases h
  | some l =>
    cases l with
    | nil => rfl
    | cons x t => cases h
end Go.Proofs.YtbcokphjpllbiaaGreat
end
section
set_option linter.unusedSimpArgs false
set_option linter.unusedVariables false
namespace Go.Sl
open Go.RowKit
section
variable {P : Program} {ops : Array Oper} {Q : Exit → Act → World → Prop} {a : Act} {w : World} {W : World} {L R : List HP} {rest : List Oper} {o : Oper}
/-- A string out of an empty slice, wherever it stands. -/
theorem wl_bytesStr0 {src dst e : TypeId} {x : Operand} {p : Option Addr} {c : Nat} (ho : o.op = .convert src dst x) (hg : Region.wanted o (yielded ops a.tmps) = true) (hx : a.eval x = .slice p 0 c)
    (hp : p = none → c = 0) (hs : P.underlying src = some (.slice e)) (he : P.underlying e = some (.int .u8)) (hd : P.underlying dst = some .string)
    (h : wpList P ops Q rest (a.put o.dst (.string (bstr []))) w) : wpList P ops Q (o :: rest) a w := by
  refine wpList_run hg (v := .string (bstr [])) (w' := w) ?_ h
  cases p with
  | none =>
    obtain rfl := hp rfl
    unfold execOp
    simp [ho, hx, run_convert_bytes_string w src dst e none 0 0 hs he hd, Conv.bytesToString, bstr, Sem.run_pure]
  | some p =>
    have h1 : (loadCells p 0).run P w = .ok (([] : List Int).map (Value.int .u8)).toArray w := by simp [loadCells, loadCellsFrom]
    have h2 := run_bytesToString (P := P) w p 0 c [] h1
    unfold execOp
    simp [ho, hx, run_convert_bytes_string w src dst e (some p) 0 c hs he hd, h2, bstr]
theorem wl_bytesStrC {src dst e : TypeId} {x : Operand} {b off n c : Nat} {ns : List Int} (hS : St W L w) (ho : o.op = .convert src dst x) (hg : Region.wanted o (yielded ops a.tmps) = true) (hx : a.eval x = .slice (some ⟨b, off, none⟩) n c)
    (hs : P.underlying src = some (.slice e)) (he : P.underlying e = some (.int .u8)) (hd : P.underlying dst = some .string) (hc : Cells L b off (ns.map (Value.int .u8))) (hn : n = ns.length)
    (h : wpList P ops Q rest (a.put o.dst (.string (bstr ns))) w) : wpList P ops Q (o :: rest) a w := by
  refine wpList_run hg (v := .string (bstr ns)) (w' := w) ?_ h
  have h1 := run_loadCells_list (P := P) w ⟨b, off, none⟩ (ns.map (Value.int .u8)) (fun j v hj => by rw [Addr.add_lit]; exact hc j v hj W w hS)
  rw [List.length_map, ← hn] at h1
  have h2 := run_bytesToString (P := P) w ⟨b, off, none⟩ n c ns h1
  unfold execOp
  simp [ho, hx, run_convert_bytes_string w src dst e (some ⟨b, off, none⟩) n c hs he hd, h2, bstr]
end
end Go.Sl
namespace Go.Proofs.YtbcokphjpllbiaaGreat
open Go.RowKit Go.Sl
section
variable {D : HP} {rb bI bS bB bO c : Nat} {s : RS} {W w : World} {R R' : List HP}
theorem items_g (h : RdOk s) (ht : Take R D R') (hS : St W (rdG D rb s :: blk bI [.int .i64 0, .int .i64 0, .int .i64 0, .int .i64 0] 39 :: blk bS [.pointer (some ⟨bI, 0, none⟩), .pointer (some ⟨bI, 1, none⟩), .pointer (some ⟨bI, 2, none⟩), .pointer (some ⟨bI, 3, none⟩)] 73 :: R) w) :
    Calls Tryz.prog 35 #[.pointer (some ⟨rb, 0, none⟩), .slice (some ⟨bS, 0, none⟩) 4 c] w fun e w' => e = .returned (.tuple #[]) ∧ St W (rdG D rb (rdItS s) :: blk bI [.int .i64 (rdIt s).x0, .int .i64 (rdIt s).x1, .int .i64 (rdIt s).x2, .int .i64 (rdIt s).x3] 39 :: R) w' := by
  refine (nums_r D rb s h [(bI, 0), (bI, 1), (bI, 2), (bI, 3)] (by simp) bS c (fun xs => blk bI [.int .i64 (xs.getD 0 0), .int .i64 (xs.getD 1 0), .int .i64 (xs.getD 2 0), .int .i64 (xs.getD 3 0)] 39 :: blk bS [.pointer (some ⟨bI, 0, none⟩), .pointer (some ⟨bI, 1, none⟩), .pointer (some ⟨bI, 2, none⟩), .pointer (some ⟨bI, 3, none⟩)] 73 :: R) ⟨?_, fun xs => ⟨_, .tail (.tail ht)⟩⟩ ?_ W w hS).mono ?_
  · intro xs x hx
    match xs, hx with
    | [], _ => exact ⟨_, _, by simp, by simp, .head⟩
    | [_], _ => exact ⟨_, _, by simp, by simp, .head⟩
    | [_, _], _ => exact ⟨_, _, by simp, by simp, .head⟩
    | [_, _, _], _ => exact ⟨_, _, by simp, by simp, .head⟩
    | _ :: _ :: _ :: _ :: _, hx => simp at hx; omega
  · intro xs i hi
    match i, hi with
    | 0, _ => exact .there (.here rfl)
    | 1, _ => exact .there (.here rfl)
    | 2, _ => exact .there (.here rfl)
    | 3, _ => exact .there (.here rfl)
    | i + 4, hi => simp at hi; omega
  · rintro e w' ⟨rfl, hS⟩
    have hS2 : St W (rdG D rb (rdItS s) :: blk bI [.int .i64 (rdIt s).x0, .int .i64 (rdIt s).x1, .int .i64 (rdIt s).x2, .int .i64 (rdIt s).x3] 39 :: blk bS _ _ :: R) w' := hS
    exact ⟨rfl, hS2.sel (by exact selS)⟩
theorem id_g (h : RdOk s) (ht : Take R D R') (hS : St W (rdG D rb s :: blk bO [.int .i64 0, .string ⟨#[]⟩, .bool false, .int .i64 0, .int .i64 0, .int .i64 0] 41 :: blk bS [.pointer (some ⟨bO, 0, none⟩)] 73 :: R) w) :
    Calls Tryz.prog 35 #[.pointer (some ⟨rb, 0, none⟩), .slice (some ⟨bS, 0, none⟩) 1 c] w fun e w' => e = .returned (.tuple #[]) ∧ St W (rdG D rb (rdNum s).2 :: blk bO [.int .i64 (rdNum s).1, .string ⟨#[]⟩, .bool false, .int .i64 0, .int .i64 0, .int .i64 0] 41 :: R) w' := by
  refine (nums_r D rb s h [(bO, 0)] (by simp) bS c (fun xs => blk bO [.int .i64 (xs.getD 0 0), .string ⟨#[]⟩, .bool false, .int .i64 0, .int .i64 0, .int .i64 0] 41 :: blk bS [.pointer (some ⟨bO, 0, none⟩)] 73 :: R) ⟨?_, fun xs => ⟨_, .tail (.tail ht)⟩⟩ ?_ W w hS).mono ?_
  · intro xs x hx
    match xs, hx with
    | [], _ => exact ⟨_, _, by simp, by simp, .head⟩
    | _ :: _, hx => simp at hx
  · intro xs i hi
    match i, hi with
    | 0, _ => exact .there (.here rfl)
    | i + 1, hi => simp at hi
  · rintro e w' ⟨rfl, hS⟩
    have hS2 : St W (rdG D rb (rdNum s).2 :: blk bO [.int .i64 (rdNum s).1, .string ⟨#[]⟩, .bool false, .int .i64 0, .int .i64 0, .int .i64 0] 41 :: blk bS _ _ :: R) w' := hS
    exact ⟨rfl, hS2.sel (by exact selS)⟩
theorem four_g {oi : Int} {ou : ByteArray} (h : RdOk s) (ht : Take R D R') (hS : St W (rdG D rb s :: blk bB [.int .i64 0] 3 :: blk bO [.int .i64 oi, .string ou, .bool false, .int .i64 0, .int .i64 0, .int .i64 0] 41 :: blk bS [.pointer (some ⟨bB, 0, none⟩), .pointer (some ⟨bO, 3, none⟩), .pointer (some ⟨bO, 4, none⟩), .pointer (some ⟨bO, 5, none⟩)] 73 :: R) w) :
    Calls Tryz.prog 35 #[.pointer (some ⟨rb, 0, none⟩), .slice (some ⟨bS, 0, none⟩) 4 c] w fun e w' => e = .returned (.tuple #[]) ∧ St W (rdG D rb (rdItS s) :: blk bB [.int .i64 (rdIt s).x0] 3 :: blk bO [.int .i64 oi, .string ou, .bool false, .int .i64 (rdIt s).x1, .int .i64 (rdIt s).x2, .int .i64 (rdIt s).x3] 41 :: R) w' := by
  refine (nums_r D rb s h [(bB, 0), (bO, 3), (bO, 4), (bO, 5)] (by simp) bS c (fun xs => blk bB [.int .i64 (xs.getD 0 0)] 3 :: blk bO [.int .i64 oi, .string ou, .bool false, .int .i64 (xs.getD 1 0), .int .i64 (xs.getD 2 0), .int .i64 (xs.getD 3 0)] 41 :: blk bS [.pointer (some ⟨bB, 0, none⟩), .pointer (some ⟨bO, 3, none⟩), .pointer (some ⟨bO, 4, none⟩), .pointer (some ⟨bO, 5, none⟩)] 73 :: R) ⟨?_, fun xs => ⟨_, .tail (.tail (.tail ht))⟩⟩ ?_ W w hS).mono ?_
  · intro xs x hx
    match xs, hx with
    | [], _ => exact ⟨_, _, by simp, by simp, .head⟩
    | [_], _ => exact ⟨_, _, by simp, by simp, .tail .head⟩
    | [_, _], _ => exact ⟨_, _, by simp, by simp, .tail .head⟩
    | [_, _, _], _ => exact ⟨_, _, by simp, by simp, .tail .head⟩
    | _ :: _ :: _ :: _ :: _, hx => simp at hx; omega
  · intro xs i hi
    match i, hi with
    | 0, _ => exact .there (.there (.here rfl))
    | 1, _ => exact .there (.there (.here rfl))
    | 2, _ => exact .there (.there (.here rfl))
    | 3, _ => exact .there (.there (.here rfl))
    | i + 4, hi => simp at hi; omega
  · rintro e w' ⟨rfl, hS⟩
    have hS2 : St W (rdG D rb (rdItS s) :: blk bB [.int .i64 (rdIt s).x0] 3 :: blk bO [.int .i64 oi, .string ou, .bool false, .int .i64 (rdIt s).x1, .int .i64 (rdIt s).x2, .int .i64 (rdIt s).x3] 41 :: blk bS _ _ :: R) w' := hS
    exact ⟨rfl, hS2.sel (by exact selS)⟩
end
set_option maxRecDepth 100000 in
theorem equal_g (D : HP) (a : Option Addr) (c : Nat) (b xs : List Int) (v : Value) (hat : At D a c b) {r : Bool} (hr : ((bstr xs).toList == (bstr b).toList) = r) (W w : World) (R R' R2 : List HP) (ht : Take R D R') (hx : Take R (byR v xs) R2) (hS : St W R w) :
    Calls Tryz.prog 41 #[v, .slice a b.length c] w fun e w' => e = .returned (.bool r) ∧ St W R w' := by
  subst hr
  rcases hat with ⟨rfl, rfl, rfl⟩ | ⟨rfl, p, rfl⟩ | ⟨g, off, rfl, hD⟩
  · go_enter Tryz.func41, Tryz.ntmps41
    go_wp2_with (first | go_big_skip | ((with_reducible apply wl_bytesStr0); (with_reducible rfl); rfl; rfl; (first | (intro _; rfl) | (intro h; cases h)); exact Tryz.underlying30; exact Tryz.underlying5; exact Tryz.underlying9; (refine frS ?_)) | ((with_reducible apply wl_bytesStrR (ns := xs) hS); (with_reducible rfl); rfl; rfl; exact Tryz.underlying30; exact Tryz.underlying5; exact Tryz.underlying9; (exact hx); (refine frS ?_)))
    go_ret
    exact ⟨rfl, hS⟩
  · go_enter Tryz.func41, Tryz.ntmps41
    go_wp2_with (first | go_big_skip | ((with_reducible apply wl_bytesStr0); (with_reducible rfl); rfl; rfl; (first | (intro _; rfl) | (intro h; cases h)); exact Tryz.underlying30; exact Tryz.underlying5; exact Tryz.underlying9; (refine frS ?_)) | ((with_reducible apply wl_bytesStrR (ns := xs) hS); (with_reducible rfl); rfl; rfl; exact Tryz.underlying30; exact Tryz.underlying5; exact Tryz.underlying9; (exact hx); (refine frS ?_)))
    go_ret
    exact ⟨rfl, hS⟩
  · go_enter Tryz.func41, Tryz.ntmps41
    go_wp2_with (first | go_big_skip | ((with_reducible apply wl_bytesStrC (ns := b) hS); (with_reducible rfl); rfl; rfl; exact Tryz.underlying30; exact Tryz.underlying5; exact Tryz.underlying9; (exact hD _ _ ht); (exact rfl); (refine frS ?_)) | ((with_reducible apply wl_bytesStrR (ns := xs) hS); (with_reducible rfl); rfl; rfl; exact Tryz.underlying30; exact Tryz.underlying5; exact Tryz.underlying9; (exact hx); (refine frS ?_)))
    go_ret
    exact ⟨rfl, hS⟩
end Go.Proofs.YtbcokphjpllbiaaGreat
end
