/-
  BookSums: the plain law: what was offered is what was traded, what is left, what was cancelled. No program in sight.
-/
import Derived.Test.YtihciopankhjgaaPrA
set_option linter.unusedSimpArgs false
set_option linter.unusedVariables false
namespace Go.Proofs.Ytihciopankhjgaa
open Go.RowKit Go.Sl
def cellIx (x : Ord) : Nat := cond x.buy (4 + x.item.toNat) x.item.toNat
def wtO (s : Nat) (x : Ord) : Int := if cellIx x = s then x.cnt else 0
def sumS : List Ord → Nat → Int
  | [], _ => 0
  | x :: L, s => wtO s x + sumS L s
theorem sumS_perm {L L' : List Ord} (h : L.Perm L') (s : Nat) : sumS L s = sumS L' s := by
  induction h with
  | nil => rfl
  | cons x _ ih => simp only [sumS, ih]
  | swap x y l => simp only [sumS]; omega
  | trans _ _ ih1 ih2 => rw [ih1, ih2]
theorem sumS_append (L : List Ord) (x : Ord) (s : Nat) : sumS (L ++ [x]) s = sumS L s + wtO s x := by
  rw [sumS_perm (List.perm_append_singleton x L) s]
  simp only [sumS]
  omega
theorem sumS_at {L : List Ord} {k : Nat} (hk : k < L.length) (s : Nat) : sumS L s = wtO s (at' L k) + sumS (L.eraseIdx k) s := by rw [← sumS_perm (split_at L hk) s]; rfl
theorem sumS_set {L : List Ord} {k : Nat} (hk : k < L.length) (x : Ord) (s : Nat) : sumS (L.set k x) s = wtO s x + sumS (L.eraseIdx k) s := by rw [← sumS_perm (set_at L hk x) s]; rfl
theorem sumS_bound : ∀ (L : List Ord) (s : Nat), (∀ x ∈ L, 1 ≤ x.cnt ∧ x.cnt ≤ 1048576) → 0 ≤ sumS L s ∧ sumS L s ≤ L.length * 1048576
  | [], _, _ => by simp [sumS]
  | x :: L, s, h => by
    have h1 := h x (List.mem_cons_self ..)
    have h2 := sumS_bound L s fun z hz => h z (List.mem_cons_of_mem _ hz)
    simp only [sumS, wtO, List.length_cons]
    split <;> omega
def tsum : List Trd → Int
  | [] => 0
  | t :: ts => t.cnt + tsum ts
theorem tsum_append (a b : List Trd) : tsum (a ++ b) = tsum a + tsum b := by
  induction a with
  | nil => simp [tsum]
  | cons t a ih => simp only [List.cons_append, tsum, ih]; omega
def oppIx (o : Ord) : Nat := cond o.buy o.item.toNat (4 + o.item.toNat)
theorem meetR_ix {o x : Ord} (h : meetR o x = true) : cellIx x = oppIx o := by
  unfold meetR at h
  simp only [Bool.and_eq_true, decide_eq_true_eq, bne_iff_ne, ne_eq] at h
  obtain ⟨⟨h1, h2⟩, _⟩ := h
  unfold cellIx oppIx
  rw [h1]
  cases hx : x.buy <;> cases ho : o.buy <;> simp [hx, ho] at h2 ⊢
theorem tradeR_cnt (o x : Ord) : (tradeR o x).cnt = minI o.cnt x.cnt := by unfold tradeR; split <;> rfl
theorem tradeR_item (o x : Ord) : (tradeR o x).item = o.item := by unfold tradeR; split <;> rfl
theorem cutR_sum {L : List Ord} {k : Nat} (hk : k < L.length) (n : Int) (s : Nat) : sumS (cutR L k ((at' L k).cnt - n)) s = sumS L s - if cellIx (at' L k) = s then n else 0 := by
  rw [sumS_at hk s]
  unfold cutR
  split
  · rename_i hz
    unfold wtO
    split <;> omega
  · rw [sumS_set hk]
    have e : cellIx { at' L k with cnt := (at' L k).cnt - n } = cellIx (at' L k) := rfl
    unfold wtO
    rw [e]
    dsimp only
    split <;> omega
theorem ref_sums : ∀ (f : Nat) (o : Ord) (L : List Ord) (ts : List Trd), (∀ x ∈ L, 1 ≤ x.cnt) → 0 ≤ o.cnt →
    (∀ s, sumS (refLoop f o L ts).2.1 s = sumS L s - if oppIx o = s then tsum (refLoop f o L ts).2.2 - tsum ts else 0) ∧ (refLoop f o L ts).1.cnt = o.cnt - (tsum (refLoop f o L ts).2.2 - tsum ts) ∧ 0 ≤ (refLoop f o L ts).1.cnt ∧
    (∀ t ∈ (refLoop f o L ts).2.2, t ∈ ts ∨ (t.item = o.item ∧ 0 < t.cnt)) ∧ (refLoop f o L ts).1 = { o with cnt := (refLoop f o L ts).1.cnt }
  | 0, o, L, ts, _, h => ⟨fun s => by simp only [refLoop]; split <;> omega, by simp only [refLoop]; omega, h, fun t ht => .inl ht, rfl⟩
  | f + 1, o, L, ts, hL, h => by
    have hstop : (∀ s, sumS L s = sumS L s - if oppIx o = s then tsum ts - tsum ts else 0) ∧ o.cnt = o.cnt - (tsum ts - tsum ts) ∧ 0 ≤ o.cnt ∧ (∀ t ∈ ts, t ∈ ts ∨ (t.item = o.item ∧ 0 < t.cnt)) ∧ o = { o with cnt := o.cnt } :=
      ⟨fun s => by split <;> omega, by omega, h, fun t ht => .inl ht, rfl⟩
    rw [refLoop]
    by_cases h0 : 0 < o.cnt
    · rw [if_pos h0]
      cases hb : bestTo o L L.length with
      | none => exact hstop
      | some k =>
        obtain ⟨hk, hm, _⟩ := best_some hb
        have hx := hL _ (at'_mem hk)
        have hmin := minI_pos h0 (show 0 < (at' L k).cnt by omega)
        have hix := meetR_ix hm
        simp only
        generalize hn : minI o.cnt (at' L k).cnt = n at hmin ⊢
        have hcut : ∀ x ∈ cutR L k ((at' L k).cnt - n), 1 ≤ x.cnt := by
          unfold cutR
          split
          · exact fun x hx => hL x (List.mem_of_mem_eraseIdx hx)
          · intro x hxm
            rcases List.mem_or_eq_of_mem_set hxm with hx' | rfl
            · exact hL x hx'
            · simp only; omega
        obtain ⟨h1, h2, h3, h4, h5⟩ := ref_sums f { o with cnt := o.cnt - n } (cutR L k ((at' L k).cnt - n)) (ts ++ [tradeR o (at' L k)]) hcut (by simp only; omega)
        have hts : tsum (ts ++ [tradeR o (at' L k)]) = tsum ts + n := by rw [tsum_append]; simp only [tsum, tradeR_cnt, hn]; omega
        rw [hts] at h2
        refine ⟨fun s => ?_, ?_, h3, fun t ht => ?_, h5⟩
        · rw [h1 s, cutR_sum hk, hts, hix]
          have e : oppIx { o with cnt := o.cnt - n } = oppIx o := rfl
          rw [e]
          split <;> omega
        · simp only at h2 ⊢; omega
        · rcases h4 t ht with h | h
          · rcases List.mem_append.1 h with h | h
            · exact .inl h
            · rw [List.mem_singleton.1 h]
              exact .inr ⟨tradeR_item _ _, by rw [tradeR_cnt, hn]; exact hmin.1⟩
          · exact .inr h
    · rw [if_neg h0]; exact hstop
structure PlSums (L : List Ord) (o : Ord) (P : PlacedR) : Prop where
  may : MayP o
  sums : ∀ s, sumS P.L s = (sumS L s + if cellIx o = s then o.cnt else 0) - if oppIx o = s ∨ cellIx o = s then tsum P.trades else 0
  each : ∀ t ∈ P.trades, t.item = o.item ∧ 0 < t.cnt
  most : tsum P.trades ≤ o.cnt
theorem place_sums (L : List Ord) (last : Int) (o : Ord) (hL : ∀ x ∈ L, 1 ≤ x.cnt) : ((placeR L last o).errno ≠ 0 ∧ (placeR L last o).L = L) ∨ ((placeR L last o).errno = 0 ∧ PlSums L o (placeR L last o)) := by
  unfold placeR
  by_cases hbad : mayB o = false ∨ o.id ≤ last
  · rw [if_pos hbad]; exact .inl ⟨by simp, rfl⟩
  · rw [if_neg hbad]
    by_cases hf : 32 ≤ L.length
    · rw [if_pos hf]; exact .inl ⟨by simp, rfl⟩
    · rw [if_neg hf]
      have hmay : MayP o := mayB_true.1 (by
        cases hm : mayB o with
        | true => rfl
        | false => exact absurd (Or.inl hm) hbad)
      have hc0 := hmay.cnt0
      obtain ⟨h1, h2, h3, h4, h5⟩ := ref_sums (L.length + 1) o L [] hL (by omega)
      right
      refine ⟨rfl, hmay, fun s => ?_, fun t ht => ?_, ?_⟩
      · simp only at h1 h2 ⊢
        have e0 : tsum ([] : List Trd) = 0 := rfl
        rw [e0] at h2
        have h1s := h1 s
        rw [e0] at h1s
        have hne : oppIx o ≠ cellIx o := by unfold oppIx cellIx; cases o.buy <;> simp
        have hw : sumS (if 0 < (refLoop (L.length + 1) o L []).1.cnt then (refLoop (L.length + 1) o L []).2.1 ++ [(refLoop (L.length + 1) o L []).1] else (refLoop (L.length + 1) o L []).2.1) s = sumS (refLoop (L.length + 1) o L []).2.1 s + if cellIx o = s then (refLoop (L.length + 1) o L []).1.cnt else 0 := by
          split
          · rw [sumS_append]
            unfold wtO
            have : cellIx (refLoop (L.length + 1) o L []).1 = cellIx o := by rw [h5]; rfl
            rw [this]
          · split <;> omega
        rw [hw, h1s]
        by_cases ha : oppIx o = s
        · have hb : ¬ cellIx o = s := fun hb => hne (ha.trans hb.symm)
          rw [if_pos ha, if_neg hb, if_neg hb, if_pos (.inl ha)]
          omega
        · by_cases hb : cellIx o = s
          · rw [if_neg ha, if_pos hb, if_pos hb, if_pos (.inr hb)]
            omega
          · rw [if_neg ha, if_neg hb, if_neg hb, if_neg (fun h => h.elim ha hb)]
            omega
      · rcases h4 t ht with h | h
        · cases h
        · exact h
      · have e0 : tsum ([] : List Trd) = 0 := rfl
        rw [e0] at h2
        show tsum (refLoop (L.length + 1) o L []).2.2 ≤ o.cnt
        omega
theorem cancel_sums (L : List Ord) (id : Int) : ((cancelR L id).errno = 7 ∧ (cancelR L id).L = L) ∨ ((cancelR L id).errno = 0 ∧ (cancelR L id).o ∈ L ∧ ∀ s, sumS (cancelR L id).L s = sumS L s - if cellIx (cancelR L id).o = s then (cancelR L id).o.cnt else 0) := by
  unfold cancelR
  cases hf : L.findIdx? (fun o => o.id == id) with
  | none => exact .inl ⟨rfl, rfl⟩
  | some i =>
    obtain ⟨hi, _, _⟩ := List.findIdx?_eq_some_iff_getElem.1 hf
    refine .inr ⟨rfl, at'_mem hi, fun s => ?_⟩
    rw [sumS_at hi s]
    unfold wtO
    simp only
    omega
/-! The law's own table: eight numbers. -/
def arrL (g : Nat → Int) : List Value := [.int .i64 (g 0), .int .i64 (g 1), .int .i64 (g 2), .int .i64 (g 3), .int .i64 (g 4), .int .i64 (g 5), .int .i64 (g 6), .int .i64 (g 7)]
theorem arrL_get (g : Nat → Int) (s : Nat) (h : s < 8) : (arrL g)[s]? = some (.int .i64 (g s)) := by
  obtain h | h | h | h | h | h | h | h : s = 0 ∨ s = 1 ∨ s = 2 ∨ s = 3 ∨ s = 4 ∨ s = 5 ∨ s = 6 ∨ s = 7 := by omega
  all_goals subst h; rfl
theorem arrL_set (g : Nat → Int) (s : Nat) (h : s < 8) (v : Int) : setAll (arrL g) s [.int .i64 v] = arrL fun k => if k = s then v else g k := by
  obtain h | h | h | h | h | h | h | h : s = 0 ∨ s = 1 ∨ s = 2 ∨ s = 3 ∨ s = 4 ∨ s = 5 ∨ s = 6 ∨ s = 7 := by omega
  all_goals subst h; rfl
theorem arrL_congr {g g' : Nat → Int} (h : ∀ s, s < 8 → g s = g' s) : arrL g = arrL g' := by
  unfold arrL
  rw [h 0 (by omega), h 1 (by omega), h 2 (by omega), h 3 (by omega), h 4 (by omega), h 5 (by omega), h 6 (by omega), h 7 (by omega)]
theorem tsum_take (ts : List Trd) (j : Nat) (h : j < ts.length) : tsum (ts.take (j + 1)) = tsum (ts.take j) + ts[j].cnt := by
  rw [List.take_succ_eq_append_getElem h, tsum_append]
  simp [tsum]
theorem tsum_le (ts : List Trd) (hp : ∀ t ∈ ts, 0 < t.cnt) (j : Nat) : 0 ≤ tsum (ts.take j) ∧ tsum (ts.take j) ≤ tsum ts := by
  have h0 : ∀ l : List Trd, (∀ t ∈ l, 0 < t.cnt) → 0 ≤ tsum l := by
    intro l
    induction l with
    | nil => intro _; exact Int.le_refl _
    | cons t l ih =>
      intro h
      have h1 := h t (List.mem_cons_self ..)
      have h2 := ih fun z hz => h z (List.mem_cons_of_mem _ hz)
      simp only [tsum]
      omega
  have h1 := h0 (ts.take j) fun t ht => hp t (List.mem_of_mem_take ht)
  have h2 := h0 (ts.drop j) fun t ht => hp t (List.mem_of_mem_drop ht)
  have h3 : tsum ts = tsum (ts.take j) + tsum (ts.drop j) := by rw [← tsum_append, List.take_append_drop]
  omega
/-- .. behind the first j trades. -/
def gT (g : Nat → Int) (it : Nat) (d : Int) (s : Nat) : Int := g s - if s = it ∨ s = 4 + it then d else 0
theorem sums_end {g : Nat → Int} {it own opp s : Nat} {T S1 S2 : Int} (hg : g s = S1) (hs : S2 = S1 - if opp = s ∨ own = s then T else 0) (h : (own = it ∧ opp = 4 + it) ∨ (own = 4 + it ∧ opp = it)) : gT g it T s = S2 := by
  unfold gT
  rw [hg, hs]
  by_cases hc : opp = s ∨ own = s
  · rw [if_pos hc, if_pos (by omega)]
  · rw [if_neg hc, if_neg (by omega)]
def gO (g : Nat → Int) (ix : Nat) (c : Int) (s : Nat) : Int := if s = ix then g s + c else g s
theorem sums_drop (L : List Ord) (j : Nat) (h : j < L.length) (s : Nat) : sumS (L.drop j) s = wtO s L[j] + sumS (L.drop (j + 1)) s := by
  rw [List.drop_eq_getElem_cons h]; rfl
end Go.Proofs.Ytihciopankhjgaa
