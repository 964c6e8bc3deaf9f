/-
  BookBest: the plain law. For all prices.
-/
import Derived.Test.YtbcokphjpllbiaaBkL
set_option linter.unusedSimpArgs false
set_option linter.unusedVariables false
namespace Go.Proofs.Ytbcokphjpllbiaa
open Go.RowKit Go.Sl
theorem Trd.len (o : Trd) : o.cells.length = 8 := rfl
def so (zs : List Int) (k : Nat) : Ord := ⟨(k : Int) + 1, ⟨#[115]⟩, false, 2, 1, 1 + (zs.getD k 0) % 8⟩
def bB (q : List Ord) (k : Nat) : Bk := ⟨[[], [], [], [], [], [], q, []], k⟩
theorem bB_len (q : List Ord) (k : Nat) : (bB q k).len = q.length := by simp [Bk.len, lenTo, bB, offs]
theorem bB_ok {q : List Ord} {k : Nat} (hq : q.length ≤ 32) (hc : ∀ x ∈ q, x.cnt = 1) (hk : k ≤ 32) : BkOk (bB q k) := ⟨rfl, by rw [bB_len]; exact hq, (by
  intro p hp x hx
  have hx' : x ∈ q := by
    simp [bB] at hp
    rcases hp with rfl | rfl | rfl
    · cases hx
    · exact hx
    · cases hx
  have := hc x hx'
  omega), by simp [bB], by simp [bB]; omega⟩
theorem so_may (zs : List Int) (k : Nat) (hk : k < 30) : mayB (so zs k) = true := by
  refine mayB_true.2 ⟨?_, ?_, ?_, ?_, ?_, ?_, ?_, ?_, ?_, ?_⟩
  all_goals simp only [so]
  all_goals first | omega | decide
theorem best_step (zs : List Int) (q : List Ord) (k : Nat) (hk : k < 30) (hq : q.length = k) : placeB (bB q k) (so zs k) = ⟨[], 1, 0, bB (pushT q (so zs k)) (k + 1)⟩ := by
  unfold placeB
  rw [if_neg (by rintro (h | h); (rw [so_may zs k hk] at h; cases h); (simp [so, bB] at h; omega)), if_neg (by rw [bB_len]; omega)]
  rfl
def bo (want : Int) : Ord := ⟨100, ⟨#[98]⟩, true, 2, want, 1024⟩
def bt (x : Ord) : Trd := ⟨⟨#[98]⟩, x.who, 100, x.id, 2, 1, x.price, 1024⟩
theorem loop_take : ∀ (f : Nat) (q : List Ord) (l : List Trd) (c : Int), q.length < f → Heap false q → (∀ x ∈ q, x.cnt = 1 ∧ x.price ≤ 1024) → 0 ≤ c →
    ∃ (s rest : List Ord), (s ++ rest).Perm q ∧ s.length = min c.toNat q.length ∧ s.Pairwise (leK false) ∧ (loopF f (bo c) q l).2.2 = l ++ s.map bt ∧ (loopF f (bo c) q l).1.cnt = c - s.length
  | 0, q, l, c, h, _, _, _ => by omega
  | f + 1, [], l, c, _, _, _, h => ⟨[], [], .refl _, by simp, .nil, by simp [loopF], by simp [loopF, bo]⟩
  | f + 1, x :: q, l, c, hf, hq, hx, hc => by
    have hb := hq.side x (List.mem_cons_self ..)
    obtain ⟨hxc, hxp⟩ := hx x (List.mem_cons_self ..)
    rw [loopF]
    by_cases h0 : 0 < c
    · have hmeet : meetO (bo c) x = true := by simp [meetO, hb, bo, hxp]
      rw [if_pos ⟨h0, hmeet⟩]
      have ht : tradeF (bo c) x = bt x := by
        unfold tradeF
        rw [hb]
        simp only [Bool.false_eq_true, if_false, hxc, bo, bt]
        congr 1
        unfold minI
        split <;> omega
      have htc : (tradeF (bo c) x).cnt = 1 := by rw [ht]; rfl
      rw [htc, ht, hxc, if_pos (by omega)]
      have hq' : Heap false ({ x with cnt := 1 - 1 } :: q) := hq.cnt _
      have hp := popT_perm { x with cnt := 1 - 1 } q
      obtain ⟨s, rest, h1, h2, h3, h4, h5⟩ := loop_take f (popT ({ x with cnt := 1 - 1 } :: q)) (l ++ [bt x]) (c - 1) (by rw [popT_length]; simp at hf ⊢; omega) hq'.pop (fun z hz => hx z (List.mem_cons_of_mem _ (hp.mem_iff.1 hz))) (by omega)
      refine ⟨x :: s, rest, ?_, ?_, ?_, ?_, ?_⟩
      · exact (h1.trans hp).cons x
      · rw [List.length_cons, h2, popT_length]
        simp only [List.length_cons]
        omega
      · refine List.Pairwise.cons ?_ h3
        intro z hz
        exact hq.top z (List.mem_cons_of_mem _ ((h1.trans hp).mem_iff.1 (List.mem_append_left _ hz)))
      · show (loopF f (bo (c - 1)) _ _).2.2 = _
        rw [h4]; simp
      · show (loopF f (bo (c - 1)) _ _).1.cnt = _
        rw [h5]; simp only [List.length_cons]; omega
    · rw [if_neg (fun h => h0 h.1)]
      exact ⟨[], x :: q, .refl _, by simp; omega, .nil, by simp, by simp [bo]⟩
structure BestL (zs : List Int) (ts : List Trd) : Prop where
  one : ∀ i (h : i < ts.length), ts[i].cnt = 1 ∧ ∃ k, k < zs.length ∧ ts[i].sell = (k : Int) + 1 ∧ ts[i].price = 1 + (zs.getD k 0) % 8
  two : ∀ i (h : i + 1 < ts.length), ts[i].price < ts[i + 1].price ∨ (ts[i].price = ts[i + 1].price ∧ ts[i].sell ≤ ts[i + 1].sell)
theorem best_final (zs : List Int) (q : List Ord) (want : Nat) (h30 : zs.length ≤ 30) (hw : 1 ≤ want) (hw2 : want ≤ 30) (hq : Heap false q) (hp : q.Perm ((List.range zs.length).map (so zs))) :
    ∃ ts bk', placeB (bB q zs.length) (bo want) = ⟨ts, (want : Int) - ts.length, 0, bk'⟩ ∧ ts.length = min want zs.length ∧ BestL zs ts := by
  have hmay : mayB (bo want) = true := by
    refine mayB_true.2 ⟨?_, ?_, ?_, ?_, ?_, ?_, ?_, ?_, ?_, ?_⟩
    all_goals simp only [bo]
    all_goals first | omega | decide
  have hql : q.length = zs.length := by rw [hp.length_eq]; simp
  have hmem : ∀ x ∈ q, ∃ k, k < zs.length ∧ x = so zs k := fun x hx => by
    obtain ⟨k, hk, rfl⟩ := List.mem_map.1 (hp.mem_iff.1 hx)
    exact ⟨k, List.mem_range.1 hk, rfl⟩
  obtain ⟨s, rest, h1, h2, h3, h4, h5⟩ := loop_take (q.length + 1) q [] want (Nat.lt_succ_self _) hq (fun x hx => by
    obtain ⟨k, _, rfl⟩ := hmem x hx
    exact ⟨rfl, by simp only [so]; omega⟩) (by omega)
  unfold placeB
  rw [if_neg (by rintro (h | h); (rw [hmay] at h; cases h); (simp [bo, bB] at h; omega)), if_neg (by rw [bB_len]; omega)]
  dsimp only
  have e1 : (bB q zs.length).pile (sideK (itemK (bo want)) (!(bo want).buy)) = q := rfl
  rw [e1]
  simp only [Int.toNat_natCast] at h2
  have hts : (loopF (q.length + 1) (bo want) q []).2.2 = s.map bt := by rw [h4]; rfl
  refine ⟨s.map bt, _, by rw [hts, h5, List.length_map], by rw [List.length_map, h2, hql], ?_, ?_⟩
  · intro i hi
    rw [List.length_map] at hi
    rw [List.getElem_map]
    obtain ⟨k, hk, he⟩ := hmem s[i] (h1.mem_iff.1 (List.mem_append_left _ (List.getElem_mem hi)))
    rw [he]
    exact ⟨rfl, k, hk, rfl, rfl⟩
  · intro i hi
    rw [List.length_map] at hi
    rw [List.getElem_map, List.getElem_map]
    have := List.pairwise_iff_getElem.1 h3 i (i + 1) (by omega) hi (Nat.lt_succ_self _)
    unfold leK ky at this
    exact this
end Go.Proofs.Ytbcokphjpllbiaa
