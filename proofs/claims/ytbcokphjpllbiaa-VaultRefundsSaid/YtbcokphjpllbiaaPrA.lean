/-
  BookPrices: the plain law: each trade is at the price of the one that stood there. No program in sight.
-/
import Derived.Test.YtbcokphjpllbiaaBkY
set_option linter.unusedSimpArgs false
set_option linter.unusedVariables false
namespace Go.Proofs.Ytbcokphjpllbiaa
open Go.RowKit Go.Sl
/-- t is a trade of o with x. -/
structure TrOk (o x : Ord) (t : Trd) : Prop where
  price : t.price = x.price
  buys : o.buy = true → t.sell = x.id ∧ t.bid = o.price ∧ x.price ≤ o.price
  sells : o.buy = false → t.buy = x.id ∧ t.bid = x.price ∧ o.price ≤ x.price
theorem tradeR_ok {o x : Ord} (hm : meetR o x = true) : TrOk o x (tradeR o x) := by
  unfold meetR at hm
  simp only [Bool.and_eq_true, decide_eq_true_eq] at hm
  obtain ⟨_, h3⟩ := hm
  unfold tradeR
  cases hb : o.buy
  · rw [hb] at h3
    simp only [Bool.false_eq_true, if_false, decide_eq_true_eq] at h3 ⊢
    exact ⟨rfl, fun h => (by rw [hb] at h; cases h), fun _ => ⟨rfl, rfl, h3⟩⟩
  · rw [hb] at h3
    simp only [if_true, decide_eq_true_eq] at h3 ⊢
    exact ⟨rfl, fun _ => ⟨rfl, rfl, h3⟩, fun h => (by rw [hb] at h; cases h)⟩
theorem ref_trades : ∀ (f : Nat) (o : Ord) (L : List Ord) (ts : List Trd) (t : Trd), t ∈ (refLoop f o L ts).2.2 → t ∈ ts ∨ ∃ x ∈ L, TrOk o x t
  | 0, o, L, ts, t, h => .inl h
  | f + 1, o, L, ts, t, h => by
    rw [refLoop] at h
    by_cases h0 : 0 < o.cnt
    · rw [if_pos h0] at h
      cases hb : bestTo o L L.length with
      | none => rw [hb] at h; exact .inl h
      | some k =>
        rw [hb] at h
        obtain ⟨hk, hm, _⟩ := best_some hb
        rcases ref_trades f _ _ _ t h with h | ⟨x, hx, hok⟩
        · rcases List.mem_append.1 h with h | h
          · exact .inl h
          · rw [List.mem_singleton.1 h]
            exact .inr ⟨_, at'_mem hk, tradeR_ok hm⟩
        · have hx' : ∃ z ∈ L, z.id = x.id ∧ z.price = x.price := by
            unfold cutR at hx
            split at hx
            · exact ⟨x, List.mem_of_mem_eraseIdx hx, rfl, rfl⟩
            · rcases List.mem_or_eq_of_mem_set hx with hx | rfl
              · exact ⟨x, hx, rfl, rfl⟩
              · exact ⟨_, at'_mem hk, rfl, rfl⟩
          obtain ⟨z, hz, e1, e2⟩ := hx'
          refine .inr ⟨z, hz, ⟨by rw [e2]; exact hok.price, fun hy => ?_, fun hy => ?_⟩⟩
          · have := hok.buys hy
            rw [e1, e2]; exact this
          · have := hok.sells hy
            rw [e1, e2]; exact this
    · rw [if_neg h0] at h; exact .inl h
theorem place_trades {b : Bk} {L : List Ord} (h : Rep b L) (o : Ord) {t : Trd} (ht : t ∈ (placeB b o).trades) : ∃ x ∈ L, TrOk o x t := by
  rw [(place_rep h o).1] at ht
  unfold placeR at ht
  split at ht
  · cases ht
  · split at ht
    · cases ht
    · rcases ref_trades _ _ _ _ _ ht with h | h
      · cases h
      · exact h
/-- The price of the one of this ID among the first n. -/
def pTo (L : List Ord) (id : Int) : Nat → Int
  | 0 => 0
  | n + 1 => if (at' L n).id = id then (at' L n).price else pTo L id n
theorem pTo_at {L : List Ord} (h : ById L) {id : Int} {m : Nat} (hid : (at' L m).id = id) : ∀ n, m < n → n ≤ L.length → pTo L id n = (at' L m).price
  | 0, hm, _ => absurd hm (Nat.not_lt_zero _)
  | n + 1, hm, hn => by
    rw [pTo]
    by_cases hnm : n = m
    · subst hnm; rw [if_pos hid]
    · rw [if_neg (fun he => hnm (h.inj (by omega) (by omega) (he.trans hid.symm)))]
      exact pTo_at h hid n (by omega) (by omega)
theorem pTo_mem {L : List Ord} (h : ById L) {x : Ord} (hx : x ∈ L) : pTo L x.id L.length = x.price := by
  obtain ⟨m, hm, rfl⟩ := mem_at' hx
  exact pTo_at h rfl _ hm (Nat.le_refl _)
theorem pTo_step_yes {L : List Ord} {id : Int} {n : Nat} (h : (at' L n).id = id) : pTo L id (n + 1) = (at' L n).price := by rw [pTo, if_pos h]
theorem pTo_step_no {L : List Ord} {id : Int} {n : Nat} (h : ¬ (at' L n).id = id) : pTo L id (n + 1) = pTo L id n := by rw [pTo, if_neg h]
theorem list_rep {b : Bk} {L l : List Ord} (h : Rep b L) (hp : l.Perm (catTo b.ps 8)) (hs : l.Pairwise fun x z => x.id ≤ z.id) : l = L :=
  sorted_eq ((hp.trans (cat_flat b.ps h.ok.n8)).trans h.perm.symm) hs h.byId
theorem list_at (bb : Nat) {b : Bk} {L : List Ord} (h : Rep b L) (W w : World) (Lr : List HP) (hS : St W (bookP bb b :: Lr) w) :
    Calls Try.prog 30 #[.pointer (some ⟨bb, 0, none⟩)] w fun e w' => ∃ a c, e = .returned (.slice a L.length c) ∧ St W (bookP bb b :: pileR (.slice a L.length c) L :: Lr) w' := by
  refine (list_spec bb b h.ok.few W w Lr hS).mono ?_
  rintro e w' ⟨v, l, rfl, hl, hsd, hS⟩
  obtain rfl := list_rep h hl hsd
  obtain ⟨a, c, rfl⟩ := hS.drop.rowVal
  exact ⟨a, c, rfl, hS⟩
theorem place_at (bb : Nat) {b : Bk} {L : List Ord} (h : Rep b L) (o : Ord) (W w : World) (Lr : List HP) (hS : St W (bookP bb b :: Lr) w) :
    Calls Try.prog 27 #[.pointer (some ⟨bb, 0, none⟩), .agg o.cells.toArray] w fun e w' => ∃ b' ts a c, (ts = (placeR L b.last o).trades ∧ b'.last = (placeR L b.last o).last ∧ Rep b' (placeR L b.last o).L ∧ ∀ t ∈ ts, ∃ x ∈ L, TrOk o x t) ∧
      e = .returned (.tuple #[.slice a ts.length c, .int .i64 (placeR L b.last o).left, .int .i64 (placeR L b.last o).errno]) ∧ St W (bookP bb b' :: tradesR (.slice a ts.length c) ts :: Lr) w' := by
  obtain ⟨h1, h2, h3, h4, h5⟩ := place_rep h o
  refine (place_spec bb b o h.ok W w Lr hS).mono ?_
  rintro e w' ⟨v, rfl, hS⟩
  obtain ⟨a, c, rfl⟩ := hS.drop.rowVal
  refine ⟨_, _, a, c, ⟨h1, h4, h5, fun t ht => place_trades h o ht⟩, ?_, hS⟩
  rw [h2, h3]
theorem cancel_at (bb : Nat) {b : Bk} {L : List Ord} (h : Rep b L) (id : Int) (W w : World) (Lr : List HP) (hS : St W (bookP bb b :: Lr) w) :
    Calls Try.prog 32 #[.pointer (some ⟨bb, 0, none⟩), .int .i64 id] w fun e w' => ∃ b', (b'.last = b.last ∧ Rep b' (cancelR L id).L) ∧
      e = .returned (.tuple #[.agg (cancelR L id).o.cells.toArray, .int .i64 (cancelR L id).errno]) ∧ St W (bookP bb b' :: Lr) w' := by
  obtain ⟨h1, h2, h3, h4⟩ := cancel_rep h id
  refine (cancel_spec bb b id h.ok.few W w Lr hS).mono ?_
  rintro e w' ⟨rfl, hS⟩
  exact ⟨_, ⟨h3, h4⟩, by rw [h1, h2], hS⟩
end Go.Proofs.Ytbcokphjpllbiaa
