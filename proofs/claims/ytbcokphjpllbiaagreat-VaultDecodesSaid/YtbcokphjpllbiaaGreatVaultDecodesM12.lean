/-
  Place in every case, as a function on books; the law's known trade; may an order be, as the document says it.
  Cancel: which order is taken out, what the book is then. For every book and every ID.
  The plain law of a heap of orders: put, take, take out keep its order; its top is the best. No program in sight.
  Cancel on a book: for every book and every ID. A nil Book: Place, Cancel, List, Len.
  The library's contracts laid at this program: written by the kit's tool lay-plain.
  slices.SortFunc on an owned row of orders, by their IDs. For every row.
  BookBest: the plain law. For all prices.
  BookGone: the plain law. For all prices, all that are cancelled, every order.
  A slice of integers that comes in as an argument: its cells. For every slice.
  BookGone: the walk. For all prices, all that are cancelled, every order.
  append of a slice of another named type. Over any program; no condition.
-/
import Derived.Test.YtbcokphjpllbiaaGreatVaultDecodesM1
import Derived.Test.YtbcokphjpllbiaaGreatVaultDecodesM2
import Derived.Test.YtbcokphjpllbiaaGreatVaultDecodesM5
import Derived.Test.YtbcokphjpllbiaaGreatVaultDecodesM11
import Derived.Test.YtbcokphjpllbiaaGreatProg
import Derived.Shelf.SlSortCmp.WholeK
import Derived.Shelf.SlicesG.Cmp
import Derived.Shelf.Small.Bits
import Derived.Ground.SlsfProg
import Derived.Ground.SlgcProg
import Derived.Ground.NamesProg
import Derived.Test.YtbcokphjpllbiaaGreatRows
import Derived.Lib.SmallJoins
import Derived.ChangeArms
import Derived.ProofKit
section
set_option linter.unusedSimpArgs false
set_option linter.unusedVariables false
namespace Go.Proofs.YtbcokphjpllbiaaGreat
open Go.RowKit Go.Sl
def bk0 : Bk := ⟨[[], [], [], [], [], [], [], []], 0⟩
theorem bk0_ok : BkOk bk0 := ⟨rfl, by decide, (by intro p hp x hx; simp [bk0] at hp; subst hp; cases hx), by decide, by decide⟩
def tradesR (v : Value) (l : List Trd) : HP := row v 8 102 l.length (l.flatMap Trd.cells)
theorem new_book (W w : World) (L : List HP) (hS : St W L w) :
    Calls Tryz.prog 59 #[] w fun e w' => ∃ b, e = .returned (.pointer (some ⟨b, 0, none⟩)) ∧ St W (bookP b bk0 :: L) w' := by
  refine (new_spec W w L hS).mono ?_
  rintro e w' ⟨b, rfl, hS⟩
  refine ⟨b, rfl, ?_⟩
  have h1 : ∀ (n : Nat) {L : List HP} {w : World}, St W L w → St W (sats (pilesR (List.replicate n (.slice none 0 0)) (List.replicate n [])) :: L) w := by
    intro n
    induction n with
    | zero => intro L w h; exact ⟨h.os, h.tape, h.output, fun _ => false, trivial, h.sat⟩
    | succ n ih => intro L w h; exact St.join ((ih h).rowNil (k := 6) (T := 41))
  exact bookShut (vs := List.replicate 8 (.slice none 0 0)) rfl rfl (h1 8 hS).swap
theorem place_spec (bb : Nat) (bk : Bk) (o : Ord) (hok : BkOk bk) (W w : World) (L : List HP) (hS : St W (bookP bb bk :: L) w) :
    Calls Tryz.prog 53 #[.pointer (some ⟨bb, 0, none⟩), .agg o.cells.toArray] w fun e w' => ∃ v, e = .returned (.tuple #[v, .int .i64 (placeB bk o).left, .int .i64 (placeB bk o).errno]) ∧
      St W (bookP bb (placeB bk o).book :: tradesR v (placeB bk o).trades :: L) w' := by
  have hnil : ∀ {w : World}, St W (bookP bb bk :: L) w → St W (bookP bb bk :: tradesR (.slice none 0 0) [] :: L) w := fun h => (h.rowNil (k := 8) (T := 102)).swap
  cases hb : mayB o
  · have e : placeB bk o = ⟨[], 0, 1, bk⟩ := by unfold placeB; rw [if_pos (.inl hb)]
    rw [e]
    refine (place_bad bb bk o hok hb W w L hS).mono ?_
    rintro e w' ⟨rfl, hS⟩
    exact ⟨_, rfl, hnil hS⟩
  · by_cases hle : o.id ≤ bk.last
    · have e : placeB bk o = ⟨[], 0, 1, bk⟩ := by unfold placeB; rw [if_pos (.inr hle)]
      rw [e]
      refine (place_old bb bk o hok hb hle W w L hS).mono ?_
      rintro e w' ⟨rfl, hS⟩
      exact ⟨_, rfl, hnil hS⟩
    · have hno : ¬ (mayB o = false ∨ o.id ≤ bk.last) := by rintro (h | h); (rw [hb] at h; cases h); exact hle h
      by_cases hf : 32 ≤ bk.len
      · have e : placeB bk o = ⟨[], 0, 6, bk⟩ := by unfold placeB; rw [if_neg hno, if_pos hf]
        rw [e]
        refine (place_full bb bk o hok hb (by omega) hf W w L hS).mono ?_
        rintro e w' ⟨rfl, hS⟩
        exact ⟨_, rfl, hnil hS⟩
      · have e : (placeB bk o).errno = 0 := by unfold placeB; rw [if_neg hno, if_neg hf]
        rw [e]
        exact place_ok bb bk o hok hb (by omega) hf W w L hS
def ko1 : Ord := ⟨1, ⟨#[97]⟩, false, 1, 3, 5⟩
def ko2 : Ord := ⟨2, ⟨#[98]⟩, true, 1, 2, 7⟩
def kb1 : Bk := ⟨[[], [], [], [], [], [ko1], [], []], 1⟩
def kb2 : Bk := ⟨[[], [], [], [], [], [⟨1, ⟨#[97]⟩, false, 1, 1, 5⟩], [], []], 2⟩
def kt : Trd := ⟨⟨#[98]⟩, ⟨#[97]⟩, 2, 1, 1, 2, 5, 7⟩
set_option maxHeartbeats 2000000 in
theorem refMay_spec (o : Ord) (W w : World) (L : List HP) (hS : St W L w) :
    Calls Tryz.prog 55 #[.agg o.cells.toArray] w fun e w' => e = .returned (.bool (mayB o)) ∧ St W L w' := by
  obtain ⟨i, u, y, t, c, p⟩ := o
  simp only [Ord.cells]
  go_enter Tryz.func55, Tryz.ntmps55
  go_wp2_with (first | (refine zl1 hS ?_) | (refine zlN hS ?_) | (refine zs1 hS ?_; clear hS; intro w hS) | (refine zsN hS ?_; clear hS; intro w hS) | (refine zbx hS ?_; clear hS; intro b w hS) | (refine zal hS ?_; clear hS; intro b w hS))
  all_goals go_ret
  all_goals exact ⟨by simp [mayB, *]; try omega, hS.drop⟩
end Go.Proofs.YtbcokphjpllbiaaGreat
end
section
set_option linter.unusedSimpArgs false
set_option linter.unusedVariables false
namespace Go.Proofs.YtbcokphjpllbiaaGreat
open Go.RowKit Go.Sl
/-- Take the one at place i out of a heap. -/
def remT (xs : List Ord) (i : Nat) : List Ord := if h : i < xs.length then (remF xs i (xs.length - 1) (by omega) (by omega)).take (xs.length - 1) else xs
/-- Where an order of this ID stands: pile and place. -/
def findAt (ps : List (List Ord)) (id : Int) : List Nat → Option (Nat × Nat)
  | [] => none
  | k :: ks => match (ps.getD k []).findIdx? (fun o => o.id == id) with
    | some i => some (k, i)
    | none => findAt ps id ks
def o0 : Ord := ⟨0, ⟨#[]⟩, false, 0, 0, 0⟩
structure Cancelled where
  o : Ord
  errno : Int
  book : Bk
def cancelB (b : Bk) (id : Int) : Cancelled :=
  match findAt b.ps id offs with
  | none => ⟨o0, 7, b⟩
  | some (k, i) => ⟨(b.pile k).getD i o0, 0, ⟨b.ps.set k (remT (b.pile k) i), b.last⟩⟩
def idxI (id : Int) (p : List Ord) : Int := match p.findIdx? (fun o => o.id == id) with
  | some i => i
  | none => -1

def IdxRel (W : World) (L : List HP) (v : Value) (p : List Ord) (id : Int) (r : Int) (v8 : Value) (w : World) : Prop :=
  ∃ k : Nat, v8 = .int .i64 k ∧ k ≤ p.length ∧ (∀ j, j < k → ∀ x, p[j]? = some x → (x.id == id) = false) ∧ St W L w
end Go.Proofs.YtbcokphjpllbiaaGreat
end
section
set_option linter.unusedSimpArgs false
set_option linter.unusedVariables false
namespace Go.Proofs.YtbcokphjpllbiaaGreat
open Go.RowKit Go.Sl
def ky (y : Bool) (o : Ord) : Int := cond y (-o.price) o.price
/-- a is as good as b, or better. -/
def leK (y : Bool) (a b : Ord) : Prop := ky y a < ky y b ∨ (ky y a = ky y b ∧ a.id ≤ b.id)
theorem leK_refl (y : Bool) (a : Ord) : leK y a a := .inr ⟨rfl, Int.le_refl _⟩
theorem leK_trans {y : Bool} {a b c : Ord} (h1 : leK y a b) (h2 : leK y b c) : leK y a c := by unfold leK at *; omega
theorem less_true {y : Bool} {a b : Ord} (ha : a.buy = y) (h : lessO a b = true) : leK y a b := by
  subst ha
  unfold lessO at h
  unfold leK ky
  split at h
  · rename_i hp
    rw [hp]
    right
    simp only [decide_eq_true_eq] at h
    exact ⟨rfl, by omega⟩
  · rename_i hp
    cases hb : a.buy <;> simp [hb] at h ⊢ <;> omega
theorem less_false {y : Bool} {a b : Ord} (ha : a.buy = y) (h : lessO a b = false) : leK y b a := by
  subst ha
  unfold lessO at h
  unfold leK ky
  split at h
  · rename_i hp
    rw [hp]
    right
    simp only [decide_eq_false_iff_not] at h
    exact ⟨rfl, by omega⟩
  · rename_i hp
    cases hb : a.buy <;> simp [hb] at h ⊢ <;> omega
def at' (xs : List Ord) (k : Nat) : Ord := xs.getD k o0
theorem at'_get {xs : List Ord} {k : Nat} (h : k < xs.length) : at' xs k = xs[k] := by simp [at', List.getD_eq_getElem?_getD, List.getElem?_eq_getElem h]
theorem at'_swap (xs : List Ord) (i j : Nat) (hi : i < xs.length) (hj : j < xs.length) (k : Nat) : at' (swapL xs i j hi hj) k = if k = j then at' xs i else if k = i then at' xs j else at' xs k := by
  unfold at' swapL
  simp only [List.getD_eq_getElem?_getD, List.getElem?_set]
  by_cases h1 : k = j
  · subst h1; simp [hi, hj]
  · by_cases h2 : k = i
    · subst h2; simp [h1, Ne.symm h1, hj, hi]
    · simp [h1, h2, Ne.symm h1, Ne.symm h2]
def Side (y : Bool) (xs : List Ord) : Prop := ∀ x ∈ xs, x.buy = y
theorem Side.at {y : Bool} {xs : List Ord} (h : Side y xs) {k : Nat} (hk : k < xs.length) : (at' xs k).buy = y := by rw [at'_get hk]; exact h _ (List.getElem_mem hk)
theorem Side.perm {y : Bool} {xs ys : List Ord} (h : Side y xs) (hp : ys.Perm xs) : Side y ys := fun x hx => h x (hp.mem_iff.1 hx)
/-- The first n are a heap. -/
def Hp (y : Bool) (n : Nat) (xs : List Ord) : Prop := ∀ k, 0 < k → k < n → leK y (at' xs ((k - 1) / 2)) (at' xs k)
/-- .. but for place j, which may be better than its parent. -/
structure UpI (y : Bool) (n : Nat) (xs : List Ord) (j : Nat) : Prop where
  all : ∀ k, 0 < k → k < n → k ≠ j → leK y (at' xs ((k - 1) / 2)) (at' xs k)
  kids : ∀ k, 0 < j → k < n → 0 < k → (k - 1) / 2 = j → leK y (at' xs ((j - 1) / 2)) (at' xs k)
theorem up_heap (y : Bool) (n : Nat) : ∀ (f : Nat) (xs : List Ord) (j : Nat), Side y xs → n ≤ xs.length → j < n → j ≤ f → UpI y n xs j → Hp y n (upF f xs j)
  | 0, xs, j, _, _, _, hf, h => fun k h0 hk => h.all k h0 hk (by omega)
  | f + 1, xs, j, hs, hn, hj, hf, h => by
    rw [upF]
    by_cases hc : 0 < j ∧ j < xs.length
    · rw [dif_pos hc]
      have hp : (j - 1) / 2 < xs.length := by omega
      cases hb : lessO xs[j] xs[(j - 1) / 2]
      · simp only [Bool.false_eq_true, if_false]
        intro k h0 hk
        by_cases hkj : k = j
        · subst hkj
          have := less_false (hs _ (List.getElem_mem hc.2)) hb
          rwa [at'_get hp, at'_get hc.2]
        · exact h.all k h0 hk hkj
      · simp only [if_true]
        have hle : leK y (at' xs j) (at' xs ((j - 1) / 2)) := by
          rw [at'_get hp, at'_get hc.2]
          exact less_true (hs _ (List.getElem_mem hc.2)) hb
        refine up_heap y n f _ _ (hs.perm (swapL_perm _ _ _ hp hc.2)) (by rw [swapL_length]; exact hn) (by omega) (by omega) ⟨?_, ?_⟩
        · intro k h0 hk hkp
          rw [at'_swap, at'_swap]
          by_cases h1 : k = j
          · subst h1
            rw [if_pos rfl, if_neg (by omega), if_pos rfl]
            exact hle
          · rw [if_neg h1, if_neg hkp]
            by_cases h2 : (k - 1) / 2 = j
            · rw [if_pos h2]
              exact h.kids k hc.1 hk h0 h2
            · rw [if_neg h2]
              by_cases h3 : (k - 1) / 2 = (j - 1) / 2
              · rw [if_pos h3]
                refine leK_trans hle ?_
                rw [← h3]
                exact h.all k h0 hk h1
              · rw [if_neg h3]
                exact h.all k h0 hk h1
        · intro k h0 hk hk0 hkp
          rw [at'_swap, at'_swap]
          rw [if_neg (by omega), if_neg (by omega)]
          have hg := h.all ((j - 1) / 2) h0 (by omega) (by omega)
          by_cases h1 : k = j
          · rw [if_pos h1]; exact hg
          · rw [if_neg h1, if_neg (by omega)]
            refine leK_trans hg ?_
            rw [← hkp]
            exact h.all k hk0 hk h1
    · rw [dif_neg hc]
      exact fun k h0 hk => h.all k h0 hk (by omega)
/-- .. but for place i, which may be worse than its children. -/
structure DownI (y : Bool) (n : Nat) (xs : List Ord) (i : Nat) : Prop where
  all : ∀ k, 0 < k → k < n → (k - 1) / 2 ≠ i → k ≠ i → leK y (at' xs ((k - 1) / 2)) (at' xs k)
  kids : ∀ k, 0 < i → k < n → 0 < k → (k - 1) / 2 = i → leK y (at' xs ((i - 1) / 2)) (at' xs k)
theorem kid_best (y : Bool) (n : Nat) (xs : List Ord) (i : Nat) (hs : Side y xs) (hn : n ≤ xs.length) (h1 : 2 * i + 1 < n) (k : Nat) (hk : k < n) (h0 : 0 < k) (hp : (k - 1) / 2 = i) : leK y (at' xs (kid xs i n hn)) (at' xs k) := by
  have hkk : k = 2 * i + 1 ∨ k = 2 * i + 2 := by omega
  unfold kid
  split
  · rename_i h2
    cases hb : lessO xs[2 * i + 2] xs[2 * i + 1]
    · simp only [Bool.false_eq_true, if_false]
      rcases hkk with rfl | rfl
      · exact leK_refl _ _
      · rw [at'_get (show 2 * i + 1 < xs.length by omega), at'_get (show 2 * i + 2 < xs.length by omega)]
        exact less_false (hs _ (List.getElem_mem _)) hb
    · simp only [if_true]
      rcases hkk with rfl | rfl
      · rw [at'_get (show 2 * i + 1 < xs.length by omega), at'_get (show 2 * i + 2 < xs.length by omega)]
        exact less_true (hs _ (List.getElem_mem _)) hb
      · exact leK_refl _ _
  · rcases hkk with rfl | rfl
    · exact leK_refl _ _
    · omega
theorem kid_par {xs : List Ord} {i n : Nat} (hn : n ≤ xs.length) : (kid xs i n hn - 1) / 2 = i := by
  unfold kid
  split
  · split <;> omega
  · omega
theorem down_heap (y : Bool) (n : Nat) : ∀ (f : Nat) (xs : List Ord) (i : Nat), Side y xs → n ≤ xs.length → n ≤ f + i → DownI y n xs i → (i = 0 ∨ n ≤ i ∨ leK y (at' xs ((i - 1) / 2)) (at' xs i)) → Hp y n (downF f xs i n).1
  | 0, xs, i, _, _, hf, h, hi => fun k h0 hk => h.all k h0 hk (by omega) (by omega)
  | f + 1, xs, i, hs, hn, hf, h, hi => by
    have hstop : (∀ k, 0 < k → k < n → (k - 1) / 2 = i → leK y (at' xs i) (at' xs k)) → Hp y n xs := fun hh k h0 hk => by
      by_cases h1 : (k - 1) / 2 = i
      · rw [h1]; exact hh k h0 hk h1
      · by_cases h2 : k = i
        · subst h2
          rcases hi with h3 | h3 | h3
          · omega
          · omega
          · exact h3
        · exact h.all k h0 hk h1 h2
    rw [downF]
    by_cases hc : 2 * i + 1 < n ∧ n ≤ xs.length
    · rw [dif_pos hc]
      have hk1 := kid_lt hn hc.1
      have hk2 := kid_gt (xs := xs) (i := i) (n := n) hn
      have hk3 := kid_par (xs := xs) (i := i) (n := n) hn
      have hbest := kid_best y n xs i hs hn hc.1
      have hjl : (kid xs i n hn) < xs.length := by omega
      have hil : i < xs.length := by omega
      cases hb : lessO xs[(kid xs i n hn)] xs[i]
      · simp only [Bool.false_eq_true, if_false]
        refine hstop fun k h0 hk hp => leK_trans ?_ (hbest k hk h0 hp)
        rw [at'_get hjl, at'_get hil]
        exact less_false (hs _ (List.getElem_mem hjl)) hb
      · simp only [if_true]
        have hle : leK y (at' xs (kid xs i n hn)) (at' xs i) := by
          rw [at'_get hjl, at'_get hil]
          exact less_true (hs _ (List.getElem_mem hjl)) hb
        refine down_heap y n f _ _ (hs.perm (swapL_perm _ _ _ hil hjl)) (by rw [swapL_length]; exact hn) (by omega) ⟨?_, ?_⟩ (.inr (.inr ?_))
        · intro k h0 hk h1 h2
          rw [at'_swap, at'_swap, if_neg h1, if_neg h2]
          by_cases h3 : k = i
          · rw [if_pos h3, if_neg (by omega)]
            rw [h3]
            exact h.kids _ (h3 ▸ h0) hk1 (by omega) hk3
          · rw [if_neg h3]
            by_cases h4 : (k - 1) / 2 = i
            · rw [if_pos h4]; exact hbest k hk h0 h4
            · rw [if_neg h4]; exact h.all k h0 hk h4 h3
        · intro k _ hk h0 hp
          rw [at'_swap, at'_swap, hk3, if_neg (by omega), if_pos rfl, if_neg (by omega), if_neg (by omega)]
          rw [← hp]
          exact h.all k h0 hk (by omega) (by omega)
        · rw [at'_swap, at'_swap, hk3, if_neg (by omega), if_pos rfl, if_pos rfl]
          exact hle
    · rw [dif_neg hc]
      exact hstop fun k h0 hk hp => by omega
theorem at'_take (xs : List Ord) (n k : Nat) (h : k < n) : at' (xs.take n) k = at' xs k := by
  unfold at'
  simp only [List.getD_eq_getElem?_getD, List.getElem?_take, if_pos h]
theorem Hp.take {y : Bool} {n : Nat} {xs : List Ord} (h : Hp y n xs) : Hp y n (xs.take n) := fun k h0 hk => by
  rw [at'_take _ _ _ hk, at'_take _ _ _ (by omega)]
  exact h k h0 hk
/-- A pile in order: a heap of one side. -/
structure Heap (y : Bool) (xs : List Ord) : Prop where
  side : Side y xs
  hp : Hp y xs.length xs
theorem Heap.nil (y : Bool) : Heap y [] := ⟨fun _ h => (by cases h), fun k _ h => absurd h (Nat.not_lt_zero _)⟩
theorem Heap.top {y : Bool} {x : Ord} {q : List Ord} (h : Heap y (x :: q)) : ∀ z ∈ x :: q, leK y x z := by
  have hk : ∀ k, k < (x :: q).length → leK y x (at' (x :: q) k) := by
    intro k
    induction k using Nat.strongRecOn with
    | _ k ih =>
      intro hk
      by_cases h0 : k = 0
      · subst h0; exact leK_refl _ _
      · exact leK_trans (ih ((k - 1) / 2) (by omega) (by omega)) (h.hp k (by omega) hk)
  intro z hz
  obtain ⟨k, hkl, rfl⟩ := List.mem_iff_getElem.1 hz
  have := hk k hkl
  rwa [at'_get hkl] at this
theorem Heap.pop {y : Bool} {x : Ord} {q : List Ord} (h : Heap y (x :: q)) : Heap y (popT (x :: q)) := by
  have hl : (popT (x :: q)).length = q.length := by rw [popT_length]; rfl
  refine ⟨fun z hz => h.side z (List.mem_cons_of_mem _ ((popT_perm x q).mem_iff.1 hz)), ?_⟩
  rw [hl]
  have e : popT (x :: q) = (popF (x :: q) q.length rfl).take q.length := by
    unfold popT
    rw [dif_pos (by simp)]
    rfl
  rw [e]
  refine Hp.take ?_
  unfold popF
  have h0 : 0 < (x :: q).length := by simp
  have h1 : q.length < (x :: q).length := by simp
  refine down_heap y q.length _ _ 0 (h.side.perm (swapL_perm _ _ _ h0 h1)) (by rw [swapL_length]; simp) (by omega) ⟨?_, fun k hk => absurd hk (Nat.lt_irrefl _)⟩ (.inl rfl)
  intro k hk0 hk h2 _
  rw [at'_swap, at'_swap, if_neg (by omega), if_neg h2, if_neg (by omega), if_neg (by omega)]
  exact h.hp k hk0 (by simp; omega)
theorem Heap.push {y : Bool} {xs : List Ord} {o : Ord} (h : Heap y xs) (ho : o.buy = y) : Heap y (pushT xs o) := by
  have hp := pushT_perm xs o
  refine ⟨fun z hz => ?_, ?_⟩
  · rcases List.mem_cons.1 (hp.mem_iff.1 hz) with rfl | hz
    · exact ho
    · exact h.side z hz
  · rw [pushT_length]
    unfold pushT
    have hap : ∀ k, k < xs.length → at' (xs ++ [o]) k = at' xs k := fun k hk => by
      unfold at'
      rw [List.getD_eq_getElem?_getD, List.getD_eq_getElem?_getD, List.getElem?_append_left hk]
    refine up_heap y _ _ _ _ ?_ (by simp) (by omega) (Nat.le_refl _) ⟨?_, fun k h0 hk hk0 hp => by omega⟩
    · intro z hz
      rcases List.mem_append.1 hz with hz | hz
      · exact h.side z hz
      · rw [List.mem_singleton.1 hz]; exact ho
    · intro k h0 hk hkn
      rw [hap _ (by omega), hap _ (by omega)]
      exact h.hp k h0 (by omega)
/-- Less of the top one changes nothing in the order. -/
theorem Heap.cnt {y : Bool} {x : Ord} {q : List Ord} (h : Heap y (x :: q)) (c : Int) : Heap y ({ x with cnt := c } :: q) := by
  refine ⟨fun z hz => ?_, ?_⟩
  · rcases List.mem_cons.1 hz with rfl | hz
    · exact h.side x (List.mem_cons_self ..)
    · exact h.side z (List.mem_cons_of_mem _ hz)
  · have hk : ∀ k, ky y (at' ({ x with cnt := c } :: q) k) = ky y (at' (x :: q) k) ∧ (at' ({ x with cnt := c } :: q) k).id = (at' (x :: q) k).id := by
      intro k
      cases k with
      | zero => exact ⟨rfl, rfl⟩
      | succ k => exact ⟨rfl, rfl⟩
    intro k h0 hkl
    have := h.hp k h0 hkl
    unfold leK at *
    rw [(hk _).1, (hk _).2, (hk k).1, (hk k).2]
    exact this
end Go.Proofs.YtbcokphjpllbiaaGreat
end
section
set_option linter.unusedSimpArgs false
set_option linter.unusedVariables false
namespace Go.Proofs.YtbcokphjpllbiaaGreat
open Go.RowKit Go.Sl
section
variable {A B C D E F G H X : HP} {L : List HP}
theorem _root_.Go.Sl.Take.t1 : Take (A :: X :: L) X (A :: L) := .tail .head
theorem _root_.Go.Sl.Take.t2 : Take (A :: B :: X :: L) X (A :: B :: L) := .tail .t1
theorem _root_.Go.Sl.Take.t3 : Take (A :: B :: C :: X :: L) X (A :: B :: C :: L) := .tail .t2
theorem _root_.Go.Sl.Take.t4 : Take (A :: B :: C :: D :: X :: L) X (A :: B :: C :: D :: L) := .tail .t3
theorem _root_.Go.Sl.Take.t5 : Take (A :: B :: C :: D :: E :: X :: L) X (A :: B :: C :: D :: E :: L) := .tail .t4
end
def CanRel (W : World) (L : List HP) (bb : Nat) (b : Bk) (id : Int) (v15 : Value) (w : World) : Prop :=
  ∃ k : Nat, v15 = .int .i64 k ∧ k ≤ 8 ∧ findAt b.ps id offs = findAt b.ps id (offs.drop k) ∧ St W (bookP bb b :: L) w
theorem ptrL_get (bb : Nat) (junk : List Value) (k : Nat) (h : k < 8) : ∃ o, o < 8 ∧ offs.drop k = o :: offs.drop (k + 1) ∧ (ptrL bb ++ junk)[k]? = some (.pointer (some ⟨bb, o, none⟩)) := by
  obtain h | h | h | h | h | h | h | h : k = 0 ∨ k = 1 ∨ k = 2 ∨ k = 3 ∨ k = 4 ∨ k = 5 ∨ k = 6 ∨ k = 7 := by omega
  all_goals subst h
  all_goals exact ⟨_, by decide, rfl, rfl⟩
theorem len_offs (b : Bk) (o : Nat) (h : o < 8) (hb : b.len ≤ 32) : (b.ps.getD o []).length ≤ 32 := Nat.le_trans (pile_le b o h) hb
/-! A nil Book. -/
end Go.Proofs.YtbcokphjpllbiaaGreat
end
section
set_option linter.unusedSimpArgs false
set_option linter.unusedVariables false
namespace Go.Proofs.YtbcokphjpllbiaaGreat
open Go.Shelf
def Tryz.sortOrd_ren : Go.Shelf.Ren := ⟨fun | 6 => 97 | 15 => 110 | 14 => 109 | 28 => 122 | 29 => 123 | 20 => 114 | 21 => 115 | 22 => 116 | 23 => 117 | 24 => 118 | 25 => 119 | 26 => 120 | 27 => 121 | 46 => 133 | 47 => 134 | 48 => 135 | 49 => 136 | 50 => 137 | 57 => 142 | n => n, fun | 22 => 57 | 24 => 41 | 25 => 161 | 3 => 3 | 39 => 146 | 0 => 0 | 53 => 185 | 55 => 135 | 4 => 4 | 46 => 179 | 45 => 178 | 50 => 121 | 5 => 5 | 9 => 9 | 66 => 193 | 70 => 73 | 76 => 200 | 77 => 46 | n => n, fun | n => n⟩
theorem Tryz.sortOrd : Go.Proofs.SlLaysF0.n6 Tryz.prog Tryz.sortOrd_ren := {
  mixed := by kernel_rfl
  f6 := ⟨Tryz.f97.name, by decide, Tryz.func97.trans (congrArg some (by kernel_rfl))⟩
  f14 := ⟨Tryz.f109.name, by decide, Tryz.func109.trans (congrArg some (by kernel_rfl))⟩
  f15 := Tryz.func110.trans (congrArg some (by kernel_rfl))
  f20 := ⟨Tryz.f114.name, by decide, Tryz.func114.trans (congrArg some (by kernel_rfl))⟩
  f21 := ⟨Tryz.f115.name, by decide, Tryz.func115.trans (congrArg some (by kernel_rfl))⟩
  f22 := ⟨Tryz.f116.name, by decide, Tryz.func116.trans (congrArg some (by kernel_rfl))⟩
  f23 := ⟨Tryz.f117.name, by decide, Tryz.func117.trans (congrArg some (by kernel_rfl))⟩
  f24 := ⟨Tryz.f118.name, by decide, Tryz.func118.trans (congrArg some (by kernel_rfl))⟩
  f25 := ⟨Tryz.f119.name, by decide, Tryz.func119.trans (congrArg some (by kernel_rfl))⟩
  f26 := ⟨Tryz.f120.name, by decide, Tryz.func120.trans (congrArg some (by kernel_rfl))⟩
  f27 := ⟨Tryz.f121.name, by decide, Tryz.func121.trans (congrArg some (by kernel_rfl))⟩
  f28 := Tryz.func122.trans (congrArg some (by kernel_rfl))
  f29 := Tryz.func123.trans (congrArg some (by kernel_rfl))
  f46 := ⟨Tryz.f133.name, by decide, Tryz.func133.trans (congrArg some (by kernel_rfl))⟩
  f47 := Tryz.func134.trans (congrArg some (by kernel_rfl))
  f48 := Tryz.func135.trans (congrArg some (by kernel_rfl))
  f49 := ⟨Tryz.f136.name, by decide, Tryz.func136.trans (congrArg some (by kernel_rfl))⟩
  f50 := ⟨Tryz.f137.name, by decide, Tryz.func137.trans (congrArg some (by kernel_rfl))⟩
  f57 := ⟨Tryz.f142.name, by decide, Tryz.func142.trans (congrArg some (by kernel_rfl))⟩
  t0 := Tryz.underlying0
  a0 := Tryz.isAgg0
  z0 := Tryz.sizeOf0
  v0 := Tryz.zeroValue0
  t3 := Tryz.underlying3
  a3 := Tryz.isAgg3
  z3 := Tryz.sizeOf3
  v3 := Tryz.zeroValue3
  t4 := Tryz.underlying4
  a4 := Tryz.isAgg4
  z4 := Tryz.sizeOf4
  v4 := Tryz.zeroValue4
  t5 := Tryz.underlying5
  a5 := Tryz.isAgg5
  z5 := Tryz.sizeOf5
  v5 := Tryz.zeroValue5
  t9 := Tryz.underlying9
  a9 := Tryz.isAgg9
  z9 := Tryz.sizeOf9
  v9 := Tryz.zeroValue9
  t22 := Tryz.underlying57
  a22 := Tryz.isAgg57
  z22 := Tryz.sizeOf57
  v22 := Tryz.zeroValue57
  t25 := Tryz.underlying161
  a25 := Tryz.isAgg161
  z25 := Tryz.sizeOf161
  v25 := Tryz.zeroValue161
  t39 := Tryz.underlying146
  a39 := Tryz.isAgg146
  z39 := Tryz.sizeOf146
  v39 := Tryz.zeroValue146
  t45 := Tryz.underlying178
  a45 := Tryz.isAgg178
  z45 := Tryz.sizeOf178
  v45 := Tryz.zeroValue178
  t46 := Tryz.underlying179
  a46 := Tryz.isAgg179
  z46 := Tryz.sizeOf179
  v46 := Tryz.zeroValue179
  t50 := Tryz.underlying121
  a50 := Tryz.isAgg121
  z50 := Tryz.sizeOf121
  v50 := Tryz.zeroValue121
  t53 := Tryz.underlying185
  a53 := Tryz.isAgg185
  z53 := Tryz.sizeOf185
  v53 := Tryz.zeroValue185
  t55 := Tryz.underlying135
  a55 := Tryz.isAgg135
  z55 := Tryz.sizeOf135
  v55 := Tryz.zeroValue135
  t66 := Tryz.underlying193
  a66 := Tryz.isAgg193
  z66 := Tryz.sizeOf193
  v66 := Tryz.zeroValue193
  t70 := Tryz.underlying73
  a70 := Tryz.isAgg73
  z70 := Tryz.sizeOf73
  v70 := Tryz.zeroValue73
  t76 := Tryz.underlying200
  a76 := Tryz.isAgg200
  z76 := Tryz.sizeOf200
  v76 := Tryz.zeroValue200
  t77 := Tryz.underlying46
  a77 := Tryz.isAgg46
  z77 := Tryz.sizeOf46
  v77 := Tryz.zeroValue46 }
def Tryz.cmpInt_ren : Go.Shelf.Ren := ⟨fun | 5 => 99 | 7 => 111 | n => n, fun | 22 => 3 | 3 => 3 | 4 => 4 | n => n, fun | n => n⟩
theorem Tryz.cmpInt : Go.Proofs.SlLaysC2.n5 Tryz.prog Tryz.cmpInt_ren := {
  mixed := by kernel_rfl
  f5 := ⟨Tryz.f99.name, by decide, Tryz.func99.trans (congrArg some (by kernel_rfl))⟩
  f7 := ⟨Tryz.f111.name, by decide, Tryz.func111.trans (congrArg some (by kernel_rfl))⟩
  t3 := Tryz.underlying3
  a3 := Tryz.isAgg3
  z3 := Tryz.sizeOf3
  v3 := Tryz.zeroValue3
  t4 := Tryz.underlying4
  a4 := Tryz.isAgg4
  z4 := Tryz.sizeOf4
  v4 := Tryz.zeroValue4
  t22 := Tryz.underlying3
  a22 := Tryz.isAgg3
  z22 := Tryz.sizeOf3
  v22 := Tryz.zeroValue3 }
def Tryz.bitsLen_ren : Go.Shelf.Ren := ⟨fun | 125 => 110 | 128 => 122 | 129 => 123 | n => n, fun | 46 => 146 | 3 => 3 | 51 => 185 | 53 => 135 | 4 => 4 | 5 => 5 | 9 => 9 | n => n, fun | n => n⟩
theorem Tryz.bitsLen : Go.Proofs.Lays.n125 Tryz.prog Tryz.bitsLen_ren := {
  mixed := by kernel_rfl
  f125 := Tryz.func110.trans (congrArg some (by kernel_rfl))
  f128 := Tryz.func122.trans (congrArg some (by kernel_rfl))
  f129 := Tryz.func123.trans (congrArg some (by kernel_rfl))
  t3 := Tryz.underlying3
  a3 := Tryz.isAgg3
  z3 := Tryz.sizeOf3
  v3 := Tryz.zeroValue3
  t4 := Tryz.underlying4
  a4 := Tryz.isAgg4
  z4 := Tryz.sizeOf4
  v4 := Tryz.zeroValue4
  t5 := Tryz.underlying5
  a5 := Tryz.isAgg5
  z5 := Tryz.sizeOf5
  v5 := Tryz.zeroValue5
  t9 := Tryz.underlying9
  a9 := Tryz.isAgg9
  z9 := Tryz.sizeOf9
  v9 := Tryz.zeroValue9
  t46 := Tryz.underlying146
  a46 := Tryz.isAgg146
  z46 := Tryz.sizeOf146
  v46 := Tryz.zeroValue146
  t51 := Tryz.underlying185
  a51 := Tryz.isAgg185
  z51 := Tryz.sizeOf185
  v51 := Tryz.zeroValue185
  t53 := Tryz.underlying135
  a53 := Tryz.isAgg135
  z53 := Tryz.sizeOf135
  v53 := Tryz.zeroValue135 }
end Go.Proofs.YtbcokphjpllbiaaGreat
end
section
set_option linter.unusedSimpArgs false
set_option linter.unusedVariables false
namespace Go.Proofs.YtbcokphjpllbiaaGreat
open Go.Shelf Go.RowKit Go.Lib Go.Sort Go.Sl
instance : Inhabited Ord := ⟨o0⟩
def cmpO (x y : Ord) : Int := Lib.compareInt x.id y.id
theorem ltO (x y : Ord) : ltOf cmpO x y = decide (x.id < y.id) := by
  unfold ltOf cmpO Lib.compareInt
  by_cases h1 : x.id < y.id
  · simp [h1]
  · by_cases h2 : y.id < x.id <;> simp [h1, h2]
theorem swoO : SWO (ltOf cmpO) where
  irrefl x := by rw [ltO]; simp
  trans x y z h1 h2 := by rw [ltO] at *; simp at *; omega
  ntrans x y z h1 h2 := by rw [ltO] at *; simp at *; omega
set_option maxHeartbeats 1000000 in
/-- The closure of List: two blocks are laid. -/
theorem closureO (x y : Ord) (W : World) : Calls Tryz.prog 98 #[.agg x.cells.toArray, .agg y.cells.toArray] W fun e w' => e = .returned (.int .i64 (cmpO x y)) ∧ ∃ q os', w' = grow (W.drewN q) os' := by
  have hcon := fun W' => AnyG.cmp_Compare_int Tryz.cmpInt x.id y.id W'
  change ∀ W', Calls Tryz.prog 99 _ _ _ at hcon
  unfold cmpO
  obtain ⟨i, u, b, t, c, p⟩ := x
  obtain ⟨i', u', b', t', c', p'⟩ := y
  simp only [Ord.cells] at hcon ⊢
  generalize Lib.compareInt i i' = r at hcon ⊢
  go_enter Tryz.func98, Tryz.ntmps98
  go_wp2_with (go_at_call 99; refine (hcon _).mono ?_; rintro e w' ⟨rfl, rfl⟩)
  go_ret
  exact ⟨rfl, 0, _, by rw [alloc_eq_grow, alloc_eq_grow, grow_grow]; rfl⟩
theorem cmpLaysO (blk off size : Nat) (w : World) : CmpLays Tryz.prog 98 #[] Ord.cells 6 cmpO blk off size w := fun _ _ _ _ x y => closureO x y _
theorem St.grow {W w : World} {L : List HP} (h : St W L w) (os : Array Obj) : St W L (Sort.grow w os) := by
  refine ⟨h.os, h.tape, h.output, sats_cut (S := fun b => decide (w.heap.size ≤ b)) ?_⟩
  have e : cutOut (fun b => decide (w.heap.size ≤ b)) (fun b => (Sort.grow w os).heap[b]?) = fun b => w.heap[b]? := by
    funext b
    show cond (decide (w.heap.size ≤ b)) none ((w.heap ++ os)[b]?) = w.heap[b]?
    by_cases hb : w.heap.size ≤ b
    · rw [decide_eq_true hb, Array.getElem?_eq_none hb]; rfl
    · rw [decide_eq_false hb, Array.getElem?_append_left (by omega)]; rfl
  rw [e]
  exact h.sat
theorem flatK_get (l : List Ord) (junk : List Value) (j : Nat) (hj : j < l.length * 6) : (l.flatMap Ord.cells ++ junk)[j]? = some ((flatK Ord.cells 6 l.toArray)[j]!) := by
  rw [get_flatK _ _ _ _ (by simpa using hj)]
  have hq : j / 6 < l.length := by omega
  have h1 := flat_get Ord.len l junk (j / 6) hq (j % 6) (by omega)
  rw [show j / 6 * 6 + j % 6 = j by omega] at h1
  rw [h1]
  have h2 : l.toArray[j / 6]! = l[j / 6] := by simp [hq]
  rw [h2, List.getElem?_eq_getElem (by rw [Ord.len]; omega)]
  rw [getElem!_pos _ _ (by rw [Ord.len]; omega)]
set_option maxRecDepth 100000 in
theorem sort_row (l : List Ord) (g cap : Nat) (junk : List Value) (h62 : l.length < 4611686018427387904) (W w : World) (L : List HP) (hS : St W (blk g (l.flatMap Ord.cells ++ junk) 41 :: L) w) :
    Calls Tryz.prog 97 #[.slice (some ⟨g, 0, none⟩) l.length cap, .func (.func 98) #[] #[]] w fun e w' =>
      e = .returned (.tuple #[]) ∧ ∃ l' : List Ord, l'.Perm l ∧ l'.Pairwise (fun x y => x.id ≤ y.id) ∧ St W (blk g (l'.flatMap Ord.cells ++ junk) 41 :: L) w' := by
  have eg : ∀ args w, (callFunc 98 args).run Tryz.prog w = .ok (.enter 98 args) w := enters_of Tryz.func98 (by kernel_rfl) rfl
  have hgt := hS.get (b := g) .head
  have hblk : g < w.heap.size := (Array.getElem?_eq_some_iff.1 hgt).1
  have hH : HoldsK Ord.cells 6 w g 0 l.toArray := by
    intro j hj
    rw [size_flatK] at hj
    refine ⟨hS.cell .head ?_, hS.free .head⟩
    rw [Nat.zero_add]
    exact flatK_get l junk j (by simpa using hj)
  have hcon := AnyQ.slices_SortFunc Tryz.sortOrd 6 Tryz.isAgg41 Tryz.sizeOf41 Ord.cells Ord.len (fun x v hv => by simp [Ord.cells] at hv; rcases hv with rfl | rfl | rfl | rfl | rfl | rfl <;> rfl) cmpO swoO 98 #[] g 0 cap l.toArray w eg (cmpLaysO g 0 l.toArray.size w) hH hblk (by simpa using h62)
  change Calls Tryz.prog 97 _ _ _ at hcon
  simp only [List.size_toArray] at hcon
  refine hcon.mono ?_
  rintro e w' ⟨rfl, d', n, os, ⟨hp1, _, hp3⟩, hs, rfl⟩
  refine ⟨rfl, d'.toList, ?_, ?_, ?_⟩
  · have e1 : d'.extract 0 l.length = d' := by
      have : l.length = d'.size := by rw [hp1]; simp
      rw [this, Array.extract_size]
    have e2 : l.toArray.extract 0 l.length = l.toArray := by
      have : l.length = l.toArray.size := by simp
      rw [this, Array.extract_size]
    rw [e1, e2] at hp3
    exact hp3
  · rw [List.pairwise_iff_getElem]
    intro i j hi hj hij
    have := hs i j (Nat.zero_le _) hij (by simp at hj; rw [hp1] at hj; simpa using hj)
    rw [ltO] at this
    simp only [decide_eq_false_iff_not] at this
    have hi' : i < d'.size := by simpa using hi
    have hj' : j < d'.size := by simpa using hj
    rw [getElem!_pos d' i hi', getElem!_pos d' j hj'] at this
    simp only [Array.getElem_toList]
    omega
  · unfold sortWorldK
    refine St.grow ?_ os
    have hSd : St W (blk g (l.flatMap Ord.cells ++ junk) 41 :: L) (Sort.ahead w n) := ⟨hS.os, hS.tape, hS.output, hS.sat⟩
    refine hSd.putO (w' := putRowK Ord.cells 6 (Sort.ahead w n) g 0 d') (o' := .cells (d'.toList.flatMap Ord.cells ++ junk).toArray 41 (0, 0)) .head rfl rfl rfl fun k => ?_
    show ((Sort.ahead w n).heap.modify g _)[k]? = _
    rw [Array.getElem?_modify]
    by_cases hk : k = g
    · subst hk
      rw [if_pos rfl, if_pos rfl]
      have hgt' : (Sort.ahead w n).heap[k]? = some (.cells (l.flatMap Ord.cells ++ junk).toArray 41 (0, 0)) := hgt
      rw [hgt']
      simp only [Option.map_some, Sort.onCells]
      congr 2
      have hdl : d'.toList.length = l.length := by rw [Array.length_toList, hp1]; simp
      have hf1 := flat_length Ord.len l
      have hf2 := flat_length Ord.len d'.toList
      apply Array.ext_getElem?
      intro t
      unfold Sort.putCells
      simp only [Array.getElem?_mapIdx, List.getElem?_toArray, size_flatK, Nat.zero_le, true_and, Nat.zero_add, Nat.sub_zero, id]
      have hds : d'.size = l.length := by rw [hp1]; simp
      by_cases ht : t < l.length * 6
      · have h1 := flatK_get d'.toList junk t (by rw [hdl]; exact ht)
        rw [h1, flatK_get l junk t ht]
        simp [hds, ht]
      · have h2 : (l.flatMap Ord.cells ++ junk)[t]? = (d'.toList.flatMap Ord.cells ++ junk)[t]? := by
          rw [List.getElem?_append_right (by omega), List.getElem?_append_right (by omega), hf1, hf2, hdl]
        rw [← h2]
        simp [hds, ht]
    · rw [if_neg (fun h => hk h.symm), if_neg hk]
set_option maxRecDepth 100000 in
theorem insert_nil (f : Value) (W w : World) (L : List HP) (hS : St W L w) :
    Calls Tryz.prog 114 #[.slice none 0 0, .int .i64 0, .int .i64 0, f] w fun e w' => e = .returned (.tuple #[]) ∧ St W L w' := by
  go_enter Tryz.func114, Tryz.ntmps114
  go_wp2_with fail
  go_loopw [8] (fun v wr => v = .int .i64 1 ∧ St W L wr) (fun _ _ => 0)
  case atStart => exact ⟨rfl, hS⟩
  case round =>
    clear hS
    obtain ⟨rfl, hS⟩ := hrel
    go_wp2_with fail
    go_end0
    exact ⟨rfl, hS⟩
set_option maxRecDepth 100000 in
theorem pdq_nil (n : Int) (f : Value) (W w : World) (L : List HP) (hS : St W L w) :
    Calls Tryz.prog 109 #[.slice none 0 0, .int .i64 0, .int .i64 0, .int .i64 n, f] w fun e w' => e = .returned (.tuple #[]) ∧ St W L w' := by
  go_enter Tryz.func109, Tryz.ntmps109
  go_wp2_with fail
  go_loopw [1, 2] (fun v1 v2 wr => v1 = .int .i64 0 ∧ v2 = .int .i64 0 ∧ St W L wr) (fun _ _ _ => 0)
  case atStart => exact ⟨rfl, rfl, hS⟩
  case round =>
    clear hS
    obtain ⟨rfl, rfl, hS⟩ := hrel
    go_wp2_with (first | (go_at_call 114; refine (insert_nil _ W _ _ hS).mono ?_; clear hS; rintro e w ⟨rfl, hS⟩))
    refine bodyPost_ret (results_none rfl _ _ _) rfl ?_
    exact ⟨rfl, hS⟩
set_option maxRecDepth 100000 in
theorem sort_nil (f : Value) (W w : World) (L : List HP) (hS : St W L w) :
    Calls Tryz.prog 97 #[.slice none 0 0, f] w fun e w' => e = .returned (.tuple #[]) ∧ St W L w' := by
  have hl : ∀ w : World, Calls Tryz.prog 110 #[.int .u64 0] w fun e w' => (∃ l : Int, e = .returned (.int .i64 l)) ∧ w' = w := fun w =>
    (Any.bits_Len Tryz.bitsLen 0 w (by omega) (by omega)).mono fun _ _ ⟨he, hw⟩ => ⟨⟨_, he⟩, hw⟩
  go_enter Tryz.func97, Tryz.ntmps97
  go_wp2_with (first | (go_at_call 110; refine (hl _).mono ?_; rintro e w ⟨⟨l, rfl⟩, rfl⟩) | (go_at_call 109; refine (pdq_nil _ _ W _ _ hS).mono ?_; clear hS; rintro e w ⟨rfl, hS⟩))
  go_end0
  exact ⟨rfl, hS⟩
end Go.Proofs.YtbcokphjpllbiaaGreat
end
section
set_option linter.unusedSimpArgs false
set_option linter.unusedVariables false
namespace Go.Proofs.YtbcokphjpllbiaaGreat
open Go.RowKit Go.Sl
theorem Trd.len (o : Trd) : o.cells.length = 8 := rfl
def so (zs : List Int) (k : Nat) : Ord := ⟨(k : Int) + 1, ⟨#[115]⟩, false, 2, 1, 1 + (zs.getD k 0) % 8⟩
def bB (q : List Ord) (k : Nat) : Bk := ⟨[[], [], [], [], [], [], q, []], k⟩
def bo (want : Int) : Ord := ⟨100, ⟨#[98]⟩, true, 2, want, 1024⟩
def bt (x : Ord) : Trd := ⟨⟨#[98]⟩, x.who, 100, x.id, 2, 1, x.price, 1024⟩
structure BestL (zs : List Int) (ts : List Trd) : Prop where
  one : ∀ i (h : i < ts.length), ts[i].cnt = 1 ∧ ∃ k, k < zs.length ∧ ts[i].sell = (k : Int) + 1 ∧ ts[i].price = 1 + (zs.getD k 0) % 8
  two : ∀ i (h : i + 1 < ts.length), ts[i].price < ts[i + 1].price ∨ (ts[i].price = ts[i + 1].price ∧ ts[i].sell ≤ ts[i + 1].sell)
end Go.Proofs.YtbcokphjpllbiaaGreat
end
section
set_option linter.unusedSimpArgs false
set_option linter.unusedVariables false
namespace Go.Proofs.YtbcokphjpllbiaaGreat
open Go.RowKit Go.Sl
def sg (zs : List Int) (k : Nat) : Ord := ⟨(k : Int) + 1, ⟨#[115]⟩, false, 1, 2, 1 + (zs.getD k 0) % 8⟩
def bG (q : List Ord) (k : Nat) : Bk := ⟨[[], [], [], [], [], q, [], []], k⟩
/-- What stands there: IDs up to n, each once. -/
structure GoneQ (n : Nat) (q : List Ord) : Prop where
  nodup : (q.map Ord.id).Nodup
  each : ∀ x ∈ q, x.cnt = 2 ∧ x.id ≤ n
end Go.Proofs.YtbcokphjpllbiaaGreat
end
section
set_option linter.unusedSimpArgs false
set_option linter.unusedVariables false
namespace Go.Proofs.YtbcokphjpllbiaaGreat
open Go.Joins Go.ChangeShapes Go.WideShapes Go.RowKit Go.Deep Go.Sl
/-- v is a slice that holds zs in the world w. -/
def IntsV (w : World) (v : Value) (zs : List Int) : Prop :=
  (zs = [] ∧ ∃ a cap, v = .slice a 0 cap) ∨
  ∃ b off cap, v = .slice (some ⟨b, off, none⟩) zs.length cap ∧ 0 < zs.length ∧ zs.length ≤ 9223372036854775807 ∧ ∀ i, i < zs.length → w.cell? ⟨b, off + i, none⟩ = some (.int .i64 (zs.getD i 0))
end Go.Proofs.YtbcokphjpllbiaaGreat
end
section
set_option linter.unusedSimpArgs false
set_option linter.unusedVariables false
namespace Go.Proofs.YtbcokphjpllbiaaGreat
open Go.RowKit Go.Sl
def intsR (v : Value) (ks : List Int) : HP := row v 1 3 ks.length (ks.map (Value.int .i64))
def Gone1 (W : World) (L : List HP) (zs : List Int) (bb : Nat) (v8 : Value) (w : World) : Prop :=
  ∃ (k : Nat) (q : List Ord), v8 = .int .i64 k ∧ k ≤ zs.length ∧ q.length = k ∧ GoneQ k q ∧ St W (bookP bb (bG q k) :: L) w
def Gone2 (W : World) (L : List HP) (n m : Nat) (bb : Nat) (v9 v10 : Value) (w : World) : Prop :=
  ∃ (k : Nat) (q : List Ord) (gone : List Int), v10 = .int .i64 k ∧ k ≤ m ∧ q.length ≤ 20 ∧ GoneQ n q ∧ gone.length = k ∧ (∀ x ∈ q, x.id ∉ gone) ∧ (∀ x ∈ gone, x ≤ 32) ∧ St W (bookP bb (bG q n) :: intsR v9 gone :: L) w
def Gone3 (W : World) (L : List HP) (n : Nat) (v : Value) (w : World) : Prop := ∃ i : Nat, v = .int .i64 i ∧ i ≤ n ∧ St W L w
end Go.Proofs.YtbcokphjpllbiaaGreat
end
section
set_option linter.unusedSimpArgs false
set_option linter.unusedVariables false
namespace Go.Sl
open Go.RowKit
section
variable {P : Program} {ops : Array Oper} {Q : Exit → Act → World → Prop} {a : Act} {w : World} {W : World} {L L' R : List HP} {rest : List Oper} {o : Oper}
theorem append_types {t t2 e e2 : TypeId} (ht : P.underlying t = some (.slice e)) (h2 : P.underlying t2 = some (.slice e2)) (ty : TypeId) (s x : Value) (w : World) : (Builtin.append_ #[t, t2] ty #[s, x]).run P w = (Builtin.append_ #[t, t] ty #[s, x]).run P w := by
  unfold Builtin.append_
  simp only [List.getElem?_toArray, List.getElem?_cons_zero, List.getElem?_cons_succ, Sem.run_bind, run_underlying ht, run_underlying h2, Result.andThen_ok]
  cases s <;> simp [run_underlying ht, run_underlying h2]
theorem wl_append2 {s x : Operand} {t t2 e e2 : TypeId} {z : Value} {k bytes : Nat} {v xv : Value} {n m : Nat} {cs news : List Value} (hS : St W L w) (ho : o.op = .call { callee := .builtin .append, args := #[s, x], argTypes := #[t, t2] })
    (hg : Region.wanted o (yielded ops a.tmps) = true) (hs : a.eval s = v) (hx : a.eval x = xv) (ht : tyElem P t = some e) (ht2 : tyElem P t2 = some e2) (hi : tyRow P e = some (some z, k, bytes)) (hz : z.cells.size = k) (hk : 0 < k) (hu : Take L (row v k e n cs) R)
    (hsrc : Src L xv m news) (hl : news.length = m * k) (h1 : news.all (·.oneCell') = true) (h63 : n + m ≤ maxLen) (hb : (n + m) * bytes ≤ 140737488355328)
    (h : ∀ v' w', St W (row v' k e (n + m) (cs ++ news) :: R) w' → wpList P ops Q rest (a.put o.dst v') w') : wpList P ops Q (o :: rest) a w := by
  obtain ⟨v', w', hr, hS'⟩ := run_append (P := P) (ty := o.type) ht hi hz hk rfl hS hu (hsrc.at hS) hl h1 h63 hb
  refine wpList_run hg (v := v') (w' := w') ?_ (h v' w' hS')
  unfold execOp
  simp only [ho, resolve, invoke, builtin, Sem.run_bind, Sem.run_pure, Result.andThen_ok, List.map_toArray, List.map_cons, List.map_nil, hs, hx, append_types (tyElem_spec ht) (tyElem_spec ht2), hr]
end
end Go.Sl
end
