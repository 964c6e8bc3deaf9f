/-
  The vault: New; an offer that is refused. For every vault and order.
-/
import Derived.Test.YtbcokphjpllbiaaGreatVaultPlaysM11
import Derived.Test.YtbcokphjpllbiaaGreatVaultPlaysM22

section
set_option linter.unusedSimpArgs false
set_option linter.unusedVariables false
namespace Go.Proofs.YtbcokphjpllbiaaGreat
open Go.RowKit Go.Sl
section
variable {κ ν : Type} [DecidableEq κ]
theorem getL_delO {k y : κ} (h : y ≠ k) : ∀ l : List (κ × ν), getL (delL l k) y = getL l y
  | [] => rfl
  | x :: l => by
    have ih := getL_delO h l
    unfold getL delL at ih ⊢
    by_cases hx : x.1 = k
    · rw [List.filter_cons, if_neg (by simpa using hx), ih, List.find?_cons_of_neg (by simpa using fun e => h (e.symm.trans hx))]
    · rw [List.filter_cons, if_pos (by simpa using hx)]
      by_cases hy : x.1 = y
      · rw [List.find?_cons_of_pos (by simpa using hy), List.find?_cons_of_pos (by simpa using hy)]
      · rw [List.find?_cons_of_neg (by simpa using hy), List.find?_cons_of_neg (by simpa using hy), ih]
theorem getL_delS (k : κ) (l : List (κ × ν)) : getL (delL l k) k = none := getL_no fun x hx => by
  have := (List.mem_filter.1 hx).2
  simpa using this
end
theorem isZ_eq {i : It} (h : isZ i = true) : i = it0 := by
  obtain ⟨a, b, c, d⟩ := i
  simp only [isZ, Bool.and_eq_true, decide_eq_true_eq] at h
  obtain ⟨rfl, rfl, rfl, rfl⟩ := h
  rfl
theorem purse_same (p : Ps) (k : ByteArray) (i : It) : purseA (layP p k i) k = i := by
  unfold layP purseA
  cases h : isZ i with
  | true => rw [if_pos rfl, getL_delS, isZ_eq h]; rfl
  | false => rw [if_neg (by simp)]; unfold getL; rw [List.find?_cons_of_pos (by simp)]; rfl
theorem purse_other (p : Ps) {k y : ByteArray} (h : y ≠ k) (i : It) : purseA (layP p k i) y = purseA p y := by
  unfold layP purseA
  split
  · rw [getL_delO h]
  · have e : getL ((k, i) :: delL p k) y = getL (delL p k) y := by unfold getL; rw [List.find?_cons_of_neg (by simpa using fun e => h e.symm)]
    rw [e, getL_delO h]
def PsOk (p : Ps) : Prop := ∀ k, isIt (purseA p k) = true
theorem psOk_nil : PsOk [] := fun _ => rfl
theorem psOk_lay {p : Ps} (h : PsOk p) (k : ByteArray) {i : It} (hi : isIt i = true) : PsOk (layP p k i) := fun y => by
  by_cases hy : y = k
  · rw [hy, purse_same]; exact hi
  · rw [purse_other p hy]; exact h y
theorem capI_in {a : Int} (h : 0 ≤ a) : 0 ≤ capI a ∧ capI a ≤ 1152921504606846976 := by unfold capI; split <;> omega
theorem isIt_set {i : It} (h : isIt i = true) (k : Int) {n : Int} (hn : 0 ≤ n ∧ n ≤ 1152921504606846976) : isIt (setK i k n) = true := by
  have hi := isIt_true.1 h
  unfold setK
  repeat' split
  · exact isIt_true.2 ⟨hn, hi.2⟩
  · exact isIt_true.2 ⟨hi.1, hn, hi.2.2⟩
  · exact isIt_true.2 ⟨hi.1, hi.2.1, hn, hi.2.2.2⟩
  · exact isIt_true.2 ⟨hi.1, hi.2.1, hi.2.2.1, hn⟩
theorem getK_in {i : It} (h : isIt i = true) (k : Int) : 0 ≤ getK i k ∧ getK i k ≤ 1152921504606846976 := by
  have hi := isIt_true.1 h
  unfold getK
  repeat' split
  · exact hi.1
  · exact hi.2.1
  · exact hi.2.2.1
  · exact hi.2.2.2
theorem psOk_give {p : Ps} (h : PsOk p) (who : ByteArray) (k : Int) {n : Int} (hn : 0 ≤ n) : PsOk (giveP p who k n) :=
  psOk_lay h who (isIt_set (h who) k (capI_in (by have := getK_in (h who) k; omega)))
theorem psOk_put {p : Ps} (h : PsOk p) (k : ByteArray) (i : It) : PsOk (putP p k i) := by
  unfold putP
  split
  · rename_i hc
    cases ha : addL [purseA p k, i] it0 with
    | none => exact h
    | some s =>
      refine psOk_lay h k ?_
      simp only [addL] at ha
      split at ha
      · split at ha
        · rename_i h1 h2
          cases ha
          exact h2.2
        · cases ha
      · cases ha
  · exact h
theorem psOk_take {p : Ps} (h : PsOk p) (k : ByteArray) (i : It) : PsOk (takeP p k i) := by
  unfold takeP
  split
  · rename_i hc
    split
    · rename_i hs
      refine psOk_lay h k ?_
      unfold subOk at hs
      simp only [Bool.and_eq_true, Bool.not_eq_true'] at hs
      obtain ⟨⟨h1, h2⟩, h3⟩ := hs
      have a := isIt_true.1 h1
      have b := isIt_true.1 h2
      simp only [lessIt, Bool.or_eq_false_iff, decide_eq_false_iff_not] at h3
      unfold subIt
      exact isIt_true.2 ⟨⟨by simp only; omega, by simp only; omega⟩, ⟨by simp only; omega, by simp only; omega⟩, ⟨by simp only; omega, by simp only; omega⟩, by simp only; omega, by simp only; omega⟩
    · exact h
  · exact h
/-- A book that holds L; its IDs are below m. -/
def bookL (bb : Nat) (L : List Ord) (m : Int) : HP := fun f => ∃ b : Bk, (Rep b L ∧ b.last < m) ∧ bookP bb b f
section
variable {W w : World} {R : List HP} {bb : Nat} {L : List Ord} {m : Int}
theorem bookLOpen (h : St W (bookL bb L m :: R) w) : ∃ b : Bk, Rep b L ∧ b.last < m ∧ St W (bookP bb b :: R) w := by
  obtain ⟨b, h⟩ := St.ex h
  obtain ⟨⟨h1, h2⟩, h⟩ := St.and h
  exact ⟨b, h1, h2, h⟩
theorem bookLShut {b : Bk} (h1 : Rep b L) (h2 : b.last < m) (h : St W (bookP bb b :: R) w) : St W (bookL bb L m :: R) w := St.mkEx b (St.mkAnd ⟨h1, h2⟩ h)
theorem bookL_len (h : St W (bookL bb L m :: R) w) : L.length ≤ 32 := by
  obtain ⟨b, hr, _, _⟩ := bookLOpen h
  have := hr.ok.few
  rw [len_flat _ hr.ok.n8, ← hr.perm.length_eq] at this
  exact this
theorem bookL_each (h : St W (bookL bb L m :: R) w) : ∀ x ∈ L, MayP x ∧ x.id < m := by
  obtain ⟨b, hr, hl, _⟩ := bookLOpen h
  exact fun x hx => ⟨(hr.each x hx).1, by have := (hr.each x hx).2; omega⟩
theorem lenL_spec (hS : St W (bookL bb L m :: R) w) :
    Calls Tryz.prog 51 #[.pointer (some ⟨bb, 0, none⟩)] w fun e w' => e = .returned (.int .i64 L.length) ∧ St W (bookL bb L m :: R) w' := by
  obtain ⟨b, hr, hl, hS⟩ := bookLOpen hS
  have e : b.len = L.length := by rw [len_flat _ hr.ok.n8, hr.perm.length_eq]
  refine (len_spec bb b (by have := hr.ok.few; omega) W w R hS).mono ?_
  rintro e' w' ⟨rfl, hS⟩
  exact ⟨by rw [e], bookLShut hr hl hS⟩
theorem newL_spec (hS : St W R w) :
    Calls Tryz.prog 59 #[] w fun e w' => ∃ b, e = .returned (.pointer (some ⟨b, 0, none⟩)) ∧ St W (bookL b [] 1 :: R) w' := by
  refine (new_book W w R hS).mono ?_
  rintro e w' ⟨b, rfl, hS⟩
  exact ⟨b, rfl, bookLShut rep0 (by decide) hS⟩
end
/-- One order as a book: is it one that may stand? -/
theorem of1_spec (o : Ord) (hid : o.id = 1) (v : Value) (W w : World) (R : List HP) (hS : St W (pileR v [o] :: R) w) :
    Calls Tryz.prog 40 #[v] w fun e w' => ∃ u, e = .returned (.tuple #[u, .int .i64 (if mayB o = true then 0 else 1)]) ∧ St W R w' := by
  refine (of_spec [o] v W w R (by simp) hS).mono ?_
  have hb : badAt [o] 0 = !(mayB o) := by
    have e : at' [o] 0 = o := rfl
    unfold badAt
    rw [e]
    show (!(mayB o) || (decide (o.id ≤ 0) || false)) = _
    rw [hid]; simp
  rintro e w' (⟨hR, rfl, hS⟩ | ⟨_, hok, bb, b, rfl, _, _, hS⟩)
  · refine ⟨.pointer none, ?_, hS⟩
    have : mayB o = false := by
      rcases hR with h | ⟨i, hi, hb2⟩
      · simp at h
      · obtain rfl : i = 0 := by simp at hi; omega
        rw [hb] at hb2
        simpa using hb2
    rw [this]; rfl
  · refine ⟨.pointer (some ⟨bb, 0, none⟩), ?_, hS.drop⟩
    have := hok 0 (by simp)
    rw [hb] at this
    have : mayB o = true := by simpa using this
    rw [this]; rfl
abbrev Tv : TypeId := 80
/-- A vault: its block, purses, book. -/
abbrev vaultL (vb mb bb : Nat) (p : Ps) (L : List Ord) (n : Int) (R : List HP) : List HP := blk vb [.map (some mb), .pointer (some ⟨bb, 0, none⟩), .int .i64 n] 80 :: amap eS eP mb p :: bookL bb L n :: R
set_option maxRecDepth 100000 in
theorem newV_spec (W w : World) (R : List HP) (hS : St W R w) :
    Calls Tryz.prog 15 #[] w fun e w' => ∃ vb mb bb, e = .returned (.pointer (some ⟨vb, 0, none⟩)) ∧ St W (vaultL vb mb bb [] [] 1 R) w' := by
  go_enter Tryz.func15, Tryz.ntmps15
  go_wp2_with (first | ((with_reducible apply wl_amake (t := 77) eS eP hS); (with_reducible rfl); rfl; clear hS; intro mb w hS; (simp only [Act.put, fA, fB, fC, Nat.reduceAdd, eP, It.cells])) | (go_at_call 59; refine (newL_spec hS).mono ?_; clear hS; rintro e w ⟨bb, rfl, hS⟩) | ((with_reducible apply wl_ld1 hS); (with_reducible rfl); rfl; rfl; decide +kernel; (first | (focus((repeat(first|exact Cell.here rfl | apply Cell.there)); done)) | assumption); (simp only [Act.put, fA, fB, fC, Nat.reduceAdd])) | ((with_reducible apply wl_ldN hS); (with_reducible rfl); rfl; rfl; decide +kernel; (first | (focus((repeat(first|exact Cells.whole | apply Cells.there)); done)) | assumption); kernel_rfl; (simp only [Act.put, fA, fB, fC, Nat.reduceAdd])) | ((with_reducible apply wl_st1 hS); (with_reducible rfl); rfl; rfl; (focus ((conv => lhs; whnf); try rfl)); kernel_rfl; rfl; rfl; ((focus((repeat(first|exact Upd.head | apply Upd.tail)); done))); (simp only [List.length_cons, List.length_nil]; omega); ((simp only [List.set_cons_zero, List.set_cons_succ, setAll]); rfl); clear hS; intro w hS; try (simp only [Act.put, fA, fB, fC, Nat.reduceAdd])) | ((with_reducible apply wl_stN hS); (with_reducible rfl); rfl; rfl; (focus ((conv => lhs; whnf); try rfl)); kernel_rfl; rfl; ((focus((repeat(first|exact Upd.head | apply Upd.tail)); done))); (simp only [List.length_cons, List.length_nil]; omega); ((simp only [List.set_cons_zero, List.set_cons_succ, setAll]); rfl); clear hS; intro w hS; try (simp only [Act.put, fA, fB, fC, Nat.reduceAdd])) | ((with_reducible apply wl_box hS); (with_reducible rfl); rfl; rfl; rfl; clear hS; intro b w hS; (simp only [Act.put, fA, fB, fC, Nat.reduceAdd])) | ((with_reducible apply wl_alloc hS); (with_reducible rfl); rfl; (fail); clear hS; intro b w hS; (simp only [Act.put, fA, fB, fC, Nat.reduceAdd])))
  go_ret
  exact ⟨b, mb, bb, rfl, hS.sel (by (repeat' (first | (with_reducible first | exact Sel.done Suf.refl | exact Sel.done (Suf.tail Suf.refl) | exact Sel.done (Suf.tail (Suf.tail Suf.refl)) | exact Sel.done (Suf.tail (Suf.tail (Suf.tail Suf.refl))) | (apply Sel.done; (focus((repeat(first|exact Suf.refl | apply Suf.tail)); done)))) | (refine Sel.cons (by with_reducible (focus((repeat(first|exact .head|apply Take.tail));done))) ?_))))⟩
end Go.Proofs.YtbcokphjpllbiaaGreat
end
