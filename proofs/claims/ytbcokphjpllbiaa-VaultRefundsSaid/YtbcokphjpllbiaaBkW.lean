/-
  List: all that stand in a book, by their IDs. For every book.
-/
import Derived.Test.YtbcokphjpllbiaaBkT
import Derived.Test.YtbcokphjpllbiaaBkV
import Derived.Test.YtbcokphjpllbiaaSlx
set_option linter.unusedSimpArgs false
set_option linter.unusedVariables false
namespace Go.Proofs.Ytbcokphjpllbiaa
open Go.RowKit Go.Sl
/-- What stands in the first k piles. -/
def catTo (ps : List (List Ord)) (k : Nat) : List Ord := (offs.take k).flatMap fun o => ps.getD o []
theorem catTo_len (ps : List (List Ord)) (k : Nat) (hk : k ≤ 8) : (catTo ps k).length = lenTo ps k := by
  obtain h | h | h | h | h | h | h | h | h : k = 0 ∨ k = 1 ∨ k = 2 ∨ k = 3 ∨ k = 4 ∨ k = 5 ∨ k = 6 ∨ k = 7 ∨ k = 8 := by omega
  all_goals subst h
  all_goals simp [catTo, lenTo, offs]
  all_goals omega
theorem catTo_step (ps : List (List Ord)) {k o : Nat} (h : offs.drop k = o :: offs.drop (k + 1)) : catTo ps (k + 1) = catTo ps k ++ ps.getD o [] := by
  have h1 : offs[k]? = some o := by
    have := congrArg List.head? h
    simpa [List.head?_drop] using this
  unfold catTo
  rw [List.take_add_one, h1]
  simp
theorem St.src {W w : World} {L : List HP} {v : Value} {k n : Nat} {T : TypeId} {cs : List Value} (hk : 0 < k) (h : St W (row v k T n cs :: L) w) : Src (row v k T n cs :: L) v n cs := by
  rcases h.rowOpen with ⟨rfl, rfl, rfl, _⟩ | ⟨g, cap, junk, rfl, hn1, hm1, hj1, hl1, _⟩
  · exact .inl ⟨rfl, rfl, rfl⟩
  · refine .inr ⟨g, 0, cap, rfl, fun j u hj => ?_⟩
    rw [Nat.zero_add]
    have hjl := (List.getElem?_eq_some_iff.1 hj).1
    refine Cell.row ?_ hj
    rcases Nat.eq_zero_or_pos n with h0 | h0
    · rw [hl1, h0, Nat.zero_mul] at hjl; omega
    · exact h0
def ListRel (W : World) (L : List HP) (bb : Nat) (b : Bk) (v3 v11 : Value) (w : World) : Prop :=
  ∃ k : Nat, v11 = .int .i64 k ∧ k ≤ 8 ∧ St W (pileR v3 (catTo b.ps k) :: bookP bb b :: L) w
theorem flat_one (l : List Ord) : (l.flatMap Ord.cells).all (·.oneCell') = true := by
  rw [List.all_eq_true]
  intro v hv
  obtain ⟨x, _, hx⟩ := List.mem_flatMap.1 hv
  simp [Ord.cells] at hx
  rcases hx with rfl | rfl | rfl | rfl | rfl | rfl <;> rfl
set_option maxRecDepth 100000 in
set_option maxHeartbeats 4000000 in
theorem list_spec (bb : Nat) (b1 : Bk) (hok : b1.len ≤ 32) (W w : World) (L : List HP) (hS : St W (bookP bb b1 :: L) w) :
    Calls Try.prog 30 #[.pointer (some ⟨bb, 0, none⟩)] w fun e w' => ∃ v l, e = .returned v ∧ l.Perm (catTo b1.ps 8) ∧ l.Pairwise (fun x y : Ord => x.id ≤ y.id) ∧ St W (bookP bb b1 :: pileR v l :: L) w' := by
  go_enter Try.func30, Try.ntmps30
  go_wp2_with (first | (go_at_call 43; refine (piles_spec bb W _ _ hS).mono ?_; clear hS; rintro e w ⟨v, rfl, hS⟩; rcases hS.rowOpen with ⟨_, h0, _⟩ | ⟨g, cap, junk, rfl, hn1, hm1, hj1, hl1, hS'⟩; (exfalso; omega); clear hS; have hS := hS'; clear hS'; unfold maxLen at hm1) | ((with_reducible apply wl_ld1 hS); (with_reducible rfl); rfl; rfl; decide +kernel; (first | exact Cell.here rfl | exact Cell.there (Cell.here rfl) | exact Cell.there (Cell.there (Cell.here rfl)) | exact Cell.there (Cell.there (Cell.there (Cell.here rfl))) | exact Cell.there (Cell.there (Cell.there (Cell.there (Cell.here rfl)))) | exact Cell.there (Cell.there (Cell.there (Cell.there (Cell.there (Cell.here rfl))))) | exact Cell.there (Cell.there (Cell.there (Cell.there (Cell.there (Cell.there (Cell.here rfl)))))) | assumption); (simp only [Act.put, List.setIfInBounds_toArray, List.set_cons_succ, List.set_cons_zero, Nat.reduceAdd])) | ((with_reducible apply wl_ldN hS); (with_reducible rfl); rfl; rfl; decide +kernel; (first | exact Cells.whole | exact Cells.there Cells.whole | exact Cells.there (Cells.there Cells.whole) | exact Cells.there (Cells.there (Cells.there Cells.whole)) | exact Cells.there (Cells.there (Cells.there (Cells.there Cells.whole))) | exact Cells.there (Cells.there (Cells.there (Cells.there (Cells.there Cells.whole)))) | exact Cells.there (Cells.there (Cells.there (Cells.there (Cells.there (Cells.there Cells.whole))))) | assumption); kernel_rfl; (simp only [Act.put, List.setIfInBounds_toArray, List.set_cons_succ, List.set_cons_zero, Nat.reduceAdd])) | ((with_reducible apply wl_st1 hS); (with_reducible rfl); rfl; rfl; (focus ((conv => lhs; whnf); try rfl)); kernel_rfl; rfl; rfl; (first | exact Upd.head | exact Upd.tail Upd.head | exact Upd.tail (Upd.tail Upd.head) | exact Upd.tail (Upd.tail (Upd.tail Upd.head)) | exact Upd.tail (Upd.tail (Upd.tail (Upd.tail Upd.head))) | exact Upd.tail (Upd.tail (Upd.tail (Upd.tail (Upd.tail Upd.head)))) | exact Upd.tail (Upd.tail (Upd.tail (Upd.tail (Upd.tail (Upd.tail Upd.head)))))); (simp only [List.length_cons, List.length_nil]; omega); ((simp only [List.set_cons_zero, List.set_cons_succ, setAll]); rfl); clear hS; intro w hS; try (simp only [Act.put, List.setIfInBounds_toArray, List.set_cons_succ, List.set_cons_zero, Nat.reduceAdd])) | ((with_reducible apply wl_stN hS); (with_reducible rfl); rfl; rfl; (focus ((conv => lhs; whnf); try rfl)); kernel_rfl; rfl; (first | exact Upd.head | exact Upd.tail Upd.head | exact Upd.tail (Upd.tail Upd.head) | exact Upd.tail (Upd.tail (Upd.tail Upd.head)) | exact Upd.tail (Upd.tail (Upd.tail (Upd.tail Upd.head))) | exact Upd.tail (Upd.tail (Upd.tail (Upd.tail (Upd.tail Upd.head)))) | exact Upd.tail (Upd.tail (Upd.tail (Upd.tail (Upd.tail (Upd.tail Upd.head)))))); (simp only [List.length_cons, List.length_nil]; omega); ((simp only [List.set_cons_zero, List.set_cons_succ, setAll]); rfl); clear hS; intro w hS; try (simp only [Act.put, List.setIfInBounds_toArray, List.set_cons_succ, List.set_cons_zero, Nat.reduceAdd])) | ((with_reducible apply wl_box hS); (with_reducible rfl); rfl; rfl; rfl; clear hS; intro b w hS; (simp only [Act.put, List.setIfInBounds_toArray, List.set_cons_succ, List.set_cons_zero, Nat.reduceAdd])) | ((with_reducible apply wl_alloc hS); (with_reducible rfl); rfl; (with_reducible first | exact Ty.z3 | exact Ty.z28 | exact Ty.z32 | exact Ty.z40 | exact Ty.z46 | exact Ty.z69 | exact Ty.z86 | exact Ty.z146); clear hS; intro b w hS; (simp only [Act.put, List.setIfInBounds_toArray, List.set_cons_succ, List.set_cons_zero, Nat.reduceAdd])))
  have hS1 := (hS.swap.rowNil (k := 6) (T := 32))
  clear hS
  have hS := hS1
  clear hS1
  go_loopw [3, 11] (fun v3 v wr => ListRel W (blk g (ptrL bb ++ junk) 94 :: L) bb b1 v3 v wr) (fun _ v _ => 8 - (intOf v).toNat)
  case atStart => exact ⟨0, rfl, by omega, hS⟩
  case round =>
    clear hS
    obtain ⟨k, rfl, hk, hS⟩ := hrel
    by_cases h8 : k = 8
    · subst h8
      have hcl : (catTo b1.ps 8).length ≤ 32 := by rw [catTo_len _ _ (Nat.le_refl _)]; exact hok
      rcases hS.rowOpen with ⟨rfl, h0, _, hS'⟩ | ⟨g2, cap2, junk2, rfl, hn2, hm2, hj2, hl2, hS'⟩
      · have hc0 : catTo b1.ps 8 = [] := List.eq_nil_of_length_eq_zero h0
        go_wp2_with (first | (go_at_call 47; refine (sort_nil _ W _ _ hS).mono ?_; clear hS; rintro e w ⟨rfl, hS⟩))
        go_ret
        refine ⟨_, catTo b1.ps 8, rfl, .refl _, by rw [hc0]; exact .nil, ?_⟩
        exact (hS.take .t2).drop.swap
      · clear hS
        have hS := hS'
        clear hS'
        go_wp2_with (first | (go_at_call 47; refine (sort_row (catTo b1.ps 8) g2 cap2 junk2 (by omega) W _ _ hS).mono ?_; clear hS; rintro e w ⟨rfl, l, hl, hsd, hS⟩))
        go_ret
        refine ⟨_, l, rfl, hl, hsd, ?_⟩
        have hll := hl.length_eq
        have hf1 := flat_length Ord.len l
        have hf2 := flat_length Ord.len (catTo b1.ps 8)
        rw [← hll] at hn2
        have h1 : St W (pileR (.slice (some ⟨g2, 0, none⟩) l.length cap2) l :: bookP bb b1 :: blk g (ptrL bb ++ junk) 94 :: L) w := St.rowShut hS hn2 hm2 (by rw [List.length_append] at hj2 ⊢; rw [hf1, hll, ← hf2]; exact hj2) (by rw [hf1])
        rw [hll] at h1
        exact (h1.take .t2).drop.swap
    · have hk8 : k < 8 := by omega
      clear h8 hk
      obtain ⟨o, ho, hdr, hpt⟩ := ptrL_get bb junk k hk8
      have hcs := catTo_step b1.ps hdr
      obtain ⟨vs, h1, h2, hS0⟩ := bookOpen hS.swap
      clear hS
      have ho1 : o < vs.length := by omega
      have ho2 : o < b1.ps.length := by omega
      have hpk : b1.ps[o] = b1.pile o := by unfold Bk.pile; simp [List.getD_eq_getElem?_getD, List.getElem?_eq_getElem ho2]
      have hS1 := pileTake o ho1 ho2 hS0.swap
      clear hS0
      rw [hpk] at hS1
      have hl : (vs ++ [Value.int .i64 b1.last])[o]? = some vs[o] := by rw [List.getElem?_append_left ho1, List.getElem?_eq_getElem ho1]
      generalize hvv : vs[o] = v at hl hS1
      have hp32 := len_offs b1 o ho hok
      have hgd : b1.ps.getD o [] = b1.pile o := rfl
      rw [hgd] at hp32 hcs
      have Hvv := Lib.hid hvv
      clear hvv
      have hS := hS1.take .t3
      clear hS1
      have hcl : (catTo b1.ps k).length ≤ 32 := by rw [catTo_len _ _ (by omega)]; exact Nat.le_trans (lenTo_mono _ (by omega)) hok
      have hsrc : Src (pileR u3 (catTo b1.ps k) :: pileR v (b1.pile o) :: sats ((pilesR vs b1.ps).eraseIdx o) :: blk bb (vs ++ [Value.int .i64 b1.last]) 93 :: blk g (ptrL bb ++ junk) 94 :: L) v (b1.pile o).length ((b1.pile o).flatMap Ord.cells) := (St.src (by decide) hS.drop).there
      have Hcs := Lib.hid hcs
      clear hcs hdr
      go_wp2_with (first | ((with_reducible apply wl_ld1 hS); (with_reducible rfl); rfl; rfl; decide +kernel; (exact Cell.there (Cell.there (Cell.there (Cell.there (Cell.here hpt))))); (simp only [Act.put, List.setIfInBounds_toArray, List.set_cons_succ, List.set_cons_zero, Nat.reduceAdd])) | ((with_reducible apply wl_ld1 hS); (with_reducible rfl); rfl; rfl; decide +kernel; (exact Cell.there (Cell.there (Cell.there (Cell.here hl)))); (simp only [Act.put, List.setIfInBounds_toArray, List.set_cons_succ, List.set_cons_zero, Nat.reduceAdd])) | ((with_reducible apply wl_append2 (e2 := 32) hS); (with_reducible rfl); rfl; rfl; rfl; (with_reducible first | exact Ty.e41 | exact Ty.e42 | exact Ty.e49 | exact Ty.e65 | exact Ty.e79 | exact Ty.e84 | exact Ty.e89 | exact Ty.e90 | exact Ty.e98 | exact Ty.e114); kernel_rfl; (with_reducible first | exact Ty.r3 | exact Ty.r5 | exact Ty.r9 | exact Ty.r28 | exact Ty.r32 | exact Ty.r46 | exact Ty.r49 | exact Ty.r69 | exact Ty.r94); rfl; decide; (first | exact Take.head | exact Take.tail Take.head | exact Take.tail (Take.tail Take.head) | exact Take.tail (Take.tail (Take.tail Take.head)) | exact Take.tail (Take.tail (Take.tail (Take.tail Take.head))) | exact Take.tail (Take.tail (Take.tail (Take.tail (Take.tail Take.head)))) | exact Take.tail (Take.tail (Take.tail (Take.tail (Take.tail (Take.tail Take.head)))))); (exact hsrc); (focus (rw [flat_length Ord.len])); (focus (exact flat_one _)); (focus (unfold maxLen; omega)); (focus (omega)); clear hS; intro v3 w hS; (simp only [Act.put, List.setIfInBounds_toArray, List.set_cons_succ, List.set_cons_zero, Nat.reduceAdd])))
      have hS3 := ((hS.take .t1).take .t2).swap
      clear hS
      have hS4 := pileBack o ho1 ho2 hS3
      clear hS3
      rw [← Hvv.out, ← hpk, List.set_getElem_self, List.set_getElem_self] at hS4
      have hS5 := (bookShut h1 h2 (hS4.take .t2)).swap
      clear hS4
      go_roundw
      case rel =>
        refine ⟨k + 1, rfl, hk8, ?_⟩
        rw [Hcs.out]
        unfold pileR
        rw [List.length_append, List.flatMap_append, ← hpk]
        exact hS5
      case measure => simp [intOf]; omega
end Go.Proofs.Ytbcokphjpllbiaa
