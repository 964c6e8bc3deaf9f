/-
  The document's vault: Order. For every vault and order.
-/
import Derived.Test.YtbcokphjpllbiaaGreatVaultPlaysM33
import Derived.Test.YtbcokphjpllbiaaGreatVaultPlaysM36

section
set_option linter.unusedSimpArgs false
set_option linter.unusedVariables false
namespace Go.Proofs.YtbcokphjpllbiaaGreat
open Go.RowKit Go.Sl
/-- The document's book: it holds L, its IDs are below n. -/
def xkP (xB : Nat) (L : List Ord) (n : Int) : HP := fun f => ∃ (v : Value) (last : Int), last < n ∧ sats [blk xB [v, .int .i64 last] 68, pileR v L] f
section
variable {W w : World} {xB : Nat} {L : List Ord} {n : Int} {R : List HP}
theorem xkOpen (h : St W (xkP xB L n :: R) w) : ∃ a c last, last < n ∧ St W (blk xB [.slice a L.length c, .int .i64 last] 68 :: pileR (.slice a L.length c) L :: R) w := by
  obtain ⟨v, h⟩ := St.ex h
  obtain ⟨last, h⟩ := St.ex h
  obtain ⟨h1, h⟩ := St.and h
  have hS := (St.split (St.split h).swap).swap.drop.swap
  obtain ⟨a, c, rfl⟩ := hS.drop.rowVal
  exact ⟨a, c, last, h1, hS⟩
theorem xkShut {v : Value} {last : Int} (hl : last < n) (h : St W (blk xB [v, .int .i64 last] 68 :: pileR v L :: R) w) : St W (xkP xB L n :: R) w := by
  refine St.mkEx v (St.mkEx last (St.mkAnd hl ?_))
  refine St.join ?_
  refine St.swap (St.imp h.swap ?_)
  intro f hf
  exact ⟨fun _ => true, hf, trivial⟩
end
/-- A vault of the document, as it stands for purses p, offers L, the next ID n. -/
abbrev xvR (xb xB : Nat) (p : Ps) (L : List Ord) (n : Int) (R : List HP) : List HP := xvP xb (.pointer (some ⟨xB, 0, none⟩)) n p :: xkP xB L n :: R
section
variable (xb xB : Nat) (p : Ps) (L : List Ord) (n : Int) (N : Nat) (o : Ord) (W w : World) (R : List HP)
set_option maxRecDepth 100000 in
set_option maxHeartbeats 4000000 in
theorem order8_bad (h : may1 o = false) (hS : St W (xvR xb xB p L n R) w) :
    Calls Tryz.prog 14 #[.pointer (some ⟨xb, 0, none⟩), .agg o.cells.toArray] w fun e w' => e = .returned (.tuple #[.int .i64 0, .int .i64 1]) ∧ St W (xvR xb xB p L n R) w' := by
  obtain ⟨i, u, y, t, c, pr⟩ := o
  have hm : mayB ⟨1, u, y, t, c, pr⟩ = false := h
  clear h
  simp only [Ord.cells]
  obtain ⟨xv, hS1⟩ := xvOpen hS
  obtain ⟨la, lc, last, hlast, hS2⟩ := xkOpen (hS1.sel (L' := xkP xB L n :: blk xb _ _ :: hdR _ (hdL p) :: R) (by (repeat' (first | (with_reducible first | exact Sel.done Suf.refl | exact Sel.done (Suf.tail Suf.refl) | exact Sel.done (Suf.tail (Suf.tail Suf.refl)) | exact Sel.done (Suf.tail (Suf.tail (Suf.tail Suf.refl))) | (apply Sel.done; (focus((repeat(first|exact Suf.refl | apply Suf.tail)); done)))) | (refine Sel.cons (by with_reducible (focus((repeat(first|exact .head|apply Take.tail));done))) ?_)))))
  clear hS hS1
  have hS := hS2
  clear hS2
  go_enter Tryz.func14, Tryz.ntmps14
  go_wp2_with (first | go_big_skip | (go_at_call 55; refine (refMay_spec ⟨1, u, y, t, c, pr⟩ W _ _ hS).mono ?_; clear hS; rw [hm]; rintro e w ⟨rfl, hS⟩) | ((with_reducible apply wl_box hS); (with_reducible rfl); rfl; rfl; rfl; clear hS; intro b3 w hS; (simp only [Act.put, fA, fB, fC, Nat.reduceAdd])) | ((with_reducible apply wl_alloc hS); (with_reducible rfl); rfl; (exact Ty.z41); clear hS; intro b6 w hS; (simp only [Act.put, fA, fB, fC, Nat.reduceAdd])) | ((with_reducible apply wl_ld1 hS); (with_reducible rfl); rfl; rfl; decide +kernel; (first | (focus((repeat(first|exact Cell.here rfl | apply Cell.there)); done)) | assumption); (simp only [Act.put, fA, fB, fC, Nat.reduceAdd])) | ((with_reducible apply wl_ldN hS); (with_reducible rfl); rfl; rfl; decide +kernel; (first | (focus((repeat(first|exact Cells.whole | apply Cells.there)); done)) | assumption); kernel_rfl; (simp only [Act.put, fA, fB, fC, Nat.reduceAdd])) | ((with_reducible apply wl_st1 hS); (with_reducible rfl); rfl; rfl; (focus ((conv => lhs; whnf); try rfl)); kernel_rfl; rfl; rfl; ((focus((repeat(first|exact Upd.head | apply Upd.tail)); done))); (simp only [List.length_cons, List.length_nil]; omega); ((simp only [List.set_cons_zero, List.set_cons_succ, setAll]); rfl); clear hS; intro w hS; try (simp only [Act.put, fA, fB, fC, Nat.reduceAdd])) | ((with_reducible apply wl_stN hS); (with_reducible rfl); rfl; rfl; (focus ((conv => lhs; whnf); try rfl)); kernel_rfl; rfl; ((focus((repeat(first|exact Upd.head | apply Upd.tail)); done))); (simp only [List.length_cons, List.length_nil]; omega); ((simp only [List.set_cons_zero, List.set_cons_succ, setAll]); rfl); clear hS; intro w hS; try (simp only [Act.put, fA, fB, fC, Nat.reduceAdd])))
  go_ret2
  have hS1 := xkShut hlast (hS.sel (L' := blk xB _ _ :: pileR _ L :: blk xb _ _ :: hdR _ (hdL p) :: R) (by (repeat' (first | (with_reducible first | exact Sel.done Suf.refl | exact Sel.done (Suf.tail Suf.refl) | exact Sel.done (Suf.tail (Suf.tail Suf.refl)) | exact Sel.done (Suf.tail (Suf.tail (Suf.tail Suf.refl))) | (apply Sel.done; (focus((repeat(first|exact Suf.refl | apply Suf.tail)); done)))) | (refine Sel.cons (by with_reducible (focus((repeat(first|exact .head|apply Take.tail));done))) ?_)))))
  exact ⟨rfl, xvShut (hS1.sel (L' := blk xb _ _ :: hdR _ (hdL p) :: xkP xB L n :: R) (by (repeat' (first | (with_reducible first | exact Sel.done Suf.refl | exact Sel.done (Suf.tail Suf.refl) | exact Sel.done (Suf.tail (Suf.tail Suf.refl)) | exact Sel.done (Suf.tail (Suf.tail (Suf.tail Suf.refl))) | (apply Sel.done; (focus((repeat(first|exact Suf.refl | apply Suf.tail)); done)))) | (refine Sel.cons (by with_reducible (focus((repeat(first|exact .head|apply Take.tail));done))) ?_)))))⟩
set_option maxRecDepth 100000 in
set_option maxHeartbeats 4000000 in
theorem order8_full (h : may1 o = true) (hf : 32 ≤ L.length ∨ 1099511627776 < n) (hS : St W (xvR xb xB p L n R) w) :
    Calls Tryz.prog 14 #[.pointer (some ⟨xb, 0, none⟩), .agg o.cells.toArray] w fun e w' => e = .returned (.tuple #[.int .i64 0, .int .i64 6]) ∧ St W (xvR xb xB p L n R) w' := by
  obtain ⟨i, u, y, t, c, pr⟩ := o
  have hm : mayB ⟨1, u, y, t, c, pr⟩ = true := h
  clear h
  simp only [Ord.cells]
  obtain ⟨xv, hS1⟩ := xvOpen hS
  obtain ⟨la, lc, last, hlast, hS2⟩ := xkOpen (hS1.sel (L' := xkP xB L n :: blk xb _ _ :: hdR _ (hdL p) :: R) (by (repeat' (first | (with_reducible first | exact Sel.done Suf.refl | exact Sel.done (Suf.tail Suf.refl) | exact Sel.done (Suf.tail (Suf.tail Suf.refl)) | exact Sel.done (Suf.tail (Suf.tail (Suf.tail Suf.refl))) | (apply Sel.done; (focus((repeat(first|exact Suf.refl | apply Suf.tail)); done)))) | (refine Sel.cons (by with_reducible (focus((repeat(first|exact .head|apply Take.tail));done))) ?_)))))
  clear hS hS1
  have hS := hS2
  clear hS2
  by_cases hl : 32 ≤ L.length
  · have d1 : (32 : Int) ≤ (L.length : Int) := by omega
    clear hf
    go_enter Tryz.func14, Tryz.ntmps14
    go_wp2_with (first | go_big_skip | (go_at_call 55; refine (refMay_spec ⟨1, u, y, t, c, pr⟩ W _ _ hS).mono ?_; clear hS; rw [hm]; rintro e w ⟨rfl, hS⟩) | ((with_reducible apply wl_box hS); (with_reducible rfl); rfl; rfl; rfl; clear hS; intro b3 w hS; (simp only [Act.put, fA, fB, fC, Nat.reduceAdd])) | ((with_reducible apply wl_alloc hS); (with_reducible rfl); rfl; (exact Ty.z41); clear hS; intro b6 w hS; (simp only [Act.put, fA, fB, fC, Nat.reduceAdd])) | ((with_reducible apply wl_ld1 hS); (with_reducible rfl); rfl; rfl; decide +kernel; (first | (focus((repeat(first|exact Cell.here rfl | apply Cell.there)); done)) | assumption); (simp only [Act.put, fA, fB, fC, Nat.reduceAdd])) | ((with_reducible apply wl_ldN hS); (with_reducible rfl); rfl; rfl; decide +kernel; (first | (focus((repeat(first|exact Cells.whole | apply Cells.there)); done)) | assumption); kernel_rfl; (simp only [Act.put, fA, fB, fC, Nat.reduceAdd])) | ((with_reducible apply wl_st1 hS); (with_reducible rfl); rfl; rfl; (focus ((conv => lhs; whnf); try rfl)); kernel_rfl; rfl; rfl; ((focus((repeat(first|exact Upd.head | apply Upd.tail)); done))); (simp only [List.length_cons, List.length_nil]; omega); ((simp only [List.set_cons_zero, List.set_cons_succ, setAll]); rfl); clear hS; intro w hS; try (simp only [Act.put, fA, fB, fC, Nat.reduceAdd])) | ((with_reducible apply wl_stN hS); (with_reducible rfl); rfl; rfl; (focus ((conv => lhs; whnf); try rfl)); kernel_rfl; rfl; ((focus((repeat(first|exact Upd.head | apply Upd.tail)); done))); (simp only [List.length_cons, List.length_nil]; omega); ((simp only [List.set_cons_zero, List.set_cons_succ, setAll]); rfl); clear hS; intro w hS; try (simp only [Act.put, fA, fB, fC, Nat.reduceAdd])))
    go_ret2
    have hS1 := xkShut hlast (hS.sel (L' := blk xB _ _ :: pileR _ L :: blk xb _ _ :: hdR _ (hdL p) :: R) (by (repeat' (first | (with_reducible first | exact Sel.done Suf.refl | exact Sel.done (Suf.tail Suf.refl) | exact Sel.done (Suf.tail (Suf.tail Suf.refl)) | exact Sel.done (Suf.tail (Suf.tail (Suf.tail Suf.refl))) | (apply Sel.done; (focus((repeat(first|exact Suf.refl | apply Suf.tail)); done)))) | (refine Sel.cons (by with_reducible (focus((repeat(first|exact .head|apply Take.tail));done))) ?_)))))
    exact ⟨rfl, xvShut (hS1.sel (L' := blk xb _ _ :: hdR _ (hdL p) :: xkP xB L n :: R) (by (repeat' (first | (with_reducible first | exact Sel.done Suf.refl | exact Sel.done (Suf.tail Suf.refl) | exact Sel.done (Suf.tail (Suf.tail Suf.refl)) | exact Sel.done (Suf.tail (Suf.tail (Suf.tail Suf.refl))) | (apply Sel.done; (focus((repeat(first|exact Suf.refl | apply Suf.tail)); done)))) | (refine Sel.cons (by with_reducible (focus((repeat(first|exact .head|apply Take.tail));done))) ?_)))))⟩
  · have d1 : decide ((32 : Int) ≤ (L.length : Int)) = false := by simp; omega
    have d2 : 1099511627776 < n := hf.resolve_left hl
    clear hf hl
    go_enter Tryz.func14, Tryz.ntmps14
    go_wp2_with (first | go_big_skip | (go_at_call 55; refine (refMay_spec ⟨1, u, y, t, c, pr⟩ W _ _ hS).mono ?_; clear hS; rw [hm]; rintro e w ⟨rfl, hS⟩) | ((with_reducible apply wl_box hS); (with_reducible rfl); rfl; rfl; rfl; clear hS; intro b3 w hS; (simp only [Act.put, fA, fB, fC, Nat.reduceAdd])) | ((with_reducible apply wl_alloc hS); (with_reducible rfl); rfl; (exact Ty.z41); clear hS; intro b6 w hS; (simp only [Act.put, fA, fB, fC, Nat.reduceAdd])) | ((with_reducible apply wl_ld1 hS); (with_reducible rfl); rfl; rfl; decide +kernel; (first | (focus((repeat(first|exact Cell.here rfl | apply Cell.there)); done)) | assumption); (simp only [Act.put, fA, fB, fC, Nat.reduceAdd])) | ((with_reducible apply wl_ldN hS); (with_reducible rfl); rfl; rfl; decide +kernel; (first | (focus((repeat(first|exact Cells.whole | apply Cells.there)); done)) | assumption); kernel_rfl; (simp only [Act.put, fA, fB, fC, Nat.reduceAdd])) | ((with_reducible apply wl_st1 hS); (with_reducible rfl); rfl; rfl; (focus ((conv => lhs; whnf); try rfl)); kernel_rfl; rfl; rfl; ((focus((repeat(first|exact Upd.head | apply Upd.tail)); done))); (simp only [List.length_cons, List.length_nil]; omega); ((simp only [List.set_cons_zero, List.set_cons_succ, setAll]); rfl); clear hS; intro w hS; try (simp only [Act.put, fA, fB, fC, Nat.reduceAdd])) | ((with_reducible apply wl_stN hS); (with_reducible rfl); rfl; rfl; (focus ((conv => lhs; whnf); try rfl)); kernel_rfl; rfl; ((focus((repeat(first|exact Upd.head | apply Upd.tail)); done))); (simp only [List.length_cons, List.length_nil]; omega); ((simp only [List.set_cons_zero, List.set_cons_succ, setAll]); rfl); clear hS; intro w hS; try (simp only [Act.put, fA, fB, fC, Nat.reduceAdd])))
    go_ret2
    have hS1 := xkShut hlast (hS.sel (L' := blk xB _ _ :: pileR _ L :: blk xb _ _ :: hdR _ (hdL p) :: R) (by (repeat' (first | (with_reducible first | exact Sel.done Suf.refl | exact Sel.done (Suf.tail Suf.refl) | exact Sel.done (Suf.tail (Suf.tail Suf.refl)) | exact Sel.done (Suf.tail (Suf.tail (Suf.tail Suf.refl))) | (apply Sel.done; (focus((repeat(first|exact Suf.refl | apply Suf.tail)); done)))) | (refine Sel.cons (by with_reducible (focus((repeat(first|exact .head|apply Take.tail));done))) ?_)))))
    exact ⟨rfl, xvShut (hS1.sel (L' := blk xb _ _ :: hdR _ (hdL p) :: xkP xB L n :: R) (by (repeat' (first | (with_reducible first | exact Sel.done Suf.refl | exact Sel.done (Suf.tail Suf.refl) | exact Sel.done (Suf.tail (Suf.tail Suf.refl)) | exact Sel.done (Suf.tail (Suf.tail (Suf.tail Suf.refl))) | (apply Sel.done; (focus((repeat(first|exact Suf.refl | apply Suf.tail)); done)))) | (refine Sel.cons (by with_reducible (focus((repeat(first|exact .head|apply Take.tail));done))) ?_)))))⟩
theorem holds8_at {o : Ord} {h0 h1 h2 h3 : Int} (hm : MayP o) (h : holdsF o = ⟨h0, h1, h2, h3⟩) (W w : World) (R : List HP) (hS : St W R w) :
    Calls Tryz.prog 56 #[.agg o.cells.toArray] w fun e w' => e = .returned (.agg #[.int .i64 h0, .int .i64 h1, .int .i64 h2, .int .i64 h3]) ∧ St W R w' :=
  (holds8 o hm W w R hS).mono fun e w' ⟨he, hS⟩ => ⟨by rw [he, h]; rfl, hS⟩
set_option maxRecDepth 100000 in
set_option maxHeartbeats 4000000 in
theorem order8_funds (hw : PsW p N) (hN : N ≤ 1000000) (h : may1 o = true) (hL : L.length < 32) (hn0 : 1 ≤ n) (hn : n ≤ 1099511627776) (ht : takeE p o.who (holdsF o) = 14) (hS : St W (xvR xb xB p L n R) w) :
    Calls Tryz.prog 14 #[.pointer (some ⟨xb, 0, none⟩), .agg o.cells.toArray] w fun e w' => e = .returned (.tuple #[.int .i64 0, .int .i64 14]) ∧ St W (xvR xb xB p L n R) w' := by
  obtain ⟨i, u, y, t, c, pr⟩ := o
  have hm : mayB ⟨1, u, y, t, c, pr⟩ = true := h
  have hm1 := mayB_true.1 hm
  have hm2 : MayP ⟨n, u, y, t, c, pr⟩ := ⟨hn0, hn, hm1.who0, hm1.who1, hm1.item0, hm1.item1, hm1.cnt0, hm1.cnt1, hm1.price0, hm1.price1⟩
  have ht' : takeE p u (holdsF ⟨n, u, y, t, c, pr⟩) = 14 := ht
  have hp' : takeP p u (holdsF ⟨n, u, y, t, c, pr⟩) = p := by
    unfold takeE at ht'
    unfold takeP
    split at ht'
    · rename_i hc
      rw [if_pos hc]
      split at ht'
      · cases ht'
      · rename_i hs; rw [if_neg hs]
    · cases ht'
  have Hm2 := Lib.hid hm2
  have Hw := Lib.hid hw
  clear h ht hm1 hm2 hw
  have d1 : decide ((32 : Int) ≤ (L.length : Int)) = false := by simp; omega
  have d2 : decide ((1099511627776 : Int) < n) = false := by simp; omega
  simp only [Ord.cells]
  obtain ⟨it, hit⟩ : ∃ x, holdsF ⟨n, u, y, t, c, pr⟩ = x := ⟨_, rfl⟩
  rw [hit] at ht' hp'
  obtain ⟨h0, h1, h2, h3⟩ := it
  have Hit := Lib.hid hit
  have Hte := Lib.hid ht'
  have Htp := Lib.hid hp'
  clear hit ht' hp'
  obtain ⟨xv, hS1⟩ := xvOpen hS
  obtain ⟨la, lc, last, hlast, hS2⟩ := xkOpen (hS1.sel (L' := xkP xB L n :: blk xb _ _ :: hdR _ (hdL p) :: R) (by (repeat' (first | (with_reducible first | exact Sel.done Suf.refl | exact Sel.done (Suf.tail Suf.refl) | exact Sel.done (Suf.tail (Suf.tail Suf.refl)) | exact Sel.done (Suf.tail (Suf.tail (Suf.tail Suf.refl))) | (apply Sel.done; (focus((repeat(first|exact Suf.refl | apply Suf.tail)); done)))) | (refine Sel.cons (by with_reducible (focus((repeat(first|exact .head|apply Take.tail));done))) ?_)))))
  clear hS hS1
  have hS := hS2
  clear hS2
  go_enter Tryz.func14, Tryz.ntmps14
  go_wp2_with (first | go_big_skip | (go_at_call 55; refine (refMay_spec ⟨1, u, y, t, c, pr⟩ W _ _ hS).mono ?_; clear hS; rw [hm]; rintro e w ⟨rfl, hS⟩) | ((with_reducible apply wl_box hS); (with_reducible rfl); rfl; rfl; rfl; clear hS; intro b3 w hS; (simp only [Act.put, fA, fB, fC, Nat.reduceAdd])) | ((with_reducible apply wl_alloc hS); (with_reducible rfl); rfl; (exact Ty.z41); clear hS; intro b6 w hS; (simp only [Act.put, fA, fB, fC, Nat.reduceAdd])) | ((with_reducible apply wl_ld1 hS); (with_reducible rfl); rfl; rfl; decide +kernel; (first | (focus((repeat(first|exact Cell.here rfl | apply Cell.there)); done)) | assumption); (simp only [Act.put, fA, fB, fC, Nat.reduceAdd])) | ((with_reducible apply wl_ldN hS); (with_reducible rfl); rfl; rfl; decide +kernel; (first | (focus((repeat(first|exact Cells.whole | apply Cells.there)); done)) | assumption); kernel_rfl; (simp only [Act.put, fA, fB, fC, Nat.reduceAdd])) | ((with_reducible apply wl_st1 hS); (with_reducible rfl); rfl; rfl; (focus ((conv => lhs; whnf); try rfl)); kernel_rfl; rfl; rfl; ((focus((repeat(first|exact Upd.head | apply Upd.tail)); done))); (simp only [List.length_cons, List.length_nil]; omega); ((simp only [List.set_cons_zero, List.set_cons_succ, setAll]); rfl); clear hS; intro w hS; try (simp only [Act.put, fA, fB, fC, Nat.reduceAdd])) | ((with_reducible apply wl_stN hS); (with_reducible rfl); rfl; rfl; (focus ((conv => lhs; whnf); try rfl)); kernel_rfl; rfl; ((focus((repeat(first|exact Upd.head | apply Upd.tail)); done))); (simp only [List.length_cons, List.length_nil]; omega); ((simp only [List.set_cons_zero, List.set_cons_succ, setAll]); rfl); clear hS; intro w hS; try (simp only [Act.put, fA, fB, fC, Nat.reduceAdd])))
  refine wp_region_tail 5 (by kernel_rfl) (by kernel_rfl) hS ?_
  iterate 2 (refine wq_pure rfl rfl ?_; intro K hK; go_big_quiet_op; go_big_quiet_on)
  (apply wq_ld1; (with_reducible rfl); rfl; rfl; decide +kernel; (first | (focus((repeat(first|exact Cell.here rfl | apply Cell.there)); done)) | assumption); (simp only [Act.put, fA, fB, fC, Nat.reduceAdd]))
  (apply wq_ldN; (with_reducible rfl); rfl; rfl; decide +kernel; (first | (focus((repeat(first|exact Cells.whole | apply Cells.there)); done)) | assumption); kernel_rfl; (simp only [Act.put, fA, fB, fC, Nat.reduceAdd]))
  (apply wq_call; rfl; (intro w; apply exec_callF; (with_reducible rfl); decide +kernel; (focus (simp only [fD, List.map_cons, List.map_nil, Act.eval, fE, fF, fG, fH, Option.getD_some]; try rfl))); (intro w hS; exact holds8_at (o := ⟨n, u, y, t, c, pr⟩) Hm2.out Hit.out W w _ hS); (simp only [Act.put, fA, fB, fC, Nat.reduceAdd]))
  clear hS
  intro w hS
  simp only [List.drop_succ_cons, List.drop_zero]
  go_wp2_with (first | go_big_skip | (go_at_call 20; refine (take8 xb _ n p N W _ _ Hw.out hN u ⟨h0, h1, h2, h3⟩ (xvShut (hS.sel (L' := blk xb _ _ :: hdR _ (hdL p) :: blk xB _ _ :: pileR _ L :: blk b6 _ _ :: blk b3 _ _ :: R) (by (repeat' (first | (with_reducible first | exact Sel.done Suf.refl | exact Sel.done (Suf.tail Suf.refl) | exact Sel.done (Suf.tail (Suf.tail Suf.refl)) | exact Sel.done (Suf.tail (Suf.tail (Suf.tail Suf.refl))) | (apply Sel.done; (focus((repeat(first|exact Suf.refl | apply Suf.tail)); done)))) | (refine Sel.cons (by with_reducible (focus((repeat(first|exact .head|apply Take.tail));done))) ?_))))))).mono ?_; clear hS; rw [Hte.out, Htp.out]; rintro e w ⟨rfl, hS⟩))
  go_ret2
  have hS1 := xkShut hlast (hS.sel (L' := blk xB _ _ :: pileR _ L :: xvP xb _ n p :: R) (by (repeat' (first | (with_reducible first | exact Sel.done Suf.refl | exact Sel.done (Suf.tail Suf.refl) | exact Sel.done (Suf.tail (Suf.tail Suf.refl)) | exact Sel.done (Suf.tail (Suf.tail (Suf.tail Suf.refl))) | (apply Sel.done; (focus((repeat(first|exact Suf.refl | apply Suf.tail)); done)))) | (refine Sel.cons (by with_reducible (focus((repeat(first|exact .head|apply Take.tail));done))) ?_)))))
  exact ⟨rfl, hS1.sel (by (repeat' (first | (with_reducible first | exact Sel.done Suf.refl | exact Sel.done (Suf.tail Suf.refl) | exact Sel.done (Suf.tail (Suf.tail Suf.refl)) | exact Sel.done (Suf.tail (Suf.tail (Suf.tail Suf.refl))) | (apply Sel.done; (focus((repeat(first|exact Suf.refl | apply Suf.tail)); done)))) | (refine Sel.cons (by with_reducible (focus((repeat(first|exact .head|apply Take.tail));done))) ?_))))⟩
end
end Go.Proofs.YtbcokphjpllbiaaGreat
end
