/-
  A pile's own methods (how many, which is ahead, exchange, put, take): what they do to the pile's row. For every pile.
-/
import Derived.Test.YtbcokphjpllbiaaGreatVaultPlaysM5

section
set_option linter.unusedSimpArgs false
set_option linter.unusedVariables false
namespace Go.Proofs.YtbcokphjpllbiaaGreat
open Go.RowKit Go.Sl
def swapL {α : Type} (xs : List α) (i j : Nat) (hi : i < xs.length) (hj : j < xs.length) : List α := (xs.set i xs[j]).set j xs[i]

set_option maxHeartbeats 1000000 in
theorem plen_spec (b : Option Addr) (n cap : Nat) (W w : World) (L : List HP) (hS : St W L w) :
    Calls Tryz.prog 162 #[.slice b n cap] w fun e w' => e = .returned (.int .i64 n) ∧ St W L w' := by
  go_enter Tryz.func162, Tryz.ntmps162
  go_wp2_with (first | ((with_reducible apply wl_ld1 hS); (with_reducible rfl); rfl; rfl; decide +kernel; (first | (focus((repeat(first|exact Cell.here rfl | apply Cell.there)); done)) | assumption); (simp only [Act.put, fA, fB, fC, Nat.reduceAdd])) | ((with_reducible apply wl_ldN hS); (with_reducible rfl); rfl; rfl; decide +kernel; (first | (focus((repeat(first|exact Cells.whole | apply Cells.there)); done)) | assumption); kernel_rfl; (simp only [Act.put, fA, fB, fC, Nat.reduceAdd])) | ((with_reducible apply wl_st1 hS); (with_reducible rfl); rfl; rfl; (focus ((conv => lhs; whnf); try rfl)); kernel_rfl; rfl; rfl; ((focus((repeat(first|exact Upd.head | apply Upd.tail)); done))); (simp only [List.length_cons, List.length_nil]; omega); ((simp only [List.set_cons_zero, List.set_cons_succ, setAll]); rfl); clear hS; intro w hS; try (simp only [Act.put, fA, fB, fC, Nat.reduceAdd])) | ((with_reducible apply wl_stN hS); (with_reducible rfl); rfl; rfl; (focus ((conv => lhs; whnf); try rfl)); kernel_rfl; rfl; ((focus((repeat(first|exact Upd.head | apply Upd.tail)); done))); (simp only [List.length_cons, List.length_nil]; omega); ((simp only [List.set_cons_zero, List.set_cons_succ, setAll]); rfl); clear hS; intro w hS; try (simp only [Act.put, fA, fB, fC, Nat.reduceAdd])) | ((with_reducible apply wl_box hS); (with_reducible rfl); rfl; rfl; rfl; clear hS; intro b w hS; (simp only [Act.put, fA, fB, fC, Nat.reduceAdd])) | ((with_reducible apply wl_alloc hS); (with_reducible rfl); rfl; (fail); clear hS; intro b w hS; (simp only [Act.put, fA, fB, fC, Nat.reduceAdd])))
  go_ret
  exact ⟨rfl, hS⟩

set_option maxHeartbeats 1000000 in
theorem pswap_spec (xs : List Ord) (junk : List Value) (g n cap i j : Nat) (hn : xs.length = n) (hi : i < xs.length) (hj : j < xs.length) (hcap : n ≤ cap) (hm : cap ≤ maxLen) (W w : World) (L : List HP) (hS : St W (blk g (xs.flatMap Ord.cells ++ junk) 41 :: L) w) :
    Calls Tryz.prog 164 #[.slice (some ⟨g, 0, none⟩) n cap, .int .i64 i, .int .i64 j] w fun e w' => e = .returned (.tuple #[]) ∧ St W (blk g ((swapL xs i j hi hj).flatMap Ord.cells ++ junk) 41 :: L) w' := by
  subst hn
  unfold maxLen at hm
  go_enter Tryz.func164, Tryz.ntmps164
  go_wp2_with (first | ((with_reducible apply wl_ld1 hS); (with_reducible rfl); rfl; rfl; decide +kernel; (first | (focus((repeat(first|exact Cell.here rfl | apply Cell.there)); done)) | assumption); (simp only [Act.put, fA, fB, fC, Nat.reduceAdd])) | ((with_reducible apply wl_ldN hS); (with_reducible rfl); rfl; rfl; decide +kernel; (first | (focus((repeat(first|exact Cells.whole | apply Cells.there)); done)) | assumption); kernel_rfl; (simp only [Act.put, fA, fB, fC, Nat.reduceAdd])) | ((with_reducible apply wl_st1 hS); (with_reducible rfl); rfl; rfl; (focus ((conv => lhs; whnf); try rfl)); kernel_rfl; rfl; rfl; ((focus((repeat(first|exact Upd.head | apply Upd.tail)); done))); (simp only [List.length_cons, List.length_nil]; omega); ((simp only [List.set_cons_zero, List.set_cons_succ, setAll]); rfl); clear hS; intro w hS; try (simp only [Act.put, fA, fB, fC, Nat.reduceAdd])) | ((with_reducible apply wl_stN hS); (with_reducible rfl); rfl; rfl; (focus ((conv => lhs; whnf); try rfl)); kernel_rfl; rfl; ((focus((repeat(first|exact Upd.head | apply Upd.tail)); done))); (simp only [List.length_cons, List.length_nil]; omega); ((simp only [List.set_cons_zero, List.set_cons_succ, setAll]); rfl); clear hS; intro w hS; try (simp only [Act.put, fA, fB, fC, Nat.reduceAdd])) | ((with_reducible apply wl_box hS); (with_reducible rfl); rfl; rfl; rfl; clear hS; intro b w hS; (simp only [Act.put, fA, fB, fC, Nat.reduceAdd])) | ((with_reducible apply wl_alloc hS); (with_reducible rfl); rfl; (fail); clear hS; intro b w hS; (simp only [Act.put, fA, fB, fC, Nat.reduceAdd])))
  refine wp_region_flow2 [0, 0, 0, 0, 0, 0, 48, 112, 0, 0, 768, 1792, 4083, 8179, 16383, 32767] (fun i => false) [⟨some 13, some 15, fun nd => blk g ((xs.set i xs[j]).flatMap Ord.cells ++ junk) 41⟩, ⟨some 15, none, fun nd => blk g ((swapL xs i j hi hj).flatMap Ord.cells ++ junk) 41⟩]
    [some 13] (by kernel_rfl) (by kernel_rfl) rfl hS (CongOk.cons (fun _ _ _ => rfl) (CongOk.cons (fun _ _ _ => rfl) CongOk.nil)) ?_
  intro nd
  iterate 7 (refine ch_pure rfl (by kernel_rfl) rfl rfl ?_; intro K hK; go_big_quiet_op; go_big_quiet_on)
  (apply ch_ldN; rfl; kernel_rfl; (with_reducible rfl); rfl; rfl; decide +kernel; (intro F; exact Cells.elem Ord.len hj); kernel_rfl; (simp only [Act.put, fA, fB, fC, Nat.reduceAdd]))
  iterate 3 (refine ch_pure rfl (by kernel_rfl) rfl rfl ?_; intro K hK; go_big_quiet_op; go_big_quiet_on)
  (apply ch_ldN; rfl; kernel_rfl; (with_reducible rfl); rfl; rfl; decide +kernel; (intro F; exact Cells.elem Ord.len hi); kernel_rfl; (simp only [Act.put, fA, fB, fC, Nat.reduceAdd]))
  (refine ch_pure rfl (by kernel_rfl) rfl rfl ?_; intro K hK; go_big_quiet_op; go_big_quiet_on)
  have hlt : ∀ k, k < xs.length → k * 6 + 6 ≤ xs.length * 6 := fun k hk => by omega
  have hfl := flat_length Ord.len xs
  have hfl2 := flat_length Ord.len (xs.set i xs[j])
  rw [List.length_set] at hfl2
  (apply ch_st (vs := xs[j].cells); rfl; (with_reducible rfl); rfl; rfl; (focus ((conv => lhs; whnf); try rfl)); rfl; kernel_rfl; rfl; rfl; (rw [List.length_append, hfl, Ord.len]; have := hlt i hi; omega); exact flat_set Ord.len xs junk i hi xs[j]; rfl; try (simp only [Act.put, fA, fB, fC, Nat.reduceAdd]))
  (refine ch_pure rfl (by kernel_rfl) rfl rfl ?_; intro K hK; go_big_quiet_op; go_big_quiet_on)
  (apply ch_st (vs := xs[i].cells); rfl; (with_reducible rfl); rfl; rfl; (focus ((conv => lhs; whnf); try rfl)); rfl; kernel_rfl; rfl; rfl; (rw [List.length_append, hfl2, Ord.len]; have := hlt j hj; omega); exact flat_set Ord.len (xs.set i xs[j]) junk j (by simpa using hj) xs[i]; rfl; try (simp only [Act.put, fA, fB, fC, Nat.reduceAdd]))
  refine ch_end ?_
  clear hS
  intro w hS
  have hS : St W [blk g ((swapL xs i j hi hj).flatMap Ord.cells ++ junk) _, sats L] w := hS
  replace hS := hS.unpack [_]
  simp only [List.cons_append, List.nil_append] at hS
  go_wp2_with (first | ((with_reducible apply wl_ld1 hS); (with_reducible rfl); rfl; rfl; decide +kernel; (first | (focus((repeat(first|exact Cell.here rfl | apply Cell.there)); done)) | assumption); (simp only [Act.put, fA, fB, fC, Nat.reduceAdd])) | ((with_reducible apply wl_ldN hS); (with_reducible rfl); rfl; rfl; decide +kernel; (first | (focus((repeat(first|exact Cells.whole | apply Cells.there)); done)) | assumption); kernel_rfl; (simp only [Act.put, fA, fB, fC, Nat.reduceAdd])) | ((with_reducible apply wl_st1 hS); (with_reducible rfl); rfl; rfl; (focus ((conv => lhs; whnf); try rfl)); kernel_rfl; rfl; rfl; ((focus((repeat(first|exact Upd.head | apply Upd.tail)); done))); (simp only [List.length_cons, List.length_nil]; omega); ((simp only [List.set_cons_zero, List.set_cons_succ, setAll]); rfl); clear hS; intro w hS; try (simp only [Act.put, fA, fB, fC, Nat.reduceAdd])) | ((with_reducible apply wl_stN hS); (with_reducible rfl); rfl; rfl; (focus ((conv => lhs; whnf); try rfl)); kernel_rfl; rfl; ((focus((repeat(first|exact Upd.head | apply Upd.tail)); done))); (simp only [List.length_cons, List.length_nil]; omega); ((simp only [List.set_cons_zero, List.set_cons_succ, setAll]); rfl); clear hS; intro w hS; try (simp only [Act.put, fA, fB, fC, Nat.reduceAdd])) | ((with_reducible apply wl_box hS); (with_reducible rfl); rfl; rfl; rfl; clear hS; intro b w hS; (simp only [Act.put, fA, fB, fC, Nat.reduceAdd])) | ((with_reducible apply wl_alloc hS); (with_reducible rfl); rfl; (fail); clear hS; intro b w hS; (simp only [Act.put, fA, fB, fC, Nat.reduceAdd])))
  go_end0
  exact ⟨rfl, hS⟩

set_option maxHeartbeats 1000000 in
/-- Take: the last one; the slice in its variable grows shorter by one. -/
theorem ppop_spec (xs : List Ord) (junk : List Value) (l : List Value) (T : TypeId) (bb off g n cap : Nat) (hn : xs.length = n + 1) (hcap : n + 1 ≤ cap) (hm : cap ≤ maxLen) (hl : l[off]? = some (.slice (some ⟨g, 0, none⟩) (n + 1) cap)) (W w : World) (L : List HP)
    (hS : St W (blk bb l T :: blk g (xs.flatMap Ord.cells ++ junk) 41 :: L) w) :
    Calls Tryz.prog 165 #[.pointer (some ⟨bb, off, none⟩)] w fun e w' => e = .returned (.iface 41 (.agg (xs[n]'(by omega)).cells.toArray)) ∧ St W (blk bb (l.set off (.slice (some ⟨g, 0, none⟩) n cap)) T :: blk g (xs.flatMap Ord.cells ++ junk) 41 :: L) w' := by
  unfold maxLen at hm
  have hn' : n < xs.length := by omega
  have hlt : off < l.length := (List.getElem?_eq_some_iff.1 hl).1
  generalize hx : xs[n] = x
  have Hx := Lib.hid hx
  clear hx
  obtain ⟨i1, u1, y1, t1, c1, p1⟩ := x
  simp only [Ord.cells]
  have hS : St W (blk bb l T :: blk g (xs.flatMap Ord.cells ++ junk) 41 :: L) w := hS
  go_enter Tryz.func165, Tryz.ntmps165
  go_wp2_with (first | ((with_reducible apply wl_ld1 hS); (with_reducible rfl); rfl; rfl; decide +kernel; (exact Cell.here hl); (simp only [Act.put, fA, fB, fC, Nat.reduceAdd])) | ((with_reducible apply wl_ldN hS); (with_reducible rfl); rfl; rfl; decide +kernel; (exact (Cells.there (Cells.elemEq Ord.len hn' Hx.out) : Cells _ _ _ [.int .i64 i1, .string u1, .bool y1, .int .i64 t1, .int .i64 c1, .int .i64 p1])); kernel_rfl; (simp only [Act.put, fA, fB, fC, Nat.reduceAdd])) | ((with_reducible apply wl_st1 hS); (with_reducible rfl); rfl; rfl; (focus ((conv => lhs; whnf); try rfl)); kernel_rfl; rfl; rfl; ((focus((repeat(first|exact Upd.head | apply Upd.tail)); done))); (exact hlt); rfl; clear hS; intro w hS; try (simp only [Act.put, fA, fB, fC, Nat.reduceAdd])) | ((with_reducible apply wl_ld1 hS); (with_reducible rfl); rfl; rfl; decide +kernel; (first | (focus((repeat(first|exact Cell.here rfl | apply Cell.there)); done)) | assumption); (simp only [Act.put, fA, fB, fC, Nat.reduceAdd])) | ((with_reducible apply wl_ldN hS); (with_reducible rfl); rfl; rfl; decide +kernel; (first | (focus((repeat(first|exact Cells.whole | apply Cells.there)); done)) | assumption); kernel_rfl; (simp only [Act.put, fA, fB, fC, Nat.reduceAdd])) | ((with_reducible apply wl_st1 hS); (with_reducible rfl); rfl; rfl; (focus ((conv => lhs; whnf); try rfl)); kernel_rfl; rfl; rfl; ((focus((repeat(first|exact Upd.head | apply Upd.tail)); done))); (simp only [List.length_cons, List.length_nil]; omega); ((simp only [List.set_cons_zero, List.set_cons_succ, setAll]); rfl); clear hS; intro w hS; try (simp only [Act.put, fA, fB, fC, Nat.reduceAdd])) | ((with_reducible apply wl_stN hS); (with_reducible rfl); rfl; rfl; (focus ((conv => lhs; whnf); try rfl)); kernel_rfl; rfl; ((focus((repeat(first|exact Upd.head | apply Upd.tail)); done))); (simp only [List.length_cons, List.length_nil]; omega); ((simp only [List.set_cons_zero, List.set_cons_succ, setAll]); rfl); clear hS; intro w hS; try (simp only [Act.put, fA, fB, fC, Nat.reduceAdd])) | ((with_reducible apply wl_box hS); (with_reducible rfl); rfl; rfl; rfl; clear hS; intro b w hS; (simp only [Act.put, fA, fB, fC, Nat.reduceAdd])) | ((with_reducible apply wl_alloc hS); (with_reducible rfl); rfl; (exact Ty.z41); clear hS; intro b w hS; (simp only [Act.put, fA, fB, fC, Nat.reduceAdd])))
  go_ret
  exact ⟨rfl, hS.drop⟩

set_option maxHeartbeats 1000000 in
/-- Put: the slice in its variable grows by one. -/
theorem ppush_spec (xs : List Ord) (o : Ord) (l : List Value) (T : TypeId) (bb off n : Nat) (v : Value) (hn : xs.length = n) (h63 : n ≤ 4294967296) (hl : l[off]? = some v) (W w : World) (L : List HP)
    (hS : St W (blk bb l T :: row v 6 41 n (xs.flatMap Ord.cells) :: L) w) :
    Calls Tryz.prog 166 #[.pointer (some ⟨bb, off, none⟩), .iface 41 (.agg o.cells.toArray)] w fun e w' => ∃ v', e = .returned (.tuple #[]) ∧ St W (blk bb (l.set off v') T :: row v' 6 41 (n + 1) ((xs ++ [o]).flatMap Ord.cells) :: L) w' := by
  have hlt : off < l.length := (List.getElem?_eq_some_iff.1 hl).1
  obtain ⟨i1, u1, y1, t1, c1, p1⟩ := o
  simp only [Ord.cells]
  have hta := ta_ord
  go_enter Tryz.func166, Tryz.ntmps166
  go_wp2_with (first | ((with_reducible apply wl_ld1 hS); (with_reducible rfl); rfl; rfl; decide +kernel; (first | (focus((repeat(first|exact Cell.here rfl | apply Cell.there)); done)) | assumption); (simp only [Act.put, fA, fB, fC, Nat.reduceAdd])) | ((with_reducible apply wl_ldN hS); (with_reducible rfl); rfl; rfl; decide +kernel; (first | (focus((repeat(first|exact Cells.whole | apply Cells.there)); done)) | assumption); kernel_rfl; (simp only [Act.put, fA, fB, fC, Nat.reduceAdd])) | ((with_reducible apply wl_st1 hS); (with_reducible rfl); rfl; rfl; (focus ((conv => lhs; whnf); try rfl)); kernel_rfl; rfl; rfl; ((focus((repeat(first|exact Upd.head | apply Upd.tail)); done))); (simp only [List.length_cons, List.length_nil]; omega); ((simp only [List.set_cons_zero, List.set_cons_succ, setAll]); rfl); clear hS; intro w hS; try (simp only [Act.put, fA, fB, fC, Nat.reduceAdd])) | ((with_reducible apply wl_stN hS); (with_reducible rfl); rfl; rfl; (focus ((conv => lhs; whnf); try rfl)); kernel_rfl; rfl; ((focus((repeat(first|exact Upd.head | apply Upd.tail)); done))); (simp only [List.length_cons, List.length_nil]; omega); ((simp only [List.set_cons_zero, List.set_cons_succ, setAll]); rfl); clear hS; intro w hS; try (simp only [Act.put, fA, fB, fC, Nat.reduceAdd])) | ((with_reducible apply wl_box hS); (with_reducible rfl); rfl; rfl; rfl; clear hS; intro b w hS; (simp only [Act.put, fA, fB, fC, Nat.reduceAdd])) | ((with_reducible apply wl_alloc hS); (with_reducible rfl); rfl; (fail); clear hS; intro b w hS; (simp only [Act.put, fA, fB, fC, Nat.reduceAdd])))
  refine wp_region_flow2 [0, 0, 2, 6, 0, 16, 48, 126, 255, 511] (fun i => i == 6 || i == 7) [⟨some 6, none, fun nd => slTo (nd 6) 1 1 [.int .i64 i1, .string u1, .bool y1, .int .i64 t1, .int .i64 c1, .int .i64 p1] 41⟩, ⟨some 7, none, fun nd => row (nd 7) 6 41 (n + 1) (xs.flatMap Ord.cells ++ [.int .i64 i1, .string u1, .bool y1, .int .i64 t1, .int .i64 c1, .int .i64 p1])⟩, ⟨some 9, none, fun nd => blk bb (l.set off (nd 7)) T⟩]
    [some 9, some 7] (by kernel_rfl) (by kernel_rfl) rfl hS (CongOk.cons (fun nd nd' h => by dsimp only; rw [h 6 rfl rfl]) (CongOk.cons (fun nd nd' h => by dsimp only; rw [h 7 rfl rfl]) (CongOk.cons (fun nd nd' h => by dsimp only; rw [h 7 rfl rfl]) CongOk.nil))) ?_
  intro nd
  (refine ch_pure rfl (by kernel_rfl) rfl rfl ?_; intro K hK; go_big_quiet_op; go_big_quiet_on)
  (refine ch_pure rfl (by kernel_rfl) rfl rfl ?_; intro K hK; go_big_quiet_op; go_big_quiet_on)
  (apply ch_nil; rfl; kernel_rfl; (with_reducible rfl); rfl; rfl; (simp only [Act.put, fA, fB, fC, Nat.reduceAdd]))
  apply ch_ld1; rfl; kernel_rfl; (with_reducible rfl); rfl; rfl; decide +kernel; (intro F; exact Cell.here hl); (simp only [Act.put, fA, fB, fC, Nat.reduceAdd])
  (refine ch_pure rfl (by kernel_rfl) rfl rfl ?_; intro K hK; go_big_quiet_op; go_big_quiet_on)
  (refine ch_pure rfl (by kernel_rfl) rfl rfl ?_; intro K hK; go_big_quiet_op; go_big_quiet_on)
  (apply ch_bs; rfl; (with_reducible rfl); rfl; (focus (simp only [fD, List.map_cons, List.map_nil, Act.eval, fE, fF, fG, fH, Option.getD_some]; try rfl)); (exact Ty.e137); (exact Ty.r41); rfl; rfl; rfl; rfl; (intro _; rfl); rfl; (intro _; rfl); (simp only [Act.put, fA, fB, fC, Nat.reduceAdd]))
  (apply ch_append; rfl; (with_reducible rfl); rfl; (focus ((conv => lhs; whnf); try rfl)); (focus ((conv => lhs; whnf); try rfl)); (exact Ty.e137); (exact Ty.r41); rfl; decide; rfl; (intro F w hS; exact slTo_src hS (by first | exact Take.head | exact Take.tail Take.head | exact Take.tail (Take.tail Take.head) | exact Take.tail (Take.tail (Take.tail Take.head)) | exact Take.tail (Take.tail (Take.tail (Take.tail Take.head))) | exact Take.tail (Take.tail (Take.tail (Take.tail (Take.tail Take.head)))) | exact Take.tail (Take.tail (Take.tail (Take.tail (Take.tail (Take.tail Take.head))))))); (focus (try rfl)); rfl; (focus (unfold maxLen; omega)); (focus (omega)); (intro _; rfl); (intro _; rfl); (simp only [Act.put, fA, fB, fC, Nat.reduceAdd]))
  (apply ch_nil; rfl; kernel_rfl; (with_reducible rfl); rfl; rfl; (simp only [Act.put, fA, fB, fC, Nat.reduceAdd]))
  (apply ch_stV; rfl; (with_reducible rfl); rfl; rfl; (focus ((conv => lhs; whnf); try rfl)); kernel_rfl; rfl; (intro F w hS; exact hS.rowOne (by first | exact Take.head | exact Take.tail Take.head | exact Take.tail (Take.tail Take.head) | exact Take.tail (Take.tail (Take.tail Take.head)) | exact Take.tail (Take.tail (Take.tail (Take.tail Take.head))) | exact Take.tail (Take.tail (Take.tail (Take.tail (Take.tail Take.head)))) | exact Take.tail (Take.tail (Take.tail (Take.tail (Take.tail (Take.tail Take.head))))))); (focus (exact hlt)); rfl; rfl; try (simp only [Act.put, fA, fB, fC, Nat.reduceAdd]))
  refine ch_end ?_
  clear hS
  intro w hS
  have hS : St W [slTo (nd 6) 1 1 _ _, row (nd 7) 6 _ (n + 1) _, blk bb (l.set off (nd 7)) T, sats L] w := hS
  generalize nd 7 = v7 at *
  replace hS := hS.drop.swap.unpack [_, _]
  simp only [List.cons_append, List.nil_append] at hS
  go_wp2_with (first | ((with_reducible apply wl_ld1 hS); (with_reducible rfl); rfl; rfl; decide +kernel; (first | (focus((repeat(first|exact Cell.here rfl | apply Cell.there)); done)) | assumption); (simp only [Act.put, fA, fB, fC, Nat.reduceAdd])) | ((with_reducible apply wl_ldN hS); (with_reducible rfl); rfl; rfl; decide +kernel; (first | (focus((repeat(first|exact Cells.whole | apply Cells.there)); done)) | assumption); kernel_rfl; (simp only [Act.put, fA, fB, fC, Nat.reduceAdd])) | ((with_reducible apply wl_st1 hS); (with_reducible rfl); rfl; rfl; (focus ((conv => lhs; whnf); try rfl)); kernel_rfl; rfl; rfl; ((focus((repeat(first|exact Upd.head | apply Upd.tail)); done))); (simp only [List.length_cons, List.length_nil]; omega); ((simp only [List.set_cons_zero, List.set_cons_succ, setAll]); rfl); clear hS; intro w hS; try (simp only [Act.put, fA, fB, fC, Nat.reduceAdd])) | ((with_reducible apply wl_stN hS); (with_reducible rfl); rfl; rfl; (focus ((conv => lhs; whnf); try rfl)); kernel_rfl; rfl; ((focus((repeat(first|exact Upd.head | apply Upd.tail)); done))); (simp only [List.length_cons, List.length_nil]; omega); ((simp only [List.set_cons_zero, List.set_cons_succ, setAll]); rfl); clear hS; intro w hS; try (simp only [Act.put, fA, fB, fC, Nat.reduceAdd])) | ((with_reducible apply wl_box hS); (with_reducible rfl); rfl; rfl; rfl; clear hS; intro b w hS; (simp only [Act.put, fA, fB, fC, Nat.reduceAdd])) | ((with_reducible apply wl_alloc hS); (with_reducible rfl); rfl; (fail); clear hS; intro b w hS; (simp only [Act.put, fA, fB, fC, Nat.reduceAdd])))
  go_end0
  refine ⟨v7, rfl, ?_⟩
  rw [List.flatMap_append]
  exact hS
end Go.Proofs.YtbcokphjpllbiaaGreat
end
