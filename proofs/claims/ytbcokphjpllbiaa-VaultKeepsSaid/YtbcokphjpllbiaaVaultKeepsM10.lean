/-
  A pile's own methods (how many, which is ahead, exchange, put, take): what they do to the pile's row. For every pile.
  A heap of orders: up and down, put, take, take out: what becomes of the row, as functions on lists. For every row.
  heap.Push, heap.Pop, heap.Remove at a pile of orders: what becomes of the row. For every row.
-/
import Derived.Test.YtbcokphjpllbiaaVaultKeepsM9

section
set_option linter.unusedSimpArgs false
set_option linter.unusedVariables false
namespace Go.Proofs.Ytbcokphjpllbiaa
open Go.RowKit Go.Sl
def swapL {α : Type} (xs : List α) (i j : Nat) (hi : i < xs.length) (hj : j < xs.length) : List α := (xs.set i xs[j]).set j xs[i]

set_option maxHeartbeats 1000000 in
theorem plen_spec (b : Option Addr) (n cap : Nat) (W w : World) (L : List HP) (hS : St W L w) :
    Calls Try.prog 113 #[.slice b n cap] w fun e w' => e = .returned (.int .i64 n) ∧ St W L w' := by
  go_enter Try.func113, Try.ntmps113
  go_wp2_with (first | ((with_reducible apply wl_ld1 hS); (with_reducible rfl); rfl; rfl; decide +kernel; (first | (focus ((repeat (first | exact Cell.here rfl | apply Cell.there)); done)) | assumption); (simp only [Act.put, List.setIfInBounds_toArray, List.set_cons_succ, List.set_cons_zero, Nat.reduceAdd])) | ((with_reducible apply wl_ldN hS); (with_reducible rfl); rfl; rfl; decide +kernel; (first | (focus ((repeat (first | exact Cells.whole | apply Cells.there)); done)) | assumption); kernel_rfl; (simp only [Act.put, List.setIfInBounds_toArray, List.set_cons_succ, List.set_cons_zero, Nat.reduceAdd])) | ((with_reducible apply wl_st1 hS); (with_reducible rfl); rfl; rfl; (focus ((conv => lhs; whnf); try rfl)); kernel_rfl; rfl; rfl; ((focus ((repeat (first | exact Upd.head | apply Upd.tail)); done))); (simp only [List.length_cons, List.length_nil]; omega); ((simp only [List.set_cons_zero, List.set_cons_succ, setAll]); rfl); clear hS; intro w hS; try (simp only [Act.put, List.setIfInBounds_toArray, List.set_cons_succ, List.set_cons_zero, Nat.reduceAdd])) | ((with_reducible apply wl_stN hS); (with_reducible rfl); rfl; rfl; (focus ((conv => lhs; whnf); try rfl)); kernel_rfl; rfl; ((focus ((repeat (first | exact Upd.head | apply Upd.tail)); done))); (simp only [List.length_cons, List.length_nil]; omega); ((simp only [List.set_cons_zero, List.set_cons_succ, setAll]); rfl); clear hS; intro w hS; try (simp only [Act.put, List.setIfInBounds_toArray, List.set_cons_succ, List.set_cons_zero, Nat.reduceAdd])) | ((with_reducible apply wl_box hS); (with_reducible rfl); rfl; rfl; rfl; clear hS; intro b w hS; (simp only [Act.put, List.setIfInBounds_toArray, List.set_cons_succ, List.set_cons_zero, Nat.reduceAdd])) | ((with_reducible apply wl_alloc hS); (with_reducible rfl); rfl; (with_reducible first | exact Ty.z3 | exact Ty.z28 | exact Ty.z32 | exact Ty.z40 | exact Ty.z46 | exact Ty.z69 | exact Ty.z86 | exact Ty.z146); clear hS; intro b w hS; (simp only [Act.put, List.setIfInBounds_toArray, List.set_cons_succ, List.set_cons_zero, Nat.reduceAdd])))
  go_ret
  exact ⟨rfl, hS⟩

set_option maxHeartbeats 1000000 in
theorem pswap_spec (xs : List Ord) (junk : List Value) (g n cap i j : Nat) (hn : xs.length = n) (hi : i < xs.length) (hj : j < xs.length) (hcap : n ≤ cap) (hm : cap ≤ maxLen) (W w : World) (L : List HP) (hS : St W (blk g (xs.flatMap Ord.cells ++ junk) 32 :: L) w) :
    Calls Try.prog 115 #[.slice (some ⟨g, 0, none⟩) n cap, .int .i64 i, .int .i64 j] w fun e w' => e = .returned (.tuple #[]) ∧ St W (blk g ((swapL xs i j hi hj).flatMap Ord.cells ++ junk) 32 :: L) w' := by
  subst hn
  unfold maxLen at hm
  go_enter Try.func115, Try.ntmps115
  go_wp2_with (first | ((with_reducible apply wl_ld1 hS); (with_reducible rfl); rfl; rfl; decide +kernel; (first | (focus ((repeat (first | exact Cell.here rfl | apply Cell.there)); done)) | assumption); (simp only [Act.put, List.setIfInBounds_toArray, List.set_cons_succ, List.set_cons_zero, Nat.reduceAdd])) | ((with_reducible apply wl_ldN hS); (with_reducible rfl); rfl; rfl; decide +kernel; (first | (focus ((repeat (first | exact Cells.whole | apply Cells.there)); done)) | assumption); kernel_rfl; (simp only [Act.put, List.setIfInBounds_toArray, List.set_cons_succ, List.set_cons_zero, Nat.reduceAdd])) | ((with_reducible apply wl_st1 hS); (with_reducible rfl); rfl; rfl; (focus ((conv => lhs; whnf); try rfl)); kernel_rfl; rfl; rfl; ((focus ((repeat (first | exact Upd.head | apply Upd.tail)); done))); (simp only [List.length_cons, List.length_nil]; omega); ((simp only [List.set_cons_zero, List.set_cons_succ, setAll]); rfl); clear hS; intro w hS; try (simp only [Act.put, List.setIfInBounds_toArray, List.set_cons_succ, List.set_cons_zero, Nat.reduceAdd])) | ((with_reducible apply wl_stN hS); (with_reducible rfl); rfl; rfl; (focus ((conv => lhs; whnf); try rfl)); kernel_rfl; rfl; ((focus ((repeat (first | exact Upd.head | apply Upd.tail)); done))); (simp only [List.length_cons, List.length_nil]; omega); ((simp only [List.set_cons_zero, List.set_cons_succ, setAll]); rfl); clear hS; intro w hS; try (simp only [Act.put, List.setIfInBounds_toArray, List.set_cons_succ, List.set_cons_zero, Nat.reduceAdd])) | ((with_reducible apply wl_box hS); (with_reducible rfl); rfl; rfl; rfl; clear hS; intro b w hS; (simp only [Act.put, List.setIfInBounds_toArray, List.set_cons_succ, List.set_cons_zero, Nat.reduceAdd])) | ((with_reducible apply wl_alloc hS); (with_reducible rfl); rfl; (with_reducible first | exact Ty.z3 | exact Ty.z28 | exact Ty.z32 | exact Ty.z40 | exact Ty.z46 | exact Ty.z69 | exact Ty.z86 | exact Ty.z146); clear hS; intro b w hS; (simp only [Act.put, List.setIfInBounds_toArray, List.set_cons_succ, List.set_cons_zero, Nat.reduceAdd])))
  refine wp_region_flow2 [0, 0, 0, 0, 0, 0, 48, 112, 0, 0, 768, 1792, 4083, 8179, 16383, 32767] (fun i => false) [⟨some 13, some 15, fun nd => blk g ((xs.set i xs[j]).flatMap Ord.cells ++ junk) 32⟩, ⟨some 15, none, fun nd => blk g ((swapL xs i j hi hj).flatMap Ord.cells ++ junk) 32⟩]
    [some 13] (by kernel_rfl) (by kernel_rfl) rfl hS (CongOk.cons (fun _ _ _ => rfl) (CongOk.cons (fun _ _ _ => rfl) CongOk.nil)) ?_
  intro nd
  iterate 7 (refine ch_pure rfl (by kernel_rfl) rfl rfl ?_; intro K hK; go_big_quiet_op; go_big_quiet_on)
  (apply ch_ldN; rfl; kernel_rfl; (with_reducible rfl); rfl; rfl; decide +kernel; (intro F; exact Cells.elem Ord.len hj); kernel_rfl; (simp only [Act.put, List.setIfInBounds_toArray, List.set_cons_succ, List.set_cons_zero, Nat.reduceAdd]))
  iterate 3 (refine ch_pure rfl (by kernel_rfl) rfl rfl ?_; intro K hK; go_big_quiet_op; go_big_quiet_on)
  (apply ch_ldN; rfl; kernel_rfl; (with_reducible rfl); rfl; rfl; decide +kernel; (intro F; exact Cells.elem Ord.len hi); kernel_rfl; (simp only [Act.put, List.setIfInBounds_toArray, List.set_cons_succ, List.set_cons_zero, Nat.reduceAdd]))
  (refine ch_pure rfl (by kernel_rfl) rfl rfl ?_; intro K hK; go_big_quiet_op; go_big_quiet_on)
  have hlt : ∀ k, k < xs.length → k * 6 + 6 ≤ xs.length * 6 := fun k hk => by omega
  have hfl := flat_length Ord.len xs
  have hfl2 := flat_length Ord.len (xs.set i xs[j])
  rw [List.length_set] at hfl2
  (apply ch_st (vs := xs[j].cells); rfl; (with_reducible rfl); rfl; rfl; (focus ((conv => lhs; whnf); try rfl)); rfl; kernel_rfl; rfl; rfl; (rw [List.length_append, hfl, Ord.len]; have := hlt i hi; omega); exact flat_set Ord.len xs junk i hi xs[j]; rfl; try (simp only [Act.put, List.setIfInBounds_toArray, List.set_cons_succ, List.set_cons_zero, Nat.reduceAdd]))
  (refine ch_pure rfl (by kernel_rfl) rfl rfl ?_; intro K hK; go_big_quiet_op; go_big_quiet_on)
  (apply ch_st (vs := xs[i].cells); rfl; (with_reducible rfl); rfl; rfl; (focus ((conv => lhs; whnf); try rfl)); rfl; kernel_rfl; rfl; rfl; (rw [List.length_append, hfl2, Ord.len]; have := hlt j hj; omega); exact flat_set Ord.len (xs.set i xs[j]) junk j (by simpa using hj) xs[i]; rfl; try (simp only [Act.put, List.setIfInBounds_toArray, List.set_cons_succ, List.set_cons_zero, Nat.reduceAdd]))
  refine ch_end ?_
  clear hS
  intro w hS
  have hS : St W [blk g ((swapL xs i j hi hj).flatMap Ord.cells ++ junk) _, sats L] w := hS
  replace hS := hS.unpack [_]
  simp only [List.cons_append, List.nil_append] at hS
  go_wp2_with (first | ((with_reducible apply wl_ld1 hS); (with_reducible rfl); rfl; rfl; decide +kernel; (first | (focus ((repeat (first | exact Cell.here rfl | apply Cell.there)); done)) | assumption); (simp only [Act.put, List.setIfInBounds_toArray, List.set_cons_succ, List.set_cons_zero, Nat.reduceAdd])) | ((with_reducible apply wl_ldN hS); (with_reducible rfl); rfl; rfl; decide +kernel; (first | (focus ((repeat (first | exact Cells.whole | apply Cells.there)); done)) | assumption); kernel_rfl; (simp only [Act.put, List.setIfInBounds_toArray, List.set_cons_succ, List.set_cons_zero, Nat.reduceAdd])) | ((with_reducible apply wl_st1 hS); (with_reducible rfl); rfl; rfl; (focus ((conv => lhs; whnf); try rfl)); kernel_rfl; rfl; rfl; ((focus ((repeat (first | exact Upd.head | apply Upd.tail)); done))); (simp only [List.length_cons, List.length_nil]; omega); ((simp only [List.set_cons_zero, List.set_cons_succ, setAll]); rfl); clear hS; intro w hS; try (simp only [Act.put, List.setIfInBounds_toArray, List.set_cons_succ, List.set_cons_zero, Nat.reduceAdd])) | ((with_reducible apply wl_stN hS); (with_reducible rfl); rfl; rfl; (focus ((conv => lhs; whnf); try rfl)); kernel_rfl; rfl; ((focus ((repeat (first | exact Upd.head | apply Upd.tail)); done))); (simp only [List.length_cons, List.length_nil]; omega); ((simp only [List.set_cons_zero, List.set_cons_succ, setAll]); rfl); clear hS; intro w hS; try (simp only [Act.put, List.setIfInBounds_toArray, List.set_cons_succ, List.set_cons_zero, Nat.reduceAdd])) | ((with_reducible apply wl_box hS); (with_reducible rfl); rfl; rfl; rfl; clear hS; intro b w hS; (simp only [Act.put, List.setIfInBounds_toArray, List.set_cons_succ, List.set_cons_zero, Nat.reduceAdd])) | ((with_reducible apply wl_alloc hS); (with_reducible rfl); rfl; (with_reducible first | exact Ty.z3 | exact Ty.z28 | exact Ty.z32 | exact Ty.z40 | exact Ty.z46 | exact Ty.z69 | exact Ty.z86 | exact Ty.z146); clear hS; intro b w hS; (simp only [Act.put, List.setIfInBounds_toArray, List.set_cons_succ, List.set_cons_zero, Nat.reduceAdd])))
  go_end0
  exact ⟨rfl, hS⟩

set_option maxHeartbeats 1000000 in
/-- Take: the last one; the slice in its variable grows shorter by one. -/
theorem ppop_spec (xs : List Ord) (junk : List Value) (l : List Value) (T : TypeId) (bb off g n cap : Nat) (hn : xs.length = n + 1) (hcap : n + 1 ≤ cap) (hm : cap ≤ maxLen) (hl : l[off]? = some (.slice (some ⟨g, 0, none⟩) (n + 1) cap)) (W w : World) (L : List HP)
    (hS : St W (blk bb l T :: blk g (xs.flatMap Ord.cells ++ junk) 32 :: L) w) :
    Calls Try.prog 116 #[.pointer (some ⟨bb, off, none⟩)] w fun e w' => e = .returned (.iface 32 (.agg (xs[n]'(by omega)).cells.toArray)) ∧ St W (blk bb (l.set off (.slice (some ⟨g, 0, none⟩) n cap)) T :: blk g (xs.flatMap Ord.cells ++ junk) 32 :: L) w' := by
  unfold maxLen at hm
  have hn' : n < xs.length := by omega
  have hlt : off < l.length := (List.getElem?_eq_some_iff.1 hl).1
  generalize hx : xs[n] = x
  have Hx := Lib.hid hx
  clear hx
  obtain ⟨i1, u1, y1, t1, c1, p1⟩ := x
  simp only [Ord.cells]
  have hS : St W (blk bb l T :: blk g (xs.flatMap Ord.cells ++ junk) 32 :: L) w := hS
  go_enter Try.func116, Try.ntmps116
  go_wp2_with (first | ((with_reducible apply wl_ld1 hS); (with_reducible rfl); rfl; rfl; decide +kernel; (exact Cell.here hl); (simp only [Act.put, List.setIfInBounds_toArray, List.set_cons_succ, List.set_cons_zero, Nat.reduceAdd])) | ((with_reducible apply wl_ldN hS); (with_reducible rfl); rfl; rfl; decide +kernel; (exact (Cells.there (Cells.elemEq Ord.len hn' Hx.out) : Cells _ _ _ [.int .i64 i1, .string u1, .bool y1, .int .i64 t1, .int .i64 c1, .int .i64 p1])); kernel_rfl; (simp only [Act.put, List.setIfInBounds_toArray, List.set_cons_succ, List.set_cons_zero, Nat.reduceAdd])) | ((with_reducible apply wl_st1 hS); (with_reducible rfl); rfl; rfl; (focus ((conv => lhs; whnf); try rfl)); kernel_rfl; rfl; rfl; ((focus ((repeat (first | exact Upd.head | apply Upd.tail)); done))); (exact hlt); rfl; clear hS; intro w hS; try (simp only [Act.put, List.setIfInBounds_toArray, List.set_cons_succ, List.set_cons_zero, Nat.reduceAdd])) | ((with_reducible apply wl_ld1 hS); (with_reducible rfl); rfl; rfl; decide +kernel; (first | (focus ((repeat (first | exact Cell.here rfl | apply Cell.there)); done)) | assumption); (simp only [Act.put, List.setIfInBounds_toArray, List.set_cons_succ, List.set_cons_zero, Nat.reduceAdd])) | ((with_reducible apply wl_ldN hS); (with_reducible rfl); rfl; rfl; decide +kernel; (first | (focus ((repeat (first | exact Cells.whole | apply Cells.there)); done)) | assumption); kernel_rfl; (simp only [Act.put, List.setIfInBounds_toArray, List.set_cons_succ, List.set_cons_zero, Nat.reduceAdd])) | ((with_reducible apply wl_st1 hS); (with_reducible rfl); rfl; rfl; (focus ((conv => lhs; whnf); try rfl)); kernel_rfl; rfl; rfl; ((focus ((repeat (first | exact Upd.head | apply Upd.tail)); done))); (simp only [List.length_cons, List.length_nil]; omega); ((simp only [List.set_cons_zero, List.set_cons_succ, setAll]); rfl); clear hS; intro w hS; try (simp only [Act.put, List.setIfInBounds_toArray, List.set_cons_succ, List.set_cons_zero, Nat.reduceAdd])) | ((with_reducible apply wl_stN hS); (with_reducible rfl); rfl; rfl; (focus ((conv => lhs; whnf); try rfl)); kernel_rfl; rfl; ((focus ((repeat (first | exact Upd.head | apply Upd.tail)); done))); (simp only [List.length_cons, List.length_nil]; omega); ((simp only [List.set_cons_zero, List.set_cons_succ, setAll]); rfl); clear hS; intro w hS; try (simp only [Act.put, List.setIfInBounds_toArray, List.set_cons_succ, List.set_cons_zero, Nat.reduceAdd])) | ((with_reducible apply wl_box hS); (with_reducible rfl); rfl; rfl; rfl; clear hS; intro b w hS; (simp only [Act.put, List.setIfInBounds_toArray, List.set_cons_succ, List.set_cons_zero, Nat.reduceAdd])) | ((with_reducible apply wl_alloc hS); (with_reducible rfl); rfl; (with_reducible first | exact Ty.z3 | exact Ty.z28 | exact Ty.z32 | exact Ty.z40 | exact Ty.z46 | exact Ty.z69 | exact Ty.z86 | exact Ty.z146); clear hS; intro b w hS; (simp only [Act.put, List.setIfInBounds_toArray, List.set_cons_succ, List.set_cons_zero, Nat.reduceAdd])))
  go_ret
  exact ⟨rfl, hS.drop⟩

set_option maxHeartbeats 1000000 in
/-- Put: the slice in its variable grows by one. -/
theorem ppush_spec (xs : List Ord) (o : Ord) (l : List Value) (T : TypeId) (bb off n : Nat) (v : Value) (hn : xs.length = n) (h63 : n ≤ 4294967296) (hl : l[off]? = some v) (W w : World) (L : List HP)
    (hS : St W (blk bb l T :: row v 6 32 n (xs.flatMap Ord.cells) :: L) w) :
    Calls Try.prog 117 #[.pointer (some ⟨bb, off, none⟩), .iface 32 (.agg o.cells.toArray)] w fun e w' => ∃ v', e = .returned (.tuple #[]) ∧ St W (blk bb (l.set off v') T :: row v' 6 32 (n + 1) ((xs ++ [o]).flatMap Ord.cells) :: L) w' := by
  have hlt : off < l.length := (List.getElem?_eq_some_iff.1 hl).1
  obtain ⟨i1, u1, y1, t1, c1, p1⟩ := o
  simp only [Ord.cells]
  have hta := ta_ord
  go_enter Try.func117, Try.ntmps117
  go_wp2_with (first | ((with_reducible apply wl_ld1 hS); (with_reducible rfl); rfl; rfl; decide +kernel; (first | (focus ((repeat (first | exact Cell.here rfl | apply Cell.there)); done)) | assumption); (simp only [Act.put, List.setIfInBounds_toArray, List.set_cons_succ, List.set_cons_zero, Nat.reduceAdd])) | ((with_reducible apply wl_ldN hS); (with_reducible rfl); rfl; rfl; decide +kernel; (first | (focus ((repeat (first | exact Cells.whole | apply Cells.there)); done)) | assumption); kernel_rfl; (simp only [Act.put, List.setIfInBounds_toArray, List.set_cons_succ, List.set_cons_zero, Nat.reduceAdd])) | ((with_reducible apply wl_st1 hS); (with_reducible rfl); rfl; rfl; (focus ((conv => lhs; whnf); try rfl)); kernel_rfl; rfl; rfl; ((focus ((repeat (first | exact Upd.head | apply Upd.tail)); done))); (simp only [List.length_cons, List.length_nil]; omega); ((simp only [List.set_cons_zero, List.set_cons_succ, setAll]); rfl); clear hS; intro w hS; try (simp only [Act.put, List.setIfInBounds_toArray, List.set_cons_succ, List.set_cons_zero, Nat.reduceAdd])) | ((with_reducible apply wl_stN hS); (with_reducible rfl); rfl; rfl; (focus ((conv => lhs; whnf); try rfl)); kernel_rfl; rfl; ((focus ((repeat (first | exact Upd.head | apply Upd.tail)); done))); (simp only [List.length_cons, List.length_nil]; omega); ((simp only [List.set_cons_zero, List.set_cons_succ, setAll]); rfl); clear hS; intro w hS; try (simp only [Act.put, List.setIfInBounds_toArray, List.set_cons_succ, List.set_cons_zero, Nat.reduceAdd])) | ((with_reducible apply wl_box hS); (with_reducible rfl); rfl; rfl; rfl; clear hS; intro b w hS; (simp only [Act.put, List.setIfInBounds_toArray, List.set_cons_succ, List.set_cons_zero, Nat.reduceAdd])) | ((with_reducible apply wl_alloc hS); (with_reducible rfl); rfl; (with_reducible first | exact Ty.z3 | exact Ty.z28 | exact Ty.z32 | exact Ty.z40 | exact Ty.z46 | exact Ty.z69 | exact Ty.z86 | exact Ty.z146); clear hS; intro b w hS; (simp only [Act.put, List.setIfInBounds_toArray, List.set_cons_succ, List.set_cons_zero, Nat.reduceAdd])))
  refine wp_region_flow2 [0, 0, 2, 6, 0, 16, 48, 126, 255, 511] (fun i => i == 6 || i == 7) [⟨some 6, none, fun nd => slTo (nd 6) 1 1 [.int .i64 i1, .string u1, .bool y1, .int .i64 t1, .int .i64 c1, .int .i64 p1] 32⟩, ⟨some 7, none, fun nd => row (nd 7) 6 32 (n + 1) (xs.flatMap Ord.cells ++ [.int .i64 i1, .string u1, .bool y1, .int .i64 t1, .int .i64 c1, .int .i64 p1])⟩, ⟨some 9, none, fun nd => blk bb (l.set off (nd 7)) T⟩]
    [some 9, some 7] (by kernel_rfl) (by kernel_rfl) rfl hS (CongOk.cons (fun nd nd' h => by dsimp only; rw [h 6 rfl rfl]) (CongOk.cons (fun nd nd' h => by dsimp only; rw [h 7 rfl rfl]) (CongOk.cons (fun nd nd' h => by dsimp only; rw [h 7 rfl rfl]) CongOk.nil))) ?_
  intro nd
  (refine ch_pure rfl (by kernel_rfl) rfl rfl ?_; intro K hK; go_big_quiet_op; go_big_quiet_on)
  (refine ch_pure rfl (by kernel_rfl) rfl rfl ?_; intro K hK; go_big_quiet_op; go_big_quiet_on)
  (apply ch_nil; rfl; kernel_rfl; (with_reducible rfl); rfl; rfl; (simp only [Act.put, List.setIfInBounds_toArray, List.set_cons_succ, List.set_cons_zero, Nat.reduceAdd]))
  apply ch_ld1; rfl; kernel_rfl; (with_reducible rfl); rfl; rfl; decide +kernel; (intro F; exact Cell.here hl); (simp only [Act.put, List.setIfInBounds_toArray, List.set_cons_succ, List.set_cons_zero, Nat.reduceAdd])
  (refine ch_pure rfl (by kernel_rfl) rfl rfl ?_; intro K hK; go_big_quiet_op; go_big_quiet_on)
  (refine ch_pure rfl (by kernel_rfl) rfl rfl ?_; intro K hK; go_big_quiet_op; go_big_quiet_on)
  (apply ch_bs; rfl; (with_reducible rfl); rfl; (focus (simp only [List.map_toArray, List.map_cons, List.map_nil, Act.eval, Array.getD_eq_getD_getElem?, List.getElem?_toArray, List.getElem?_cons_succ, List.getElem?_cons_zero, Option.getD_some]; try rfl)); (with_reducible first | exact Ty.e41 | exact Ty.e42 | exact Ty.e49 | exact Ty.e65 | exact Ty.e79 | exact Ty.e84 | exact Ty.e89 | exact Ty.e90 | exact Ty.e98 | exact Ty.e114); (with_reducible first | exact Ty.r3 | exact Ty.r5 | exact Ty.r9 | exact Ty.r28 | exact Ty.r32 | exact Ty.r46 | exact Ty.r49 | exact Ty.r69 | exact Ty.r94); rfl; rfl; rfl; rfl; (intro _; rfl); rfl; (intro _; rfl); (simp only [Act.put, List.setIfInBounds_toArray, List.set_cons_succ, List.set_cons_zero, Nat.reduceAdd]))
  (apply ch_append; rfl; (with_reducible rfl); rfl; (focus ((conv => lhs; whnf); try rfl)); (focus ((conv => lhs; whnf); try rfl)); (with_reducible first | exact Ty.e41 | exact Ty.e42 | exact Ty.e49 | exact Ty.e65 | exact Ty.e79 | exact Ty.e84 | exact Ty.e89 | exact Ty.e90 | exact Ty.e98 | exact Ty.e114); (with_reducible first | exact Ty.r3 | exact Ty.r5 | exact Ty.r9 | exact Ty.r28 | exact Ty.r32 | exact Ty.r46 | exact Ty.r49 | exact Ty.r69 | exact Ty.r94); rfl; decide; rfl; (intro F w hS; exact slTo_src hS (by first | exact Take.head | exact Take.tail Take.head | exact Take.tail (Take.tail Take.head) | exact Take.tail (Take.tail (Take.tail Take.head)) | exact Take.tail (Take.tail (Take.tail (Take.tail Take.head))) | exact Take.tail (Take.tail (Take.tail (Take.tail (Take.tail Take.head)))) | exact Take.tail (Take.tail (Take.tail (Take.tail (Take.tail (Take.tail Take.head))))))); (focus (try rfl)); rfl; (focus (unfold maxLen; omega)); (focus (omega)); (intro _; rfl); (intro _; rfl); (simp only [Act.put, List.setIfInBounds_toArray, List.set_cons_succ, List.set_cons_zero, Nat.reduceAdd]))
  (apply ch_nil; rfl; kernel_rfl; (with_reducible rfl); rfl; rfl; (simp only [Act.put, List.setIfInBounds_toArray, List.set_cons_succ, List.set_cons_zero, Nat.reduceAdd]))
  (apply ch_stV; rfl; (with_reducible rfl); rfl; rfl; (focus ((conv => lhs; whnf); try rfl)); kernel_rfl; rfl; (intro F w hS; exact hS.rowOne (by first | exact Take.head | exact Take.tail Take.head | exact Take.tail (Take.tail Take.head) | exact Take.tail (Take.tail (Take.tail Take.head)) | exact Take.tail (Take.tail (Take.tail (Take.tail Take.head))) | exact Take.tail (Take.tail (Take.tail (Take.tail (Take.tail Take.head)))) | exact Take.tail (Take.tail (Take.tail (Take.tail (Take.tail (Take.tail Take.head))))))); (focus (exact hlt)); rfl; rfl; try (simp only [Act.put, List.setIfInBounds_toArray, List.set_cons_succ, List.set_cons_zero, Nat.reduceAdd]))
  refine ch_end ?_
  clear hS
  intro w hS
  have hS : St W [slTo (nd 6) 1 1 _ _, row (nd 7) 6 _ (n + 1) _, blk bb (l.set off (nd 7)) T, sats L] w := hS
  generalize nd 7 = v7 at *
  replace hS := hS.drop.swap.unpack [_, _]
  simp only [List.cons_append, List.nil_append] at hS
  go_wp2_with (first | ((with_reducible apply wl_ld1 hS); (with_reducible rfl); rfl; rfl; decide +kernel; (first | (focus ((repeat (first | exact Cell.here rfl | apply Cell.there)); done)) | assumption); (simp only [Act.put, List.setIfInBounds_toArray, List.set_cons_succ, List.set_cons_zero, Nat.reduceAdd])) | ((with_reducible apply wl_ldN hS); (with_reducible rfl); rfl; rfl; decide +kernel; (first | (focus ((repeat (first | exact Cells.whole | apply Cells.there)); done)) | assumption); kernel_rfl; (simp only [Act.put, List.setIfInBounds_toArray, List.set_cons_succ, List.set_cons_zero, Nat.reduceAdd])) | ((with_reducible apply wl_st1 hS); (with_reducible rfl); rfl; rfl; (focus ((conv => lhs; whnf); try rfl)); kernel_rfl; rfl; rfl; ((focus ((repeat (first | exact Upd.head | apply Upd.tail)); done))); (simp only [List.length_cons, List.length_nil]; omega); ((simp only [List.set_cons_zero, List.set_cons_succ, setAll]); rfl); clear hS; intro w hS; try (simp only [Act.put, List.setIfInBounds_toArray, List.set_cons_succ, List.set_cons_zero, Nat.reduceAdd])) | ((with_reducible apply wl_stN hS); (with_reducible rfl); rfl; rfl; (focus ((conv => lhs; whnf); try rfl)); kernel_rfl; rfl; ((focus ((repeat (first | exact Upd.head | apply Upd.tail)); done))); (simp only [List.length_cons, List.length_nil]; omega); ((simp only [List.set_cons_zero, List.set_cons_succ, setAll]); rfl); clear hS; intro w hS; try (simp only [Act.put, List.setIfInBounds_toArray, List.set_cons_succ, List.set_cons_zero, Nat.reduceAdd])) | ((with_reducible apply wl_box hS); (with_reducible rfl); rfl; rfl; rfl; clear hS; intro b w hS; (simp only [Act.put, List.setIfInBounds_toArray, List.set_cons_succ, List.set_cons_zero, Nat.reduceAdd])) | ((with_reducible apply wl_alloc hS); (with_reducible rfl); rfl; (with_reducible first | exact Ty.z3 | exact Ty.z28 | exact Ty.z32 | exact Ty.z40 | exact Ty.z46 | exact Ty.z69 | exact Ty.z86 | exact Ty.z146); clear hS; intro b w hS; (simp only [Act.put, List.setIfInBounds_toArray, List.set_cons_succ, List.set_cons_zero, Nat.reduceAdd])))
  go_end0
  refine ⟨v7, rfl, ?_⟩
  rw [List.flatMap_append]
  exact hS
end Go.Proofs.Ytbcokphjpllbiaa
end
section
set_option linter.unusedSimpArgs false
set_option linter.unusedVariables false
namespace Go.Proofs.Ytbcokphjpllbiaa
open Go.RowKit Go.Sl
/-- Up from place j. -/
def upF : Nat → List Ord → Nat → List Ord
  | 0, xs, _ => xs
  | f + 1, xs, j =>
    if h : 0 < j ∧ j < xs.length then
      if lessO (xs[j]'h.2) (xs[(j - 1) / 2]'(by omega)) then upF f (swapL xs ((j - 1) / 2) j (by omega) h.2) ((j - 1) / 2) else xs
    else xs
theorem swapL_length {α : Type} (xs : List α) (i j : Nat) (hi : i < xs.length) (hj : j < xs.length) : (swapL xs i j hi hj).length = xs.length := by simp [swapL]
theorem upF_length : ∀ (f : Nat) (xs : List Ord) (j : Nat), (upF f xs j).length = xs.length
  | 0, _, _ => rfl
  | f + 1, xs, j => by
    rw [upF]
    split
    · split
      · rw [upF_length, swapL_length]
      · rfl
    · rfl
theorem upF_fuel : ∀ (f f' : Nat) (xs : List Ord) (j : Nat), j ≤ f → j ≤ f' → upF f xs j = upF f' xs j
  | 0, f', xs, j, h, _ => by
    obtain rfl : j = 0 := by omega
    cases f' with
    | zero => rfl
    | succ f' => rw [upF, upF, dif_neg (by omega)]
  | f + 1, 0, xs, j, _, h => by
    obtain rfl : j = 0 := by omega
    rw [upF, upF, dif_neg (by omega)]
  | f + 1, f' + 1, xs, j, h, h' => by
    rw [upF, upF]
    split
    · split
      · exact upF_fuel f f' _ _ (by omega) (by omega)
      · rfl
    · rfl
def UpRel (W : World) (L : List HP) (bb : Nat) (l : List Value) (T : TypeId) (g : Nat) (junk : List Value) (n : Nat) (r : List Ord) (v : Value) (w : World) : Prop :=
  ∃ (k : Nat) (ys : List Ord), v = .int .i64 k ∧ k < ys.length ∧ ys.length = n ∧ upF k ys k = r ∧ St W (blk bb l T :: blk g (ys.flatMap Ord.cells ++ junk) 32 :: L) w

set_option maxRecDepth 100000 in
set_option maxHeartbeats 1000000 in
theorem up_spec (xs : List Ord) (junk l : List Value) (T : TypeId) (bb off g n cap j : Nat) (hn : xs.length = n) (hj : j < n) (hcap : n ≤ cap) (hm : cap ≤ maxLen) (hl : l[off]? = some (.slice (some ⟨g, 0, none⟩) n cap)) (W w : World) (L : List HP)
    (hS : St W (blk bb l T :: blk g (xs.flatMap Ord.cells ++ junk) 32 :: L) w) :
    Calls Try.prog 59 #[.iface 94 (.pointer (some ⟨bb, off, none⟩)), .int .i64 j] w fun e w' => e = .returned (.tuple #[]) ∧ St W (blk bb l T :: blk g ((upF j xs j).flatMap Ord.cells ++ junk) 32 :: L) w' := by
  have hm' : cap ≤ 9223372036854775807 := by unfold maxLen at hm; omega
  go_enter Try.func59, Try.ntmps59
  go_wp2_with fail
  go_loopw [1] (fun v wr => UpRel W L bb l T g junk n (upF j xs j) v wr) (fun v _ => (intOf v).toNat)
  case atStart => exact ⟨j, xs, rfl, by omega, hn, rfl, hS⟩
  case round =>
    clear hS
    obtain ⟨k, ys, rfl, hk, hyn, hr, hS⟩ := hrel
    have Hr := Lib.hid hr
    have Hyn := Lib.hid hyn
    clear hr hyn hn
    have hkn : k < n := by have := Hyn.out; omega
    by_cases h0 : k = 0
    · subst h0
      go_wp2_with fail
      go_end0
      exact ⟨rfl, by rw [← Hr.out]; exact hS⟩
    · obtain ⟨i, hi0⟩ : ∃ i, i = (k - 1) / 2 := ⟨_, rfl⟩
      have hik : i < k := by omega
      have hi : ((k : Int) - 1) / 2 = (i : Int) := by omega
      have hne : ((i : Int) == (k : Int)) = false := by simp; omega
      have hil : i < ys.length := by omega
      have hu : upF k ys k = if lessO ys[k] ys[i] then upF (k - 1) (swapL ys i k hil hk) i else ys := by
        subst hi0
        obtain ⟨k', rfl⟩ : ∃ k', k = k' + 1 := ⟨k - 1, by omega⟩
        rw [upF, dif_pos ⟨by omega, hk⟩]
        rfl
      have hm1 : i ≤ k - 1 := by omega
      have Hu := Lib.hid hu
      clear hu hi0
      cases hb : lessO ys[k] ys[i]
      · have Hb := Lib.hid hb
        clear hb
        go_wp2_with (first | ((with_reducible apply wl_inv_val 114 hS); (with_reducible rfl); rfl; rfl; decide +kernel; decide +kernel; decide +kernel; (first | exact Cell.here hl | first | (focus ((repeat (first | exact Cell.here rfl | apply Cell.there)); done)) | assumption); (focus (simp only [List.map_toArray, List.map_cons, List.map_nil, Act.eval, Array.getD_eq_getD_getElem?, List.getElem?_toArray, List.getElem?_cons_succ, List.getElem?_cons_zero, Option.getD_some]; try rfl)); (simp only [List.append_toArray, List.cons_append, List.nil_append]); (try simp only [hi]); refine Calls.mono (less_at Hb.out junk g n cap Hyn.out hcap hm _ _ _ hS.swap) ?_; (clear hS; rintro e w ⟨rfl, hS⟩; refine ⟨_, rfl, ?_⟩; try (simp only [Act.put, List.setIfInBounds_toArray, List.set_cons_succ, List.set_cons_zero, Nat.reduceAdd]))))
        go_end0
        have hr := Hu.out
        rw [Hb.out] at hr
        exact ⟨rfl, by rw [← Hr.out, hr]; exact hS.swap⟩
      · have Hb := Lib.hid hb
        clear hb
        go_wp2_with (first | ((with_reducible apply wl_inv_val 114 hS); (with_reducible rfl); rfl; rfl; decide +kernel; decide +kernel; decide +kernel; (first | exact Cell.here hl | first | (focus ((repeat (first | exact Cell.here rfl | apply Cell.there)); done)) | assumption); (focus (simp only [List.map_toArray, List.map_cons, List.map_nil, Act.eval, Array.getD_eq_getD_getElem?, List.getElem?_toArray, List.getElem?_cons_succ, List.getElem?_cons_zero, Option.getD_some]; try rfl)); (simp only [List.append_toArray, List.cons_append, List.nil_append]); (try simp only [hi]); refine Calls.mono (less_at Hb.out junk g n cap Hyn.out hcap hm _ _ _ hS.swap) ?_; (clear hS; rintro e w ⟨rfl, hS⟩; refine ⟨_, rfl, ?_⟩; try (simp only [Act.put, List.setIfInBounds_toArray, List.set_cons_succ, List.set_cons_zero, Nat.reduceAdd]))) | ((with_reducible apply wl_inv_val 115 hS); (with_reducible rfl); rfl; rfl; decide +kernel; decide +kernel; decide +kernel; (first | exact Cell.there (Cell.here hl) | first | (focus ((repeat (first | exact Cell.here rfl | apply Cell.there)); done)) | assumption); (focus (simp only [List.map_toArray, List.map_cons, List.map_nil, Act.eval, Array.getD_eq_getD_getElem?, List.getElem?_toArray, List.getElem?_cons_succ, List.getElem?_cons_zero, Option.getD_some]; try rfl)); (simp only [List.append_toArray, List.cons_append, List.nil_append]); (try simp only [hi]); refine Calls.mono (pswap_spec ys junk g n cap i k Hyn.out hil hk hcap hm _ _ _ hS) ?_; (clear hS; rintro e w ⟨rfl, hS⟩; refine ⟨_, rfl, ?_⟩; try (simp only [Act.put, List.setIfInBounds_toArray, List.set_cons_succ, List.set_cons_zero, Nat.reduceAdd]))))
        have hr := Hu.out
        rw [Hb.out, if_pos rfl] at hr
        have hup : upF i (swapL ys i k hil hk) i = upF (k - 1) (swapL ys i k hil hk) i := upF_fuel _ _ _ _ (Nat.le_refl _) hm1
        go_roundw
        case rel => exact ⟨i, swapL ys i k hil hk, rfl, by rw [swapL_length]; exact hil, by rw [swapL_length]; exact Hyn.out, by rw [← Hr.out, hr, hup], hS.swap⟩
        case measure => simp [intOf]; omega

/-- The child of place i that stands ahead of the other. -/
def kid (xs : List Ord) (i n : Nat) (hn : n ≤ xs.length) : Nat :=
  if h : 2 * i + 2 < n then (if lessO (xs[2 * i + 2]'(by omega)) (xs[2 * i + 1]'(by omega)) then 2 * i + 2 else 2 * i + 1) else 2 * i + 1
theorem kid_lt {xs : List Ord} {i n : Nat} (hn : n ≤ xs.length) (h : 2 * i + 1 < n) : kid xs i n hn < n := by
  unfold kid
  split
  · split <;> omega
  · omega
theorem kid_gt {xs : List Ord} {i n : Nat} (hn : n ≤ xs.length) : i < kid xs i n hn := by
  unfold kid
  split
  · split <;> omega
  · omega
/-- Down from place i, among the first n. -/
def downF : Nat → List Ord → Nat → Nat → List Ord × Nat
  | 0, xs, i, _ => (xs, i)
  | f + 1, xs, i, n =>
    if h : 2 * i + 1 < n ∧ n ≤ xs.length then
      if lessO (xs[kid xs i n h.2]'(by have := kid_lt h.2 h.1; omega)) (xs[i]'(by omega)) then
        downF f (swapL xs i (kid xs i n h.2) (by omega) (by have := kid_lt h.2 h.1; omega)) (kid xs i n h.2) n
      else (xs, i)
    else (xs, i)
theorem downF_length : ∀ (f : Nat) (xs : List Ord) (i n : Nat), (downF f xs i n).1.length = xs.length
  | 0, _, _, _ => rfl
  | f + 1, xs, i, n => by
    rw [downF]
    split
    · split
      · rw [downF_length, swapL_length]
      · rfl
    · rfl
theorem downF_fuel : ∀ (f f' : Nat) (xs : List Ord) (i n : Nat), n ≤ f + i → n ≤ f' + i → downF f xs i n = downF f' xs i n
  | 0, f', xs, i, n, h, _ => by
    cases f' with
    | zero => rfl
    | succ f' => rw [downF, downF, dif_neg (by omega)]
  | f + 1, 0, xs, i, n, _, h => by rw [downF, downF, dif_neg (by omega)]
  | f + 1, f' + 1, xs, i, n, h, h' => by
    rw [downF, downF]
    split
    · split
      · have := kid_gt (xs := xs) (i := i) (n := n) (by omega)
        exact downF_fuel f f' _ _ _ (by omega) (by omega)
      · rfl
    · rfl
theorem downF_step {f : Nat} {xs : List Ord} {i n j : Nat} {b : Bool} (hn : n ≤ xs.length) (h1 : 2 * i + 1 < n) (hf : n ≤ f + i) (hk : kid xs i n hn = j) (hj : j < xs.length) (hb : lessO xs[j] (xs[i]'(by omega)) = b) :
    downF f xs i n = if b then downF f (swapL xs i j (by omega) hj) j n else (xs, i) := by
  subst hk hb
  obtain ⟨f', rfl⟩ : ∃ f', f = f' + 1 := ⟨f - 1, by omega⟩
  have hg := kid_gt (xs := xs) (i := i) (n := n) hn
  rw [downF, dif_pos ⟨h1, hn⟩]
  split
  · exact downF_fuel f' (f' + 1) _ _ _ (by omega) (by omega)
  · rfl
theorem downF_stop {f : Nat} {xs : List Ord} {i n : Nat} (h : n ≤ 2 * i + 1) : downF f xs i n = (xs, i) := by
  cases f with
  | zero => rfl
  | succ f => rw [downF, dif_neg (by omega)]
def DownRel (W : World) (L : List HP) (bb : Nat) (l : List Value) (T : TypeId) (g : Nat) (junk : List Value) (len n i0 : Nat) (r : List Ord × Nat) (v : Value) (w : World) : Prop :=
  ∃ (k : Nat) (ys : List Ord), v = .int .i64 k ∧ k ≤ n + i0 ∧ ys.length = len ∧ downF n ys k n = r ∧ St W (blk bb l T :: blk g (ys.flatMap Ord.cells ++ junk) 32 :: L) w

set_option maxRecDepth 100000 in
set_option maxHeartbeats 4000000 in
theorem down_spec (xs : List Ord) (junk l : List Value) (T : TypeId) (bb off g len cap i0 n : Nat) (hlen : xs.length = len) (hn : n ≤ len) (hi0 : i0 ≤ 4294967296) (hn2 : n ≤ 4294967296) (hcap : len ≤ cap) (hm : cap ≤ maxLen) (hl : l[off]? = some (.slice (some ⟨g, 0, none⟩) len cap)) (W w : World) (L : List HP)
    (hS : St W (blk bb l T :: blk g (xs.flatMap Ord.cells ++ junk) 32 :: L) w) :
    Calls Try.prog 60 #[.iface 94 (.pointer (some ⟨bb, off, none⟩)), .int .i64 i0, .int .i64 n] w fun e w' => e = .returned (.bool (decide (i0 < (downF n xs i0 n).2))) ∧ St W (blk bb l T :: blk g ((downF n xs i0 n).1.flatMap Ord.cells ++ junk) 32 :: L) w' := by
  have hm' : cap ≤ 9223372036854775807 := by unfold maxLen at hm; omega
  go_enter Try.func60, Try.ntmps60
  go_wp2_with fail
  go_loopw [7] (fun v wr => DownRel W L bb l T g junk len n i0 (downF n xs i0 n) v wr) (fun v _ => n + i0 - (intOf v).toNat)
  case atStart => exact ⟨i0, xs, rfl, by omega, hlen, rfl, hS⟩
  case round =>
    clear hS
    obtain ⟨k, ys, rfl, hk, hyn, hr, hS⟩ := hrel
    have Hr := Lib.hid hr
    have Hyn := Lib.hid hyn
    clear hr hyn hlen
    by_cases h1 : 2 * k + 1 < n
    · obtain ⟨j1, hj1⟩ : ∃ j1, j1 = 2 * k + 1 := ⟨_, rfl⟩
      have e1 : 2 * (k : Int) + 1 = (j1 : Int) := by omega
      obtain ⟨j2, hj2⟩ : ∃ j2, j2 = j1 + 1 := ⟨_, rfl⟩
      have e2 : (j1 : Int) + 1 = (j2 : Int) := by omega
      have hyl : n ≤ ys.length := by rw [Hyn.out]; exact hn
      have h1n : j1 < n := by omega
      have hkl : k < ys.length := by omega
      have hj1l : j1 < ys.length := by omega
      have hle : k ≤ n := by omega
      by_cases h2 : j2 < n
      · have hj2l : j2 < ys.length := by omega
        cases hb : lessO ys[j2] ys[j1]
        · have hkid : kid ys k n hyl = j1 := by
            subst hj1 hj2
            unfold kid
            rw [dif_pos h2, if_neg (by rw [hb]; exact Bool.false_ne_true)]
          have hm2 : n + i0 - j1 < n + i0 - k := by omega
          have Hb := Lib.hid hb
          have Hk := Lib.hid hkid
          clear hb hkid hj1 hj2
          cases hc : lessO ys[j1] ys[k]
          · (have hc := Lib.hid hc; have Hc := hc; clear hc; go_wp2_with (first | ((with_reducible apply wl_inv_val 114 hS); (with_reducible rfl); rfl; rfl; decide +kernel; decide +kernel; decide +kernel; (first | exact Cell.here hl | first | (focus ((repeat (first | exact Cell.here rfl | apply Cell.there)); done)) | assumption); (focus (simp only [List.map_toArray, List.map_cons, List.map_nil, Act.eval, Array.getD_eq_getD_getElem?, List.getElem?_toArray, List.getElem?_cons_succ, List.getElem?_cons_zero, Option.getD_some]; try rfl)); (simp only [List.append_toArray, List.cons_append, List.nil_append]); (try simp only [e1, e2]); refine Calls.mono (less_at Hb.out junk g len cap Hyn.out hcap hm _ _ _ hS.swap) ?_; (clear hS; rintro e w ⟨rfl, hS⟩; refine ⟨_, rfl, ?_⟩; try (simp only [Act.put, List.setIfInBounds_toArray, List.set_cons_succ, List.set_cons_zero, Nat.reduceAdd]))) | ((with_reducible apply wl_inv_val 114 hS); (with_reducible rfl); rfl; rfl; decide +kernel; decide +kernel; decide +kernel; (first | exact Cell.there (Cell.here hl) | first | (focus ((repeat (first | exact Cell.here rfl | apply Cell.there)); done)) | assumption); (focus (simp only [List.map_toArray, List.map_cons, List.map_nil, Act.eval, Array.getD_eq_getD_getElem?, List.getElem?_toArray, List.getElem?_cons_succ, List.getElem?_cons_zero, Option.getD_some]; try rfl)); (simp only [List.append_toArray, List.cons_append, List.nil_append]); (try simp only [e1, e2]); refine Calls.mono (less_at Hc.out junk g len cap Hyn.out hcap hm _ _ _ hS) ?_; (clear hS; rintro e w ⟨rfl, hS⟩; refine ⟨_, rfl, ?_⟩; try (simp only [Act.put, List.setIfInBounds_toArray, List.set_cons_succ, List.set_cons_zero, Nat.reduceAdd])))); go_ret; have hst := (downF_step hyl h1 (Nat.le_add_right _ _) Hk.out hj1l Hc.out).symm.trans Hr.out; rw [if_neg Bool.false_ne_true] at hst; exact ⟨by rw [← hst]; rfl, by rw [← hst]; exact hS.swap⟩)
          · (have hc := Lib.hid hc; have Hc := hc; clear hc; go_wp2_with (first | ((with_reducible apply wl_inv_val 114 hS); (with_reducible rfl); rfl; rfl; decide +kernel; decide +kernel; decide +kernel; (first | exact Cell.here hl | first | (focus ((repeat (first | exact Cell.here rfl | apply Cell.there)); done)) | assumption); (focus (simp only [List.map_toArray, List.map_cons, List.map_nil, Act.eval, Array.getD_eq_getD_getElem?, List.getElem?_toArray, List.getElem?_cons_succ, List.getElem?_cons_zero, Option.getD_some]; try rfl)); (simp only [List.append_toArray, List.cons_append, List.nil_append]); (try simp only [e1, e2]); refine Calls.mono (less_at Hb.out junk g len cap Hyn.out hcap hm _ _ _ hS.swap) ?_; (clear hS; rintro e w ⟨rfl, hS⟩; refine ⟨_, rfl, ?_⟩; try (simp only [Act.put, List.setIfInBounds_toArray, List.set_cons_succ, List.set_cons_zero, Nat.reduceAdd]))) | ((with_reducible apply wl_inv_val 114 hS); (with_reducible rfl); rfl; rfl; decide +kernel; decide +kernel; decide +kernel; (first | exact Cell.there (Cell.here hl) | first | (focus ((repeat (first | exact Cell.here rfl | apply Cell.there)); done)) | assumption); (focus (simp only [List.map_toArray, List.map_cons, List.map_nil, Act.eval, Array.getD_eq_getD_getElem?, List.getElem?_toArray, List.getElem?_cons_succ, List.getElem?_cons_zero, Option.getD_some]; try rfl)); (simp only [List.append_toArray, List.cons_append, List.nil_append]); (try simp only [e1, e2]); refine Calls.mono (less_at Hc.out junk g len cap Hyn.out hcap hm _ _ _ hS) ?_; (clear hS; rintro e w ⟨rfl, hS⟩; refine ⟨_, rfl, ?_⟩; try (simp only [Act.put, List.setIfInBounds_toArray, List.set_cons_succ, List.set_cons_zero, Nat.reduceAdd]))) | ((with_reducible apply wl_inv_val 115 hS); (with_reducible rfl); rfl; rfl; decide +kernel; decide +kernel; decide +kernel; (first | exact Cell.there (Cell.here hl) | first | (focus ((repeat (first | exact Cell.here rfl | apply Cell.there)); done)) | assumption); (focus (simp only [List.map_toArray, List.map_cons, List.map_nil, Act.eval, Array.getD_eq_getD_getElem?, List.getElem?_toArray, List.getElem?_cons_succ, List.getElem?_cons_zero, Option.getD_some]; try rfl)); (simp only [List.append_toArray, List.cons_append, List.nil_append]); (try simp only [e1, e2]); refine Calls.mono (pswap_spec ys junk g len cap k j1 Hyn.out hkl hj1l hcap hm _ _ _ hS) ?_; (clear hS; rintro e w ⟨rfl, hS⟩; refine ⟨_, rfl, ?_⟩; try (simp only [Act.put, List.setIfInBounds_toArray, List.set_cons_succ, List.set_cons_zero, Nat.reduceAdd])))); have hst := (downF_step hyl h1 (Nat.le_add_right _ _) Hk.out hj1l Hc.out).symm.trans Hr.out; rw [if_pos rfl] at hst; go_roundw; (case rel => exact ⟨j1, swapL ys k j1 hkl hj1l, rfl, by omega, by rw [swapL_length]; exact Hyn.out, hst, hS.swap⟩); (case measure => (simp [intOf]; omega)))
        · have hkid : kid ys k n hyl = j2 := by
            subst hj1 hj2
            unfold kid
            rw [dif_pos h2, if_pos hb]
          have hm2 : n + i0 - j2 < n + i0 - k := by omega
          have Hb := Lib.hid hb
          have Hk := Lib.hid hkid
          clear hb hkid hj1 hj2
          cases hc : lessO ys[j2] ys[k]
          · (have hc := Lib.hid hc; have Hc := hc; clear hc; go_wp2_with (first | ((with_reducible apply wl_inv_val 114 hS); (with_reducible rfl); rfl; rfl; decide +kernel; decide +kernel; decide +kernel; (first | exact Cell.here hl | first | (focus ((repeat (first | exact Cell.here rfl | apply Cell.there)); done)) | assumption); (focus (simp only [List.map_toArray, List.map_cons, List.map_nil, Act.eval, Array.getD_eq_getD_getElem?, List.getElem?_toArray, List.getElem?_cons_succ, List.getElem?_cons_zero, Option.getD_some]; try rfl)); (simp only [List.append_toArray, List.cons_append, List.nil_append]); (try simp only [e1, e2]); refine Calls.mono (less_at Hb.out junk g len cap Hyn.out hcap hm _ _ _ hS.swap) ?_; (clear hS; rintro e w ⟨rfl, hS⟩; refine ⟨_, rfl, ?_⟩; try (simp only [Act.put, List.setIfInBounds_toArray, List.set_cons_succ, List.set_cons_zero, Nat.reduceAdd]))) | ((with_reducible apply wl_inv_val 114 hS); (with_reducible rfl); rfl; rfl; decide +kernel; decide +kernel; decide +kernel; (first | exact Cell.there (Cell.here hl) | first | (focus ((repeat (first | exact Cell.here rfl | apply Cell.there)); done)) | assumption); (focus (simp only [List.map_toArray, List.map_cons, List.map_nil, Act.eval, Array.getD_eq_getD_getElem?, List.getElem?_toArray, List.getElem?_cons_succ, List.getElem?_cons_zero, Option.getD_some]; try rfl)); (simp only [List.append_toArray, List.cons_append, List.nil_append]); (try simp only [e1, e2]); refine Calls.mono (less_at Hc.out junk g len cap Hyn.out hcap hm _ _ _ hS) ?_; (clear hS; rintro e w ⟨rfl, hS⟩; refine ⟨_, rfl, ?_⟩; try (simp only [Act.put, List.setIfInBounds_toArray, List.set_cons_succ, List.set_cons_zero, Nat.reduceAdd])))); go_ret; have hst := (downF_step hyl h1 (Nat.le_add_right _ _) Hk.out hj2l Hc.out).symm.trans Hr.out; rw [if_neg Bool.false_ne_true] at hst; exact ⟨by rw [← hst]; rfl, by rw [← hst]; exact hS.swap⟩)
          · (have hc := Lib.hid hc; have Hc := hc; clear hc; go_wp2_with (first | ((with_reducible apply wl_inv_val 114 hS); (with_reducible rfl); rfl; rfl; decide +kernel; decide +kernel; decide +kernel; (first | exact Cell.here hl | first | (focus ((repeat (first | exact Cell.here rfl | apply Cell.there)); done)) | assumption); (focus (simp only [List.map_toArray, List.map_cons, List.map_nil, Act.eval, Array.getD_eq_getD_getElem?, List.getElem?_toArray, List.getElem?_cons_succ, List.getElem?_cons_zero, Option.getD_some]; try rfl)); (simp only [List.append_toArray, List.cons_append, List.nil_append]); (try simp only [e1, e2]); refine Calls.mono (less_at Hb.out junk g len cap Hyn.out hcap hm _ _ _ hS.swap) ?_; (clear hS; rintro e w ⟨rfl, hS⟩; refine ⟨_, rfl, ?_⟩; try (simp only [Act.put, List.setIfInBounds_toArray, List.set_cons_succ, List.set_cons_zero, Nat.reduceAdd]))) | ((with_reducible apply wl_inv_val 114 hS); (with_reducible rfl); rfl; rfl; decide +kernel; decide +kernel; decide +kernel; (first | exact Cell.there (Cell.here hl) | first | (focus ((repeat (first | exact Cell.here rfl | apply Cell.there)); done)) | assumption); (focus (simp only [List.map_toArray, List.map_cons, List.map_nil, Act.eval, Array.getD_eq_getD_getElem?, List.getElem?_toArray, List.getElem?_cons_succ, List.getElem?_cons_zero, Option.getD_some]; try rfl)); (simp only [List.append_toArray, List.cons_append, List.nil_append]); (try simp only [e1, e2]); refine Calls.mono (less_at Hc.out junk g len cap Hyn.out hcap hm _ _ _ hS) ?_; (clear hS; rintro e w ⟨rfl, hS⟩; refine ⟨_, rfl, ?_⟩; try (simp only [Act.put, List.setIfInBounds_toArray, List.set_cons_succ, List.set_cons_zero, Nat.reduceAdd]))) | ((with_reducible apply wl_inv_val 115 hS); (with_reducible rfl); rfl; rfl; decide +kernel; decide +kernel; decide +kernel; (first | exact Cell.there (Cell.here hl) | first | (focus ((repeat (first | exact Cell.here rfl | apply Cell.there)); done)) | assumption); (focus (simp only [List.map_toArray, List.map_cons, List.map_nil, Act.eval, Array.getD_eq_getD_getElem?, List.getElem?_toArray, List.getElem?_cons_succ, List.getElem?_cons_zero, Option.getD_some]; try rfl)); (simp only [List.append_toArray, List.cons_append, List.nil_append]); (try simp only [e1, e2]); refine Calls.mono (pswap_spec ys junk g len cap k j2 Hyn.out hkl hj2l hcap hm _ _ _ hS) ?_; (clear hS; rintro e w ⟨rfl, hS⟩; refine ⟨_, rfl, ?_⟩; try (simp only [Act.put, List.setIfInBounds_toArray, List.set_cons_succ, List.set_cons_zero, Nat.reduceAdd])))); have hst := (downF_step hyl h1 (Nat.le_add_right _ _) Hk.out hj2l Hc.out).symm.trans Hr.out; rw [if_pos rfl] at hst; go_roundw; (case rel => exact ⟨j2, swapL ys k j2 hkl hj2l, rfl, by omega, by rw [swapL_length]; exact Hyn.out, hst, hS.swap⟩); (case measure => (simp [intOf]; omega)))
      · have hkid : kid ys k n hyl = j1 := by
          subst hj1 hj2
          unfold kid
          rw [dif_neg h2]
        have hm2 : n + i0 - j1 < n + i0 - k := by omega
        have Hk := Lib.hid hkid
        clear hkid hj1 hj2
        cases hc : lessO ys[j1] ys[k]
        · (have hc := Lib.hid hc; have Hc := hc; clear hc; go_wp2_with (first | ((with_reducible apply wl_inv_val 114 hS); (with_reducible rfl); rfl; rfl; decide +kernel; decide +kernel; decide +kernel; (first | exact Cell.here hl | first | (focus ((repeat (first | exact Cell.here rfl | apply Cell.there)); done)) | assumption); (focus (simp only [List.map_toArray, List.map_cons, List.map_nil, Act.eval, Array.getD_eq_getD_getElem?, List.getElem?_toArray, List.getElem?_cons_succ, List.getElem?_cons_zero, Option.getD_some]; try rfl)); (simp only [List.append_toArray, List.cons_append, List.nil_append]); (try simp only [e1, e2]); refine Calls.mono (less_at Hc.out junk g len cap Hyn.out hcap hm _ _ _ hS.swap) ?_; (clear hS; rintro e w ⟨rfl, hS⟩; refine ⟨_, rfl, ?_⟩; try (simp only [Act.put, List.setIfInBounds_toArray, List.set_cons_succ, List.set_cons_zero, Nat.reduceAdd]))) | fail); go_ret; have hst := (downF_step hyl h1 (Nat.le_add_right _ _) Hk.out hj1l Hc.out).symm.trans Hr.out; rw [if_neg Bool.false_ne_true] at hst; exact ⟨by rw [← hst]; rfl, by rw [← hst]; exact hS.swap⟩)
        · (have hc := Lib.hid hc; have Hc := hc; clear hc; go_wp2_with (first | ((with_reducible apply wl_inv_val 114 hS); (with_reducible rfl); rfl; rfl; decide +kernel; decide +kernel; decide +kernel; (first | exact Cell.here hl | first | (focus ((repeat (first | exact Cell.here rfl | apply Cell.there)); done)) | assumption); (focus (simp only [List.map_toArray, List.map_cons, List.map_nil, Act.eval, Array.getD_eq_getD_getElem?, List.getElem?_toArray, List.getElem?_cons_succ, List.getElem?_cons_zero, Option.getD_some]; try rfl)); (simp only [List.append_toArray, List.cons_append, List.nil_append]); (try simp only [e1, e2]); refine Calls.mono (less_at Hc.out junk g len cap Hyn.out hcap hm _ _ _ hS.swap) ?_; (clear hS; rintro e w ⟨rfl, hS⟩; refine ⟨_, rfl, ?_⟩; try (simp only [Act.put, List.setIfInBounds_toArray, List.set_cons_succ, List.set_cons_zero, Nat.reduceAdd]))) | fail | ((with_reducible apply wl_inv_val 115 hS); (with_reducible rfl); rfl; rfl; decide +kernel; decide +kernel; decide +kernel; (first | exact Cell.there (Cell.here hl) | first | (focus ((repeat (first | exact Cell.here rfl | apply Cell.there)); done)) | assumption); (focus (simp only [List.map_toArray, List.map_cons, List.map_nil, Act.eval, Array.getD_eq_getD_getElem?, List.getElem?_toArray, List.getElem?_cons_succ, List.getElem?_cons_zero, Option.getD_some]; try rfl)); (simp only [List.append_toArray, List.cons_append, List.nil_append]); (try simp only [e1, e2]); refine Calls.mono (pswap_spec ys junk g len cap k j1 Hyn.out hkl hj1l hcap hm _ _ _ hS) ?_; (clear hS; rintro e w ⟨rfl, hS⟩; refine ⟨_, rfl, ?_⟩; try (simp only [Act.put, List.setIfInBounds_toArray, List.set_cons_succ, List.set_cons_zero, Nat.reduceAdd])))); have hst := (downF_step hyl h1 (Nat.le_add_right _ _) Hk.out hj1l Hc.out).symm.trans Hr.out; rw [if_pos rfl] at hst; go_roundw; (case rel => exact ⟨j1, swapL ys k j1 hkl hj1l, rfl, by omega, by rw [swapL_length]; exact Hyn.out, hst, hS.swap⟩); (case measure => (simp [intOf]; omega)))
    · go_wp2_with fail
      go_ret
      have hst := (downF_stop (f := n) (xs := ys) (Nat.le_of_not_lt h1)).symm.trans Hr.out
      exact ⟨by rw [← hst]; rfl, by rw [← hst]; exact hS⟩
end Go.Proofs.Ytbcokphjpllbiaa
end
section
set_option linter.unusedSimpArgs false
set_option linter.unusedVariables false
namespace Go.Proofs.Ytbcokphjpllbiaa
open Go.RowKit Go.Sl
set_option maxRecDepth 100000 in
set_option maxHeartbeats 1000000 in
theorem hpush_spec (xs : List Ord) (o : Ord) (l : List Value) (T : TypeId) (bb off n : Nat) (v : Value) (hn : xs.length = n) (h63 : n ≤ 4294967296) (hl : l[off]? = some v) (W w : World) (L : List HP)
    (hS : St W (blk bb l T :: row v 6 32 n (xs.flatMap Ord.cells) :: L) w) :
    Calls Try.prog 42 #[.iface 94 (.pointer (some ⟨bb, off, none⟩)), .iface 32 (.agg o.cells.toArray)] w fun e w' => ∃ v', e = .returned (.tuple #[]) ∧ St W (blk bb (l.set off v') T :: row v' 6 32 (n + 1) ((upF n (xs ++ [o]) n).flatMap Ord.cells) :: L) w' := by
  have hlt : off < l.length := (List.getElem?_eq_some_iff.1 hl).1
  go_enter Try.func42, Try.ntmps42
  have Hlen := Lib.hid (show (xs ++ [o]).length = n + 1 by simp [hn])
  have Hn := Lib.hid hn
  have Hl := Lib.hid hl
  clear hn hl
  go_wp2_with (first
    | ((with_reducible apply wl_inv_ptr 117); (with_reducible rfl); rfl; rfl; decide +kernel; decide +kernel; decide +kernel; (focus (simp only [List.map_toArray, List.map_cons, List.map_nil, Act.eval, Array.getD_eq_getD_getElem?, List.getElem?_toArray, List.getElem?_cons_succ, List.getElem?_cons_zero, Option.getD_some]; try rfl)); (simp only [List.append_toArray, List.cons_append, List.nil_append]); refine Calls.mono (ppush_spec xs o l T bb off n v Hn.out h63 Hl.out W _ L hS) ?_; clear hS; rintro e w ⟨v', rfl, hS⟩; refine ⟨_, rfl, ?_⟩; (simp only [Act.put, List.setIfInBounds_toArray, List.set_cons_succ, List.set_cons_zero, Nat.reduceAdd]); have h1 := hS.swap.rowOpen; clear hS; rcases h1 with ⟨_, h0, _⟩ | ⟨g, cap, junk, rfl, hn1, hm1, hj1, hl1, hS⟩; (exfalso; omega); have hm' : cap ≤ 9223372036854775807 := (by unfold maxLen at hm1; omega))
    | ((with_reducible apply wl_inv_val 113 hS); (with_reducible rfl); rfl; rfl; decide +kernel; decide +kernel; decide +kernel; (first | exact Cell.there (Cell.here (List.getElem?_set_self hlt)) | first | (focus ((repeat (first | exact Cell.here rfl | apply Cell.there)); done)) | assumption); (focus (simp only [List.map_toArray, List.map_cons, List.map_nil, Act.eval, Array.getD_eq_getD_getElem?, List.getElem?_toArray, List.getElem?_cons_succ, List.getElem?_cons_zero, Option.getD_some]; try rfl)); (simp only [List.append_toArray, List.cons_append, List.nil_append]); refine Calls.mono (plen_spec _ (n + 1) cap W _ _ hS) ?_; (clear hS; rintro e w ⟨rfl, hS⟩; refine ⟨_, rfl, ?_⟩; try (simp only [Act.put, List.setIfInBounds_toArray, List.set_cons_succ, List.set_cons_zero, Nat.reduceAdd])))
    | (go_at_call 59; refine (up_spec (xs ++ [o]) junk _ T bb off g (n + 1) cap n Hlen.out (by omega) hn1 hm1 (List.getElem?_set_self hlt) W _ L hS.swap).mono ?_; clear hS; rintro e w ⟨rfl, hS⟩))
  go_end0
  refine ⟨.slice (some ⟨g, 0, none⟩) (n + 1) cap, rfl, ?_⟩
  have hS := hS.swap
  refine (St.rowShut hS hn1 hm1 ?_ ?_).swap
  · rw [List.length_append, flat_length Ord.len, upF_length, Hlen.out]
    rw [List.length_append, hl1] at hj1
    exact hj1
  · rw [flat_length Ord.len, upF_length, Hlen.out]

/-- What heap.Pop leaves of the row: the last one is handed back. -/
def popF (xs : List Ord) (n : Nat) (h : xs.length = n + 1) : List Ord := (downF n (swapL xs 0 n (by omega) (by omega)) 0 n).1
theorem popF_length {xs : List Ord} {n : Nat} (h : xs.length = n + 1) : (popF xs n h).length = n + 1 := by rw [popF, downF_length, swapL_length, h]

set_option maxRecDepth 100000 in
set_option maxHeartbeats 1000000 in
theorem hpop_spec (xs : List Ord) (junk l : List Value) (T : TypeId) (bb off g n cap : Nat) (hn : xs.length = n + 1) (hcap : n + 1 ≤ cap) (hm : cap ≤ maxLen) (h63 : n ≤ 4294967296) (hl : l[off]? = some (.slice (some ⟨g, 0, none⟩) (n + 1) cap)) (W w : World) (L : List HP)
    (hS : St W (blk bb l T :: blk g (xs.flatMap Ord.cells ++ junk) 32 :: L) w) :
    Calls Try.prog 45 #[.iface 94 (.pointer (some ⟨bb, off, none⟩))] w fun e w' => e = .returned (.iface 32 (.agg ((popF xs n hn)[n]'(by rw [popF_length]; omega)).cells.toArray)) ∧
      St W (blk bb (l.set off (.slice (some ⟨g, 0, none⟩) n cap)) T :: blk g ((popF xs n hn).flatMap Ord.cells ++ junk) 32 :: L) w' := by
  have hm' : cap ≤ 9223372036854775807 := by unfold maxLen at hm; omega
  have Hn := Lib.hid hn
  go_enter Try.func45, Try.ntmps45
  go_wp2_with (first | ((with_reducible apply wl_inv_val 113 hS); (with_reducible rfl); rfl; rfl; decide +kernel; decide +kernel; decide +kernel; (first | exact Cell.here hl | first | (focus ((repeat (first | exact Cell.here rfl | apply Cell.there)); done)) | assumption); (focus (simp only [List.map_toArray, List.map_cons, List.map_nil, Act.eval, Array.getD_eq_getD_getElem?, List.getElem?_toArray, List.getElem?_cons_succ, List.getElem?_cons_zero, Option.getD_some]; try rfl)); (simp only [List.append_toArray, List.cons_append, List.nil_append]); refine Calls.mono (plen_spec _ (n + 1) cap W _ _ hS) ?_; (clear hS; rintro e w ⟨rfl, hS⟩; refine ⟨_, rfl, ?_⟩; try (simp only [Act.put, List.setIfInBounds_toArray, List.set_cons_succ, List.set_cons_zero, Nat.reduceAdd]))) | ((with_reducible apply wl_inv_val 115 hS); (with_reducible rfl); rfl; rfl; decide +kernel; decide +kernel; decide +kernel; (first | exact Cell.here hl | first | (focus ((repeat (first | exact Cell.here rfl | apply Cell.there)); done)) | assumption); (focus (simp only [List.map_toArray, List.map_cons, List.map_nil, Act.eval, Array.getD_eq_getD_getElem?, List.getElem?_toArray, List.getElem?_cons_succ, List.getElem?_cons_zero, Option.getD_some]; try rfl)); (simp only [List.append_toArray, List.cons_append, List.nil_append]); refine Calls.mono (pswap_spec xs junk g (n + 1) cap 0 n Hn.out (by omega) (by omega) hcap hm _ _ _ hS.swap) ?_; (clear hS; rintro e w ⟨rfl, hS⟩; refine ⟨_, rfl, ?_⟩; try (simp only [Act.put, List.setIfInBounds_toArray, List.set_cons_succ, List.set_cons_zero, Nat.reduceAdd]))) | (go_at_call 60; refine (down_spec (swapL xs 0 n (by omega) (by omega)) junk l T bb off g (n + 1) cap 0 n (by rw [swapL_length]; exact Hn.out) (by omega) (by omega) h63 hcap hm hl W _ L hS.swap).mono ?_; clear hS; rintro e w ⟨rfl, hS⟩) | ((with_reducible apply wl_inv_ptr 116); (with_reducible rfl); rfl; rfl; decide +kernel; decide +kernel; decide +kernel; (focus (simp only [List.map_toArray, List.map_cons, List.map_nil, Act.eval, Array.getD_eq_getD_getElem?, List.getElem?_toArray, List.getElem?_cons_succ, List.getElem?_cons_zero, Option.getD_some]; try rfl)); (simp only [List.append_toArray, List.cons_append, List.nil_append]); refine Calls.mono (ppop_spec (popF xs n hn) junk l T bb off g n cap (popF_length hn) hcap hm hl W _ L hS) ?_; clear hS; rintro e w ⟨rfl, hS⟩; refine ⟨_, rfl, ?_⟩; (simp only [Act.put, List.setIfInBounds_toArray, List.set_cons_succ, List.set_cons_zero, Nat.reduceAdd])))
  go_ret
  exact ⟨rfl, hS⟩

/-- What heap.Remove leaves of the row: the last one is handed back. -/
def remF (xs : List Ord) (i n : Nat) (h : xs.length = n + 1) (hi : i ≤ n) : List Ord :=
  if i = n then xs else
    if i < (downF n (swapL xs i n (by omega) (by omega)) i n).2 then (downF n (swapL xs i n (by omega) (by omega)) i n).1
    else upF i (downF n (swapL xs i n (by omega) (by omega)) i n).1 i
theorem remF_length {xs : List Ord} {i n : Nat} (h : xs.length = n + 1) (hi : i ≤ n) : (remF xs i n h hi).length = n + 1 := by
  unfold remF
  split
  · exact h
  · split
    · rw [downF_length, swapL_length, h]
    · rw [upF_length, downF_length, swapL_length, h]

theorem ppop_at (xs : List Ord) (x : Ord) (junk : List Value) (l : List Value) (T : TypeId) (bb off g n cap : Nat) (hx : xs[n]? = some x) (hn : xs.length = n + 1) (hcap : n + 1 ≤ cap) (hm : cap ≤ maxLen) (hl : l[off]? = some (.slice (some ⟨g, 0, none⟩) (n + 1) cap)) (W w : World) (L : List HP)
    (hS : St W (blk bb l T :: blk g (xs.flatMap Ord.cells ++ junk) 32 :: L) w) :
    Calls Try.prog 116 #[.pointer (some ⟨bb, off, none⟩)] w fun e w' => e = .returned (.iface 32 (.agg x.cells.toArray)) ∧ St W (blk bb (l.set off (.slice (some ⟨g, 0, none⟩) n cap)) T :: blk g (xs.flatMap Ord.cells ++ junk) 32 :: L) w' := by
  have h : n < xs.length := by omega
  have e : xs[n] = x := by rw [List.getElem?_eq_getElem h] at hx; exact Option.some.inj hx
  rw [← e]
  exact ppop_spec xs junk l T bb off g n cap hn hcap hm hl W w L hS
set_option maxRecDepth 100000 in
set_option maxHeartbeats 4000000 in
theorem hrem_spec (xs zs : List Ord) (x : Ord) (junk l : List Value) (T : TypeId) (bb off g i n cap : Nat) (hn : xs.length = n + 1) (hi : i ≤ n) (hr : remF xs i n hn hi = zs) (hx : zs[n]? = some x) (hcap : n + 1 ≤ cap) (hm : cap ≤ maxLen) (h63 : n ≤ 4294967296) (hl : l[off]? = some (.slice (some ⟨g, 0, none⟩) (n + 1) cap)) (W w : World) (L : List HP)
    (hS : St W (blk bb l T :: blk g (xs.flatMap Ord.cells ++ junk) 32 :: L) w) :
    Calls Try.prog 52 #[.iface 94 (.pointer (some ⟨bb, off, none⟩)), .int .i64 i] w fun e w' => e = .returned (.iface 32 (.agg x.cells.toArray)) ∧
      St W (blk bb (l.set off (.slice (some ⟨g, 0, none⟩) n cap)) T :: blk g (zs.flatMap Ord.cells ++ junk) 32 :: L) w' := by
  have hm' : cap ≤ 9223372036854775807 := by unfold maxLen at hm; omega
  have Hrl := Lib.hid (show zs.length = n + 1 from hr ▸ remF_length hn hi)
  have Hx := Lib.hid hx
  clear hx
  have hi63 : i ≤ 4294967296 := by omega
  by_cases hin : i = n
  · unfold remF at hr
    rw [if_pos hin] at hr
    subst hin hr
    clear hn
    have hne : ((i : Int) != (i : Int)) = false := by simp
    obtain ⟨n, rfl⟩ : ∃ n, n = i := ⟨_, rfl⟩
    go_enter Try.func52, Try.ntmps52
    go_wp2_with (first | ((with_reducible apply wl_inv_val 113 hS); (with_reducible rfl); rfl; rfl; decide +kernel; decide +kernel; decide +kernel; (first | exact Cell.here hl | first | (focus ((repeat (first | exact Cell.here rfl | apply Cell.there)); done)) | assumption); (focus (simp only [List.map_toArray, List.map_cons, List.map_nil, Act.eval, Array.getD_eq_getD_getElem?, List.getElem?_toArray, List.getElem?_cons_succ, List.getElem?_cons_zero, Option.getD_some]; try rfl)); (simp only [List.append_toArray, List.cons_append, List.nil_append]); refine Calls.mono (plen_spec _ (n + 1) cap W _ _ hS) ?_; (clear hS; rintro e w ⟨rfl, hS⟩; refine ⟨_, rfl, ?_⟩; try (simp only [Act.put, List.setIfInBounds_toArray, List.set_cons_succ, List.set_cons_zero, Nat.reduceAdd]))) | ((with_reducible apply wl_inv_ptr 116); (with_reducible rfl); rfl; rfl; decide +kernel; decide +kernel; decide +kernel; (focus (simp only [List.map_toArray, List.map_cons, List.map_nil, Act.eval, Array.getD_eq_getD_getElem?, List.getElem?_toArray, List.getElem?_cons_succ, List.getElem?_cons_zero, Option.getD_some]; try rfl)); (simp only [List.append_toArray, List.cons_append, List.nil_append]); refine Calls.mono (ppop_at xs x junk l T bb off g n cap Hx.out Hrl.out hcap hm hl W _ L hS) ?_; clear hS; rintro e w ⟨rfl, hS⟩; refine ⟨_, rfl, ?_⟩; (simp only [Act.put, List.setIfInBounds_toArray, List.set_cons_succ, List.set_cons_zero, Nat.reduceAdd])))
    go_ret
    exact ⟨rfl, hS⟩
  · have hlt : i < n := by omega
    have hil : i < xs.length := by omega
    have hnl : n < xs.length := by omega
    have hne : ((n : Int) != (i : Int)) = true := by simp; omega
    unfold remF at hr
    rw [if_neg hin] at hr
    have Hsw := Lib.hid (fun w L hS => pswap_spec xs junk g (n + 1) cap i n hn hil hnl hcap hm W w L hS)
    have hds := down_spec (swapL xs i n hil hnl) junk l T bb off g (n + 1) cap i n (by rw [swapL_length]; exact hn) (by omega) hi63 h63 hcap hm hl
    have hdl := downF_length n (swapL xs i n hil hnl) i n
    rw [swapL_length, hn] at hdl
    generalize downF n (swapL xs i n hil hnl) i n = d at hr hdl hds
    obtain ⟨ys, k⟩ := d
    have Hdl := Lib.hid hdl
    have Hds := Lib.hid hds
    clear hdl hn hds
    by_cases hk : i < k
    · rw [if_pos hk] at hr
      subst hr
      have hkd : decide (i < k) = true := by simpa using hk
      go_enter Try.func52, Try.ntmps52
      go_wp2_with (first | ((with_reducible apply wl_inv_val 113 hS); (with_reducible rfl); rfl; rfl; decide +kernel; decide +kernel; decide +kernel; (first | exact Cell.here hl | first | (focus ((repeat (first | exact Cell.here rfl | apply Cell.there)); done)) | assumption); (focus (simp only [List.map_toArray, List.map_cons, List.map_nil, Act.eval, Array.getD_eq_getD_getElem?, List.getElem?_toArray, List.getElem?_cons_succ, List.getElem?_cons_zero, Option.getD_some]; try rfl)); (simp only [List.append_toArray, List.cons_append, List.nil_append]); refine Calls.mono (plen_spec _ (n + 1) cap W _ _ hS) ?_; (clear hS; rintro e w ⟨rfl, hS⟩; refine ⟨_, rfl, ?_⟩; try (simp only [Act.put, List.setIfInBounds_toArray, List.set_cons_succ, List.set_cons_zero, Nat.reduceAdd]))) | ((with_reducible apply wl_inv_val 115 hS); (with_reducible rfl); rfl; rfl; decide +kernel; decide +kernel; decide +kernel; (first | exact Cell.here hl | first | (focus ((repeat (first | exact Cell.here rfl | apply Cell.there)); done)) | assumption); (focus (simp only [List.map_toArray, List.map_cons, List.map_nil, Act.eval, Array.getD_eq_getD_getElem?, List.getElem?_toArray, List.getElem?_cons_succ, List.getElem?_cons_zero, Option.getD_some]; try rfl)); (simp only [List.append_toArray, List.cons_append, List.nil_append]); refine Calls.mono (Hsw.out _ _ hS.swap) ?_; (clear hS; rintro e w ⟨rfl, hS⟩; refine ⟨_, rfl, ?_⟩; try (simp only [Act.put, List.setIfInBounds_toArray, List.set_cons_succ, List.set_cons_zero, Nat.reduceAdd]))) | (go_at_call 60; refine (Hds.out W _ L hS.swap).mono ?_; clear hS; rintro e w ⟨rfl, hS⟩) | ((with_reducible apply wl_inv_ptr 116); (with_reducible rfl); rfl; rfl; decide +kernel; decide +kernel; decide +kernel; (focus (simp only [List.map_toArray, List.map_cons, List.map_nil, Act.eval, Array.getD_eq_getD_getElem?, List.getElem?_toArray, List.getElem?_cons_succ, List.getElem?_cons_zero, Option.getD_some]; try rfl)); (simp only [List.append_toArray, List.cons_append, List.nil_append]); refine Calls.mono (ppop_at ys x junk l T bb off g n cap Hx.out Hrl.out hcap hm hl W _ L hS) ?_; clear hS; rintro e w ⟨rfl, hS⟩; refine ⟨_, rfl, ?_⟩; (simp only [Act.put, List.setIfInBounds_toArray, List.set_cons_succ, List.set_cons_zero, Nat.reduceAdd])))
      go_ret
      exact ⟨rfl, hS⟩
    · rw [if_neg hk] at hr
      subst hr
      have hkd : decide (i < k) = false := by simpa using hk
      go_enter Try.func52, Try.ntmps52
      go_wp2_with (first | ((with_reducible apply wl_inv_val 113 hS); (with_reducible rfl); rfl; rfl; decide +kernel; decide +kernel; decide +kernel; (first | exact Cell.here hl | first | (focus ((repeat (first | exact Cell.here rfl | apply Cell.there)); done)) | assumption); (focus (simp only [List.map_toArray, List.map_cons, List.map_nil, Act.eval, Array.getD_eq_getD_getElem?, List.getElem?_toArray, List.getElem?_cons_succ, List.getElem?_cons_zero, Option.getD_some]; try rfl)); (simp only [List.append_toArray, List.cons_append, List.nil_append]); refine Calls.mono (plen_spec _ (n + 1) cap W _ _ hS) ?_; (clear hS; rintro e w ⟨rfl, hS⟩; refine ⟨_, rfl, ?_⟩; try (simp only [Act.put, List.setIfInBounds_toArray, List.set_cons_succ, List.set_cons_zero, Nat.reduceAdd]))) | ((with_reducible apply wl_inv_val 115 hS); (with_reducible rfl); rfl; rfl; decide +kernel; decide +kernel; decide +kernel; (first | exact Cell.here hl | first | (focus ((repeat (first | exact Cell.here rfl | apply Cell.there)); done)) | assumption); (focus (simp only [List.map_toArray, List.map_cons, List.map_nil, Act.eval, Array.getD_eq_getD_getElem?, List.getElem?_toArray, List.getElem?_cons_succ, List.getElem?_cons_zero, Option.getD_some]; try rfl)); (simp only [List.append_toArray, List.cons_append, List.nil_append]); refine Calls.mono (Hsw.out _ _ hS.swap) ?_; (clear hS; rintro e w ⟨rfl, hS⟩; refine ⟨_, rfl, ?_⟩; try (simp only [Act.put, List.setIfInBounds_toArray, List.set_cons_succ, List.set_cons_zero, Nat.reduceAdd]))) | (go_at_call 60; refine (Hds.out W _ L hS.swap).mono ?_; clear hS; rintro e w ⟨rfl, hS⟩) | (go_at_call 59; refine (up_spec ys junk l T bb off g (n + 1) cap i Hdl.out (by omega) hcap hm hl W _ L hS).mono ?_; clear hS; rintro e w ⟨rfl, hS⟩) | ((with_reducible apply wl_inv_ptr 116); (with_reducible rfl); rfl; rfl; decide +kernel; decide +kernel; decide +kernel; (focus (simp only [List.map_toArray, List.map_cons, List.map_nil, Act.eval, Array.getD_eq_getD_getElem?, List.getElem?_toArray, List.getElem?_cons_succ, List.getElem?_cons_zero, Option.getD_some]; try rfl)); (simp only [List.append_toArray, List.cons_append, List.nil_append]); refine Calls.mono (ppop_at (upF i ys i) x junk l T bb off g n cap Hx.out Hrl.out hcap hm hl W _ L hS) ?_; clear hS; rintro e w ⟨rfl, hS⟩; refine ⟨_, rfl, ?_⟩; (simp only [Act.put, List.setIfInBounds_toArray, List.set_cons_succ, List.set_cons_zero, Nat.reduceAdd])))
      go_ret
      exact ⟨rfl, hS⟩
end Go.Proofs.Ytbcokphjpllbiaa
end
