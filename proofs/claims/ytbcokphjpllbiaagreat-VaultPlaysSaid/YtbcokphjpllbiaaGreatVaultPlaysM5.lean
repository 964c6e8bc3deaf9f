/-
  Orders, trades, and the small functions on them: what they compute. For every order.
-/
import Derived.Test.YtbcokphjpllbiaaGreatVaultPlaysM3
import Derived.Test.YtbcokphjpllbiaaGreatVaultPlaysM4

section
set_option linter.unusedSimpArgs false
set_option linter.unusedVariables false
namespace Go.Proofs.YtbcokphjpllbiaaGreat
open Go.RowKit Go.Sl
structure Ord where
  id : Int
  who : ByteArray
  buy : Bool
  item : Int
  cnt : Int
  price : Int
def Ord.cells (o : Ord) : List Value := [.int .i64 o.id, .string o.who, .bool o.buy, .int .i64 o.item, .int .i64 o.cnt, .int .i64 o.price]
theorem Ord.len (o : Ord) : o.cells.length = 6 := rfl
structure Trd where
  buyer : ByteArray
  seller : ByteArray
  buy : Int
  sell : Int
  item : Int
  cnt : Int
  price : Int
  bid : Int
def Trd.cells (o : Trd) : List Value := [.string o.buyer, .string o.seller, .int .i64 o.buy, .int .i64 o.sell, .int .i64 o.item, .int .i64 o.cnt, .int .i64 o.price, .int .i64 o.bid]
def minI (a b : Int) : Int := if b < a then b else a
def tradeF (o s : Ord) : Trd :=
  if s.buy then ⟨s.who, o.who, s.id, o.id, o.item, minI o.cnt s.cnt, s.price, s.price⟩ else ⟨o.who, s.who, o.id, s.id, o.item, minI o.cnt s.cnt, s.price, o.price⟩
/-- a stands ahead of b in a pile. -/
def lessO (a b : Ord) : Bool := if a.price = b.price then decide (a.id < b.id) else (decide (a.price < b.price) != a.buy)
/-- Two of one item and unlike sides meet. -/
def meetO (a b : Ord) : Bool := if b.buy then decide (a.price ≤ b.price) else decide (b.price ≤ a.price)
/-- May an order be? -/
structure MayP (o : Ord) : Prop where
  id0 : 1 ≤ o.id
  id1 : o.id ≤ 1099511627776
  who0 : 1 ≤ o.who.size
  who1 : o.who.size ≤ 16
  item0 : 1 ≤ o.item
  item1 : o.item ≤ 3
  cnt0 : 1 ≤ o.cnt
  cnt1 : o.cnt ≤ 1048576
  price0 : 1 ≤ o.price
  price1 : o.price ≤ 1024
def mayB (o : Ord) : Bool := decide (1 ≤ o.id) && decide (o.id ≤ 1099511627776) && decide (1 ≤ o.who.size) && decide (o.who.size ≤ 16) && decide (1 ≤ o.item) && decide (o.item ≤ 3) && decide (1 ≤ o.cnt) && decide (o.cnt ≤ 1048576) && decide (1 ≤ o.price) && decide (o.price ≤ 1024)
theorem mayB_true {o : Ord} : mayB o = true ↔ MayP o := by
  simp only [mayB, Bool.and_eq_true, decide_eq_true_eq]
  exact ⟨fun ⟨⟨⟨⟨⟨⟨⟨⟨⟨a, b⟩, c⟩, d⟩, e⟩, f⟩, g⟩, h⟩, i⟩, j⟩ => ⟨a, b, c, d, e, f, g, h, i, j⟩, fun h => ⟨⟨⟨⟨⟨⟨⟨⟨⟨h.id0, h.id1⟩, h.who0⟩, h.who1⟩, h.item0⟩, h.item1⟩, h.cnt0⟩, h.cnt1⟩, h.price0⟩, h.price1⟩⟩

theorem ta_ord (v : Value) (w : World) : (Instr.typeAssert (.iface 41 v) 20 41 false).run Tryz.prog w = .ok v w := by kernel_rfl
set_option maxHeartbeats 1000000 in
theorem trade_spec (o s : Ord) (W w : World) (L : List HP) (hS : St W L w) :
    Calls Tryz.prog 91 #[.agg o.cells.toArray, .agg s.cells.toArray] w fun e w' => e = .returned (.agg (tradeF o s).cells.toArray) ∧ St W L w' := by
  obtain ⟨i, u, y, t, c, p⟩ := o
  obtain ⟨i', u', y', t', c', p'⟩ := s
  simp only [Ord.cells]
  go_enter Tryz.func91, Tryz.ntmps91
  go_wp2_with (first | ((with_reducible apply wl_box hS); (with_reducible rfl); rfl; rfl; rfl; clear hS; intro b w hS; (simp only [Act.put, fA, fB, fC, Nat.reduceAdd])) | ((with_reducible apply wl_alloc hS); (with_reducible rfl); rfl; (with_reducible first | exact Ty.z41 | exact Ty.z102); clear hS; intro b w hS; (simp only [Act.put, fA, fB, fC, Nat.reduceAdd])))
  refine wp_region_flow2 [0, 0, 0, 0, 13, 31] (fun i => i == 2 || i == 3) [⟨some 2, some 4, fun nd => ptrTo (nd 2) [.int .i64 0, .string ⟨#[]⟩, .bool false, .int .i64 0, .int .i64 0, .int .i64 0] 41⟩, ⟨some 3, some 5, fun nd => ptrTo (nd 3) [.int .i64 0, .string ⟨#[]⟩, .bool false, .int .i64 0, .int .i64 0, .int .i64 0] 41⟩, ⟨some 4, none, fun nd => ptrTo (nd 2) [.int .i64 i, .string u, .bool y, .int .i64 t, .int .i64 c, .int .i64 p] 41⟩, ⟨some 5, none, fun nd => ptrTo (nd 3) [.int .i64 i', .string u', .bool y', .int .i64 t', .int .i64 c', .int .i64 p'] 41⟩]
    [none, none, none] (by kernel_rfl) (by kernel_rfl) rfl hS (CongOk.cons (fun nd nd' h => by dsimp only; rw [h 2 rfl rfl]) (CongOk.cons (fun nd nd' h => by dsimp only; rw [h 3 rfl rfl]) (CongOk.cons (fun nd nd' h => by dsimp only; rw [h 2 rfl rfl]) (CongOk.cons (fun nd nd' h => by dsimp only; rw [h 3 rfl rfl]) CongOk.nil)))) ?_
  intro nd
  (apply ch_ldN; rfl; kernel_rfl; (with_reducible rfl); rfl; rfl; decide +kernel; (intro F; first | exact Cells.whole | exact Cells.there Cells.whole | exact Cells.there (Cells.there Cells.whole) | exact Cells.there (Cells.there (Cells.there Cells.whole)) | exact Cells.there (Cells.there (Cells.there (Cells.there Cells.whole))) | exact Cells.there (Cells.there (Cells.there (Cells.there (Cells.there Cells.whole)))) | exact Cells.there (Cells.there (Cells.there (Cells.there (Cells.there (Cells.there Cells.whole))))) | assumption); kernel_rfl; (simp only [Act.put, fA, fB, fC, Nat.reduceAdd]))
  (apply ch_ldN; rfl; kernel_rfl; (with_reducible rfl); rfl; rfl; decide +kernel; (intro F; first | exact Cells.whole | exact Cells.there Cells.whole | exact Cells.there (Cells.there Cells.whole) | exact Cells.there (Cells.there (Cells.there Cells.whole)) | exact Cells.there (Cells.there (Cells.there (Cells.there Cells.whole))) | exact Cells.there (Cells.there (Cells.there (Cells.there (Cells.there Cells.whole)))) | exact Cells.there (Cells.there (Cells.there (Cells.there (Cells.there (Cells.there Cells.whole))))) | assumption); kernel_rfl; (simp only [Act.put, fA, fB, fC, Nat.reduceAdd]))
  (apply ch_alloc; rfl; (with_reducible rfl); rfl; (intro _; rfl); (with_reducible first | exact Ty.z41 | exact Ty.z102); rfl; (intro _; rfl); (simp only [Act.put, fA, fB, fC, Nat.reduceAdd]))
  (apply ch_alloc; rfl; (with_reducible rfl); rfl; (intro _; rfl); (with_reducible first | exact Ty.z41 | exact Ty.z102); rfl; (intro _; rfl); (simp only [Act.put, fA, fB, fC, Nat.reduceAdd]))
  (apply ch_stTo; rfl; (with_reducible rfl); rfl; (focus ((conv => lhs; whnf); try rfl)); (focus ((conv => lhs; whnf); try rfl)); (focus ((conv => lhs; whnf); try rfl)); kernel_rfl; rfl; rfl; (simp only [List.length_cons, List.length_nil]; omega); rfl; rfl; try (simp only [Act.put, fA, fB, fC, Nat.reduceAdd]))
  (apply ch_stTo; rfl; (with_reducible rfl); rfl; (focus ((conv => lhs; whnf); try rfl)); (focus ((conv => lhs; whnf); try rfl)); (focus ((conv => lhs; whnf); try rfl)); kernel_rfl; rfl; rfl; (simp only [List.length_cons, List.length_nil]; omega); rfl; rfl; try (simp only [Act.put, fA, fB, fC, Nat.reduceAdd]))
  refine ch_end ?_
  clear hS
  intro w hS
  have hS : St W [ptrTo (nd 2) _ _, ptrTo (nd 3) _ _, _, _, _, sats L] w := hS
  generalize nd 2 = v5 at *
  generalize nd 3 = v6 at *
  have h1 := hS.ptr; clear hS; obtain ⟨b5, rfl, hS⟩ := h1
  replace hS := hS.swap
  have h1 := hS.ptr; clear hS; obtain ⟨b6, rfl, hS⟩ := h1
  replace hS := hS.unpack [_, _, _, _, _]
  simp only [List.cons_append, List.nil_append] at hS
  cases y'
  · go_wp2_with (first | ((with_reducible apply wl_ld1 hS); (with_reducible rfl); rfl; rfl; decide +kernel; (first | (focus((repeat(first|exact Cell.here rfl | apply Cell.there)); done)) | assumption); (simp only [Act.put, fA, fB, fC, Nat.reduceAdd])) | ((with_reducible apply wl_stN hS); (with_reducible rfl); rfl; rfl; (focus ((conv => lhs; whnf); try rfl)); kernel_rfl; rfl; ((focus((repeat(first|exact Upd.head | apply Upd.tail)); done))); (simp only [List.length_cons, List.length_nil]; omega); ((simp only [List.set_cons_zero, List.set_cons_succ, setAll]); rfl); clear hS; intro w hS; try (simp only [Act.put, fA, fB, fC, Nat.reduceAdd])))
    all_goals
      (apply bp_cell; rfl; rfl; rfl; exact hS; decide +kernel; (first | (focus((repeat(first|exact Cells.whole | apply Cells.there)); done)) | assumption); kernel_rfl)
      exact ⟨by simp [tradeF, Trd.cells, minI, *], hS.drop.drop.drop.drop.drop⟩
  · go_wp2_with (first | ((with_reducible apply wl_ld1 hS); (with_reducible rfl); rfl; rfl; decide +kernel; (first | (focus((repeat(first|exact Cell.here rfl | apply Cell.there)); done)) | assumption); (simp only [Act.put, fA, fB, fC, Nat.reduceAdd])))
    refine wp_region_flow2 [0, 0, 1, 7] (fun i => false) [⟨some 2, none, fun nd => blk b5 [.int .i64 i', .string u', .bool true, .int .i64 t', .int .i64 c', .int .i64 p'] 41⟩, ⟨some 3, none, fun nd => blk b6 [.int .i64 i, .string u, .bool y, .int .i64 t, .int .i64 c, .int .i64 p] 41⟩] [some 3, some 2, none, none, none] (by kernel_rfl) (by kernel_rfl) rfl hS (CongOk.cons (fun _ _ _ => rfl) (CongOk.cons (fun _ _ _ => rfl) CongOk.nil)) ?_
    intro nd
    (apply ch_ldN; rfl; kernel_rfl; (with_reducible rfl); rfl; rfl; decide +kernel; (intro F; first | exact Cells.whole | exact Cells.there Cells.whole | exact Cells.there (Cells.there Cells.whole) | exact Cells.there (Cells.there (Cells.there Cells.whole)) | exact Cells.there (Cells.there (Cells.there (Cells.there Cells.whole))) | exact Cells.there (Cells.there (Cells.there (Cells.there (Cells.there Cells.whole)))) | exact Cells.there (Cells.there (Cells.there (Cells.there (Cells.there (Cells.there Cells.whole))))) | assumption); kernel_rfl; (simp only [Act.put, fA, fB, fC, Nat.reduceAdd]))
    (apply ch_ldN; rfl; kernel_rfl; (with_reducible rfl); rfl; rfl; decide +kernel; (intro F; first | exact Cells.whole | exact Cells.there Cells.whole | exact Cells.there (Cells.there Cells.whole) | exact Cells.there (Cells.there (Cells.there Cells.whole)) | exact Cells.there (Cells.there (Cells.there (Cells.there Cells.whole))) | exact Cells.there (Cells.there (Cells.there (Cells.there (Cells.there Cells.whole)))) | exact Cells.there (Cells.there (Cells.there (Cells.there (Cells.there (Cells.there Cells.whole))))) | assumption); kernel_rfl; (simp only [Act.put, fA, fB, fC, Nat.reduceAdd]))
    (apply ch_st; rfl; (with_reducible rfl); rfl; rfl; (focus ((conv => lhs; whnf); try rfl)); (focus ((conv => lhs; whnf); try rfl)); kernel_rfl; rfl; rfl; (simp only [List.length_cons, List.length_nil]; omega); rfl; rfl; try (simp only [Act.put, fA, fB, fC, Nat.reduceAdd]))
    (apply ch_st; rfl; (with_reducible rfl); rfl; rfl; (focus ((conv => lhs; whnf); try rfl)); (focus ((conv => lhs; whnf); try rfl)); kernel_rfl; rfl; rfl; (simp only [List.length_cons, List.length_nil]; omega); rfl; rfl; try (simp only [Act.put, fA, fB, fC, Nat.reduceAdd]))
    refine ch_end ?_
    clear hS
    intro w hS
    have hS : St W [blk b5 _ _, blk b6 _ _, _, _, _, sats L] w := hS
    replace hS := hS.unpack [_, _, _, _, _]
    simp only [List.cons_append, List.nil_append] at hS
    go_wp2_with (first | ((with_reducible apply wl_ld1 hS); (with_reducible rfl); rfl; rfl; decide +kernel; (first | (focus((repeat(first|exact Cell.here rfl | apply Cell.there)); done)) | assumption); (simp only [Act.put, fA, fB, fC, Nat.reduceAdd])) | ((with_reducible apply wl_stN hS); (with_reducible rfl); rfl; rfl; (focus ((conv => lhs; whnf); try rfl)); kernel_rfl; rfl; ((focus((repeat(first|exact Upd.head | apply Upd.tail)); done))); (simp only [List.length_cons, List.length_nil]; omega); ((simp only [List.set_cons_zero, List.set_cons_succ, setAll]); rfl); clear hS; intro w hS; try (simp only [Act.put, fA, fB, fC, Nat.reduceAdd])))
    all_goals
      (apply bp_cell; rfl; rfl; rfl; exact hS; decide +kernel; (first | (focus((repeat(first|exact Cells.whole | apply Cells.there)); done)) | assumption); kernel_rfl)
      exact ⟨by simp [tradeF, Trd.cells, minI, *], hS.drop.drop.drop.drop.drop⟩

set_option maxHeartbeats 1000000 in
theorem meet_spec (o s : Ord) (W w : World) (L : List HP) (hS : St W L w) :
    Calls Tryz.prog 84 #[.agg o.cells.toArray, .agg s.cells.toArray] w fun e w' => e = .returned (.bool (meetO o s)) ∧ St W L w' := by
  obtain ⟨i, u, y, t, c, p⟩ := o
  obtain ⟨i', u', y', t', c', p'⟩ := s
  simp only [Ord.cells]
  go_enter Tryz.func84, Tryz.ntmps84
  go_wp2_with (first | ((with_reducible apply wl_ld1 hS); (with_reducible rfl); rfl; rfl; decide +kernel; (first | (focus((repeat(first|exact Cell.here rfl | apply Cell.there)); done)) | assumption); (simp only [Act.put, fA, fB, fC, Nat.reduceAdd])) | ((with_reducible apply wl_ldN hS); (with_reducible rfl); rfl; rfl; decide +kernel; (first | (focus((repeat(first|exact Cells.whole | apply Cells.there)); done)) | assumption); kernel_rfl; (simp only [Act.put, fA, fB, fC, Nat.reduceAdd])) | ((with_reducible apply wl_stN hS); (with_reducible rfl); rfl; rfl; (focus ((conv => lhs; whnf); try rfl)); kernel_rfl; rfl; ((focus((repeat(first|exact Upd.head | apply Upd.tail)); done))); (simp only [List.length_cons, List.length_nil]; omega); ((simp only [List.set_cons_zero, List.set_cons_succ, setAll]); rfl); clear hS; intro w hS; try (simp only [Act.put, fA, fB, fC, Nat.reduceAdd])) | ((with_reducible apply wl_box hS); (with_reducible rfl); rfl; rfl; rfl; clear hS; intro b w hS; (simp only [Act.put, fA, fB, fC, Nat.reduceAdd])))
  all_goals go_ret
  all_goals exact ⟨by simp [meetO, *], hS.drop.drop⟩

set_option maxHeartbeats 1000000 in
theorem less_spec (xs : List Ord) (junk : List Value) (g n cap i j : Nat) (hn : xs.length = n) (hi : i < xs.length) (hj : j < xs.length) (hcap : n ≤ cap) (hm : cap ≤ maxLen) (W w : World) (L : List HP) (hS : St W (blk g (xs.flatMap Ord.cells ++ junk) 41 :: L) w) :
    Calls Tryz.prog 163 #[.slice (some ⟨g, 0, none⟩) n cap, .int .i64 i, .int .i64 j] w fun e w' => e = .returned (.bool (lessO xs[i] xs[j])) ∧ St W (blk g (xs.flatMap Ord.cells ++ junk) 41 :: L) w' := by
  subst hn
  unfold maxLen at hm
  go_enter Tryz.func163, Tryz.ntmps163
  go_wp2_with (fail)
  refine wp_region_flow2 [0, 0, 3, 7, 0, 0, 48, 112, 0, 0, 783, 2047] (fun i => i == 8 || i == 9) [⟨some 8, some 10, fun nd => ptrTo (nd 8) [.int .i64 0, .string ⟨#[]⟩, .bool false, .int .i64 0, .int .i64 0, .int .i64 0] 41⟩, ⟨some 9, some 11, fun nd => ptrTo (nd 9) [.int .i64 0, .string ⟨#[]⟩, .bool false, .int .i64 0, .int .i64 0, .int .i64 0] 41⟩, ⟨some 10, none, fun nd => ptrTo (nd 8) xs[i].cells 41⟩, ⟨some 11, none, fun nd => ptrTo (nd 9) xs[j].cells 41⟩]
    [none] (by kernel_rfl) (by kernel_rfl) rfl hS (CongOk.cons (fun nd nd' h => by dsimp only; rw [h 8 rfl rfl]) (CongOk.cons (fun nd nd' h => by dsimp only; rw [h 9 rfl rfl]) (CongOk.cons (fun nd nd' h => by dsimp only; rw [h 8 rfl rfl]) (CongOk.cons (fun nd nd' h => by dsimp only; rw [h 9 rfl rfl]) CongOk.nil)))) ?_
  intro nd
  (refine ch_pure rfl (by kernel_rfl) rfl rfl ?_; intro K hK; go_big_quiet_op; go_big_quiet_on)
  (refine ch_pure rfl (by kernel_rfl) rfl rfl ?_; intro K hK; go_big_quiet_op; go_big_quiet_on)
  (refine ch_pure rfl (by kernel_rfl) rfl rfl ?_; intro K hK; go_big_quiet_op; go_big_quiet_on)
  apply ch_ldN; rfl; kernel_rfl; (with_reducible rfl); rfl; rfl; decide +kernel; (intro F; exact Cells.elem Ord.len hi); kernel_rfl; (simp only [Act.put, fA, fB, fC, Nat.reduceAdd])
  (refine ch_pure rfl (by kernel_rfl) rfl rfl ?_; intro K hK; go_big_quiet_op; go_big_quiet_on)
  (refine ch_pure rfl (by kernel_rfl) rfl rfl ?_; intro K hK; go_big_quiet_op; go_big_quiet_on)
  (refine ch_pure rfl (by kernel_rfl) rfl rfl ?_; intro K hK; go_big_quiet_op; go_big_quiet_on)
  apply ch_ldN; rfl; kernel_rfl; (with_reducible rfl); rfl; rfl; decide +kernel; (intro F; exact Cells.elem Ord.len hj); kernel_rfl; (simp only [Act.put, fA, fB, fC, Nat.reduceAdd])
  (apply ch_alloc; rfl; (with_reducible rfl); rfl; (intro _; rfl); (exact Ty.z41); rfl; (intro _; rfl); (simp only [Act.put, fA, fB, fC, Nat.reduceAdd]))
  (apply ch_alloc; rfl; (with_reducible rfl); rfl; (intro _; rfl); (exact Ty.z41); rfl; (intro _; rfl); (simp only [Act.put, fA, fB, fC, Nat.reduceAdd]))
  (apply ch_stTo; rfl; (with_reducible rfl); rfl; (focus ((conv => lhs; whnf); try rfl)); (focus ((conv => lhs; whnf); try rfl)); (focus ((conv => lhs; whnf); try rfl)); kernel_rfl; rfl; rfl; (simp only [List.length_cons, List.length_nil]; omega); rfl; rfl; try (simp only [Act.put, fA, fB, fC, Nat.reduceAdd]))
  (apply ch_stTo; rfl; (with_reducible rfl); rfl; (focus ((conv => lhs; whnf); try rfl)); (focus ((conv => lhs; whnf); try rfl)); (focus ((conv => lhs; whnf); try rfl)); kernel_rfl; rfl; rfl; (simp only [List.length_cons, List.length_nil]; omega); rfl; rfl; try (simp only [Act.put, fA, fB, fC, Nat.reduceAdd]))
  refine ch_end ?_
  clear hS
  intro w hS
  have hS : St W [ptrTo (nd 8) xs[i].cells _, ptrTo (nd 9) xs[j].cells _, _, sats L] w := hS
  generalize nd 8 = v8 at *
  generalize nd 9 = v9 at *
  have h1 := hS.ptr; clear hS; obtain ⟨b8, rfl, hS⟩ := h1
  replace hS := hS.swap
  have h1 := hS.ptr; clear hS; obtain ⟨b9, rfl, hS⟩ := h1
  replace hS := hS.unpack [_, _, _]
  simp only [List.cons_append, List.nil_append] at hS
  generalize ha : xs[i] = a at hS
  generalize hb : xs[j] = b at hS
  have Ha := Lib.hid ha
  have Hb := Lib.hid hb
  clear ha hb
  obtain ⟨i1, u1, y1, t1, c1, p1⟩ := a
  obtain ⟨i2, u2, y2, t2, c2, p2⟩ := b
  simp only [Ord.cells] at hS
  by_cases hp : p1 = p2
  · subst hp
    go_wp2_with (first | ((with_reducible apply wl_ld1 hS); (with_reducible rfl); rfl; rfl; decide +kernel; (first | (focus((repeat(first|exact Cell.here rfl | apply Cell.there)); done)) | assumption); (simp only [Act.put, fA, fB, fC, Nat.reduceAdd])))
    go_ret
    exact ⟨by rw [Ha.out, Hb.out]; simp [lessO], hS.drop.drop⟩
  · have hp' : (p1 == p2) = false := by simpa using hp
    have hp'' : (p1 != p2) = true := by simpa using hp
    go_wp2_with (first | ((with_reducible apply wl_ld1 hS); (with_reducible rfl); rfl; rfl; decide +kernel; (first | (focus((repeat(first|exact Cell.here rfl | apply Cell.there)); done)) | assumption); (simp only [Act.put, fA, fB, fC, Nat.reduceAdd])))
    go_ret
    exact ⟨by rw [Ha.out, Hb.out]; simp [lessO, hp]; cases decide (p1 < p2) <;> cases y1 <;> rfl, hS.drop.drop⟩
theorem less_at {xs : List Ord} {i j : Nat} {hi : i < xs.length} {hj : j < xs.length} {b : Bool} (hb : lessO xs[i] xs[j] = b) (junk : List Value) (g n cap : Nat) (hn : xs.length = n) (hcap : n ≤ cap) (hm : cap ≤ maxLen) (W w : World) (L : List HP) (hS : St W (blk g (xs.flatMap Ord.cells ++ junk) 41 :: L) w) :
    Calls Tryz.prog 163 #[.slice (some ⟨g, 0, none⟩) n cap, .int .i64 i, .int .i64 j] w fun e w' => e = .returned (.bool b) ∧ St W (blk g (xs.flatMap Ord.cells ++ junk) 41 :: L) w' := by
  subst hb
  exact less_spec xs junk g n cap i j hn hi hj hcap hm W w L hS
end Go.Proofs.YtbcokphjpllbiaaGreat
end
