/-
  Put and take at a pile of a book (heap.Push, heap.Pop on the owned row), and which pile is a side's. For every pile.
-/
import Derived.Test.YtbcokphjpllbiaaBkF
set_option linter.unusedSimpArgs false
set_option linter.unusedVariables false
namespace Go.Proofs.Ytbcokphjpllbiaa
open Go.RowKit Go.Sl
/-- Put o into a heap. -/
def pushT (xs : List Ord) (o : Ord) : List Ord := upF xs.length (xs ++ [o]) xs.length
/-- Take the top out of a heap. -/
def popT (xs : List Ord) : List Ord := if h : 0 < xs.length then (popF xs (xs.length - 1) (by omega)).take (xs.length - 1) else []
def popV (xs : List Ord) (h : 0 < xs.length) : Ord := (popF xs (xs.length - 1) (by omega))[xs.length - 1]'(by rw [popF_length]; omega)
theorem pushT_length (xs : List Ord) (o : Ord) : (pushT xs o).length = xs.length + 1 := by simp [pushT, upF_length]
theorem popT_length (xs : List Ord) : (popT xs).length = xs.length - 1 := by
  unfold popT
  split
  · rw [List.length_take, popF_length]; omega
  · simp; omega

theorem hpush_row (xs : List Ord) (o : Ord) (l : List Value) (T : TypeId) (bb off : Nat) (v : Value) (h63 : xs.length ≤ 4294967296) (hl : l[off]? = some v) (W w : World) (L : List HP)
    (hS : St W (blk bb l T :: pileR v xs :: L) w) :
    Calls Try.prog 42 #[.iface 94 (.pointer (some ⟨bb, off, none⟩)), .iface 32 (.agg o.cells.toArray)] w fun e w' => ∃ v', e = .returned (.tuple #[]) ∧ St W (blk bb (l.set off v') T :: pileR v' (pushT xs o) :: L) w' := by
  refine (hpush_spec xs o l T bb off xs.length v rfl h63 hl W w L hS).mono ?_
  rintro e w' ⟨v', rfl, hS⟩
  refine ⟨v', rfl, ?_⟩
  unfold pileR
  rw [pushT_length]
  exact hS

theorem hpop_row (xs : List Ord) (hx : 0 < xs.length) (l : List Value) (T : TypeId) (bb off : Nat) (v : Value) (h63 : xs.length ≤ 4294967296) (hl : l[off]? = some v) (W w : World) (L : List HP)
    (hS : St W (blk bb l T :: pileR v xs :: L) w) :
    Calls Try.prog 45 #[.iface 94 (.pointer (some ⟨bb, off, none⟩))] w fun e w' => ∃ v', e = .returned (.iface 32 (.agg (popV xs hx).cells.toArray)) ∧ St W (blk bb (l.set off v') T :: pileR v' (popT xs) :: L) w' := by
  have h1 := hS.swap.rowOpen
  rcases h1 with ⟨_, h0, _⟩ | ⟨g, cap, junk, rfl, hn1, hm1, hj1, hl1, hS1⟩
  · omega
  · obtain ⟨n, hn⟩ : ∃ n, xs.length = n + 1 := ⟨xs.length - 1, by omega⟩
    have hpt : popT xs = (popF xs n hn).take n := by
      unfold popT
      rw [dif_pos hx]
      simp only [hn, Nat.add_sub_cancel]
    have hpv : popV xs hx = (popF xs n hn)[n]'(by rw [popF_length]; omega) := by
      unfold popV
      simp only [hn, Nat.add_sub_cancel]
    rw [hn] at hn1 hl1 hl
    refine (hpop_spec xs junk l T bb off g n cap hn hn1 hm1 (by omega) hl W w L hS1.swap).mono ?_
    rintro e w' ⟨rfl, hS⟩
    refine ⟨.slice (some ⟨g, 0, none⟩) n cap, by rw [hpv], ?_⟩
    unfold pileR
    rw [popT_length, hn, hpt]
    have e : (popF xs n hn).flatMap Ord.cells ++ junk = ((popF xs n hn).take n).flatMap Ord.cells ++ (((popF xs n hn).drop n).flatMap Ord.cells ++ junk) := by
      rw [← List.append_assoc, ← List.flatMap_append, List.take_append_drop]
    rw [e] at hS
    refine (St.rowShut hS.swap (by omega) hm1 ?_ ?_).swap
    · rw [← e, List.length_append, flat_length Ord.len, popF_length]
      rw [List.length_append, flat_length Ord.len, hn] at hj1
      exact hj1
    · rw [flat_length Ord.len, List.length_take, popF_length]
      simp

/-- The pile of a side of an item. -/
def sideK (k : Nat) (y : Bool) : Nat := cond y k (4 + k)
set_option maxHeartbeats 1000000 in
theorem side_spec (bb k : Nat) (hk : k < 4) (y : Bool) (W w : World) (L : List HP) (hS : St W L w) :
    Calls Try.prog 40 #[.pointer (some ⟨bb, 0, none⟩), .int .i64 k, .bool y] w fun e w' => e = .returned (.pointer (some ⟨bb, sideK k y, none⟩)) ∧ St W L w' := by
  obtain h | h | h | h : k = 0 ∨ k = 1 ∨ k = 2 ∨ k = 3 := by omega
  all_goals subst h
  all_goals cases y
  all_goals go_enter Try.func40, Try.ntmps40
  all_goals go_wp2_with (first | ((with_reducible apply wl_ld1 hS); (with_reducible rfl); rfl; rfl; decide +kernel; (first | exact Cell.here rfl | exact Cell.there (Cell.here rfl) | exact Cell.there (Cell.there (Cell.here rfl)) | exact Cell.there (Cell.there (Cell.there (Cell.here rfl))) | exact Cell.there (Cell.there (Cell.there (Cell.there (Cell.here rfl)))) | exact Cell.there (Cell.there (Cell.there (Cell.there (Cell.there (Cell.here rfl))))) | exact Cell.there (Cell.there (Cell.there (Cell.there (Cell.there (Cell.there (Cell.here rfl)))))) | assumption); (simp only [Act.put, List.setIfInBounds_toArray, List.set_cons_succ, List.set_cons_zero, Nat.reduceAdd])) | ((with_reducible apply wl_ldN hS); (with_reducible rfl); rfl; rfl; decide +kernel; (first | exact Cells.whole | exact Cells.there Cells.whole | exact Cells.there (Cells.there Cells.whole) | exact Cells.there (Cells.there (Cells.there Cells.whole)) | exact Cells.there (Cells.there (Cells.there (Cells.there Cells.whole))) | exact Cells.there (Cells.there (Cells.there (Cells.there (Cells.there Cells.whole)))) | exact Cells.there (Cells.there (Cells.there (Cells.there (Cells.there (Cells.there Cells.whole))))) | assumption); kernel_rfl; (simp only [Act.put, List.setIfInBounds_toArray, List.set_cons_succ, List.set_cons_zero, Nat.reduceAdd])) | ((with_reducible apply wl_st1 hS); (with_reducible rfl); rfl; rfl; (focus ((conv => lhs; whnf); try rfl)); kernel_rfl; rfl; rfl; (first | exact Upd.head | exact Upd.tail Upd.head | exact Upd.tail (Upd.tail Upd.head) | exact Upd.tail (Upd.tail (Upd.tail Upd.head)) | exact Upd.tail (Upd.tail (Upd.tail (Upd.tail Upd.head))) | exact Upd.tail (Upd.tail (Upd.tail (Upd.tail (Upd.tail Upd.head)))) | exact Upd.tail (Upd.tail (Upd.tail (Upd.tail (Upd.tail (Upd.tail Upd.head)))))); (simp only [List.length_cons, List.length_nil]; omega); ((simp only [List.set_cons_zero, List.set_cons_succ, setAll]); rfl); clear hS; intro w hS; try (simp only [Act.put, List.setIfInBounds_toArray, List.set_cons_succ, List.set_cons_zero, Nat.reduceAdd])) | ((with_reducible apply wl_stN hS); (with_reducible rfl); rfl; rfl; (focus ((conv => lhs; whnf); try rfl)); kernel_rfl; rfl; (first | exact Upd.head | exact Upd.tail Upd.head | exact Upd.tail (Upd.tail Upd.head) | exact Upd.tail (Upd.tail (Upd.tail Upd.head)) | exact Upd.tail (Upd.tail (Upd.tail (Upd.tail Upd.head))) | exact Upd.tail (Upd.tail (Upd.tail (Upd.tail (Upd.tail Upd.head)))) | exact Upd.tail (Upd.tail (Upd.tail (Upd.tail (Upd.tail (Upd.tail Upd.head)))))); (simp only [List.length_cons, List.length_nil]; omega); ((simp only [List.set_cons_zero, List.set_cons_succ, setAll]); rfl); clear hS; intro w hS; try (simp only [Act.put, List.setIfInBounds_toArray, List.set_cons_succ, List.set_cons_zero, Nat.reduceAdd])) | ((with_reducible apply wl_box hS); (with_reducible rfl); rfl; rfl; rfl; clear hS; intro b w hS; (simp only [Act.put, List.setIfInBounds_toArray, List.set_cons_succ, List.set_cons_zero, Nat.reduceAdd])) | ((with_reducible apply wl_alloc hS); (with_reducible rfl); rfl; (with_reducible first | exact Ty.z3 | exact Ty.z28 | exact Ty.z32 | exact Ty.z40 | exact Ty.z46 | exact Ty.z69 | exact Ty.z86 | exact Ty.z146); clear hS; intro b w hS; (simp only [Act.put, List.setIfInBounds_toArray, List.set_cons_succ, List.set_cons_zero, Nat.reduceAdd])))
  all_goals go_ret
  all_goals exact ⟨rfl, hS⟩

/-- What an order trades with a pile of the other side: what is left of it, the pile, the trades. -/
def loopF : Nat → Ord → List Ord → List Trd → Ord × List Ord × List Trd
  | 0, o, q, l => (o, q, l)
  | _ + 1, o, [], l => (o, [], l)
  | f + 1, o, x :: q, l =>
    if 0 < o.cnt ∧ meetO o x = true then
      loopF f { o with cnt := o.cnt - (tradeF o x).cnt }
        (if x.cnt - (tradeF o x).cnt = 0 then popT ({ x with cnt := x.cnt - (tradeF o x).cnt } :: q) else { x with cnt := x.cnt - (tradeF o x).cnt } :: q)
        (l ++ [tradeF o x])
    else (o, x :: q, l)
def Bk.pile (b : Bk) (k : Nat) : List Ord := b.ps.getD k []
def itemK (o : Ord) : Nat := o.item.toNat
structure Placed where
  trades : List Trd
  left : Int
  errno : Int
  book : Bk
def placeB (b : Bk) (o : Ord) : Placed :=
  if mayB o = false ∨ o.id ≤ b.last then ⟨[], 0, 1, b⟩
  else if 32 ≤ b.len then ⟨[], 0, 6, b⟩
  else
    let k := sideK (itemK o) (!o.buy)
    let r := loopF ((b.pile k).length + 1) o (b.pile k) []
    let ps := b.ps.set k r.2.1
    let j := sideK (itemK o) o.buy
    ⟨r.2.2, r.1.cnt, 0, ⟨if 0 < r.1.cnt then ps.set j (pushT (ps.getD j []) r.1) else ps, o.id⟩⟩
end Go.Proofs.Ytbcokphjpllbiaa
