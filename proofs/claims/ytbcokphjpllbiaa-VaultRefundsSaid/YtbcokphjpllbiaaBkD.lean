/-
  heap.Push, heap.Pop, heap.Remove at a pile of orders: what becomes of the row. For every row.
-/
import Derived.Test.YtbcokphjpllbiaaBkC
set_option linter.unusedSimpArgs false
set_option linter.unusedVariables false
namespace Go.Proofs.Ytbcokphjpllbiaa
open Go.RowKit Go.Sl
set_option maxRecDepth 100000 in
set_option maxHeartbeats 1000000 in
theorem hpush_spec (xs : List Ord) (o : Ord) (l : List Value) (T : TypeId) (bb off n : Nat) (v : Value) (hn : xs.length = n) (h63 : n ≤ 4294967296) (hl : l[off]? = some v) (W w : World) (L : List HP)
    (hS : St W (blk bb l T :: row v 6 32 n (xs.flatMap Ord.cells) :: L) w) :
    Calls Try.prog 42 #[.iface 94 (.pointer (some ⟨bb, off, none⟩)), .iface 32 (.agg o.cells.toArray)] w fun e w' => ∃ v', e = .returned (.tuple #[]) ∧ St W (blk bb (l.set off v') T :: row v' 6 32 (n + 1) ((upF n (xs ++ [o]) n).flatMap Ord.cells) :: L) w' := by
  have hlt : off < l.length := (List.getElem?_eq_some_iff.1 hl).1
  go_enter Try.func42, Try.ntmps42
  have Hlen := Lib.hid (show (xs ++ [o]).length = n + 1 by simp [hn])
  have Hn := Lib.hid hn
  have Hl := Lib.hid hl
  clear hn hl
  go_wp2_with (first
    | ((with_reducible apply wl_inv_ptr 117); (with_reducible rfl); rfl; rfl; decide +kernel; decide +kernel; decide +kernel; (focus (simp only [List.map_toArray, List.map_cons, List.map_nil, Act.eval, Array.getD_eq_getD_getElem?, List.getElem?_toArray, List.getElem?_cons_succ, List.getElem?_cons_zero, Option.getD_some]; try rfl)); (simp only [List.append_toArray, List.cons_append, List.nil_append]); refine Calls.mono (ppush_spec xs o l T bb off n v Hn.out h63 Hl.out W _ L hS) ?_; clear hS; rintro e w ⟨v', rfl, hS⟩; refine ⟨_, rfl, ?_⟩; (simp only [Act.put, List.setIfInBounds_toArray, List.set_cons_succ, List.set_cons_zero, Nat.reduceAdd]); have h1 := hS.swap.rowOpen; clear hS; rcases h1 with ⟨_, h0, _⟩ | ⟨g, cap, junk, rfl, hn1, hm1, hj1, hl1, hS⟩; (exfalso; omega); have hm' : cap ≤ 9223372036854775807 := (by unfold maxLen at hm1; omega))
    | ((with_reducible apply wl_inv_val 113 hS); (with_reducible rfl); rfl; rfl; decide +kernel; decide +kernel; decide +kernel; (first | exact Cell.there (Cell.here (List.getElem?_set_self hlt)) | first | exact Cell.here rfl | exact Cell.there (Cell.here rfl) | exact Cell.there (Cell.there (Cell.here rfl)) | exact Cell.there (Cell.there (Cell.there (Cell.here rfl))) | exact Cell.there (Cell.there (Cell.there (Cell.there (Cell.here rfl)))) | exact Cell.there (Cell.there (Cell.there (Cell.there (Cell.there (Cell.here rfl))))) | exact Cell.there (Cell.there (Cell.there (Cell.there (Cell.there (Cell.there (Cell.here rfl)))))) | assumption); (focus (simp only [List.map_toArray, List.map_cons, List.map_nil, Act.eval, Array.getD_eq_getD_getElem?, List.getElem?_toArray, List.getElem?_cons_succ, List.getElem?_cons_zero, Option.getD_some]; try rfl)); (simp only [List.append_toArray, List.cons_append, List.nil_append]); refine Calls.mono (plen_spec _ (n + 1) cap W _ _ hS) ?_; (clear hS; rintro e w ⟨rfl, hS⟩; refine ⟨_, rfl, ?_⟩; try (simp only [Act.put, List.setIfInBounds_toArray, List.set_cons_succ, List.set_cons_zero, Nat.reduceAdd])))
    | (go_at_call 59; refine (up_spec (xs ++ [o]) junk _ T bb off g (n + 1) cap n Hlen.out (by omega) hn1 hm1 (List.getElem?_set_self hlt) W _ L hS.swap).mono ?_; clear hS; rintro e w ⟨rfl, hS⟩))
  go_end0
  refine ⟨.slice (some ⟨g, 0, none⟩) (n + 1) cap, rfl, ?_⟩
  have hS := hS.swap
  refine (St.rowShut hS hn1 hm1 ?_ ?_).swap
  · rw [List.length_append, flat_length Ord.len, upF_length, Hlen.out]
    rw [List.length_append, hl1] at hj1
    exact hj1
  · rw [flat_length Ord.len, upF_length, Hlen.out]

/-- What heap.Pop leaves of the row: the last one is handed back. -/
def popF (xs : List Ord) (n : Nat) (h : xs.length = n + 1) : List Ord := (downF n (swapL xs 0 n (by omega) (by omega)) 0 n).1
theorem popF_length {xs : List Ord} {n : Nat} (h : xs.length = n + 1) : (popF xs n h).length = n + 1 := by rw [popF, downF_length, swapL_length, h]

set_option maxRecDepth 100000 in
set_option maxHeartbeats 1000000 in
theorem hpop_spec (xs : List Ord) (junk l : List Value) (T : TypeId) (bb off g n cap : Nat) (hn : xs.length = n + 1) (hcap : n + 1 ≤ cap) (hm : cap ≤ maxLen) (h63 : n ≤ 4294967296) (hl : l[off]? = some (.slice (some ⟨g, 0, none⟩) (n + 1) cap)) (W w : World) (L : List HP)
    (hS : St W (blk bb l T :: blk g (xs.flatMap Ord.cells ++ junk) 32 :: L) w) :
    Calls Try.prog 45 #[.iface 94 (.pointer (some ⟨bb, off, none⟩))] w fun e w' => e = .returned (.iface 32 (.agg ((popF xs n hn)[n]'(by rw [popF_length]; omega)).cells.toArray)) ∧
      St W (blk bb (l.set off (.slice (some ⟨g, 0, none⟩) n cap)) T :: blk g ((popF xs n hn).flatMap Ord.cells ++ junk) 32 :: L) w' := by
  have hm' : cap ≤ 9223372036854775807 := by unfold maxLen at hm; omega
  have Hn := Lib.hid hn
  go_enter Try.func45, Try.ntmps45
  go_wp2_with (first | ((with_reducible apply wl_inv_val 113 hS); (with_reducible rfl); rfl; rfl; decide +kernel; decide +kernel; decide +kernel; (first | exact Cell.here hl | first | exact Cell.here rfl | exact Cell.there (Cell.here rfl) | exact Cell.there (Cell.there (Cell.here rfl)) | exact Cell.there (Cell.there (Cell.there (Cell.here rfl))) | exact Cell.there (Cell.there (Cell.there (Cell.there (Cell.here rfl)))) | exact Cell.there (Cell.there (Cell.there (Cell.there (Cell.there (Cell.here rfl))))) | exact Cell.there (Cell.there (Cell.there (Cell.there (Cell.there (Cell.there (Cell.here rfl)))))) | assumption); (focus (simp only [List.map_toArray, List.map_cons, List.map_nil, Act.eval, Array.getD_eq_getD_getElem?, List.getElem?_toArray, List.getElem?_cons_succ, List.getElem?_cons_zero, Option.getD_some]; try rfl)); (simp only [List.append_toArray, List.cons_append, List.nil_append]); refine Calls.mono (plen_spec _ (n + 1) cap W _ _ hS) ?_; (clear hS; rintro e w ⟨rfl, hS⟩; refine ⟨_, rfl, ?_⟩; try (simp only [Act.put, List.setIfInBounds_toArray, List.set_cons_succ, List.set_cons_zero, Nat.reduceAdd]))) | ((with_reducible apply wl_inv_val 115 hS); (with_reducible rfl); rfl; rfl; decide +kernel; decide +kernel; decide +kernel; (first | exact Cell.here hl | first | exact Cell.here rfl | exact Cell.there (Cell.here rfl) | exact Cell.there (Cell.there (Cell.here rfl)) | exact Cell.there (Cell.there (Cell.there (Cell.here rfl))) | exact Cell.there (Cell.there (Cell.there (Cell.there (Cell.here rfl)))) | exact Cell.there (Cell.there (Cell.there (Cell.there (Cell.there (Cell.here rfl))))) | exact Cell.there (Cell.there (Cell.there (Cell.there (Cell.there (Cell.there (Cell.here rfl)))))) | assumption); (focus (simp only [List.map_toArray, List.map_cons, List.map_nil, Act.eval, Array.getD_eq_getD_getElem?, List.getElem?_toArray, List.getElem?_cons_succ, List.getElem?_cons_zero, Option.getD_some]; try rfl)); (simp only [List.append_toArray, List.cons_append, List.nil_append]); refine Calls.mono (pswap_spec xs junk g (n + 1) cap 0 n Hn.out (by omega) (by omega) hcap hm _ _ _ hS.swap) ?_; (clear hS; rintro e w ⟨rfl, hS⟩; refine ⟨_, rfl, ?_⟩; try (simp only [Act.put, List.setIfInBounds_toArray, List.set_cons_succ, List.set_cons_zero, Nat.reduceAdd]))) | (go_at_call 60; refine (down_spec (swapL xs 0 n (by omega) (by omega)) junk l T bb off g (n + 1) cap 0 n (by rw [swapL_length]; exact Hn.out) (by omega) (by omega) h63 hcap hm hl W _ L hS.swap).mono ?_; clear hS; rintro e w ⟨rfl, hS⟩) | ((with_reducible apply wl_inv_ptr 116); (with_reducible rfl); rfl; rfl; decide +kernel; decide +kernel; decide +kernel; (focus (simp only [List.map_toArray, List.map_cons, List.map_nil, Act.eval, Array.getD_eq_getD_getElem?, List.getElem?_toArray, List.getElem?_cons_succ, List.getElem?_cons_zero, Option.getD_some]; try rfl)); (simp only [List.append_toArray, List.cons_append, List.nil_append]); refine Calls.mono (ppop_spec (popF xs n hn) junk l T bb off g n cap (popF_length hn) hcap hm hl W _ L hS) ?_; clear hS; rintro e w ⟨rfl, hS⟩; refine ⟨_, rfl, ?_⟩; (simp only [Act.put, List.setIfInBounds_toArray, List.set_cons_succ, List.set_cons_zero, Nat.reduceAdd])))
  go_ret
  exact ⟨rfl, hS⟩

/-- What heap.Remove leaves of the row: the last one is handed back. -/
def remF (xs : List Ord) (i n : Nat) (h : xs.length = n + 1) (hi : i ≤ n) : List Ord :=
  if i = n then xs else
    if i < (downF n (swapL xs i n (by omega) (by omega)) i n).2 then (downF n (swapL xs i n (by omega) (by omega)) i n).1
    else upF i (downF n (swapL xs i n (by omega) (by omega)) i n).1 i
theorem remF_length {xs : List Ord} {i n : Nat} (h : xs.length = n + 1) (hi : i ≤ n) : (remF xs i n h hi).length = n + 1 := by
  unfold remF
  split
  · exact h
  · split
    · rw [downF_length, swapL_length, h]
    · rw [upF_length, downF_length, swapL_length, h]

theorem ppop_at (xs : List Ord) (x : Ord) (junk : List Value) (l : List Value) (T : TypeId) (bb off g n cap : Nat) (hx : xs[n]? = some x) (hn : xs.length = n + 1) (hcap : n + 1 ≤ cap) (hm : cap ≤ maxLen) (hl : l[off]? = some (.slice (some ⟨g, 0, none⟩) (n + 1) cap)) (W w : World) (L : List HP)
    (hS : St W (blk bb l T :: blk g (xs.flatMap Ord.cells ++ junk) 32 :: L) w) :
    Calls Try.prog 116 #[.pointer (some ⟨bb, off, none⟩)] w fun e w' => e = .returned (.iface 32 (.agg x.cells.toArray)) ∧ St W (blk bb (l.set off (.slice (some ⟨g, 0, none⟩) n cap)) T :: blk g (xs.flatMap Ord.cells ++ junk) 32 :: L) w' := by
  have h : n < xs.length := by omega
  have e : xs[n] = x := by rw [List.getElem?_eq_getElem h] at hx; exact Option.some.inj hx
  rw [← e]
  exact ppop_spec xs junk l T bb off g n cap hn hcap hm hl W w L hS
set_option maxRecDepth 100000 in
set_option maxHeartbeats 4000000 in
theorem hrem_spec (xs zs : List Ord) (x : Ord) (junk l : List Value) (T : TypeId) (bb off g i n cap : Nat) (hn : xs.length = n + 1) (hi : i ≤ n) (hr : remF xs i n hn hi = zs) (hx : zs[n]? = some x) (hcap : n + 1 ≤ cap) (hm : cap ≤ maxLen) (h63 : n ≤ 4294967296) (hl : l[off]? = some (.slice (some ⟨g, 0, none⟩) (n + 1) cap)) (W w : World) (L : List HP)
    (hS : St W (blk bb l T :: blk g (xs.flatMap Ord.cells ++ junk) 32 :: L) w) :
    Calls Try.prog 52 #[.iface 94 (.pointer (some ⟨bb, off, none⟩)), .int .i64 i] w fun e w' => e = .returned (.iface 32 (.agg x.cells.toArray)) ∧
      St W (blk bb (l.set off (.slice (some ⟨g, 0, none⟩) n cap)) T :: blk g (zs.flatMap Ord.cells ++ junk) 32 :: L) w' := by
  have hm' : cap ≤ 9223372036854775807 := by unfold maxLen at hm; omega
  have Hrl := Lib.hid (show zs.length = n + 1 from hr ▸ remF_length hn hi)
  have Hx := Lib.hid hx
  clear hx
  have hi63 : i ≤ 4294967296 := by omega
  by_cases hin : i = n
  · unfold remF at hr
    rw [if_pos hin] at hr
    subst hin hr
    clear hn
    have hne : ((i : Int) != (i : Int)) = false := by simp
    obtain ⟨n, rfl⟩ : ∃ n, n = i := ⟨_, rfl⟩
    go_enter Try.func52, Try.ntmps52
    go_wp2_with (first | ((with_reducible apply wl_inv_val 113 hS); (with_reducible rfl); rfl; rfl; decide +kernel; decide +kernel; decide +kernel; (first | exact Cell.here hl | first | exact Cell.here rfl | exact Cell.there (Cell.here rfl) | exact Cell.there (Cell.there (Cell.here rfl)) | exact Cell.there (Cell.there (Cell.there (Cell.here rfl))) | exact Cell.there (Cell.there (Cell.there (Cell.there (Cell.here rfl)))) | exact Cell.there (Cell.there (Cell.there (Cell.there (Cell.there (Cell.here rfl))))) | exact Cell.there (Cell.there (Cell.there (Cell.there (Cell.there (Cell.there (Cell.here rfl)))))) | assumption); (focus (simp only [List.map_toArray, List.map_cons, List.map_nil, Act.eval, Array.getD_eq_getD_getElem?, List.getElem?_toArray, List.getElem?_cons_succ, List.getElem?_cons_zero, Option.getD_some]; try rfl)); (simp only [List.append_toArray, List.cons_append, List.nil_append]); refine Calls.mono (plen_spec _ (n + 1) cap W _ _ hS) ?_; (clear hS; rintro e w ⟨rfl, hS⟩; refine ⟨_, rfl, ?_⟩; try (simp only [Act.put, List.setIfInBounds_toArray, List.set_cons_succ, List.set_cons_zero, Nat.reduceAdd]))) | ((with_reducible apply wl_inv_ptr 116); (with_reducible rfl); rfl; rfl; decide +kernel; decide +kernel; decide +kernel; (focus (simp only [List.map_toArray, List.map_cons, List.map_nil, Act.eval, Array.getD_eq_getD_getElem?, List.getElem?_toArray, List.getElem?_cons_succ, List.getElem?_cons_zero, Option.getD_some]; try rfl)); (simp only [List.append_toArray, List.cons_append, List.nil_append]); refine Calls.mono (ppop_at xs x junk l T bb off g n cap Hx.out Hrl.out hcap hm hl W _ L hS) ?_; clear hS; rintro e w ⟨rfl, hS⟩; refine ⟨_, rfl, ?_⟩; (simp only [Act.put, List.setIfInBounds_toArray, List.set_cons_succ, List.set_cons_zero, Nat.reduceAdd])))
    go_ret
    exact ⟨rfl, hS⟩
  · have hlt : i < n := by omega
    have hil : i < xs.length := by omega
    have hnl : n < xs.length := by omega
    have hne : ((n : Int) != (i : Int)) = true := by simp; omega
    unfold remF at hr
    rw [if_neg hin] at hr
    have Hsw := Lib.hid (fun w L hS => pswap_spec xs junk g (n + 1) cap i n hn hil hnl hcap hm W w L hS)
    have hds := down_spec (swapL xs i n hil hnl) junk l T bb off g (n + 1) cap i n (by rw [swapL_length]; exact hn) (by omega) hi63 h63 hcap hm hl
    have hdl := downF_length n (swapL xs i n hil hnl) i n
    rw [swapL_length, hn] at hdl
    generalize downF n (swapL xs i n hil hnl) i n = d at hr hdl hds
    obtain ⟨ys, k⟩ := d
    have Hdl := Lib.hid hdl
    have Hds := Lib.hid hds
    clear hdl hn hds
    by_cases hk : i < k
    · rw [if_pos hk] at hr
      subst hr
      have hkd : decide (i < k) = true := by simpa using hk
      go_enter Try.func52, Try.ntmps52
      go_wp2_with (first | ((with_reducible apply wl_inv_val 113 hS); (with_reducible rfl); rfl; rfl; decide +kernel; decide +kernel; decide +kernel; (first | exact Cell.here hl | first | exact Cell.here rfl | exact Cell.there (Cell.here rfl) | exact Cell.there (Cell.there (Cell.here rfl)) | exact Cell.there (Cell.there (Cell.there (Cell.here rfl))) | exact Cell.there (Cell.there (Cell.there (Cell.there (Cell.here rfl)))) | exact Cell.there (Cell.there (Cell.there (Cell.there (Cell.there (Cell.here rfl))))) | exact Cell.there (Cell.there (Cell.there (Cell.there (Cell.there (Cell.there (Cell.here rfl)))))) | assumption); (focus (simp only [List.map_toArray, List.map_cons, List.map_nil, Act.eval, Array.getD_eq_getD_getElem?, List.getElem?_toArray, List.getElem?_cons_succ, List.getElem?_cons_zero, Option.getD_some]; try rfl)); (simp only [List.append_toArray, List.cons_append, List.nil_append]); refine Calls.mono (plen_spec _ (n + 1) cap W _ _ hS) ?_; (clear hS; rintro e w ⟨rfl, hS⟩; refine ⟨_, rfl, ?_⟩; try (simp only [Act.put, List.setIfInBounds_toArray, List.set_cons_succ, List.set_cons_zero, Nat.reduceAdd]))) | ((with_reducible apply wl_inv_val 115 hS); (with_reducible rfl); rfl; rfl; decide +kernel; decide +kernel; decide +kernel; (first | exact Cell.here hl | first | exact Cell.here rfl | exact Cell.there (Cell.here rfl) | exact Cell.there (Cell.there (Cell.here rfl)) | exact Cell.there (Cell.there (Cell.there (Cell.here rfl))) | exact Cell.there (Cell.there (Cell.there (Cell.there (Cell.here rfl)))) | exact Cell.there (Cell.there (Cell.there (Cell.there (Cell.there (Cell.here rfl))))) | exact Cell.there (Cell.there (Cell.there (Cell.there (Cell.there (Cell.there (Cell.here rfl)))))) | assumption); (focus (simp only [List.map_toArray, List.map_cons, List.map_nil, Act.eval, Array.getD_eq_getD_getElem?, List.getElem?_toArray, List.getElem?_cons_succ, List.getElem?_cons_zero, Option.getD_some]; try rfl)); (simp only [List.append_toArray, List.cons_append, List.nil_append]); refine Calls.mono (Hsw.out _ _ hS.swap) ?_; (clear hS; rintro e w ⟨rfl, hS⟩; refine ⟨_, rfl, ?_⟩; try (simp only [Act.put, List.setIfInBounds_toArray, List.set_cons_succ, List.set_cons_zero, Nat.reduceAdd]))) | (go_at_call 60; refine (Hds.out W _ L hS.swap).mono ?_; clear hS; rintro e w ⟨rfl, hS⟩) | ((with_reducible apply wl_inv_ptr 116); (with_reducible rfl); rfl; rfl; decide +kernel; decide +kernel; decide +kernel; (focus (simp only [List.map_toArray, List.map_cons, List.map_nil, Act.eval, Array.getD_eq_getD_getElem?, List.getElem?_toArray, List.getElem?_cons_succ, List.getElem?_cons_zero, Option.getD_some]; try rfl)); (simp only [List.append_toArray, List.cons_append, List.nil_append]); refine Calls.mono (ppop_at ys x junk l T bb off g n cap Hx.out Hrl.out hcap hm hl W _ L hS) ?_; clear hS; rintro e w ⟨rfl, hS⟩; refine ⟨_, rfl, ?_⟩; (simp only [Act.put, List.setIfInBounds_toArray, List.set_cons_succ, List.set_cons_zero, Nat.reduceAdd])))
      go_ret
      exact ⟨rfl, hS⟩
    · rw [if_neg hk] at hr
      subst hr
      have hkd : decide (i < k) = false := by simpa using hk
      go_enter Try.func52, Try.ntmps52
      go_wp2_with (first | ((with_reducible apply wl_inv_val 113 hS); (with_reducible rfl); rfl; rfl; decide +kernel; decide +kernel; decide +kernel; (first | exact Cell.here hl | first | exact Cell.here rfl | exact Cell.there (Cell.here rfl) | exact Cell.there (Cell.there (Cell.here rfl)) | exact Cell.there (Cell.there (Cell.there (Cell.here rfl))) | exact Cell.there (Cell.there (Cell.there (Cell.there (Cell.here rfl)))) | exact Cell.there (Cell.there (Cell.there (Cell.there (Cell.there (Cell.here rfl))))) | exact Cell.there (Cell.there (Cell.there (Cell.there (Cell.there (Cell.there (Cell.here rfl)))))) | assumption); (focus (simp only [List.map_toArray, List.map_cons, List.map_nil, Act.eval, Array.getD_eq_getD_getElem?, List.getElem?_toArray, List.getElem?_cons_succ, List.getElem?_cons_zero, Option.getD_some]; try rfl)); (simp only [List.append_toArray, List.cons_append, List.nil_append]); refine Calls.mono (plen_spec _ (n + 1) cap W _ _ hS) ?_; (clear hS; rintro e w ⟨rfl, hS⟩; refine ⟨_, rfl, ?_⟩; try (simp only [Act.put, List.setIfInBounds_toArray, List.set_cons_succ, List.set_cons_zero, Nat.reduceAdd]))) | ((with_reducible apply wl_inv_val 115 hS); (with_reducible rfl); rfl; rfl; decide +kernel; decide +kernel; decide +kernel; (first | exact Cell.here hl | first | exact Cell.here rfl | exact Cell.there (Cell.here rfl) | exact Cell.there (Cell.there (Cell.here rfl)) | exact Cell.there (Cell.there (Cell.there (Cell.here rfl))) | exact Cell.there (Cell.there (Cell.there (Cell.there (Cell.here rfl)))) | exact Cell.there (Cell.there (Cell.there (Cell.there (Cell.there (Cell.here rfl))))) | exact Cell.there (Cell.there (Cell.there (Cell.there (Cell.there (Cell.there (Cell.here rfl)))))) | assumption); (focus (simp only [List.map_toArray, List.map_cons, List.map_nil, Act.eval, Array.getD_eq_getD_getElem?, List.getElem?_toArray, List.getElem?_cons_succ, List.getElem?_cons_zero, Option.getD_some]; try rfl)); (simp only [List.append_toArray, List.cons_append, List.nil_append]); refine Calls.mono (Hsw.out _ _ hS.swap) ?_; (clear hS; rintro e w ⟨rfl, hS⟩; refine ⟨_, rfl, ?_⟩; try (simp only [Act.put, List.setIfInBounds_toArray, List.set_cons_succ, List.set_cons_zero, Nat.reduceAdd]))) | (go_at_call 60; refine (Hds.out W _ L hS.swap).mono ?_; clear hS; rintro e w ⟨rfl, hS⟩) | (go_at_call 59; refine (up_spec ys junk l T bb off g (n + 1) cap i Hdl.out (by omega) hcap hm hl W _ L hS).mono ?_; clear hS; rintro e w ⟨rfl, hS⟩) | ((with_reducible apply wl_inv_ptr 116); (with_reducible rfl); rfl; rfl; decide +kernel; decide +kernel; decide +kernel; (focus (simp only [List.map_toArray, List.map_cons, List.map_nil, Act.eval, Array.getD_eq_getD_getElem?, List.getElem?_toArray, List.getElem?_cons_succ, List.getElem?_cons_zero, Option.getD_some]; try rfl)); (simp only [List.append_toArray, List.cons_append, List.nil_append]); refine Calls.mono (ppop_at (upF i ys i) x junk l T bb off g n cap Hx.out Hrl.out hcap hm hl W _ L hS) ?_; clear hS; rintro e w ⟨rfl, hS⟩; refine ⟨_, rfl, ?_⟩; (simp only [Act.put, List.setIfInBounds_toArray, List.set_cons_succ, List.set_cons_zero, Nat.reduceAdd])))
      go_ret
      exact ⟨rfl, hS⟩
end Go.Proofs.Ytbcokphjpllbiaa
