/-
  slices.SortFunc on an owned row of orders, by their IDs. For every row.
-/
import Derived.Test.YtbcokphjpllbiaaBkL
import Derived.Shelf.SlSortCmp.WholeK
import Derived.Shelf.SlicesG.Cmp
import Derived.Shelf.Small.Bits
import Derived.Test.YtbcokphjpllbiaaShelf
set_option linter.unusedSimpArgs false
set_option linter.unusedVariables false
namespace Go.Proofs.Ytbcokphjpllbiaa
open Go.Shelf Go.RowKit Go.Lib Go.Sort Go.Sl
instance : Inhabited Ord := ⟨o0⟩
def cmpO (x y : Ord) : Int := Lib.compareInt x.id y.id
theorem ltO (x y : Ord) : ltOf cmpO x y = decide (x.id < y.id) := by
  unfold ltOf cmpO Lib.compareInt
  by_cases h1 : x.id < y.id
  · simp [h1]
  · by_cases h2 : y.id < x.id <;> simp [h1, h2]
theorem swoO : SWO (ltOf cmpO) where
  irrefl x := by rw [ltO]; simp
  trans x y z h1 h2 := by rw [ltO] at *; simp at *; omega
  ntrans x y z h1 h2 := by rw [ltO] at *; simp at *; omega
set_option maxHeartbeats 1000000 in
/-- The closure of List: two blocks are laid. -/
theorem closureO (x y : Ord) (W : World) : Calls Try.prog 48 #[.agg x.cells.toArray, .agg y.cells.toArray] W fun e w' => e = .returned (.int .i64 (cmpO x y)) ∧ ∃ q os', w' = grow (W.drewN q) os' := by
  have hcon := fun W' => AnyG.cmp_Compare_int Try.cmpInt x.id y.id W'
  change ∀ W', Calls Try.prog 49 _ _ _ at hcon
  unfold cmpO
  obtain ⟨i, u, b, t, c, p⟩ := x
  obtain ⟨i', u', b', t', c', p'⟩ := y
  simp only [Ord.cells] at hcon ⊢
  generalize Lib.compareInt i i' = r at hcon ⊢
  go_enter Try.func48, Try.ntmps48
  go_wp2_with (go_at_call 49; refine (hcon _).mono ?_; rintro e w' ⟨rfl, rfl⟩)
  go_ret
  exact ⟨rfl, 0, _, by rw [alloc_eq_grow, alloc_eq_grow, grow_grow]; rfl⟩
theorem cmpLaysO (blk off size : Nat) (w : World) : CmpLays Try.prog 48 #[] Ord.cells 6 cmpO blk off size w := fun _ _ _ _ x y => closureO x y _
theorem St.grow {W w : World} {L : List HP} (h : St W L w) (os : Array Obj) : St W L (Sort.grow w os) := by
  refine ⟨h.os, h.tape, h.output, sats_cut (S := fun b => decide (w.heap.size ≤ b)) ?_⟩
  have e : cutOut (fun b => decide (w.heap.size ≤ b)) (fun b => (Sort.grow w os).heap[b]?) = fun b => w.heap[b]? := by
    funext b
    show cond (decide (w.heap.size ≤ b)) none ((w.heap ++ os)[b]?) = w.heap[b]?
    by_cases hb : w.heap.size ≤ b
    · rw [decide_eq_true hb, Array.getElem?_eq_none hb]; rfl
    · rw [decide_eq_false hb, Array.getElem?_append_left (by omega)]; rfl
  rw [e]
  exact h.sat
theorem flatK_get (l : List Ord) (junk : List Value) (j : Nat) (hj : j < l.length * 6) : (l.flatMap Ord.cells ++ junk)[j]? = some ((flatK Ord.cells 6 l.toArray)[j]!) := by
  rw [get_flatK _ _ _ _ (by simpa using hj)]
  have hq : j / 6 < l.length := by omega
  have h1 := flat_get Ord.len l junk (j / 6) hq (j % 6) (by omega)
  rw [show j / 6 * 6 + j % 6 = j by omega] at h1
  rw [h1]
  have h2 : l.toArray[j / 6]! = l[j / 6] := by simp [hq]
  rw [h2, List.getElem?_eq_getElem (by rw [Ord.len]; omega)]
  rw [getElem!_pos _ _ (by rw [Ord.len]; omega)]
set_option maxRecDepth 100000 in
theorem sort_row (l : List Ord) (g cap : Nat) (junk : List Value) (h62 : l.length < 4611686018427387904) (W w : World) (L : List HP) (hS : St W (blk g (l.flatMap Ord.cells ++ junk) 32 :: L) w) :
    Calls Try.prog 47 #[.slice (some ⟨g, 0, none⟩) l.length cap, .func (.func 48) #[] #[]] w fun e w' =>
      e = .returned (.tuple #[]) ∧ ∃ l' : List Ord, l'.Perm l ∧ l'.Pairwise (fun x y => x.id ≤ y.id) ∧ St W (blk g (l'.flatMap Ord.cells ++ junk) 32 :: L) w' := by
  have eg : ∀ args w, (callFunc 48 args).run Try.prog w = .ok (.enter 48 args) w := enters_of Try.func48 (by kernel_rfl) rfl
  have hgt := hS.get (b := g) .head
  have hblk : g < w.heap.size := (Array.getElem?_eq_some_iff.1 hgt).1
  have hH : HoldsK Ord.cells 6 w g 0 l.toArray := by
    intro j hj
    rw [size_flatK] at hj
    refine ⟨hS.cell .head ?_, hS.free .head⟩
    rw [Nat.zero_add]
    exact flatK_get l junk j (by simpa using hj)
  have hcon := AnyQ.slices_SortFunc Try.sortOrd 6 Try.isAgg32 Try.sizeOf32 Ord.cells Ord.len (fun x v hv => by simp [Ord.cells] at hv; rcases hv with rfl | rfl | rfl | rfl | rfl | rfl <;> rfl) cmpO swoO 48 #[] g 0 cap l.toArray w eg (cmpLaysO g 0 l.toArray.size w) hH hblk (by simpa using h62)
  change Calls Try.prog 47 _ _ _ at hcon
  simp only [List.size_toArray] at hcon
  refine hcon.mono ?_
  rintro e w' ⟨rfl, d', n, os, ⟨hp1, _, hp3⟩, hs, rfl⟩
  refine ⟨rfl, d'.toList, ?_, ?_, ?_⟩
  · have e1 : d'.extract 0 l.length = d' := by
      have : l.length = d'.size := by rw [hp1]; simp
      rw [this, Array.extract_size]
    have e2 : l.toArray.extract 0 l.length = l.toArray := by
      have : l.length = l.toArray.size := by simp
      rw [this, Array.extract_size]
    rw [e1, e2] at hp3
    exact hp3
  · rw [List.pairwise_iff_getElem]
    intro i j hi hj hij
    have := hs i j (Nat.zero_le _) hij (by simp at hj; rw [hp1] at hj; simpa using hj)
    rw [ltO] at this
    simp only [decide_eq_false_iff_not] at this
    have hi' : i < d'.size := by simpa using hi
    have hj' : j < d'.size := by simpa using hj
    rw [getElem!_pos d' i hi', getElem!_pos d' j hj'] at this
    simp only [Array.getElem_toList]
    omega
  · unfold sortWorldK
    refine St.grow ?_ os
    have hSd : St W (blk g (l.flatMap Ord.cells ++ junk) 32 :: L) (Sort.ahead w n) := ⟨hS.os, hS.tape, hS.output, hS.sat⟩
    refine hSd.putO (w' := putRowK Ord.cells 6 (Sort.ahead w n) g 0 d') (o' := .cells (d'.toList.flatMap Ord.cells ++ junk).toArray 32 (0, 0)) .head rfl rfl rfl fun k => ?_
    show ((Sort.ahead w n).heap.modify g _)[k]? = _
    rw [Array.getElem?_modify]
    by_cases hk : k = g
    · subst hk
      rw [if_pos rfl, if_pos rfl]
      have hgt' : (Sort.ahead w n).heap[k]? = some (.cells (l.flatMap Ord.cells ++ junk).toArray 32 (0, 0)) := hgt
      rw [hgt']
      simp only [Option.map_some, Sort.onCells]
      congr 2
      have hdl : d'.toList.length = l.length := by rw [Array.length_toList, hp1]; simp
      have hf1 := flat_length Ord.len l
      have hf2 := flat_length Ord.len d'.toList
      apply Array.ext_getElem?
      intro t
      unfold Sort.putCells
      simp only [Array.getElem?_mapIdx, List.getElem?_toArray, size_flatK, Nat.zero_le, true_and, Nat.zero_add, Nat.sub_zero, id]
      have hds : d'.size = l.length := by rw [hp1]; simp
      by_cases ht : t < l.length * 6
      · have h1 := flatK_get d'.toList junk t (by rw [hdl]; exact ht)
        rw [h1, flatK_get l junk t ht]
        simp [hds, ht]
      · have h2 : (l.flatMap Ord.cells ++ junk)[t]? = (d'.toList.flatMap Ord.cells ++ junk)[t]? := by
          rw [List.getElem?_append_right (by omega), List.getElem?_append_right (by omega), hf1, hf2, hdl]
        rw [← h2]
        simp [hds, ht]
    · rw [if_neg (fun h => hk h.symm), if_neg hk]
set_option maxRecDepth 100000 in
theorem insert_nil (f : Value) (W w : World) (L : List HP) (hS : St W L w) :
    Calls Try.prog 66 #[.slice none 0 0, .int .i64 0, .int .i64 0, f] w fun e w' => e = .returned (.tuple #[]) ∧ St W L w' := by
  go_enter Try.func66, Try.ntmps66
  go_wp2_with fail
  go_loopw [8] (fun v wr => v = .int .i64 1 ∧ St W L wr) (fun _ _ => 0)
  case atStart => exact ⟨rfl, hS⟩
  case round =>
    clear hS
    obtain ⟨rfl, hS⟩ := hrel
    go_wp2_with fail
    go_end0
    exact ⟨rfl, hS⟩
set_option maxRecDepth 100000 in
theorem pdq_nil (n : Int) (f : Value) (W w : World) (L : List HP) (hS : St W L w) :
    Calls Try.prog 61 #[.slice none 0 0, .int .i64 0, .int .i64 0, .int .i64 n, f] w fun e w' => e = .returned (.tuple #[]) ∧ St W L w' := by
  go_enter Try.func61, Try.ntmps61
  go_wp2_with fail
  go_loopw [1, 2] (fun v1 v2 wr => v1 = .int .i64 0 ∧ v2 = .int .i64 0 ∧ St W L wr) (fun _ _ _ => 0)
  case atStart => exact ⟨rfl, rfl, hS⟩
  case round =>
    clear hS
    obtain ⟨rfl, rfl, hS⟩ := hrel
    go_wp2_with (first | (go_at_call 66; refine (insert_nil _ W _ _ hS).mono ?_; clear hS; rintro e w ⟨rfl, hS⟩))
    refine bodyPost_ret (results_none rfl _ _ _) rfl ?_
    exact ⟨rfl, hS⟩
set_option maxRecDepth 100000 in
theorem sort_nil (f : Value) (W w : World) (L : List HP) (hS : St W L w) :
    Calls Try.prog 47 #[.slice none 0 0, f] w fun e w' => e = .returned (.tuple #[]) ∧ St W L w' := by
  have hl : ∀ w : World, Calls Try.prog 62 #[.int .u64 0] w fun e w' => (∃ l : Int, e = .returned (.int .i64 l)) ∧ w' = w := fun w =>
    (Any.bits_Len Try.bitsLen 0 w (by omega) (by omega)).mono fun _ _ ⟨he, hw⟩ => ⟨⟨_, he⟩, hw⟩
  go_enter Try.func47, Try.ntmps47
  go_wp2_with (first | (go_at_call 62; refine (hl _).mono ?_; rintro e w ⟨⟨l, rfl⟩, rfl⟩) | (go_at_call 61; refine (pdq_nil _ _ W _ _ hS).mono ?_; clear hS; rintro e w ⟨rfl, hS⟩))
  go_end0
  exact ⟨rfl, hS⟩
end Go.Proofs.Ytbcokphjpllbiaa
