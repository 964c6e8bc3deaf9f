/-
  The library's contracts laid at this program: written by the kit's tool lay-plain.
  slices.SortFunc on an owned row of orders, by their IDs. For every row.
  BookBest: the plain law. For all prices.
  BookGone: the plain law. For all prices, all that are cancelled, every order.
  A slice of integers that comes in as an argument: its cells. For every slice.
  BookGone: the walk. For all prices, all that are cancelled, every order.
  append of a slice of another named type. Over any program; no condition.
  List: all that stand in a book, by their IDs. For every book.
  A book as the document tells it: one row of orders by their IDs. Place and Cancel of the code are those of the document. Plain, no program in sight.
-/
import Derived.Test.YtbcokphjpllbiaaVaultKeepsM13
import Derived.Test.YtbcokphjpllbiaaProg
import Derived.Shelf.SlSortCmp.WholeK
import Derived.Shelf.SlicesG.Cmp
import Derived.Shelf.Small.Bits
import Derived.Ground.SlsfProg
import Derived.Ground.SlgcProg
import Derived.Ground.NamesProg
import Derived.Test.YtbcokphjpllbiaaRows
import Derived.Lib.SmallJoins
import Derived.ChangeArms
import Derived.ProofKit
section
set_option linter.unusedSimpArgs false
set_option linter.unusedVariables false
namespace Go.Proofs.Ytbcokphjpllbiaa
open Go.Shelf
def Try.sortOrd_ren : Go.Shelf.Ren := ⟨fun | 6 => 47 | 15 => 62 | 14 => 61 | 28 => 74 | 29 => 75 | 20 => 66 | 21 => 67 | 22 => 68 | 23 => 69 | 24 => 70 | 25 => 71 | 26 => 72 | 27 => 73 | 46 => 85 | 47 => 86 | 48 => 87 | 49 => 88 | 50 => 89 | 57 => 94 | n => n, fun | 22 => 42 | 24 => 32 | 25 => 106 | 3 => 3 | 39 => 113 | 0 => 0 | 53 => 138 | 55 => 112 | 4 => 4 | 46 => 131 | 45 => 130 | 50 => 135 | 5 => 5 | 9 => 9 | 66 => 146 | 70 => 150 | 76 => 154 | 77 => 155 | n => n, fun | n => n⟩
theorem Try.sortOrd : Go.Proofs.SlLaysF0.n6 Try.prog Try.sortOrd_ren := {
  mixed := by kernel_rfl
  f6 := ⟨Try.f47.name, by decide, Try.func47.trans (congrArg some (by kernel_rfl))⟩
  f14 := ⟨Try.f61.name, by decide, Try.func61.trans (congrArg some (by kernel_rfl))⟩
  f15 := Try.func62.trans (congrArg some (by kernel_rfl))
  f20 := ⟨Try.f66.name, by decide, Try.func66.trans (congrArg some (by kernel_rfl))⟩
  f21 := ⟨Try.f67.name, by decide, Try.func67.trans (congrArg some (by kernel_rfl))⟩
  f22 := ⟨Try.f68.name, by decide, Try.func68.trans (congrArg some (by kernel_rfl))⟩
  f23 := ⟨Try.f69.name, by decide, Try.func69.trans (congrArg some (by kernel_rfl))⟩
  f24 := ⟨Try.f70.name, by decide, Try.func70.trans (congrArg some (by kernel_rfl))⟩
  f25 := ⟨Try.f71.name, by decide, Try.func71.trans (congrArg some (by kernel_rfl))⟩
  f26 := ⟨Try.f72.name, by decide, Try.func72.trans (congrArg some (by kernel_rfl))⟩
  f27 := ⟨Try.f73.name, by decide, Try.func73.trans (congrArg some (by kernel_rfl))⟩
  f28 := Try.func74.trans (congrArg some (by kernel_rfl))
  f29 := Try.func75.trans (congrArg some (by kernel_rfl))
  f46 := ⟨Try.f85.name, by decide, Try.func85.trans (congrArg some (by kernel_rfl))⟩
  f47 := Try.func86.trans (congrArg some (by kernel_rfl))
  f48 := Try.func87.trans (congrArg some (by kernel_rfl))
  f49 := ⟨Try.f88.name, by decide, Try.func88.trans (congrArg some (by kernel_rfl))⟩
  f50 := ⟨Try.f89.name, by decide, Try.func89.trans (congrArg some (by kernel_rfl))⟩
  f57 := ⟨Try.f94.name, by decide, Try.func94.trans (congrArg some (by kernel_rfl))⟩
  t0 := Try.underlying0
  a0 := Try.isAgg0
  z0 := Try.sizeOf0
  v0 := Try.zeroValue0
  t3 := Try.underlying3
  a3 := Try.isAgg3
  z3 := Try.sizeOf3
  v3 := Try.zeroValue3
  t4 := Try.underlying4
  a4 := Try.isAgg4
  z4 := Try.sizeOf4
  v4 := Try.zeroValue4
  t5 := Try.underlying5
  a5 := Try.isAgg5
  z5 := Try.sizeOf5
  v5 := Try.zeroValue5
  t9 := Try.underlying9
  a9 := Try.isAgg9
  z9 := Try.sizeOf9
  v9 := Try.zeroValue9
  t22 := Try.underlying42
  a22 := Try.isAgg42
  z22 := Try.sizeOf42
  v22 := Try.zeroValue42
  t25 := Try.underlying106
  a25 := Try.isAgg106
  z25 := Try.sizeOf106
  v25 := Try.zeroValue106
  t39 := Try.underlying113
  a39 := Try.isAgg113
  z39 := Try.sizeOf113
  v39 := Try.zeroValue113
  t45 := Try.underlying130
  a45 := Try.isAgg130
  z45 := Try.sizeOf130
  v45 := Try.zeroValue130
  t46 := Try.underlying131
  a46 := Try.isAgg131
  z46 := Try.sizeOf131
  v46 := Try.zeroValue131
  t50 := Try.underlying135
  a50 := Try.isAgg135
  z50 := Try.sizeOf135
  v50 := Try.zeroValue135
  t53 := Try.underlying138
  a53 := Try.isAgg138
  z53 := Try.sizeOf138
  v53 := Try.zeroValue138
  t55 := Try.underlying112
  a55 := Try.isAgg112
  z55 := Try.sizeOf112
  v55 := Try.zeroValue112
  t66 := Try.underlying146
  a66 := Try.isAgg146
  z66 := Try.sizeOf146
  v66 := Try.zeroValue146
  t70 := Try.underlying150
  a70 := Try.isAgg150
  z70 := Try.sizeOf150
  v70 := Try.zeroValue150
  t76 := Try.underlying154
  a76 := Try.isAgg154
  z76 := Try.sizeOf154
  v76 := Try.zeroValue154
  t77 := Try.underlying155
  a77 := Try.isAgg155
  z77 := Try.sizeOf155
  v77 := Try.zeroValue155 }
def Try.cmpInt_ren : Go.Shelf.Ren := ⟨fun | 5 => 49 | 7 => 63 | n => n, fun | 22 => 3 | 3 => 3 | 4 => 4 | n => n, fun | n => n⟩
theorem Try.cmpInt : Go.Proofs.SlLaysC2.n5 Try.prog Try.cmpInt_ren := {
  mixed := by kernel_rfl
  f5 := ⟨Try.f49.name, by decide, Try.func49.trans (congrArg some (by kernel_rfl))⟩
  f7 := ⟨Try.f63.name, by decide, Try.func63.trans (congrArg some (by kernel_rfl))⟩
  t3 := Try.underlying3
  a3 := Try.isAgg3
  z3 := Try.sizeOf3
  v3 := Try.zeroValue3
  t4 := Try.underlying4
  a4 := Try.isAgg4
  z4 := Try.sizeOf4
  v4 := Try.zeroValue4
  t22 := Try.underlying3
  a22 := Try.isAgg3
  z22 := Try.sizeOf3
  v22 := Try.zeroValue3 }
def Try.bitsLen_ren : Go.Shelf.Ren := ⟨fun | 125 => 62 | 128 => 74 | 129 => 75 | n => n, fun | 46 => 113 | 3 => 3 | 51 => 138 | 53 => 112 | 4 => 4 | 5 => 5 | 9 => 9 | n => n, fun | n => n⟩
theorem Try.bitsLen : Go.Proofs.Lays.n125 Try.prog Try.bitsLen_ren := {
  mixed := by kernel_rfl
  f125 := Try.func62.trans (congrArg some (by kernel_rfl))
  f128 := Try.func74.trans (congrArg some (by kernel_rfl))
  f129 := Try.func75.trans (congrArg some (by kernel_rfl))
  t3 := Try.underlying3
  a3 := Try.isAgg3
  z3 := Try.sizeOf3
  v3 := Try.zeroValue3
  t4 := Try.underlying4
  a4 := Try.isAgg4
  z4 := Try.sizeOf4
  v4 := Try.zeroValue4
  t5 := Try.underlying5
  a5 := Try.isAgg5
  z5 := Try.sizeOf5
  v5 := Try.zeroValue5
  t9 := Try.underlying9
  a9 := Try.isAgg9
  z9 := Try.sizeOf9
  v9 := Try.zeroValue9
  t46 := Try.underlying113
  a46 := Try.isAgg113
  z46 := Try.sizeOf113
  v46 := Try.zeroValue113
  t51 := Try.underlying138
  a51 := Try.isAgg138
  z51 := Try.sizeOf138
  v51 := Try.zeroValue138
  t53 := Try.underlying112
  a53 := Try.isAgg112
  z53 := Try.sizeOf112
  v53 := Try.zeroValue112 }
end Go.Proofs.Ytbcokphjpllbiaa
end
section
set_option linter.unusedSimpArgs false
set_option linter.unusedVariables false
namespace Go.Proofs.Ytbcokphjpllbiaa
open Go.Shelf Go.RowKit Go.Lib Go.Sort Go.Sl
instance : Inhabited Ord := ⟨o0⟩
def cmpO (x y : Ord) : Int := Lib.compareInt x.id y.id
theorem ltO (x y : Ord) : ltOf cmpO x y = decide (x.id < y.id) := by
  unfold ltOf cmpO Lib.compareInt
  by_cases h1 : x.id < y.id
  · simp [h1]
  · by_cases h2 : y.id < x.id <;> simp [h1, h2]
theorem swoO : SWO (ltOf cmpO) where
  irrefl x := by rw [ltO]; simp
  trans x y z h1 h2 := by rw [ltO] at *; simp at *; omega
  ntrans x y z h1 h2 := by rw [ltO] at *; simp at *; omega
set_option maxHeartbeats 1000000 in
/-- The closure of List: two blocks are laid. -/
theorem closureO (x y : Ord) (W : World) : Calls Try.prog 48 #[.agg x.cells.toArray, .agg y.cells.toArray] W fun e w' => e = .returned (.int .i64 (cmpO x y)) ∧ ∃ q os', w' = grow (W.drewN q) os' := by
  have hcon := fun W' => AnyG.cmp_Compare_int Try.cmpInt x.id y.id W'
  change ∀ W', Calls Try.prog 49 _ _ _ at hcon
  unfold cmpO
  obtain ⟨i, u, b, t, c, p⟩ := x
  obtain ⟨i', u', b', t', c', p'⟩ := y
  simp only [Ord.cells] at hcon ⊢
  generalize Lib.compareInt i i' = r at hcon ⊢
  go_enter Try.func48, Try.ntmps48
  go_wp2_with (go_at_call 49; refine (hcon _).mono ?_; rintro e w' ⟨rfl, rfl⟩)
  go_ret
  exact ⟨rfl, 0, _, by rw [alloc_eq_grow, alloc_eq_grow, grow_grow]; rfl⟩
theorem cmpLaysO (blk off size : Nat) (w : World) : CmpLays Try.prog 48 #[] Ord.cells 6 cmpO blk off size w := fun _ _ _ _ x y => closureO x y _
theorem St.grow {W w : World} {L : List HP} (h : St W L w) (os : Array Obj) : St W L (Sort.grow w os) := by
  refine ⟨h.os, h.tape, h.output, sats_cut (S := fun b => decide (w.heap.size ≤ b)) ?_⟩
  have e : cutOut (fun b => decide (w.heap.size ≤ b)) (fun b => (Sort.grow w os).heap[b]?) = fun b => w.heap[b]? := by
    funext b
    show cond (decide (w.heap.size ≤ b)) none ((w.heap ++ os)[b]?) = w.heap[b]?
    by_cases hb : w.heap.size ≤ b
    · rw [decide_eq_true hb, Array.getElem?_eq_none hb]; rfl
    · rw [decide_eq_false hb, Array.getElem?_append_left (by omega)]; rfl
  rw [e]
  exact h.sat
theorem flatK_get (l : List Ord) (junk : List Value) (j : Nat) (hj : j < l.length * 6) : (l.flatMap Ord.cells ++ junk)[j]? = some ((flatK Ord.cells 6 l.toArray)[j]!) := by
  rw [get_flatK _ _ _ _ (by simpa using hj)]
  have hq : j / 6 < l.length := by omega
  have h1 := flat_get Ord.len l junk (j / 6) hq (j % 6) (by omega)
  rw [show j / 6 * 6 + j % 6 = j by omega] at h1
  rw [h1]
  have h2 : l.toArray[j / 6]! = l[j / 6] := by simp [hq]
  rw [h2, List.getElem?_eq_getElem (by rw [Ord.len]; omega)]
  rw [getElem!_pos _ _ (by rw [Ord.len]; omega)]
set_option maxRecDepth 100000 in
theorem sort_row (l : List Ord) (g cap : Nat) (junk : List Value) (h62 : l.length < 4611686018427387904) (W w : World) (L : List HP) (hS : St W (blk g (l.flatMap Ord.cells ++ junk) 32 :: L) w) :
    Calls Try.prog 47 #[.slice (some ⟨g, 0, none⟩) l.length cap, .func (.func 48) #[] #[]] w fun e w' =>
      e = .returned (.tuple #[]) ∧ ∃ l' : List Ord, l'.Perm l ∧ l'.Pairwise (fun x y => x.id ≤ y.id) ∧ St W (blk g (l'.flatMap Ord.cells ++ junk) 32 :: L) w' := by
  have eg : ∀ args w, (callFunc 48 args).run Try.prog w = .ok (.enter 48 args) w := enters_of Try.func48 (by kernel_rfl) rfl
  have hgt := hS.get (b := g) .head
  have hblk : g < w.heap.size := (Array.getElem?_eq_some_iff.1 hgt).1
  have hH : HoldsK Ord.cells 6 w g 0 l.toArray := by
    intro j hj
    rw [size_flatK] at hj
    refine ⟨hS.cell .head ?_, hS.free .head⟩
    rw [Nat.zero_add]
    exact flatK_get l junk j (by simpa using hj)
  have hcon := AnyQ.slices_SortFunc Try.sortOrd 6 Try.isAgg32 Try.sizeOf32 Ord.cells Ord.len (fun x v hv => by simp [Ord.cells] at hv; rcases hv with rfl | rfl | rfl | rfl | rfl | rfl <;> rfl) cmpO swoO 48 #[] g 0 cap l.toArray w eg (cmpLaysO g 0 l.toArray.size w) hH hblk (by simpa using h62)
  change Calls Try.prog 47 _ _ _ at hcon
  simp only [List.size_toArray] at hcon
  refine hcon.mono ?_
  rintro e w' ⟨rfl, d', n, os, ⟨hp1, _, hp3⟩, hs, rfl⟩
  refine ⟨rfl, d'.toList, ?_, ?_, ?_⟩
  · have e1 : d'.extract 0 l.length = d' := by
      have : l.length = d'.size := by rw [hp1]; simp
      rw [this, Array.extract_size]
    have e2 : l.toArray.extract 0 l.length = l.toArray := by
      have : l.length = l.toArray.size := by simp
      rw [this, Array.extract_size]
    rw [e1, e2] at hp3
    exact hp3
  · rw [List.pairwise_iff_getElem]
    intro i j hi hj hij
    have := hs i j (Nat.zero_le _) hij (by simp at hj; rw [hp1] at hj; simpa using hj)
    rw [ltO] at this
    simp only [decide_eq_false_iff_not] at this
    have hi' : i < d'.size := by simpa using hi
    have hj' : j < d'.size := by simpa using hj
    rw [getElem!_pos d' i hi', getElem!_pos d' j hj'] at this
    simp only [Array.getElem_toList]
    omega
  · unfold sortWorldK
    refine St.grow ?_ os
    have hSd : St W (blk g (l.flatMap Ord.cells ++ junk) 32 :: L) (Sort.ahead w n) := ⟨hS.os, hS.tape, hS.output, hS.sat⟩
    refine hSd.putO (w' := putRowK Ord.cells 6 (Sort.ahead w n) g 0 d') (o' := .cells (d'.toList.flatMap Ord.cells ++ junk).toArray 32 (0, 0)) .head rfl rfl rfl fun k => ?_
    show ((Sort.ahead w n).heap.modify g _)[k]? = _
    rw [Array.getElem?_modify]
    by_cases hk : k = g
    · subst hk
      rw [if_pos rfl, if_pos rfl]
      have hgt' : (Sort.ahead w n).heap[k]? = some (.cells (l.flatMap Ord.cells ++ junk).toArray 32 (0, 0)) := hgt
      rw [hgt']
      simp only [Option.map_some, Sort.onCells]
      congr 2
      have hdl : d'.toList.length = l.length := by rw [Array.length_toList, hp1]; simp
      have hf1 := flat_length Ord.len l
      have hf2 := flat_length Ord.len d'.toList
      apply Array.ext_getElem?
      intro t
      unfold Sort.putCells
      simp only [Array.getElem?_mapIdx, List.getElem?_toArray, size_flatK, Nat.zero_le, true_and, Nat.zero_add, Nat.sub_zero, id]
      have hds : d'.size = l.length := by rw [hp1]; simp
      by_cases ht : t < l.length * 6
      · have h1 := flatK_get d'.toList junk t (by rw [hdl]; exact ht)
        rw [h1, flatK_get l junk t ht]
        simp [hds, ht]
      · have h2 : (l.flatMap Ord.cells ++ junk)[t]? = (d'.toList.flatMap Ord.cells ++ junk)[t]? := by
          rw [List.getElem?_append_right (by omega), List.getElem?_append_right (by omega), hf1, hf2, hdl]
        rw [← h2]
        simp [hds, ht]
    · rw [if_neg (fun h => hk h.symm), if_neg hk]
set_option maxRecDepth 100000 in
theorem insert_nil (f : Value) (W w : World) (L : List HP) (hS : St W L w) :
    Calls Try.prog 66 #[.slice none 0 0, .int .i64 0, .int .i64 0, f] w fun e w' => e = .returned (.tuple #[]) ∧ St W L w' := by
  go_enter Try.func66, Try.ntmps66
  go_wp2_with fail
  go_loopw [8] (fun v wr => v = .int .i64 1 ∧ St W L wr) (fun _ _ => 0)
  case atStart => exact ⟨rfl, hS⟩
  case round =>
    clear hS
    obtain ⟨rfl, hS⟩ := hrel
    go_wp2_with fail
    go_end0
    exact ⟨rfl, hS⟩
set_option maxRecDepth 100000 in
theorem pdq_nil (n : Int) (f : Value) (W w : World) (L : List HP) (hS : St W L w) :
    Calls Try.prog 61 #[.slice none 0 0, .int .i64 0, .int .i64 0, .int .i64 n, f] w fun e w' => e = .returned (.tuple #[]) ∧ St W L w' := by
  go_enter Try.func61, Try.ntmps61
  go_wp2_with fail
  go_loopw [1, 2] (fun v1 v2 wr => v1 = .int .i64 0 ∧ v2 = .int .i64 0 ∧ St W L wr) (fun _ _ _ => 0)
  case atStart => exact ⟨rfl, rfl, hS⟩
  case round =>
    clear hS
    obtain ⟨rfl, rfl, hS⟩ := hrel
    go_wp2_with (first | (go_at_call 66; refine (insert_nil _ W _ _ hS).mono ?_; clear hS; rintro e w ⟨rfl, hS⟩))
    refine bodyPost_ret (results_none rfl _ _ _) rfl ?_
    exact ⟨rfl, hS⟩
set_option maxRecDepth 100000 in
theorem sort_nil (f : Value) (W w : World) (L : List HP) (hS : St W L w) :
    Calls Try.prog 47 #[.slice none 0 0, f] w fun e w' => e = .returned (.tuple #[]) ∧ St W L w' := by
  have hl : ∀ w : World, Calls Try.prog 62 #[.int .u64 0] w fun e w' => (∃ l : Int, e = .returned (.int .i64 l)) ∧ w' = w := fun w =>
    (Any.bits_Len Try.bitsLen 0 w (by omega) (by omega)).mono fun _ _ ⟨he, hw⟩ => ⟨⟨_, he⟩, hw⟩
  go_enter Try.func47, Try.ntmps47
  go_wp2_with (first | (go_at_call 62; refine (hl _).mono ?_; rintro e w ⟨⟨l, rfl⟩, rfl⟩) | (go_at_call 61; refine (pdq_nil _ _ W _ _ hS).mono ?_; clear hS; rintro e w ⟨rfl, hS⟩))
  go_end0
  exact ⟨rfl, hS⟩
end Go.Proofs.Ytbcokphjpllbiaa
end
section
set_option linter.unusedSimpArgs false
set_option linter.unusedVariables false
namespace Go.Proofs.Ytbcokphjpllbiaa
open Go.RowKit Go.Sl
theorem Trd.len (o : Trd) : o.cells.length = 8 := rfl
def so (zs : List Int) (k : Nat) : Ord := ⟨(k : Int) + 1, ⟨#[115]⟩, false, 2, 1, 1 + (zs.getD k 0) % 8⟩
def bB (q : List Ord) (k : Nat) : Bk := ⟨[[], [], [], [], [], [], q, []], k⟩
theorem bB_len (q : List Ord) (k : Nat) : (bB q k).len = q.length := by simp [Bk.len, lenTo, bB, offs]
theorem bB_ok {q : List Ord} {k : Nat} (hq : q.length ≤ 32) (hc : ∀ x ∈ q, x.cnt = 1) (hk : k ≤ 32) : BkOk (bB q k) := ⟨rfl, by rw [bB_len]; exact hq, (by
  intro p hp x hx
  have hx' : x ∈ q := by
    simp [bB] at hp
    rcases hp with rfl | rfl | rfl
    · cases hx
    · exact hx
    · cases hx
  have := hc x hx'
  omega), by simp [bB], by simp [bB]; omega⟩
theorem so_may (zs : List Int) (k : Nat) (hk : k < 30) : mayB (so zs k) = true := by
  refine mayB_true.2 ⟨?_, ?_, ?_, ?_, ?_, ?_, ?_, ?_, ?_, ?_⟩
  all_goals simp only [so]
  all_goals first | omega | decide
theorem best_step (zs : List Int) (q : List Ord) (k : Nat) (hk : k < 30) (hq : q.length = k) : placeB (bB q k) (so zs k) = ⟨[], 1, 0, bB (pushT q (so zs k)) (k + 1)⟩ := by
  unfold placeB
  rw [if_neg (by rintro (h | h); (rw [so_may zs k hk] at h; cases h); (simp [so, bB] at h; omega)), if_neg (by rw [bB_len]; omega)]
  rfl
def bo (want : Int) : Ord := ⟨100, ⟨#[98]⟩, true, 2, want, 1024⟩
def bt (x : Ord) : Trd := ⟨⟨#[98]⟩, x.who, 100, x.id, 2, 1, x.price, 1024⟩
theorem loop_take : ∀ (f : Nat) (q : List Ord) (l : List Trd) (c : Int), q.length < f → Heap false q → (∀ x ∈ q, x.cnt = 1 ∧ x.price ≤ 1024) → 0 ≤ c →
    ∃ (s rest : List Ord), (s ++ rest).Perm q ∧ s.length = min c.toNat q.length ∧ s.Pairwise (leK false) ∧ (loopF f (bo c) q l).2.2 = l ++ s.map bt ∧ (loopF f (bo c) q l).1.cnt = c - s.length
  | 0, q, l, c, h, _, _, _ => by omega
  | f + 1, [], l, c, _, _, _, h => ⟨[], [], .refl _, by simp, .nil, by simp [loopF], by simp [loopF, bo]⟩
  | f + 1, x :: q, l, c, hf, hq, hx, hc => by
    have hb := hq.side x (List.mem_cons_self ..)
    obtain ⟨hxc, hxp⟩ := hx x (List.mem_cons_self ..)
    rw [loopF]
    by_cases h0 : 0 < c
    · have hmeet : meetO (bo c) x = true := by simp [meetO, hb, bo, hxp]
      rw [if_pos ⟨h0, hmeet⟩]
      have ht : tradeF (bo c) x = bt x := by
        unfold tradeF
        rw [hb]
        simp only [Bool.false_eq_true, if_false, hxc, bo, bt]
        congr 1
        unfold minI
        split <;> omega
      have htc : (tradeF (bo c) x).cnt = 1 := by rw [ht]; rfl
      rw [htc, ht, hxc, if_pos (by omega)]
      have hq' : Heap false ({ x with cnt := 1 - 1 } :: q) := hq.cnt _
      have hp := popT_perm { x with cnt := 1 - 1 } q
      obtain ⟨s, rest, h1, h2, h3, h4, h5⟩ := loop_take f (popT ({ x with cnt := 1 - 1 } :: q)) (l ++ [bt x]) (c - 1) (by rw [popT_length]; simp at hf ⊢; omega) hq'.pop (fun z hz => hx z (List.mem_cons_of_mem _ (hp.mem_iff.1 hz))) (by omega)
      refine ⟨x :: s, rest, ?_, ?_, ?_, ?_, ?_⟩
      · exact (h1.trans hp).cons x
      · rw [List.length_cons, h2, popT_length]
        simp only [List.length_cons]
        omega
      · refine List.Pairwise.cons ?_ h3
        intro z hz
        exact hq.top z (List.mem_cons_of_mem _ ((h1.trans hp).mem_iff.1 (List.mem_append_left _ hz)))
      · show (loopF f (bo (c - 1)) _ _).2.2 = _
        rw [h4]; simp
      · show (loopF f (bo (c - 1)) _ _).1.cnt = _
        rw [h5]; simp only [List.length_cons]; omega
    · rw [if_neg (fun h => h0 h.1)]
      exact ⟨[], x :: q, .refl _, by simp; omega, .nil, by simp, by simp [bo]⟩
structure BestL (zs : List Int) (ts : List Trd) : Prop where
  one : ∀ i (h : i < ts.length), ts[i].cnt = 1 ∧ ∃ k, k < zs.length ∧ ts[i].sell = (k : Int) + 1 ∧ ts[i].price = 1 + (zs.getD k 0) % 8
  two : ∀ i (h : i + 1 < ts.length), ts[i].price < ts[i + 1].price ∨ (ts[i].price = ts[i + 1].price ∧ ts[i].sell ≤ ts[i + 1].sell)
theorem best_final (zs : List Int) (q : List Ord) (want : Nat) (h30 : zs.length ≤ 30) (hw : 1 ≤ want) (hw2 : want ≤ 30) (hq : Heap false q) (hp : q.Perm ((List.range zs.length).map (so zs))) :
    ∃ ts bk', placeB (bB q zs.length) (bo want) = ⟨ts, (want : Int) - ts.length, 0, bk'⟩ ∧ ts.length = min want zs.length ∧ BestL zs ts := by
  have hmay : mayB (bo want) = true := by
    refine mayB_true.2 ⟨?_, ?_, ?_, ?_, ?_, ?_, ?_, ?_, ?_, ?_⟩
    all_goals simp only [bo]
    all_goals first | omega | decide
  have hql : q.length = zs.length := by rw [hp.length_eq]; simp
  have hmem : ∀ x ∈ q, ∃ k, k < zs.length ∧ x = so zs k := fun x hx => by
    obtain ⟨k, hk, rfl⟩ := List.mem_map.1 (hp.mem_iff.1 hx)
    exact ⟨k, List.mem_range.1 hk, rfl⟩
  obtain ⟨s, rest, h1, h2, h3, h4, h5⟩ := loop_take (q.length + 1) q [] want (Nat.lt_succ_self _) hq (fun x hx => by
    obtain ⟨k, _, rfl⟩ := hmem x hx
    exact ⟨rfl, by simp only [so]; omega⟩) (by omega)
  unfold placeB
  rw [if_neg (by rintro (h | h); (rw [hmay] at h; cases h); (simp [bo, bB] at h; omega)), if_neg (by rw [bB_len]; omega)]
  dsimp only
  have e1 : (bB q zs.length).pile (sideK (itemK (bo want)) (!(bo want).buy)) = q := rfl
  rw [e1]
  simp only [Int.toNat_natCast] at h2
  have hts : (loopF (q.length + 1) (bo want) q []).2.2 = s.map bt := by rw [h4]; rfl
  refine ⟨s.map bt, _, by rw [hts, h5, List.length_map], by rw [List.length_map, h2, hql], ?_, ?_⟩
  · intro i hi
    rw [List.length_map] at hi
    rw [List.getElem_map]
    obtain ⟨k, hk, he⟩ := hmem s[i] (h1.mem_iff.1 (List.mem_append_left _ (List.getElem_mem hi)))
    rw [he]
    exact ⟨rfl, k, hk, rfl, rfl⟩
  · intro i hi
    rw [List.length_map] at hi
    rw [List.getElem_map, List.getElem_map]
    have := List.pairwise_iff_getElem.1 h3 i (i + 1) (by omega) hi (Nat.lt_succ_self _)
    unfold leK ky at this
    exact this
end Go.Proofs.Ytbcokphjpllbiaa
end
section
set_option linter.unusedSimpArgs false
set_option linter.unusedVariables false
namespace Go.Proofs.Ytbcokphjpllbiaa
open Go.RowKit Go.Sl
def sg (zs : List Int) (k : Nat) : Ord := ⟨(k : Int) + 1, ⟨#[115]⟩, false, 1, 2, 1 + (zs.getD k 0) % 8⟩
def bG (q : List Ord) (k : Nat) : Bk := ⟨[[], [], [], [], [], q, [], []], k⟩
theorem bG_len (q : List Ord) (k : Nat) : (bG q k).len = q.length := by simp [Bk.len, lenTo, bG, offs]
/-- What stands there: IDs up to n, each once. -/
structure GoneQ (n : Nat) (q : List Ord) : Prop where
  nodup : (q.map Ord.id).Nodup
  each : ∀ x ∈ q, x.cnt = 2 ∧ x.id ≤ n
theorem bG_ok {q : List Ord} {n k : Nat} (hq : q.length ≤ 32) (hc : GoneQ n q) (hk : k ≤ 32) : BkOk (bG q k) := ⟨rfl, by rw [bG_len]; exact hq, (by
  intro p hp x hx
  have hx' : x ∈ q := by
    simp [bG] at hp
    rcases hp with rfl | rfl | rfl
    · cases hx
    · exact hx
    · cases hx
  have := (hc.each x hx').1
  omega), by simp [bG], by simp [bG]; omega⟩
theorem sg_may (zs : List Int) (k : Nat) (hk : k < 30) : mayB (sg zs k) = true := by
  refine mayB_true.2 ⟨?_, ?_, ?_, ?_, ?_, ?_, ?_, ?_, ?_, ?_⟩
  all_goals simp only [sg]
  all_goals first | omega | decide
theorem gone_step (zs : List Int) (q : List Ord) (k : Nat) (hk : k < 30) (hq : q.length = k) : placeB (bG q k) (sg zs k) = ⟨[], 2, 0, bG (pushT q (sg zs k)) (k + 1)⟩ := by
  unfold placeB
  rw [if_neg (by rintro (h | h); (rw [sg_may zs k hk] at h; cases h); (simp [sg, bG] at h; omega)), if_neg (by rw [bG_len]; omega)]
  rfl
theorem gone_push {zs : List Int} {q : List Ord} {k : Nat} (h : GoneQ k q) : GoneQ (k + 1) (pushT q (sg zs k)) := by
  have hp := pushT_perm q (sg zs k)
  refine ⟨?_, fun x hx => ?_⟩
  · refine ((hp.map Ord.id).nodup_iff).2 ?_
    rw [List.map_cons, List.nodup_cons]
    refine ⟨fun hm => ?_, h.nodup⟩
    obtain ⟨x, hx, hid⟩ := List.mem_map.1 hm
    have := (h.each x hx).2
    simp only [sg] at hid
    omega
  · rcases List.mem_cons.1 (hp.mem_iff.1 hx) with rfl | hx
    · exact ⟨rfl, by simp only [sg]; omega⟩
    · have := h.each x hx
      exact ⟨this.1, by omega⟩
theorem cancel_bG (q : List Ord) (n : Nat) (id : Int) : cancelB (bG q n) id = match q.findIdx? (fun o => o.id == id) with
    | none => ⟨o0, 7, bG q n⟩
    | some i => ⟨q.getD i o0, 0, bG (remT q i) n⟩ := by
  unfold cancelB
  have e : findAt (bG q n).ps id offs = match q.findIdx? (fun o => o.id == id) with
      | none => none
      | some i => some (5, i) := by
    simp [findAt, offs, bG]
    cases q.findIdx? (fun o => o.id == id) <;> rfl
  rw [e]
  cases q.findIdx? (fun o => o.id == id) <;> rfl
theorem cancel_none {q : List Ord} {n : Nat} {id : Int} (h : ∀ x ∈ q, x.id ≠ id) : cancelB (bG q n) id = ⟨o0, 7, bG q n⟩ := by
  rw [cancel_bG, List.findIdx?_eq_none_iff.2]
  intro x hx
  simpa using h x hx
/-- One is cancelled: it is gone, the others stand. -/
theorem cancel_gone {q : List Ord} {n m : Nat} (id : Int) (h : GoneQ m q) : ∃ o e q', cancelB (bG q n) id = ⟨o, e, bG q' n⟩ ∧ (e = 0 ∨ e = 7) ∧ GoneQ m q' ∧ (∀ x ∈ q', x ∈ q ∧ x.id ≠ id) ∧ q'.length ≤ q.length := by
  rw [cancel_bG]
  cases hf : q.findIdx? (fun o => o.id == id) with
  | none => exact ⟨_, _, q, rfl, .inr rfl, h, fun x hx => ⟨hx, by simpa using List.findIdx?_eq_none_iff.1 hf x hx⟩, Nat.le_refl _⟩
  | some i =>
    obtain ⟨hi, hx, _⟩ := List.findIdx?_eq_some_iff_getElem.1 hf
    have hp := remT_perm q i hi
    have hmem : ∀ x ∈ remT q i, x ∈ q := fun x hx => hp.mem_iff.1 (List.mem_cons_of_mem _ hx)
    have hnd := ((hp.map Ord.id).nodup_iff).2 h.nodup
    rw [List.map_cons, List.nodup_cons] at hnd
    refine ⟨_, _, remT q i, rfl, .inl rfl, ⟨hnd.2, fun x hx => h.each x (hmem x hx)⟩, fun x hx' => ⟨hmem x hx', fun he => hnd.1 ?_⟩, by rw [remT_length _ _ hi]; omega⟩
    have hx2 : q[i].id = id := by simpa using hx
    rw [hx2, ← he]
    exact List.mem_map_of_mem hx'
/-- Who trades: the order itself, and those that stood there. -/
theorem loop_ids : ∀ (f : Nat) (o : Ord) (q : List Ord) (l : List Trd) (t : Trd), t ∈ (loopF f o q l).2.2 → t ∈ l ∨ ∃ i ∈ q.map Ord.id, (t.buy = o.id ∧ t.sell = i) ∨ (t.buy = i ∧ t.sell = o.id)
  | 0, o, q, l, t, h => .inl h
  | f + 1, o, [], l, t, h => .inl h
  | f + 1, o, x :: q, l, t, h => by
    rw [loopF] at h
    split at h
    · have hids : ∀ c : Int, ((if x.cnt - (tradeF o x).cnt = 0 then popT ({ x with cnt := c } :: q) else { x with cnt := c } :: q).map Ord.id) ⊆ (x :: q).map Ord.id := by
        intro c i hi
        split at hi
        · obtain ⟨z, hz, rfl⟩ := List.mem_map.1 hi
          exact List.mem_map_of_mem (List.mem_cons_of_mem _ ((popT_perm _ _).mem_iff.1 hz))
        · exact hi
      rcases loop_ids f _ _ _ t h with h | ⟨i, hi, h⟩
      · rcases List.mem_append.1 h with h | h
        · exact .inl h
        · rw [List.mem_singleton] at h
          subst h
          refine .inr ⟨x.id, by simp, ?_⟩
          unfold tradeF
          split
          · exact .inr ⟨rfl, rfl⟩
          · exact .inl ⟨rfl, rfl⟩
      · exact .inr ⟨i, hids _ hi, h⟩
    · exact .inl h
theorem gone_final (q : List Ord) (n : Nat) (o : Ord) (gone : List Int) (hq : ∀ x ∈ q, x.id ∉ gone) (ho : o.id ∉ gone) : ∀ t ∈ (placeB (bG q n) o).trades, ∀ k ∈ gone, t.sell ≠ k ∧ t.buy ≠ k := by
  intro t ht k hk
  have hpl : ∀ j x, x ∈ (bG q n).pile j → x ∈ q := by
    intro j x hx
    unfold Bk.pile bG at hx
    match j, hx with
    | 0, hx => cases hx
    | 1, hx => cases hx
    | 2, hx => cases hx
    | 3, hx => cases hx
    | 4, hx => cases hx
    | 5, hx => exact hx
    | 6, hx => cases hx
    | 7, hx => cases hx
    | j + 8, hx => cases hx
  have h1 : (placeB (bG q n) o).trades = [] ∨ (placeB (bG q n) o).trades = (loopF (((bG q n).pile (sideK (itemK o) (!o.buy))).length + 1) o ((bG q n).pile (sideK (itemK o) (!o.buy))) []).2.2 := by
    unfold placeB
    split
    · exact .inl rfl
    · split
      · exact .inl rfl
      · exact .inr rfl
  rcases h1 with h1 | h1
  · rw [h1] at ht; cases ht
  · rw [h1] at ht
    rcases loop_ids _ _ _ _ _ ht with h | ⟨i, hi, h⟩
    · cases h
    · obtain ⟨x, hx, rfl⟩ := List.mem_map.1 hi
      have hx' := hq x (hpl _ x hx)
      have a1 : x.id ≠ k := fun e => hx' (e ▸ hk)
      have a2 : o.id ≠ k := fun e => ho (e ▸ hk)
      rcases h with ⟨e1, e2⟩ | ⟨e1, e2⟩
      · rw [e1, e2]; exact ⟨a1, a2⟩
      · rw [e1, e2]; exact ⟨a2, a1⟩
end Go.Proofs.Ytbcokphjpllbiaa
end
section
set_option linter.unusedSimpArgs false
set_option linter.unusedVariables false
namespace Go.Proofs.Ytbcokphjpllbiaa
open Go.Joins Go.ChangeShapes Go.WideShapes Go.RowKit Go.Deep Go.Sl
/-- v is a slice that holds zs in the world w. -/
def IntsV (w : World) (v : Value) (zs : List Int) : Prop :=
  (zs = [] ∧ ∃ a cap, v = .slice a 0 cap) ∨
  ∃ b off cap, v = .slice (some ⟨b, off, none⟩) zs.length cap ∧ 0 < zs.length ∧ zs.length ≤ 9223372036854775807 ∧ ∀ i, i < zs.length → w.cell? ⟨b, off + i, none⟩ = some (.int .i64 (zs.getD i 0))
set_option maxRecDepth 100000 in
theorem open_intsV {H : Type} {enc : TypeId × Value → H} {w : World} {base : Nat} {spare : Nat → Bool} {held : Bool} {r : Reach} {b0 : Nat} {v : Value} {d : DataW H} {p : List MemPlace}
    (hv : Value.okWide Try.prog w r b0 89 v) (h : DataW.Trod enc Try.prog w base spare held 89 v d p) : ∃ zs, IntsV w v zs := by
  obtain ⟨a0, len, cap, rfl⟩ := okWide_slice Try.underlying89 hv
  obtain ⟨fuel, hf⟩ := h
  rcases open_ints Try.underlying89 Try.underlying3 (by kernel_rfl) hf with ⟨hcs, hx⟩ | ⟨a, len', cap', zs, hcs, _, hl, hm, hz, hx, hcell, hwz⟩
  · simp [Value.cells] at hcs
    obtain ⟨rfl, rfl, rfl⟩ := hcs
    exact ⟨[], .inl ⟨rfl, _, _, rfl⟩⟩
  · simp [Value.cells] at hcs
    obtain ⟨rfl, rfl, rfl⟩ := hcs
    by_cases h0 : len = 0
    · subst h0
      exact ⟨[], .inl ⟨rfl, _, _, rfl⟩⟩
    · have hzl : len ≤ zs.length := by rw [hz]; split <;> omega
      obtain ⟨b, off, spot⟩ := a
      have hspot : spot = none := by simpa [Addr.add] using World.cell?_spot (hcell 0 (by omega))
      subst hspot
      refine ⟨zs.take len, .inr ⟨b, off, cap, ?_, ?_, ?_, ?_⟩⟩
      · rw [List.length_take, Nat.min_eq_left hzl]
      · rw [List.length_take, Nat.min_eq_left hzl]; omega
      · rw [List.length_take, Nat.min_eq_left hzl]; unfold maxLen at hm; omega
      · intro i hi
        rw [List.length_take, Nat.min_eq_left hzl] at hi
        have := hcell i (by omega)
        rw [Addr.add_lit] at this
        rw [this, List.getD_eq_getElem?_getD, List.getD_eq_getElem?_getD, List.getElem?_take, if_pos hi]
theorem and7 (n : Int) : bits .and .i64 n 7 = n % 8 := by
  have h7 : (BitVec.ofInt 64 7).toNat = 2 ^ 3 - 1 := by decide
  have key : (BitVec.ofInt 64 n &&& BitVec.ofInt 64 7).toNat = (n % ((2 ^ 64 : Nat) : Int)).toNat % 2 ^ 3 := by
    rw [BitVec.toNat_and, BitVec.toNat_ofInt, h7, Nat.and_two_pow_sub_one_eq_mod]
  show IntKind.i64.wrap ((BitVec.ofInt 64 n &&& BitVec.ofInt 64 7).toNat : Nat) = n % 8
  rw [key, IntKind.wrap_i64]
  omega
theorem and31 (n : Int) : bits .and .i64 n 31 = n % 32 := by
  have h7 : (BitVec.ofInt 64 31).toNat = 2 ^ 5 - 1 := by decide
  have key : (BitVec.ofInt 64 n &&& BitVec.ofInt 64 31).toNat = (n % ((2 ^ 64 : Nat) : Int)).toNat % 2 ^ 5 := by
    rw [BitVec.toNat_and, BitVec.toNat_ofInt, h7, Nat.and_two_pow_sub_one_eq_mod]
  show IntKind.i64.wrap ((BitVec.ofInt 64 n &&& BitVec.ofInt 64 31).toNat : Nat) = n % 32
  rw [key, IntKind.wrap_i64]
  omega
end Go.Proofs.Ytbcokphjpllbiaa
end
section
set_option linter.unusedSimpArgs false
set_option linter.unusedVariables false
namespace Go.Proofs.Ytbcokphjpllbiaa
open Go.RowKit Go.Sl
theorem IntsV.flat {V : World} {v : Value} {zs : List Int} (h : IntsV V v zs) : ∃ a cap, v = .slice a zs.length cap ∧ zs.length ≤ 9223372036854775807 ∧ ∀ i, i < zs.length → ∃ b off, a = some ⟨b, off, none⟩ ∧ V.cell? ⟨b, off + i, none⟩ = some (.int .i64 (zs.getD i 0)) := by
  rcases h with ⟨rfl, a, cap, rfl⟩ | ⟨b, off, cap, rfl, _, h63, hc⟩
  · exact ⟨a, cap, rfl, by simp, fun i hi => absurd hi (Nat.not_lt_zero _)⟩
  · exact ⟨_, cap, rfl, h63, fun i hi => ⟨b, off, rfl, hc i hi⟩⟩
def intsR (v : Value) (ks : List Int) : HP := row v 1 3 ks.length (ks.map (Value.int .i64))
def Gone1 (W : World) (L : List HP) (zs : List Int) (bb : Nat) (v8 : Value) (w : World) : Prop :=
  ∃ (k : Nat) (q : List Ord), v8 = .int .i64 k ∧ k ≤ zs.length ∧ q.length = k ∧ GoneQ k q ∧ St W (bookP bb (bG q k) :: L) w
def Gone2 (W : World) (L : List HP) (n m : Nat) (bb : Nat) (v9 v10 : Value) (w : World) : Prop :=
  ∃ (k : Nat) (q : List Ord) (gone : List Int), v10 = .int .i64 k ∧ k ≤ m ∧ q.length ≤ 20 ∧ GoneQ n q ∧ gone.length = k ∧ (∀ x ∈ q, x.id ∉ gone) ∧ (∀ x ∈ gone, x ≤ 32) ∧ St W (bookP bb (bG q n) :: intsR v9 gone :: L) w
def Gone3 (W : World) (L : List HP) (n : Nat) (v : Value) (w : World) : Prop := ∃ i : Nat, v = .int .i64 i ∧ i ≤ n ∧ St W L w
end Go.Proofs.Ytbcokphjpllbiaa
end
section
set_option linter.unusedSimpArgs false
set_option linter.unusedVariables false
namespace Go.Sl
open Go.RowKit
section
variable {P : Program} {ops : Array Oper} {Q : Exit → Act → World → Prop} {a : Act} {w : World} {W : World} {L L' R : List HP} {rest : List Oper} {o : Oper}
theorem append_types {t t2 e e2 : TypeId} (ht : P.underlying t = some (.slice e)) (h2 : P.underlying t2 = some (.slice e2)) (ty : TypeId) (s x : Value) (w : World) : (Builtin.append_ #[t, t2] ty #[s, x]).run P w = (Builtin.append_ #[t, t] ty #[s, x]).run P w := by
  unfold Builtin.append_
  simp only [List.getElem?_toArray, List.getElem?_cons_zero, List.getElem?_cons_succ, Sem.run_bind, run_underlying ht, run_underlying h2, Result.andThen_ok]
  cases s <;> simp [run_underlying ht, run_underlying h2]
theorem wl_append2 {s x : Operand} {t t2 e e2 : TypeId} {z : Value} {k bytes : Nat} {v xv : Value} {n m : Nat} {cs news : List Value} (hS : St W L w) (ho : o.op = .call { callee := .builtin .append, args := #[s, x], argTypes := #[t, t2] })
    (hg : Region.wanted o (yielded ops a.tmps) = true) (hs : a.eval s = v) (hx : a.eval x = xv) (ht : tyElem P t = some e) (ht2 : tyElem P t2 = some e2) (hi : tyRow P e = some (some z, k, bytes)) (hz : z.cells.size = k) (hk : 0 < k) (hu : Take L (row v k e n cs) R)
    (hsrc : Src L xv m news) (hl : news.length = m * k) (h1 : news.all (·.oneCell') = true) (h63 : n + m ≤ maxLen) (hb : (n + m) * bytes ≤ 140737488355328)
    (h : ∀ v' w', St W (row v' k e (n + m) (cs ++ news) :: R) w' → wpList P ops Q rest (a.put o.dst v') w') : wpList P ops Q (o :: rest) a w := by
  obtain ⟨v', w', hr, hS'⟩ := run_append (P := P) (ty := o.type) ht hi hz hk rfl hS hu (hsrc.at hS) hl h1 h63 hb
  refine wpList_run hg (v := v') (w' := w') ?_ (h v' w' hS')
  unfold execOp
  simp only [ho, resolve, invoke, builtin, Sem.run_bind, Sem.run_pure, Result.andThen_ok, List.map_toArray, List.map_cons, List.map_nil, hs, hx, append_types (tyElem_spec ht) (tyElem_spec ht2), hr]
end
end Go.Sl
end
section
set_option linter.unusedSimpArgs false
set_option linter.unusedVariables false
namespace Go.Proofs.Ytbcokphjpllbiaa
open Go.RowKit Go.Sl
/-- What stands in the first k piles. -/
def catTo (ps : List (List Ord)) (k : Nat) : List Ord := (offs.take k).flatMap fun o => ps.getD o []
theorem catTo_len (ps : List (List Ord)) (k : Nat) (hk : k ≤ 8) : (catTo ps k).length = lenTo ps k := by
  obtain h | h | h | h | h | h | h | h | h : k = 0 ∨ k = 1 ∨ k = 2 ∨ k = 3 ∨ k = 4 ∨ k = 5 ∨ k = 6 ∨ k = 7 ∨ k = 8 := by omega
  all_goals subst h
  all_goals simp [catTo, lenTo, offs]
  all_goals omega
theorem catTo_step (ps : List (List Ord)) {k o : Nat} (h : offs.drop k = o :: offs.drop (k + 1)) : catTo ps (k + 1) = catTo ps k ++ ps.getD o [] := by
  have h1 : offs[k]? = some o := by
    have := congrArg List.head? h
    simpa [List.head?_drop] using this
  unfold catTo
  rw [List.take_add_one, h1]
  simp
theorem St.src {W w : World} {L : List HP} {v : Value} {k n : Nat} {T : TypeId} {cs : List Value} (hk : 0 < k) (h : St W (row v k T n cs :: L) w) : Src (row v k T n cs :: L) v n cs := by
  rcases h.rowOpen with ⟨rfl, rfl, rfl, _⟩ | ⟨g, cap, junk, rfl, hn1, hm1, hj1, hl1, _⟩
  · exact .inl ⟨rfl, rfl, rfl⟩
  · refine .inr ⟨g, 0, cap, rfl, fun j u hj => ?_⟩
    rw [Nat.zero_add]
    have hjl := (List.getElem?_eq_some_iff.1 hj).1
    refine Cell.row ?_ hj
    rcases Nat.eq_zero_or_pos n with h0 | h0
    · rw [hl1, h0, Nat.zero_mul] at hjl; omega
    · exact h0
def ListRel (W : World) (L : List HP) (bb : Nat) (b : Bk) (v3 v11 : Value) (w : World) : Prop :=
  ∃ k : Nat, v11 = .int .i64 k ∧ k ≤ 8 ∧ St W (pileR v3 (catTo b.ps k) :: bookP bb b :: L) w
theorem flat_one (l : List Ord) : (l.flatMap Ord.cells).all (·.oneCell') = true := by
  rw [List.all_eq_true]
  intro v hv
  obtain ⟨x, _, hx⟩ := List.mem_flatMap.1 hv
  simp [Ord.cells] at hx
  rcases hx with rfl | rfl | rfl | rfl | rfl | rfl <;> rfl
set_option maxRecDepth 100000 in
set_option maxHeartbeats 4000000 in
theorem list_spec (bb : Nat) (b1 : Bk) (hok : b1.len ≤ 32) (W w : World) (L : List HP) (hS : St W (bookP bb b1 :: L) w) :
    Calls Try.prog 30 #[.pointer (some ⟨bb, 0, none⟩)] w fun e w' => ∃ v l, e = .returned v ∧ l.Perm (catTo b1.ps 8) ∧ l.Pairwise (fun x y : Ord => x.id ≤ y.id) ∧ St W (bookP bb b1 :: pileR v l :: L) w' := by
  go_enter Try.func30, Try.ntmps30
  go_wp2_with (first | (go_at_call 43; refine (piles_spec bb W _ _ hS).mono ?_; clear hS; rintro e w ⟨v, rfl, hS⟩; rcases hS.rowOpen with ⟨_, h0, _⟩ | ⟨g, cap, junk, rfl, hn1, hm1, hj1, hl1, hS'⟩; (exfalso; omega); clear hS; have hS := hS'; clear hS'; unfold maxLen at hm1) | ((with_reducible apply wl_ld1 hS); (with_reducible rfl); rfl; rfl; decide +kernel; (first | (focus ((repeat (first | exact Cell.here rfl | apply Cell.there)); done)) | assumption); (simp only [Act.put, List.setIfInBounds_toArray, List.set_cons_succ, List.set_cons_zero, Nat.reduceAdd])) | ((with_reducible apply wl_ldN hS); (with_reducible rfl); rfl; rfl; decide +kernel; (first | (focus ((repeat (first | exact Cells.whole | apply Cells.there)); done)) | assumption); kernel_rfl; (simp only [Act.put, List.setIfInBounds_toArray, List.set_cons_succ, List.set_cons_zero, Nat.reduceAdd])) | ((with_reducible apply wl_st1 hS); (with_reducible rfl); rfl; rfl; (focus ((conv => lhs; whnf); try rfl)); kernel_rfl; rfl; rfl; ((focus ((repeat (first | exact Upd.head | apply Upd.tail)); done))); (simp only [List.length_cons, List.length_nil]; omega); ((simp only [List.set_cons_zero, List.set_cons_succ, setAll]); rfl); clear hS; intro w hS; try (simp only [Act.put, List.setIfInBounds_toArray, List.set_cons_succ, List.set_cons_zero, Nat.reduceAdd])) | ((with_reducible apply wl_stN hS); (with_reducible rfl); rfl; rfl; (focus ((conv => lhs; whnf); try rfl)); kernel_rfl; rfl; ((focus ((repeat (first | exact Upd.head | apply Upd.tail)); done))); (simp only [List.length_cons, List.length_nil]; omega); ((simp only [List.set_cons_zero, List.set_cons_succ, setAll]); rfl); clear hS; intro w hS; try (simp only [Act.put, List.setIfInBounds_toArray, List.set_cons_succ, List.set_cons_zero, Nat.reduceAdd])) | ((with_reducible apply wl_box hS); (with_reducible rfl); rfl; rfl; rfl; clear hS; intro b w hS; (simp only [Act.put, List.setIfInBounds_toArray, List.set_cons_succ, List.set_cons_zero, Nat.reduceAdd])) | ((with_reducible apply wl_alloc hS); (with_reducible rfl); rfl; (with_reducible first | exact Ty.z3 | exact Ty.z28 | exact Ty.z32 | exact Ty.z40 | exact Ty.z46 | exact Ty.z69 | exact Ty.z86 | exact Ty.z146); clear hS; intro b w hS; (simp only [Act.put, List.setIfInBounds_toArray, List.set_cons_succ, List.set_cons_zero, Nat.reduceAdd])))
  have hS1 := (hS.swap.rowNil (k := 6) (T := 32))
  clear hS
  have hS := hS1
  clear hS1
  go_loopw [3, 11] (fun v3 v wr => ListRel W (blk g (ptrL bb ++ junk) 94 :: L) bb b1 v3 v wr) (fun _ v _ => 8 - (intOf v).toNat)
  case atStart => exact ⟨0, rfl, by omega, hS⟩
  case round =>
    clear hS
    obtain ⟨k, rfl, hk, hS⟩ := hrel
    by_cases h8 : k = 8
    · subst h8
      have hcl : (catTo b1.ps 8).length ≤ 32 := by rw [catTo_len _ _ (Nat.le_refl _)]; exact hok
      rcases hS.rowOpen with ⟨rfl, h0, _, hS'⟩ | ⟨g2, cap2, junk2, rfl, hn2, hm2, hj2, hl2, hS'⟩
      · have hc0 : catTo b1.ps 8 = [] := List.eq_nil_of_length_eq_zero h0
        go_wp2_with (first | (go_at_call 47; refine (sort_nil _ W _ _ hS).mono ?_; clear hS; rintro e w ⟨rfl, hS⟩))
        go_ret
        refine ⟨_, catTo b1.ps 8, rfl, .refl _, by rw [hc0]; exact .nil, ?_⟩
        exact (hS.take .t2).drop.swap
      · clear hS
        have hS := hS'
        clear hS'
        go_wp2_with (first | (go_at_call 47; refine (sort_row (catTo b1.ps 8) g2 cap2 junk2 (by omega) W _ _ hS).mono ?_; clear hS; rintro e w ⟨rfl, l, hl, hsd, hS⟩))
        go_ret
        refine ⟨_, l, rfl, hl, hsd, ?_⟩
        have hll := hl.length_eq
        have hf1 := flat_length Ord.len l
        have hf2 := flat_length Ord.len (catTo b1.ps 8)
        rw [← hll] at hn2
        have h1 : St W (pileR (.slice (some ⟨g2, 0, none⟩) l.length cap2) l :: bookP bb b1 :: blk g (ptrL bb ++ junk) 94 :: L) w := St.rowShut hS hn2 hm2 (by rw [List.length_append] at hj2 ⊢; rw [hf1, hll, ← hf2]; exact hj2) (by rw [hf1])
        rw [hll] at h1
        exact (h1.take .t2).drop.swap
    · have hk8 : k < 8 := by omega
      clear h8 hk
      obtain ⟨o, ho, hdr, hpt⟩ := ptrL_get bb junk k hk8
      have hcs := catTo_step b1.ps hdr
      obtain ⟨vs, h1, h2, hS0⟩ := bookOpen hS.swap
      clear hS
      have ho1 : o < vs.length := by omega
      have ho2 : o < b1.ps.length := by omega
      have hpk : b1.ps[o] = b1.pile o := by unfold Bk.pile; simp [List.getD_eq_getElem?_getD, List.getElem?_eq_getElem ho2]
      have hS1 := pileTake o ho1 ho2 hS0.swap
      clear hS0
      rw [hpk] at hS1
      have hl : (vs ++ [Value.int .i64 b1.last])[o]? = some vs[o] := by rw [List.getElem?_append_left ho1, List.getElem?_eq_getElem ho1]
      generalize hvv : vs[o] = v at hl hS1
      have hp32 := len_offs b1 o ho hok
      have hgd : b1.ps.getD o [] = b1.pile o := rfl
      rw [hgd] at hp32 hcs
      have Hvv := Lib.hid hvv
      clear hvv
      have hS := hS1.take .t3
      clear hS1
      have hcl : (catTo b1.ps k).length ≤ 32 := by rw [catTo_len _ _ (by omega)]; exact Nat.le_trans (lenTo_mono _ (by omega)) hok
      have hsrc : Src (pileR u3 (catTo b1.ps k) :: pileR v (b1.pile o) :: sats ((pilesR vs b1.ps).eraseIdx o) :: blk bb (vs ++ [Value.int .i64 b1.last]) 93 :: blk g (ptrL bb ++ junk) 94 :: L) v (b1.pile o).length ((b1.pile o).flatMap Ord.cells) := (St.src (by decide) hS.drop).there
      have Hcs := Lib.hid hcs
      clear hcs hdr
      go_wp2_with (first | ((with_reducible apply wl_ld1 hS); (with_reducible rfl); rfl; rfl; decide +kernel; (exact Cell.there (Cell.there (Cell.there (Cell.there (Cell.here hpt))))); (simp only [Act.put, List.setIfInBounds_toArray, List.set_cons_succ, List.set_cons_zero, Nat.reduceAdd])) | ((with_reducible apply wl_ld1 hS); (with_reducible rfl); rfl; rfl; decide +kernel; (exact Cell.there (Cell.there (Cell.there (Cell.here hl)))); (simp only [Act.put, List.setIfInBounds_toArray, List.set_cons_succ, List.set_cons_zero, Nat.reduceAdd])) | ((with_reducible apply wl_append2 (e2 := 32) hS); (with_reducible rfl); rfl; rfl; rfl; (with_reducible first | exact Ty.e41 | exact Ty.e42 | exact Ty.e49 | exact Ty.e65 | exact Ty.e79 | exact Ty.e84 | exact Ty.e89 | exact Ty.e90 | exact Ty.e98 | exact Ty.e114); kernel_rfl; (with_reducible first | exact Ty.r3 | exact Ty.r5 | exact Ty.r9 | exact Ty.r28 | exact Ty.r32 | exact Ty.r46 | exact Ty.r49 | exact Ty.r69 | exact Ty.r94); rfl; decide; ((focus ((repeat (first | exact Take.head | apply Take.tail)); done))); (exact hsrc); (focus (rw [flat_length Ord.len])); (focus (exact flat_one _)); (focus (unfold maxLen; omega)); (focus (omega)); clear hS; intro v3 w hS; (simp only [Act.put, List.setIfInBounds_toArray, List.set_cons_succ, List.set_cons_zero, Nat.reduceAdd])))
      have hS3 := ((hS.take .t1).take .t2).swap
      clear hS
      have hS4 := pileBack o ho1 ho2 hS3
      clear hS3
      rw [← Hvv.out, ← hpk, List.set_getElem_self, List.set_getElem_self] at hS4
      have hS5 := (bookShut h1 h2 (hS4.take .t2)).swap
      clear hS4
      go_roundw
      case rel =>
        refine ⟨k + 1, rfl, hk8, ?_⟩
        rw [Hcs.out]
        unfold pileR
        rw [List.length_append, List.flatMap_append, ← hpk]
        exact hS5
      case measure => simp [intOf]; omega
end Go.Proofs.Ytbcokphjpllbiaa
end
section
set_option linter.unusedSimpArgs false
set_option linter.unusedVariables false
namespace Go.Proofs.Ytbcokphjpllbiaa
open Go.RowKit Go.Sl
/-- Two meet, as the document says it. -/
def meetR (a b : Ord) : Bool := decide (a.item = b.item) && (a.buy != b.buy) && (if a.buy then decide (b.price ≤ a.price) else decide (a.price ≤ b.price))
def betterR (o x z : Ord) : Bool := if o.buy then decide (x.price < z.price) else decide (z.price < x.price)
def goodR (o : Ord) (L : List Ord) (n : Nat) : Option Nat → Bool
  | none => true
  | some k => betterR o (at' L n) (at' L k)
/-- The best one that meets o among the first n. -/
def bestTo (o : Ord) (L : List Ord) : Nat → Option Nat
  | 0 => none
  | n + 1 =>
    if meetR o (at' L n) && goodR o L n (bestTo o L n) then some n else bestTo o L n
def tradeR (o x : Ord) : Trd := if o.buy then ⟨o.who, x.who, o.id, x.id, o.item, minI o.cnt x.cnt, x.price, o.price⟩ else ⟨x.who, o.who, x.id, o.id, o.item, minI o.cnt x.cnt, x.price, x.price⟩
def cutR (L : List Ord) (k : Nat) (c : Int) : List Ord := if c = 0 then L.eraseIdx k else L.set k { at' L k with cnt := c }
def refLoop : Nat → Ord → List Ord → List Trd → Ord × List Ord × List Trd
  | 0, o, L, ts => (o, L, ts)
  | f + 1, o, L, ts =>
    if 0 < o.cnt then
      match bestTo o L L.length with
      | none => (o, L, ts)
      | some k => refLoop f { o with cnt := o.cnt - minI o.cnt (at' L k).cnt } (cutR L k ((at' L k).cnt - minI o.cnt (at' L k).cnt)) (ts ++ [tradeR o (at' L k)])
    else (o, L, ts)
structure PlacedR where
  trades : List Trd
  left : Int
  errno : Int
  L : List Ord
  last : Int
def placeR (L : List Ord) (last : Int) (o : Ord) : PlacedR :=
  if mayB o = false ∨ o.id ≤ last then ⟨[], 0, 1, L, last⟩
  else if 32 ≤ L.length then ⟨[], 0, 6, L, last⟩
  else
    let r := refLoop (L.length + 1) o L []
    ⟨r.2.2, r.1.cnt, 0, if 0 < r.1.cnt then r.2.1 ++ [r.1] else r.2.1, o.id⟩
structure CancelledR where
  o : Ord
  errno : Int
  L : List Ord
def cancelR (L : List Ord) (id : Int) : CancelledR :=
  match L.findIdx? (fun o => o.id == id) with
  | none => ⟨o0, 7, L⟩
  | some i => ⟨at' L i, 0, L.eraseIdx i⟩

theorem best_none {o : Ord} {L : List Ord} : ∀ {n : Nat}, bestTo o L n = none → ∀ i, i < n → meetR o (at' L i) = false
  | 0, _, i, hi => absurd hi (Nat.not_lt_zero _)
  | n + 1, h, i, hi => by
    rw [bestTo] at h
    split at h
    · cases h
    · rename_i hc
      by_cases hin : i = n
      · subst hin
        rw [h] at hc
        simpa [goodR] using hc
      · exact best_none h i (by omega)
theorem best_some {o : Ord} {L : List Ord} : ∀ {n k : Nat}, bestTo o L n = some k → k < n ∧ meetR o (at' L k) = true ∧ ∀ i, i < n → meetR o (at' L i) = true → betterR o (at' L i) (at' L k) = false ∧ (i < k → betterR o (at' L k) (at' L i) = true)
  | 0, k, h => by cases h
  | n + 1, k, h => by
    rw [bestTo] at h
    split at h
    · rename_i hc
      cases h
      simp only [Bool.and_eq_true] at hc
      refine ⟨Nat.lt_succ_self _, hc.1, fun i hi hm => ?_⟩
      by_cases hin : i = n
      · subst hin
        refine ⟨?_, fun h => absurd h (Nat.lt_irrefl _)⟩
        unfold betterR; split <;> simp
      · have hin' : i < n := by omega
        cases hb : bestTo o L n with
        | none => rw [best_none hb i hin'] at hm; cases hm
        | some k' =>
          rw [hb] at hc
          obtain ⟨_, _, h3⟩ := best_some hb
          have h4 := (h3 i hin' hm).1
          have h5 : betterR o (at' L n) (at' L k') = true := hc.2
          unfold betterR at *
          split at h5
          · rename_i ho
            rw [if_pos ho] at h4 ⊢
            rw [if_pos ho]
            simp only [decide_eq_true_eq, decide_eq_false_iff_not] at *
            exact ⟨by omega, fun _ => by omega⟩
          · rename_i ho
            rw [if_neg ho] at h4 ⊢
            rw [if_neg ho]
            simp only [decide_eq_true_eq, decide_eq_false_iff_not] at *
            exact ⟨by omega, fun _ => by omega⟩
    · rename_i hc
      obtain ⟨h1, h2, h3⟩ := best_some h
      refine ⟨by omega, h2, fun i hi hm => ?_⟩
      by_cases hin : i = n
      · subst hin
        refine ⟨?_, fun h => by omega⟩
        rw [h, hm] at hc
        simpa [goodR] using hc
      · exact h3 i (by omega) hm
theorem better_ky (o x z : Ord) : betterR o x z = decide (ky (!o.buy) x < ky (!o.buy) z) := by
  unfold betterR ky
  cases o.buy <;> simp
abbrev ById (L : List Ord) : Prop := L.Pairwise fun x z => x.id < z.id
theorem ById.lt {L : List Ord} (h : ById L) {i j : Nat} (hj : j < L.length) (hij : i < j) : (at' L i).id < (at' L j).id := by
  rw [at'_get hj, at'_get (show i < L.length by omega)]
  exact List.pairwise_iff_getElem.1 h i j (by omega) hj hij
theorem ById.inj {L : List Ord} (h : ById L) {i j : Nat} (hi : i < L.length) (hj : j < L.length) (he : (at' L i).id = (at' L j).id) : i = j := by
  rcases Nat.lt_trichotomy i j with h1 | h1 | h1
  · have := h.lt hj h1; omega
  · exact h1
  · have := h.lt hi h1; omega
theorem mem_at' {L : List Ord} {x : Ord} (hx : x ∈ L) : ∃ i, i < L.length ∧ at' L i = x := by
  obtain ⟨i, hi, rfl⟩ := List.mem_iff_getElem.1 hx
  exact ⟨i, hi, at'_get hi⟩
theorem at'_mem {L : List Ord} {i : Nat} (hi : i < L.length) : at' L i ∈ L := by rw [at'_get hi]; exact List.getElem_mem hi
theorem ById.eq {L : List Ord} (h : ById L) {x z : Ord} (hx : x ∈ L) (hz : z ∈ L) (he : x.id = z.id) : x = z := by
  obtain ⟨i, hi, rfl⟩ := mem_at' hx
  obtain ⟨j, hj, rfl⟩ := mem_at' hz
  rw [h.inj hi hj he]
theorem sorted_eq : ∀ {l L : List Ord}, l.Perm L → l.Pairwise (fun x z => x.id ≤ z.id) → ById L → l = L
  | [], L, hp, _, _ => (List.nil_perm.1 hp).symm
  | a :: l, [], hp, _, _ => by simp at hp
  | a :: l, b :: L, hp, h1, h2 => by
    have ha : a ∈ b :: L := hp.mem_iff.1 (List.mem_cons_self ..)
    have hb : b ∈ a :: l := hp.mem_iff.2 (List.mem_cons_self ..)
    have hab : a = b := by
      rcases List.mem_cons.1 ha with h | h
      · exact h
      · rcases List.mem_cons.1 hb with h' | h'
        · exact h'.symm
        · have e1 := (List.pairwise_cons.1 h2).1 a h
          have e2 := (List.pairwise_cons.1 h1).1 b h'
          omega
    subst hab
    rw [sorted_eq hp.cons_inv (List.pairwise_cons.1 h1).2 (List.pairwise_cons.1 h2).2]
theorem split_at (L : List Ord) {k : Nat} (hk : k < L.length) : (at' L k :: L.eraseIdx k).Perm L := by rw [at'_get hk]; exact pick_perm L k hk
theorem set_at (L : List Ord) {k : Nat} (hk : k < L.length) (x : Ord) : (x :: L.eraseIdx k).Perm (L.set k x) := by
  have h := pick_perm (L.set k x) k (by simpa using hk)
  rw [List.getElem_set_self, List.eraseIdx_set_eq] at h
  exact h
theorem ById.erase {L : List Ord} (h : ById L) (k : Nat) : ById (L.eraseIdx k) := List.Pairwise.sublist (List.eraseIdx_sublist L k) h
theorem ById.set {L : List Ord} (h : ById L) {k : Nat} (hk : k < L.length) (c : Int) : ById (L.set k { at' L k with cnt := c }) := by
  have e : ∀ i (hi : i < L.length), ((L.set k { at' L k with cnt := c })[i]'(by simpa using hi)).id = (at' L i).id := by
    intro i hi
    rw [List.getElem_set]
    split
    · rename_i he; subst he; rfl
    · rw [at'_get hi]
  rw [ById, List.pairwise_iff_getElem]
  intro i j hi hj hij
  rw [List.length_set] at hi hj
  rw [e i hi, e j hj]
  exact h.lt hj hij
theorem ById.cut {L : List Ord} (h : ById L) {k : Nat} (hk : k < L.length) (c : Int) : ById (cutR L k c) := by
  unfold cutR
  split
  · exact h.erase k
  · exact h.set hk c
/-- What is carried from step to step: the row is the heap of the other side and the rest, which does not meet. -/
structure Sim (o : Ord) (q rest L : List Ord) : Prop where
  perm : L.Perm (q ++ rest)
  heap : Heap (!o.buy) q
  item : ∀ x ∈ q, x.item = o.item
  far : ∀ x ∈ rest, meetR o x = false
  byId : ById L
theorem meet_near {o x : Ord} (hi : x.item = o.item) (hb : x.buy = !o.buy) : meetR o x = meetO o x := by
  unfold meetR meetO
  rw [hi, hb]
  cases o.buy <;> simp
theorem trade_near {o x : Ord} (hb : x.buy = !o.buy) : tradeR o x = tradeF o x := by
  unfold tradeR tradeF
  rw [hb]
  cases o.buy <;> simp
theorem Sim.best_no {o : Ord} {x : Ord} {q rest L : List Ord} (h : Sim o (x :: q) rest L) (hm : meetO o x = false) : bestTo o L L.length = none := by
  cases hb : bestTo o L L.length with
  | none => rfl
  | some k =>
    obtain ⟨hk, hmk, _⟩ := best_some hb
    have hmem := h.perm.mem_iff.1 (at'_mem hk)
    rcases List.mem_append.1 hmem with hq | hr
    · have hle := h.heap.top _ hq
      have hs := h.heap.side _ hq
      have hs0 := h.heap.side x (List.mem_cons_self ..)
      rw [meet_near (h.item _ hq) hs] at hmk
      unfold leK ky at hle
      unfold meetO at hm hmk
      rw [hs] at hmk
      rw [hs0] at hm
      cases ho : o.buy <;> simp [ho] at hm hmk hle <;> omega
    · rw [h.far _ hr] at hmk; cases hmk
theorem Sim.best_nil {o : Ord} {rest L : List Ord} (h : Sim o [] rest L) : bestTo o L L.length = none := by
  cases hb : bestTo o L L.length with
  | none => rfl
  | some k =>
    obtain ⟨hk, hmk, _⟩ := best_some hb
    rw [h.far _ (h.perm.mem_iff.1 (at'_mem hk))] at hmk
    cases hmk
theorem Sim.best_yes {o : Ord} {x : Ord} {q rest L : List Ord} (h : Sim o (x :: q) rest L) (hm : meetO o x = true) : ∃ k, bestTo o L L.length = some k ∧ k < L.length ∧ at' L k = x := by
  have hs0 := h.heap.side x (List.mem_cons_self ..)
  have hx : x ∈ L := h.perm.mem_iff.2 (by simp)
  obtain ⟨i, hi, hix⟩ := mem_at' hx
  have hmi : meetR o (at' L i) = true := by rw [hix, meet_near (h.item x (List.mem_cons_self ..)) hs0]; exact hm
  cases hb : bestTo o L L.length with
  | none => rw [best_none hb i hi] at hmi; cases hmi
  | some k =>
    obtain ⟨hk, hmk, hall⟩ := best_some hb
    refine ⟨k, rfl, hk, ?_⟩
    have hmem := h.perm.mem_iff.1 (at'_mem hk)
    rcases List.mem_append.1 hmem with hq | hr
    · have hle := h.heap.top _ hq
      obtain ⟨h1, h2⟩ := hall i hi hmi
      rw [better_ky, hix] at h1 h2
      simp only [decide_eq_false_iff_not, decide_eq_true_eq] at h1 h2
      unfold leK at hle
      rcases Nat.lt_trichotomy i k with h3 | h3 | h3
      · have := h2 h3; omega
      · rw [← h3]; exact hix
      · have := h.byId.lt hi h3
        rw [hix] at this
        omega
    · rw [h.far _ hr] at hmk; cases hmk
theorem minI_pos {a b : Int} (ha : 0 < a) (hb : 0 < b) : 0 < minI a b ∧ minI a b ≤ a ∧ minI a b ≤ b := by unfold minI; split <;> omega
theorem Sim.step {o : Ord} {x : Ord} {q rest L : List Ord} (h : Sim o (x :: q) rest L) {k : Nat} (hk : k < L.length) (hx : at' L k = x) (c c' : Int) :
    Sim { o with cnt := c' } (if c = 0 then popT ({ x with cnt := c } :: q) else { x with cnt := c } :: q) rest (cutR L k c) := by
  have hc := h.heap.cnt c
  have hp := popT_perm { x with cnt := c } q
  have h1 := (split_at L hk).symm
  rw [hx] at h1
  have h2 : (L.eraseIdx k).Perm (q ++ rest) := (h1.symm.trans h.perm).cons_inv
  unfold cutR
  by_cases hz : c = 0
  · rw [if_pos hz, if_pos hz]
    refine ⟨h2.trans (hp.symm.append_right rest), hc.pop, fun z hz' => h.item z (List.mem_cons_of_mem _ (hp.mem_iff.1 hz')), h.far, h.byId.erase k⟩
  · rw [if_neg hz, if_neg hz, hx]
    refine ⟨(set_at L hk _).symm.trans (h2.cons _), hc, ?_, h.far, ?_⟩
    · intro z hz'
      rcases List.mem_cons.1 hz' with rfl | hz'
      · exact h.item x (List.mem_cons_self ..)
      · exact h.item z (List.mem_cons_of_mem _ hz')
    · have := h.byId.set hk c
      rw [hx] at this
      exact this
theorem tradeF_cnt (o x : Ord) : (tradeF o x).cnt = minI o.cnt x.cnt := by unfold tradeF; split <;> rfl
theorem sim : ∀ (f : Nat) (o : Ord) (q rest L : List Ord) (ts : List Trd), Sim o q rest L →
    ∃ L', refLoop f o L ts = ((loopF f o q ts).1, L', (loopF f o q ts).2.2) ∧ Sim (loopF f o q ts).1 (loopF f o q ts).2.1 rest L'
  | 0, o, q, rest, L, ts, h => ⟨L, rfl, h⟩
  | f + 1, o, [], rest, L, ts, h => by
    refine ⟨L, ?_, h⟩
    rw [refLoop, h.best_nil]
    simp only [ite_self]
    rfl
  | f + 1, o, x :: q, rest, L, ts, h => by
    rw [refLoop, loopF]
    by_cases h0 : 0 < o.cnt
    · rw [if_pos h0]
      cases hm : meetO o x
      · rw [h.best_no hm, if_neg (by rintro ⟨_, h⟩; cases h)]
        exact ⟨L, rfl, h⟩
      · obtain ⟨k, hb, hk, hx⟩ := h.best_yes hm
        rw [hb, if_pos ⟨h0, rfl⟩]
        simp only
        rw [hx, tradeF_cnt, trade_near (h.heap.side x (List.mem_cons_self ..))]
        exact sim f _ _ rest _ _ (h.step hk hx _ _)
    · rw [if_neg h0, if_neg (fun h => h0 h.1)]
      exact ⟨L, rfl, h⟩
/-- More steps change nothing. -/
theorem loop_fuel : ∀ (f f' : Nat) (o : Ord) (q : List Ord) (ts : List Trd), (∀ x ∈ q, 0 < x.cnt) → (q.length < f ∧ q.length < f') ∨ (o.cnt ≤ 0 ∧ 0 < f ∧ 0 < f') → loopF f o q ts = loopF f' o q ts
  | 0, _, _, _, _, _, h => by omega
  | _ + 1, 0, _, _, _, _, h => by omega
  | f + 1, f' + 1, o, [], ts, _, h => rfl
  | f + 1, f' + 1, o, x :: q, ts, hc, h => by
    rw [loopF, loopF]
    by_cases hcond : 0 < o.cnt ∧ meetO o x = true
    · rw [if_pos hcond, if_pos hcond]
      have hx := hc x (List.mem_cons_self ..)
      have hmin := minI_pos hcond.1 hx
      have hl : (x :: q).length < f + 1 ∧ (x :: q).length < f' + 1 := by omega
      simp only [List.length_cons] at hl
      rw [tradeF_cnt]
      refine loop_fuel f f' _ _ _ ?_ ?_
      · intro z hz
        split at hz
        · exact hc z (List.mem_cons_of_mem _ ((popT_perm _ _).mem_iff.1 hz))
        · rename_i hne
          rcases List.mem_cons.1 hz with rfl | hz
          · simp only; omega
          · exact hc z (List.mem_cons_of_mem _ hz)
      · by_cases hz : x.cnt - minI o.cnt x.cnt = 0
        · left
          rw [if_pos hz, popT_length]
          simp only [List.length_cons]
          omega
        · right
          refine ⟨?_, by omega, by omega⟩
          simp only
          unfold minI at hz ⊢
          split at hz <;> split <;> omega
    · rw [if_neg hcond, if_neg hcond]
end Go.Proofs.Ytbcokphjpllbiaa
end
