/-
  The vault's purses as they are listed: by names, none empty. Plain.
  An order that comes in as an argument: its six cells. For every order.
  VaultOfNothing: the walk; a purse, an order that come in. For every name, purse and order.
  A slice of structs that comes in as an argument. For every slice.
  The vault's scripts as they come in: a slice of acts. For every slice.
-/
import Derived.Test.YtbcokphjpllbiaaGreatVaultPlaysM1
import Derived.Test.YtbcokphjpllbiaaGreatVaultPlaysM5
import Derived.Test.YtbcokphjpllbiaaGreatVaultPlaysM25
import Derived.Test.YtbcokphjpllbiaaGreatVaultPlaysM26
import Derived.Sort.Walk0
import Derived.Test.YtbcokphjpllbiaaGreatRows
import Derived.Lib.SmallJoins
import Derived.ChangeArms
import Derived.ProofKit
import Derived.Laws.IdiomArrays
import Derived.Deep.Slices
import Derived.Deep.Fields
import Derived.ChangeSame
section
set_option linter.unusedSimpArgs false
set_option linter.unusedVariables false
namespace Go.Proofs.YtbcokphjpllbiaaGreat
open Go.RowKit Go.Sl
/-- Purses that are listed: no name twice, none empty, so many at most. -/
structure PsW (p : Ps) (N : Nat) : Prop where
  nd : (p.map (·.1)).Nodup
  nz : ∀ x ∈ p, isZ x.2 = false
  who : ∀ x ∈ p, x.1.size ≤ 16
  len : p.length ≤ N
theorem psW_nil (N : Nat) : PsW [] N := ⟨List.nodup_nil, fun _ h => (by cases h), fun _ h => (by cases h), Nat.zero_le _⟩
theorem psW_mono {p : Ps} {N M : Nat} (h : PsW p N) (hm : N ≤ M) : PsW p M := ⟨h.nd, h.nz, h.who, Nat.le_trans h.len hm⟩
theorem mem_delP {p : Ps} {k : ByteArray} {x : ByteArray × It} (hx : x ∈ delL p k) : x ∈ p ∧ x.1 ≠ k := by
  have h := List.mem_filter.1 hx
  exact ⟨h.1, by simpa using h.2⟩
theorem nodup_delP {p : Ps} (h : (p.map (·.1)).Nodup) (k : ByteArray) : ((delL p k).map (·.1)).Nodup := h.sublist (List.filter_sublist.map _)
theorem psW_lay {p : Ps} {N : Nat} (h : PsW p N) {k : ByteArray} (hk : k.size ≤ 16) (i : It) : PsW (layP p k i) (N + 1) := by
  have hnd := nodup_delP h.nd k
  have hl : (delL p k).length ≤ N := Nat.le_trans (List.length_filter_le _ _) h.len
  unfold layP
  split
  · exact ⟨hnd, fun x hx => h.nz x (mem_delP hx).1, fun x hx => h.who x (mem_delP hx).1, by omega⟩
  · rename_i hz
    refine ⟨?_, ?_, ?_, by simpa using hl⟩
    · rw [List.map_cons, List.nodup_cons]
      refine ⟨fun hm => ?_, hnd⟩
      obtain ⟨x, hx, e⟩ := List.mem_map.1 hm
      exact (mem_delP hx).2 e
    · intro x hx
      rcases List.mem_cons.1 hx with rfl | hx
      · simpa using hz
      · exact h.nz x (mem_delP hx).1
    · intro x hx
      rcases List.mem_cons.1 hx with rfl | hx
      · exact hk
      · exact h.who x (mem_delP hx).1
theorem whoB_le {k : ByteArray} (h : whoB k = true) : k.size ≤ 16 := by unfold whoB at h; simp at h; omega
section
variable {p : Ps} {N : Nat}
theorem psW_give (h : PsW p N) {who : ByteArray} (hk : who.size ≤ 16) (k n : Int) : PsW (giveP p who k n) (N + 1) := psW_lay h hk _
theorem psW_put (h : PsW p N) (k : ByteArray) (i : It) : PsW (putP p k i) (N + 1) := by
  unfold putP
  split
  · rename_i hc
    split
    · exact psW_lay h (whoB_le hc.1) _
    · exact psW_mono h (by omega)
  · exact psW_mono h (by omega)
theorem psW_take (h : PsW p N) (k : ByteArray) (i : It) : PsW (takeP p k i) (N + 1) := by
  unfold takeP
  split
  · rename_i hc
    split
    · exact psW_lay h (whoB_le hc.1) _
    · exact psW_mono h (by omega)
  · exact psW_mono h (by omega)
theorem psW_back (h : PsW p N) {who : ByteArray} (hk : who.size ≤ 16) (i : It) : PsW (backP p who i) (N + 4) :=
  psW_give (psW_give (psW_give (psW_give h hk _ _) hk _ _) hk _ _) hk _ _
theorem psW_pay (h : PsW p N) {t : Trd} (ht : t.buyer.size ≤ 16 ∧ t.seller.size ≤ 16) : PsW (payT p t) (N + 3) :=
  psW_give (psW_give (psW_give h ht.1 _ _) ht.1 _ _) ht.2 _ _
end
theorem psW_pays : ∀ (ts : List Trd) {p : Ps} {N : Nat}, PsW p N → (∀ t ∈ ts, t.buyer.size ≤ 16 ∧ t.seller.size ≤ 16) → PsW (ts.foldl payT p) (N + 3 * ts.length)
  | [], _, _, h, _ => h
  | t :: ts, _, _, h, ht => psW_mono (psW_pays ts (psW_pay h (ht t (List.mem_cons_self ..))) fun x hx => ht x (List.mem_cons_of_mem _ hx)) (by rw [List.length_cons]; omega)
theorem trades_len : ∀ (f : Nat) (o : Ord) (L : List Ord) (ts : List Trd), (refLoop f o L ts).2.2.length ≤ ts.length + f
  | 0, o, L, ts => by rw [refLoop]; exact Nat.le_refl _
  | f + 1, o, L, ts => by
    rw [refLoop]
    split
    · split
      · show ts.length ≤ _; omega
      · refine Nat.le_trans (trades_len f _ _ _) ?_
        rw [List.length_append, List.length_singleton]
        omega
    · show ts.length ≤ _; omega
theorem cutR_who {L : List Ord} {k : Nat} {c : Int} (hk : k < L.length) (h : ∀ x ∈ L, x.who.size ≤ 16) : ∀ x ∈ cutR L k c, x.who.size ≤ 16 := by
  unfold cutR
  split
  · exact fun x hx => h x (List.mem_of_mem_eraseIdx hx)
  · intro x hxm
    rcases List.mem_or_eq_of_mem_set hxm with hx' | rfl
    · exact h x hx'
    · exact h (at' L k) (at'_mem hk)
theorem trades_who : ∀ (f : Nat) (o : Ord) (L : List Ord) (ts : List Trd), (∀ x ∈ L, x.who.size ≤ 16) → o.who.size ≤ 16 → (∀ t ∈ ts, t.buyer.size ≤ 16 ∧ t.seller.size ≤ 16) → ∀ t ∈ (refLoop f o L ts).2.2, t.buyer.size ≤ 16 ∧ t.seller.size ≤ 16
  | 0, o, L, ts, _, _, h => h
  | f + 1, o, L, ts, hL, ho, h => by
    rw [refLoop]
    by_cases h0 : 0 < o.cnt
    · rw [if_pos h0]
      cases hb : bestTo o L L.length with
      | none => exact h
      | some k =>
        obtain ⟨hk, hm, _⟩ := best_some hb
        have hx := hL _ (at'_mem hk)
        refine trades_who f _ _ _ (cutR_who hk hL) ho ?_
        intro t ht
        rcases List.mem_append.1 ht with ht | ht
        · exact h t ht
        · rw [List.mem_singleton.1 ht]
          unfold tradeR
          split
          · exact ⟨ho, hx⟩
          · exact ⟨hx, ho⟩
    · rw [if_neg h0]
      exact h
theorem ordV_w {V : Vs} {o : Ord} {N : Nat} (h : PsW V.ps N) (hL : ∀ x ∈ V.L, MayP x) (hl : V.L.length ≤ 32) : PsW (ordV V o).2.2.ps (N + 150) := by
  unfold ordV
  split
  · exact psW_mono h (by omega)
  · rename_i h1
    have hm := mayB_true.1 (show mayB { o with id := 1 } = true by simpa [may1] using h1)
    split
    · exact psW_mono h (by omega)
    · split
      · have hlen := trades_len (V.L.length + 1) { o with id := V.n } V.L []
        refine psW_mono (psW_pays _ (psW_take h _ _) (trades_who _ _ _ _ (fun x hx => (hL x hx).who1) hm.who1 fun t ht => (by cases ht))) ?_
        unfold runT
        rw [List.length_nil] at hlen
        omega
      · exact psW_mono h (by omega)
theorem bytes_ext {a b : ByteArray} (h : a.data.toList = b.data.toList) : a = b := by
  obtain ⟨⟨a⟩⟩ := a
  obtain ⟨⟨b⟩⟩ := b
  simp at h
  rw [h]
theorem canV_w {V : Vs} {who : ByteArray} {id : Int} {N : Nat} (h : PsW V.ps N) (hL : ∀ x ∈ V.L, MayP x) : PsW (canV V who id).2.ps (N + 150) := by
  unfold canV
  split
  · rename_i hh
    obtain ⟨x, hx, hx2⟩ := List.any_eq_true.1 hh
    unfold hitC at hx2
    have e : x.who = who := by
      have e1 := (Bool.and_eq_true _ _ ▸ hx2).2
      rw [Lib.toList_data, Lib.toList_data] at e1
      exact bytes_ext (by simpa using e1)
    exact psW_mono (psW_back h (e ▸ (hL x hx).who1) _) (by omega)
  · exact psW_mono h (by omega)
/-- A purse that is listed. -/
structure Hd where
  who : ByteArray
  has : It
def Hd.cells (h : Hd) : List Value := .string h.who :: h.has.cells
theorem Hd.len (h : Hd) : h.cells.length = 5 := rfl
def kL (p : Ps) : List ByteArray := sortB (p.map (·.1))
def hdL (p : Ps) : List Hd := (kL p).map fun k => ⟨k, purseA p k⟩
theorem kL_len (p : Ps) : (kL p).length = p.length := by unfold kL; rw [(sortB_perm _).length_eq, List.length_map]
theorem hdL_len (p : Ps) : (hdL p).length = p.length := by unfold hdL; rw [List.length_map, kL_len]
theorem kL_mem {p : Ps} {k : ByteArray} (h : k ∈ kL p) : ∃ x ∈ p, x.1 = k := List.mem_map.1 ((sortB_perm _).mem_iff.1 h)
section
variable {p : Ps} {N : Nat}
theorem kL_nz (hw : PsW p N) {k : ByteArray} (h : k ∈ kL p) : isZ (purseA p k) = false := by
  obtain ⟨x, hx, rfl⟩ := kL_mem h
  have := getL_at (v := x.2) hw.nd hx
  unfold purseA
  rw [this]
  exact hw.nz x hx
theorem lt_of_leB {x y : ByteArray} (h : leB x y = true) (hne : x ≠ y) : Op.bytesLess x.toList y.toList = true := by
  rw [bytesLess_eq, Lib.toList_data, Lib.toList_data, decide_eq_true_eq]
  refine (List.le_iff_lt_or_eq.1 (by simpa [leB] using h)).resolve_right fun e => hne ?_
  obtain ⟨⟨a⟩⟩ := x
  obtain ⟨⟨b⟩⟩ := y
  simp at e
  rw [e]
theorem kL_lt (hw : PsW p N) {i j : Nat} (hij : i < j) (hj : j < (kL p).length) : Op.bytesLess ((kL p)[i]'(Nat.lt_trans hij hj)).toList (kL p)[j].toList = true := by
  have hnd : (kL p).Nodup := (sortB_perm _).nodup_iff.2 hw.nd
  refine lt_of_leB (List.pairwise_iff_getElem.1 (sortB_pairwise _) i j (Nat.lt_trans hij hj) hj hij) fun e => ?_
  have := (List.getElem_inj hnd).1 e
  omega
/-- What is listed at a place. -/
theorem hdL_at (hw : PsW p N) {j : Nat} (hj : j < (hdL p).length) : (hdL p)[j].has = purseA p (hdL p)[j].who ∧ isZ (hdL p)[j].has = false ∧ ∀ i, ∀ hi : i < j, Op.bytesLess ((hdL p)[i]'(Nat.lt_trans hi hj)).who.toList (hdL p)[j].who.toList = true := by
  have hj2 : j < (kL p).length := by unfold hdL at hj; rwa [List.length_map] at hj
  have e : (hdL p)[j] = ⟨(kL p)[j], purseA p (kL p)[j]⟩ := by simp [hdL]
  refine ⟨by rw [e], by rw [e]; exact kL_nz hw (List.getElem_mem hj2), fun i hi => ?_⟩
  have e2 : (hdL p)[i]'(Nat.lt_trans hi hj) = ⟨(kL p)[i]'(Nat.lt_trans hi hj2), purseA p ((kL p)[i]'(Nat.lt_trans hi hj2))⟩ := by simp [hdL]
  rw [e, e2]
  exact kL_lt hw hi hj2
end
end Go.Proofs.YtbcokphjpllbiaaGreat
end
section
set_option linter.unusedSimpArgs false
set_option linter.unusedVariables false
namespace Go.Proofs.YtbcokphjpllbiaaGreat
open Go.Joins Go.ChangeShapes Go.WideShapes Go.RowKit Go.Deep Go.Sl
section
variable {H : Type} {enc : TypeId × Value → H} {P : Program} {w : World} {base : Nat} {spare : Nat → Bool} {held : Bool}
end
end Go.Proofs.YtbcokphjpllbiaaGreat
end
section
set_option linter.unusedSimpArgs false
set_option linter.unusedVariables false
namespace Go.Proofs.YtbcokphjpllbiaaGreat
open Go.Joins Go.ChangeShapes Go.WideShapes Go.RowKit Go.Deep Go.Sl
section
variable {H : Type} {enc : TypeId × Value → H} {w : World} {base : Nat} {spare : Nat → Bool} {held : Bool}
set_option maxRecDepth 100000 in
theorem cells_items {n : Nat} {cs : List Value} {y : DataW H × List MemPlace} (h : DataW.trod enc Tryz.prog w base spare held n 39 cs = some y) : ∃ i : It, cs = i.cells := by
  obtain ⟨_, _, _, _, hl0, _, _⟩ := DataW.trod_array Tryz.underlying39 h
  have hl : cs.length = 4 := hl0.trans (by kernel_rfl)
  match cs, hl with
  | [c0, c1, c2, c3], _ =>
    obtain ⟨y0, y1, y2, y3, n', _, g0, g1, g2, g3⟩ := trod_array4 Tryz.underlying39 (by kernel_rfl) h
    obtain ⟨a, e0, _⟩ := DataW.trod_int Tryz.underlying3 g0
    obtain ⟨b, e1, _⟩ := DataW.trod_int Tryz.underlying3 g1
    obtain ⟨c, e2, _⟩ := DataW.trod_int Tryz.underlying3 g2
    obtain ⟨d, e3, _⟩ := DataW.trod_int Tryz.underlying3 g3
    simp only [List.cons.injEq, and_true] at e0 e1 e2 e3
    subst e0 e1 e2 e3
    exact ⟨⟨a, b, c, d⟩, rfl⟩
end
end Go.Proofs.YtbcokphjpllbiaaGreat
end
section
set_option linter.unusedSimpArgs false
set_option linter.unusedVariables false
namespace Go.Proofs.YtbcokphjpllbiaaGreat
open Go.Joins Go.ChangeShapes Go.WideShapes Go.RowKit Go.Deep Go.Sl
/-- v is a slice that holds xs in the world w, each element as its cells. -/
def SliceV {α : Type} (enc : α → List Value) (k : Nat) (w : World) (v : Value) (xs : List α) : Prop :=
  ∃ a cap, v = .slice a xs.length cap ∧ xs.length ≤ 9223372036854775807 ∧ ∀ i (h : i < xs.length), ∃ b off, a = some ⟨b, off, none⟩ ∧ ∀ j u, (enc xs[i])[j]? = some u → w.cell? ⟨b, off + i * k + j, none⟩ = some u
section
variable {H : Type} {enc : TypeId × Value → H} {P : Program} {w : World} {base : Nat} {spare : Nat → Bool} {held : Bool}
theorem open_sliceV {α : Type} {r : Reach} {b0 : Nat} {t e : TypeId} {k : Nat} {v : Value} {d : DataW H} {p : List MemPlace} (en : α → List Value) (x0 : α) (hk : ∀ x, (en x).length = k) (h0 : 0 < k) (ht : P.underlying t = some (.slice e)) (hC : P.cellsOf e = k)
    (hE : ∀ (n : Nat) (cs : List Value) (y : DataW H × List MemPlace), cs.length = k → DataW.trod enc P w base spare held n e cs = some y → ∃ x, cs = en x)
    (hv : Value.okWide P w r b0 t v) (h : DataW.Trod enc P w base spare held t v d p) : ∃ xs, SliceV en k w v xs := by
  obtain ⟨a0, len, cap, rfl⟩ := okWide_slice ht hv
  obtain ⟨fuel, hf⟩ := h
  rcases open_slice ht hf with ⟨hcs, hx⟩ | ⟨a, len', cap', m, n, D, Pl, hcs, hb, hl, hm, hmm, hx, hi⟩
  · simp [Value.cells] at hcs
    obtain ⟨rfl, rfl, rfl⟩ := hcs
    exact ⟨[], none, 0, rfl, by simp, fun i hi => absurd hi (Nat.not_lt_zero _)⟩
  · simp [Value.cells] at hcs
    obtain ⟨rfl, rfl, rfl⟩ := hcs
    have hlm : len ≤ m := by rw [hmm]; split <;> omega
    have hex : ∀ i, ∃ x : α, i < len → ∀ j u, (en x)[j]? = some u → w.cell? ((a.add (i * k)).add j) = some u := fun i => by
      by_cases hil : i < len
      · obtain ⟨cs', hc, ht'⟩ := hi i (by omega)
        rw [hC] at hc
        obtain ⟨_, hcl, hat⟩ := World.cells?_some hc
        obtain ⟨x, rfl⟩ := hE n cs' _ hcl ht'
        refine ⟨x, fun _ j u hj => ?_⟩
        have hjk : j < k := by have := (List.getElem?_eq_some_iff.1 hj).1; rwa [hk] at this
        rw [hat j hjk]
        exact hj
      · exact ⟨x0, fun h => absurd h hil⟩
    obtain ⟨f, hf'⟩ := Classical.axiomOfChoice hex
    have hll : ((List.range len).map f).length = len := by simp
    refine ⟨(List.range len).map f, some a, cap, by rw [hll], by rw [hll]; unfold maxLen at hm; omega, fun i hi2 => ?_⟩
    rw [hll] at hi2
    have hspot : a.spot = none := by
      have hc := hf' 0 (by omega)
      have h1 : (en (f 0))[0]? = some ((en (f 0))[0]'(by rw [hk]; exact h0)) := List.getElem?_eq_getElem _
      have := World.cell?_spot (hc 0 _ h1)
      simpa [Addr.add] using this
    obtain ⟨b, off, spot⟩ := a
    simp only at hspot
    subst hspot
    refine ⟨b, off, rfl, fun j u hj => ?_⟩
    have e1 : ((List.range len).map f)[i] = f i := by simp
    rw [e1] at hj
    have := hf' i hi2 j u hj
    rwa [Addr.add_lit, Addr.add_lit] at this
end
end Go.Proofs.YtbcokphjpllbiaaGreat
end
section
set_option linter.unusedSimpArgs false
set_option linter.unusedVariables false
namespace Go.Proofs.YtbcokphjpllbiaaGreat
open Go.Joins Go.ChangeShapes Go.WideShapes Go.RowKit Go.Deep Go.Sl
set_option maxRecDepth 100000 in
theorem cells_ord {H : Type} {enc : TypeId × Value → H} {w : World} {base : Nat} {spare : Nat → Bool} {held : Bool} {n : Nat} {cs : List Value} {y : DataW H × List MemPlace}
    (h : DataW.trod enc Tryz.prog w base spare held n 41 cs = some y) : ∃ o : Ord, cs = o.cells := by
  obtain ⟨xs, n', rfl, hx, hlen, hxl, hg⟩ := DataW.trod_struct Tryz.underlying41 h
  have hlen' : cs.length = 6 := hlen.trans (by kernel_rfl)
  match cs, hlen' with
  | [c0, c1, c2, c3, c4, c5], _ =>
    match xs, hxl with
    | [y0, y1, y2, y3, y4, y5], _ =>
      have g0 := hg 0 _ rfl
      have g1 := hg 1 _ rfl
      have g2 := hg 2 _ rfl
      have g3 := hg 3 _ rfl
      have g4 := hg 4 _ rfl
      have g5 := hg 5 _ rfl
      obtain ⟨i, e0, _⟩ := DataW.trod_int Tryz.underlying3 (show DataW.trod enc Tryz.prog w base spare held n' 3 [c0] = some y0 from g0)
      obtain ⟨u, e1, _⟩ := DataW.trod_string Tryz.underlying9 (show DataW.trod enc Tryz.prog w base spare held n' 9 [c1] = some y1 from g1)
      obtain ⟨b, e2, _⟩ := DataW.trod_bool Tryz.underlying4 (show DataW.trod enc Tryz.prog w base spare held n' 4 [c2] = some y2 from g2)
      obtain ⟨t, e3, _⟩ := DataW.trod_int Tryz.underlying3 (show DataW.trod enc Tryz.prog w base spare held n' 3 [c3] = some y3 from g3)
      obtain ⟨c, e4, _⟩ := DataW.trod_int Tryz.underlying3 (show DataW.trod enc Tryz.prog w base spare held n' 3 [c4] = some y4 from g4)
      obtain ⟨q, e5, _⟩ := DataW.trod_int Tryz.underlying3 (show DataW.trod enc Tryz.prog w base spare held n' 3 [c5] = some y5 from g5)
      simp only [List.cons.injEq, and_true] at e0 e1 e2 e3 e4 e5
      subst e0 e1 e2 e3 e4 e5
      exact ⟨⟨i, u, b, t, c, q⟩, rfl⟩
/-- An act of a vault's script. -/
structure Vact where
  kind : Int
  n : Int
  who : ByteArray
  i : It
  o : Ord
def Vact.cells (a : Vact) : List Value := .int .i64 a.kind :: .int .i64 a.n :: .string a.who :: (a.i.cells ++ a.o.cells)
theorem Vact.len (a : Vact) : a.cells.length = 13 := rfl
set_option maxRecDepth 100000 in
theorem cells_vact {H : Type} {enc : TypeId × Value → H} {w : World} {base : Nat} {spare : Nat → Bool} {held : Bool} {n : Nat} {cs : List Value} {y : DataW H × List MemPlace}
    (h : DataW.trod enc Tryz.prog w base spare held n 43 cs = some y) : ∃ a : Vact, cs = a.cells := by
  obtain ⟨xs, n', rfl, hx, hlen, hxl, hg⟩ := DataW.trod_struct Tryz.underlying43 h
  have hlen' : cs.length = 13 := hlen.trans (by kernel_rfl)
  match cs, hlen' with
  | [c0, c1, c2, c3, c4, c5, c6, c7, c8, c9, c10, c11, c12], _ =>
    match xs, hxl with
    | [y0, y1, y2, y3, y4], _ =>
      have g0 := hg 0 _ rfl
      have g1 := hg 1 _ rfl
      have g2 := hg 2 _ rfl
      have g3 := hg 3 _ rfl
      have g4 := hg 4 _ rfl
      obtain ⟨k, e0, _⟩ := DataW.trod_int Tryz.underlying3 (show DataW.trod enc Tryz.prog w base spare held n' 3 [c0] = some y0 from g0)
      obtain ⟨m, e1, _⟩ := DataW.trod_int Tryz.underlying3 (show DataW.trod enc Tryz.prog w base spare held n' 3 [c1] = some y1 from g1)
      obtain ⟨u, e2, _⟩ := DataW.trod_string Tryz.underlying9 (show DataW.trod enc Tryz.prog w base spare held n' 9 [c2] = some y2 from g2)
      obtain ⟨i, e3⟩ := cells_items (show DataW.trod enc Tryz.prog w base spare held n' 39 [c3, c4, c5, c6] = some y3 from g3)
      obtain ⟨o, e4⟩ := cells_ord (show DataW.trod enc Tryz.prog w base spare held n' 41 [c7, c8, c9, c10, c11, c12] = some y4 from g4)
      simp only [List.cons.injEq, and_true] at e0 e1 e2
      subst e0 e1 e2
      refine ⟨⟨k, m, u, i, o⟩, ?_⟩
      unfold Vact.cells
      rw [← e3, ← e4]
      rfl
set_option maxRecDepth 100000 in
theorem open_vacts {H : Type} {enc : TypeId × Value → H} {w : World} {base : Nat} {spare : Nat → Bool} {held : Bool} {r : Reach} {b0 : Nat} {v : Value} {d : DataW H} {p : List MemPlace}
    (hv : Value.okWide Tryz.prog w r b0 22 v) (h : DataW.Trod enc Tryz.prog w base spare held 22 v d p) : ∃ xs, SliceV Vact.cells 13 w v xs :=
  open_sliceV Vact.cells ⟨0, 0, ⟨#[]⟩, it0, ⟨0, ⟨#[]⟩, false, 0, 0, 0⟩⟩ Vact.len (by decide) Tryz.underlying22 (by kernel_rfl) (fun _ _ _ _ h => cells_vact h) hv h
/-- What an act of a script holds, cell by cell. -/
structure VactAt (V : World) (b off : Nat) (x : Vact) : Prop where
  kind : V.cell? ⟨b, off, none⟩ = some (.int .i64 x.kind)
  n : V.cell? ⟨b, off + 1, none⟩ = some (.int .i64 x.n)
  who : V.cell? ⟨b, off + 2, none⟩ = some (.string x.who)
  i0 : V.cell? ⟨b, off + 3, none⟩ = some (.int .i64 x.i.x0)
  i1 : V.cell? ⟨b, off + 4, none⟩ = some (.int .i64 x.i.x1)
  i2 : V.cell? ⟨b, off + 5, none⟩ = some (.int .i64 x.i.x2)
  i3 : V.cell? ⟨b, off + 6, none⟩ = some (.int .i64 x.i.x3)
  owho : V.cell? ⟨b, off + 8, none⟩ = some (.string x.o.who)
  its : ∀ (j : Nat) (v : Value), x.i.cells[j]? = some v → V.cell? ⟨b, off + 3 + j, none⟩ = some v
  ord : ∀ (j : Nat) (v : Value), x.o.cells[j]? = some v → V.cell? ⟨b, off + 7 + j, none⟩ = some v
  all : ∀ (j : Nat) (v : Value), x.cells[j]? = some v → V.cell? ⟨b, off + j, none⟩ = some v
theorem SliceV.vact {V : World} {v : Value} {xs : List Vact} (h : SliceV Vact.cells 13 V v xs) : ∃ a cap, v = .slice a xs.length cap ∧ xs.length ≤ 9223372036854775807 ∧ ∀ i (h : i < xs.length), ∃ b off, a = some ⟨b, off, none⟩ ∧ VactAt V b (off + i * 13) xs[i] := by
  obtain ⟨a, cap, hv, h63, hc⟩ := h
  refine ⟨a, cap, hv, h63, fun i hi => ?_⟩
  obtain ⟨b, off, ha, hj⟩ := hc i hi
  refine ⟨b, off, ha, hj 0 _ rfl, hj 1 _ rfl, hj 2 _ rfl, hj 3 _ rfl, hj 4 _ rfl, hj 5 _ rfl, hj 6 _ rfl, hj 8 _ rfl, fun j v hv => ?_, fun j v hv => ?_, fun j v hv => hj j v hv⟩
  · have h1 : (xs[i].cells)[3 + j]? = some v := by
      have hjl : j < xs[i].i.cells.length := (List.getElem?_eq_some_iff.1 hv).1
      rw [Nat.add_comm]
      show (xs[i].i.cells ++ xs[i].o.cells)[j]? = some v
      rw [List.getElem?_append_left hjl]
      exact hv
    have := hj (3 + j) v h1
    rwa [← Nat.add_assoc] at this
  · have h1 : (xs[i].cells)[7 + j]? = some v := by
      rw [Nat.add_comm]
      exact hv
    have := hj (7 + j) v h1
    rwa [← Nat.add_assoc] at this
end Go.Proofs.YtbcokphjpllbiaaGreat
end
