/-
  The vault's purses as they are listed: by names, none empty. Plain.
  An order that comes in as an argument: its six cells. For every order.
  VaultOfNothing: the walk; a purse, an order that come in. For every name, purse and order.
  A slice of structs that comes in as an argument. For every slice.
  The vault's scripts as they come in: a slice of acts. For every slice.
  The vault's List; are names too long? For every vault, every script.
  The vault's scripts: what each act leaves. For every vault and act.
-/
import Derived.Test.YtbcokphjpllbiaaVaultKeepsM19
import Derived.Sort.Walk0
import Derived.Test.YtbcokphjpllbiaaRows
import Derived.Lib.SmallJoins
import Derived.ChangeArms
import Derived.ProofKit
import Derived.Laws.IdiomArrays
import Derived.Deep.Slices
import Derived.Deep.Fields
import Derived.ChangeSame
section
set_option linter.unusedSimpArgs false
set_option linter.unusedVariables false
namespace Go.Proofs.Ytbcokphjpllbiaa
open Go.RowKit Go.Sl
/-- Purses that are listed: no name twice, none empty, so many at most. -/
structure PsW (p : Ps) (N : Nat) : Prop where
  nd : (p.map (·.1)).Nodup
  nz : ∀ x ∈ p, isZ x.2 = false
  who : ∀ x ∈ p, x.1.size ≤ 16
  len : p.length ≤ N
theorem psW_nil (N : Nat) : PsW [] N := ⟨List.nodup_nil, fun _ h => (by cases h), fun _ h => (by cases h), Nat.zero_le _⟩
theorem psW_mono {p : Ps} {N M : Nat} (h : PsW p N) (hm : N ≤ M) : PsW p M := ⟨h.nd, h.nz, h.who, Nat.le_trans h.len hm⟩
theorem mem_delP {p : Ps} {k : ByteArray} {x : ByteArray × It} (hx : x ∈ delL p k) : x ∈ p ∧ x.1 ≠ k := by
  have h := List.mem_filter.1 hx
  exact ⟨h.1, by simpa using h.2⟩
theorem nodup_delP {p : Ps} (h : (p.map (·.1)).Nodup) (k : ByteArray) : ((delL p k).map (·.1)).Nodup := h.sublist (List.filter_sublist.map _)
theorem psW_lay {p : Ps} {N : Nat} (h : PsW p N) {k : ByteArray} (hk : k.size ≤ 16) (i : It) : PsW (layP p k i) (N + 1) := by
  have hnd := nodup_delP h.nd k
  have hl : (delL p k).length ≤ N := Nat.le_trans (List.length_filter_le _ _) h.len
  unfold layP
  split
  · exact ⟨hnd, fun x hx => h.nz x (mem_delP hx).1, fun x hx => h.who x (mem_delP hx).1, by omega⟩
  · rename_i hz
    refine ⟨?_, ?_, ?_, by simpa using hl⟩
    · rw [List.map_cons, List.nodup_cons]
      refine ⟨fun hm => ?_, hnd⟩
      obtain ⟨x, hx, e⟩ := List.mem_map.1 hm
      exact (mem_delP hx).2 e
    · intro x hx
      rcases List.mem_cons.1 hx with rfl | hx
      · simpa using hz
      · exact h.nz x (mem_delP hx).1
    · intro x hx
      rcases List.mem_cons.1 hx with rfl | hx
      · exact hk
      · exact h.who x (mem_delP hx).1
theorem whoB_le {k : ByteArray} (h : whoB k = true) : k.size ≤ 16 := by unfold whoB at h; simp at h; omega
section
variable {p : Ps} {N : Nat}
theorem psW_give (h : PsW p N) {who : ByteArray} (hk : who.size ≤ 16) (k n : Int) : PsW (giveP p who k n) (N + 1) := psW_lay h hk _
theorem psW_put (h : PsW p N) (k : ByteArray) (i : It) : PsW (putP p k i) (N + 1) := by
  unfold putP
  split
  · rename_i hc
    split
    · exact psW_lay h (whoB_le hc.1) _
    · exact psW_mono h (by omega)
  · exact psW_mono h (by omega)
theorem psW_take (h : PsW p N) (k : ByteArray) (i : It) : PsW (takeP p k i) (N + 1) := by
  unfold takeP
  split
  · rename_i hc
    split
    · exact psW_lay h (whoB_le hc.1) _
    · exact psW_mono h (by omega)
  · exact psW_mono h (by omega)
theorem psW_back (h : PsW p N) {who : ByteArray} (hk : who.size ≤ 16) (i : It) : PsW (backP p who i) (N + 4) :=
  psW_give (psW_give (psW_give (psW_give h hk _ _) hk _ _) hk _ _) hk _ _
theorem psW_pay (h : PsW p N) {t : Trd} (ht : t.buyer.size ≤ 16 ∧ t.seller.size ≤ 16) : PsW (payT p t) (N + 3) :=
  psW_give (psW_give (psW_give h ht.1 _ _) ht.1 _ _) ht.2 _ _
end
theorem psW_pays : ∀ (ts : List Trd) {p : Ps} {N : Nat}, PsW p N → (∀ t ∈ ts, t.buyer.size ≤ 16 ∧ t.seller.size ≤ 16) → PsW (ts.foldl payT p) (N + 3 * ts.length)
  | [], _, _, h, _ => h
  | t :: ts, _, _, h, ht => psW_mono (psW_pays ts (psW_pay h (ht t (List.mem_cons_self ..))) fun x hx => ht x (List.mem_cons_of_mem _ hx)) (by rw [List.length_cons]; omega)
theorem trades_len : ∀ (f : Nat) (o : Ord) (L : List Ord) (ts : List Trd), (refLoop f o L ts).2.2.length ≤ ts.length + f
  | 0, o, L, ts => by rw [refLoop]; exact Nat.le_refl _
  | f + 1, o, L, ts => by
    rw [refLoop]
    split
    · split
      · show ts.length ≤ _; omega
      · refine Nat.le_trans (trades_len f _ _ _) ?_
        rw [List.length_append, List.length_singleton]
        omega
    · show ts.length ≤ _; omega
theorem cutR_who {L : List Ord} {k : Nat} {c : Int} (hk : k < L.length) (h : ∀ x ∈ L, x.who.size ≤ 16) : ∀ x ∈ cutR L k c, x.who.size ≤ 16 := by
  unfold cutR
  split
  · exact fun x hx => h x (List.mem_of_mem_eraseIdx hx)
  · intro x hxm
    rcases List.mem_or_eq_of_mem_set hxm with hx' | rfl
    · exact h x hx'
    · exact h (at' L k) (at'_mem hk)
theorem trades_who : ∀ (f : Nat) (o : Ord) (L : List Ord) (ts : List Trd), (∀ x ∈ L, x.who.size ≤ 16) → o.who.size ≤ 16 → (∀ t ∈ ts, t.buyer.size ≤ 16 ∧ t.seller.size ≤ 16) → ∀ t ∈ (refLoop f o L ts).2.2, t.buyer.size ≤ 16 ∧ t.seller.size ≤ 16
  | 0, o, L, ts, _, _, h => h
  | f + 1, o, L, ts, hL, ho, h => by
    rw [refLoop]
    by_cases h0 : 0 < o.cnt
    · rw [if_pos h0]
      cases hb : bestTo o L L.length with
      | none => exact h
      | some k =>
        obtain ⟨hk, hm, _⟩ := best_some hb
        have hx := hL _ (at'_mem hk)
        refine trades_who f _ _ _ (cutR_who hk hL) ho ?_
        intro t ht
        rcases List.mem_append.1 ht with ht | ht
        · exact h t ht
        · rw [List.mem_singleton.1 ht]
          unfold tradeR
          split
          · exact ⟨ho, hx⟩
          · exact ⟨hx, ho⟩
    · rw [if_neg h0]
      exact h
theorem ordV_w {V : Vs} {o : Ord} {N : Nat} (h : PsW V.ps N) (hL : ∀ x ∈ V.L, MayP x) (hl : V.L.length ≤ 32) : PsW (ordV V o).2.2.ps (N + 150) := by
  unfold ordV
  split
  · exact psW_mono h (by omega)
  · rename_i h1
    have hm := mayB_true.1 (show mayB { o with id := 1 } = true by simpa [may1] using h1)
    split
    · exact psW_mono h (by omega)
    · split
      · have hlen := trades_len (V.L.length + 1) { o with id := V.n } V.L []
        refine psW_mono (psW_pays _ (psW_take h _ _) (trades_who _ _ _ _ (fun x hx => (hL x hx).who1) hm.who1 fun t ht => (by cases ht))) ?_
        unfold runT
        rw [List.length_nil] at hlen
        omega
      · exact psW_mono h (by omega)
theorem bytes_ext {a b : ByteArray} (h : a.data.toList = b.data.toList) : a = b := by
  obtain ⟨⟨a⟩⟩ := a
  obtain ⟨⟨b⟩⟩ := b
  simp at h
  rw [h]
theorem canV_w {V : Vs} {who : ByteArray} {id : Int} {N : Nat} (h : PsW V.ps N) (hL : ∀ x ∈ V.L, MayP x) : PsW (canV V who id).2.ps (N + 150) := by
  unfold canV
  split
  · rename_i hh
    obtain ⟨x, hx, hx2⟩ := List.any_eq_true.1 hh
    unfold hitC at hx2
    have e : x.who = who := by
      have e1 := (Bool.and_eq_true _ _ ▸ hx2).2
      rw [Lib.toList_data, Lib.toList_data] at e1
      exact bytes_ext (by simpa using e1)
    exact psW_mono (psW_back h (e ▸ (hL x hx).who1) _) (by omega)
  · exact psW_mono h (by omega)
/-- A purse that is listed. -/
structure Hd where
  who : ByteArray
  has : It
def Hd.cells (h : Hd) : List Value := .string h.who :: h.has.cells
theorem Hd.len (h : Hd) : h.cells.length = 5 := rfl
def kL (p : Ps) : List ByteArray := sortB (p.map (·.1))
def hdL (p : Ps) : List Hd := (kL p).map fun k => ⟨k, purseA p k⟩
theorem kL_len (p : Ps) : (kL p).length = p.length := by unfold kL; rw [(sortB_perm _).length_eq, List.length_map]
theorem hdL_len (p : Ps) : (hdL p).length = p.length := by unfold hdL; rw [List.length_map, kL_len]
theorem kL_mem {p : Ps} {k : ByteArray} (h : k ∈ kL p) : ∃ x ∈ p, x.1 = k := List.mem_map.1 ((sortB_perm _).mem_iff.1 h)
section
variable {p : Ps} {N : Nat}
theorem kL_nz (hw : PsW p N) {k : ByteArray} (h : k ∈ kL p) : isZ (purseA p k) = false := by
  obtain ⟨x, hx, rfl⟩ := kL_mem h
  have := getL_at (v := x.2) hw.nd hx
  unfold purseA
  rw [this]
  exact hw.nz x hx
theorem lt_of_leB {x y : ByteArray} (h : leB x y = true) (hne : x ≠ y) : Op.bytesLess x.toList y.toList = true := by
  rw [bytesLess_eq, Lib.toList_data, Lib.toList_data, decide_eq_true_eq]
  refine (List.le_iff_lt_or_eq.1 (by simpa [leB] using h)).resolve_right fun e => hne ?_
  obtain ⟨⟨a⟩⟩ := x
  obtain ⟨⟨b⟩⟩ := y
  simp at e
  rw [e]
theorem kL_lt (hw : PsW p N) {i j : Nat} (hij : i < j) (hj : j < (kL p).length) : Op.bytesLess ((kL p)[i]'(Nat.lt_trans hij hj)).toList (kL p)[j].toList = true := by
  have hnd : (kL p).Nodup := (sortB_perm _).nodup_iff.2 hw.nd
  refine lt_of_leB (List.pairwise_iff_getElem.1 (sortB_pairwise _) i j (Nat.lt_trans hij hj) hj hij) fun e => ?_
  have := (List.getElem_inj hnd).1 e
  omega
/-- What is listed at a place. -/
theorem hdL_at (hw : PsW p N) {j : Nat} (hj : j < (hdL p).length) : (hdL p)[j].has = purseA p (hdL p)[j].who ∧ isZ (hdL p)[j].has = false ∧ ∀ i, ∀ hi : i < j, Op.bytesLess ((hdL p)[i]'(Nat.lt_trans hi hj)).who.toList (hdL p)[j].who.toList = true := by
  have hj2 : j < (kL p).length := by unfold hdL at hj; rwa [List.length_map] at hj
  have e : (hdL p)[j] = ⟨(kL p)[j], purseA p (kL p)[j]⟩ := by simp [hdL]
  refine ⟨by rw [e], by rw [e]; exact kL_nz hw (List.getElem_mem hj2), fun i hi => ?_⟩
  have e2 : (hdL p)[i]'(Nat.lt_trans hi hj) = ⟨(kL p)[i]'(Nat.lt_trans hi hj2), purseA p ((kL p)[i]'(Nat.lt_trans hi hj2))⟩ := by simp [hdL]
  rw [e, e2]
  exact kL_lt hw hi hj2
end
end Go.Proofs.Ytbcokphjpllbiaa
end
section
set_option linter.unusedSimpArgs false
set_option linter.unusedVariables false
namespace Go.Proofs.Ytbcokphjpllbiaa
open Go.Joins Go.ChangeShapes Go.WideShapes Go.RowKit Go.Deep Go.Sl
section
variable {H : Type} {enc : TypeId × Value → H} {P : Program} {w : World} {base : Nat} {spare : Nat → Bool} {held : Bool}
theorem open_agg6 {r : Reach} {b0 : Nat} {t : TypeId} {f0 f1 f2 f3 f4 f5 : Field} {v : Value} {d : DataW H} {p : List MemPlace} (hs : P.underlying t = some (.struct #[f0, f1, f2, f3, f4, f5])) (hone : oneCellFields P #[f0, f1, f2, f3, f4, f5] = true) (hC : P.cellsOf t = 6)
    (hv : Value.okWide P w r b0 t v) (h : DataW.Trod enc P w base spare held t v d p) :
    ∃ (v0 v1 v2 v3 v4 v5 : Value) (y0 y1 y2 y3 y4 y5 : DataW H × List MemPlace) (n : Nat), v = .agg #[v0, v1, v2, v3, v4, v5] ∧ d = .agg [y0.1, y1.1, y2.1, y3.1, y4.1, y5.1] ∧ p = y0.2 ++ (y1.2 ++ (y2.2 ++ (y3.2 ++ (y4.2 ++ y5.2)))) ∧
      DataW.trod enc P w base spare held n f0.type [v0] = some y0 ∧ DataW.trod enc P w base spare held n f1.type [v1] = some y1 ∧ DataW.trod enc P w base spare held n f2.type [v2] = some y2 ∧ DataW.trod enc P w base spare held n f3.type [v3] = some y3 ∧ DataW.trod enc P w base spare held n f4.type [v4] = some y4 ∧ DataW.trod enc P w base spare held n f5.type [v5] = some y5 := by
  obtain ⟨cs, rfl, hsz⟩ := okWide_struct hs hv
  obtain ⟨l⟩ := cs
  match l, hsz.trans hC with
  | [c0, c1, c2, c3, c4, c5], _ =>
    obtain ⟨fuel, hf⟩ := h
    obtain ⟨xs, n, _, hx, _, hlen, hg⟩ := DataW.trod_struct hs hf
    obtain ⟨o0, k0⟩ := hone_of hone 0 f0 rfl
    obtain ⟨o1, k1⟩ := hone_of hone 1 f1 rfl
    obtain ⟨o2, k2⟩ := hone_of hone 2 f2 rfl
    obtain ⟨o3, k3⟩ := hone_of hone 3 f3 rfl
    obtain ⟨o4, k4⟩ := hone_of hone 4 f4 rfl
    obtain ⟨o5, k5⟩ := hone_of hone 5 f5 rfl
    match xs, hlen with
    | [y0, y1, y2, y3, y4, y5], _ =>
      simp only [Prod.mk.injEq] at hx
      exact ⟨c0, c1, c2, c3, c4, c5, y0, y1, y2, y3, y4, y5, n, rfl, by simpa using hx.1, by simpa using hx.2, by simpa [Value.cells, o0, k0] using hg 0 f0 rfl, by simpa [Value.cells, o1, k1] using hg 1 f1 rfl, by simpa [Value.cells, o2, k2] using hg 2 f2 rfl, by simpa [Value.cells, o3, k3] using hg 3 f3 rfl, by simpa [Value.cells, o4, k4] using hg 4 f4 rfl, by simpa [Value.cells, o5, k5] using hg 5 f5 rfl⟩
end
set_option maxRecDepth 100000 in
theorem open_ord {H : Type} {enc : TypeId × Value → H} {w : World} {base : Nat} {spare : Nat → Bool} {held : Bool} {r : Reach} {b0 : Nat} {v : Value} {d : DataW H} {p : List MemPlace}
    (hv : Value.okWide Try.prog w r b0 32 v) (h : DataW.Trod enc Try.prog w base spare held 32 v d p) : ∃ o : Ord, v = .agg o.cells.toArray := by
  obtain ⟨v0, v1, v2, v3, v4, v5, y0, y1, y2, y3, y4, y5, n, rfl, _, _, t0, t1, t2, t3, t4, t5⟩ := open_agg6 Try.underlying32 (by kernel_rfl) (by kernel_rfl) hv h
  obtain ⟨i, e0, _⟩ := DataW.trod_int Try.underlying3 t0
  obtain ⟨u, e1, _⟩ := DataW.trod_string Try.underlying9 t1
  obtain ⟨y, e2, _⟩ := DataW.trod_bool Try.underlying4 t2
  obtain ⟨t, e3, _⟩ := DataW.trod_int Try.underlying3 t3
  obtain ⟨c, e4, _⟩ := DataW.trod_int Try.underlying3 t4
  obtain ⟨q, e5, _⟩ := DataW.trod_int Try.underlying3 t5
  simp only [List.cons.injEq, and_true] at e0 e1 e2 e3 e4 e5
  subst e0 e1 e2 e3 e4 e5
  exact ⟨⟨i, u, y, t, c, q⟩, rfl⟩
end Go.Proofs.Ytbcokphjpllbiaa
end
section
set_option linter.unusedSimpArgs false
set_option linter.unusedVariables false
namespace Go.Proofs.Ytbcokphjpllbiaa
open Go.Joins Go.ChangeShapes Go.WideShapes Go.RowKit Go.Deep Go.Sl
section
variable {H : Type} {enc : TypeId × Value → H} {w : World} {base : Nat} {spare : Nat → Bool} {held : Bool}
set_option maxRecDepth 100000 in
theorem cells_items {n : Nat} {cs : List Value} {y : DataW H × List MemPlace} (h : DataW.trod enc Try.prog w base spare held n 28 cs = some y) : ∃ i : It, cs = i.cells := by
  obtain ⟨_, _, _, _, hl0, _, _⟩ := DataW.trod_array Try.underlying28 h
  have hl : cs.length = 4 := hl0.trans (by kernel_rfl)
  match cs, hl with
  | [c0, c1, c2, c3], _ =>
    obtain ⟨y0, y1, y2, y3, n', _, g0, g1, g2, g3⟩ := trod_array4 Try.underlying28 (by kernel_rfl) h
    obtain ⟨a, e0, _⟩ := DataW.trod_int Try.underlying3 g0
    obtain ⟨b, e1, _⟩ := DataW.trod_int Try.underlying3 g1
    obtain ⟨c, e2, _⟩ := DataW.trod_int Try.underlying3 g2
    obtain ⟨d, e3, _⟩ := DataW.trod_int Try.underlying3 g3
    simp only [List.cons.injEq, and_true] at e0 e1 e2 e3
    subst e0 e1 e2 e3
    exact ⟨⟨a, b, c, d⟩, rfl⟩
end
set_option maxRecDepth 100000 in
theorem open_items {H : Type} {enc : TypeId × Value → H} {w : World} {base : Nat} {spare : Nat → Bool} {held : Bool} {r : Reach} {b0 : Nat} {v : Value} {d : DataW H} {p : List MemPlace}
    (hv : Value.okWide Try.prog w r b0 28 v) (h : DataW.Trod enc Try.prog w base spare held 28 v d p) : ∃ i : It, v = .agg i.cells.toArray := by
  have hv2 := hv
  simp only [Value.okWide, Try.underlying28] at hv2
  obtain ⟨cs, rfl, _⟩ := hv2
  obtain ⟨fuel, hf⟩ := h
  obtain ⟨i, hi⟩ := cells_items (cs := cs.toList) hf
  exact ⟨i, by rw [← hi]⟩
end Go.Proofs.Ytbcokphjpllbiaa
end
section
set_option linter.unusedSimpArgs false
set_option linter.unusedVariables false
namespace Go.Proofs.Ytbcokphjpllbiaa
open Go.Joins Go.ChangeShapes Go.WideShapes Go.RowKit Go.Deep Go.Sl
/-- v is a slice that holds xs in the world w, each element as its cells. -/
def SliceV {α : Type} (enc : α → List Value) (k : Nat) (w : World) (v : Value) (xs : List α) : Prop :=
  ∃ a cap, v = .slice a xs.length cap ∧ xs.length ≤ 9223372036854775807 ∧ ∀ i (h : i < xs.length), ∃ b off, a = some ⟨b, off, none⟩ ∧ ∀ j u, (enc xs[i])[j]? = some u → w.cell? ⟨b, off + i * k + j, none⟩ = some u
section
variable {H : Type} {enc : TypeId × Value → H} {P : Program} {w : World} {base : Nat} {spare : Nat → Bool} {held : Bool}
theorem open_sliceV {α : Type} {r : Reach} {b0 : Nat} {t e : TypeId} {k : Nat} {v : Value} {d : DataW H} {p : List MemPlace} (en : α → List Value) (x0 : α) (hk : ∀ x, (en x).length = k) (h0 : 0 < k) (ht : P.underlying t = some (.slice e)) (hC : P.cellsOf e = k)
    (hE : ∀ (n : Nat) (cs : List Value) (y : DataW H × List MemPlace), cs.length = k → DataW.trod enc P w base spare held n e cs = some y → ∃ x, cs = en x)
    (hv : Value.okWide P w r b0 t v) (h : DataW.Trod enc P w base spare held t v d p) : ∃ xs, SliceV en k w v xs := by
  obtain ⟨a0, len, cap, rfl⟩ := okWide_slice ht hv
  obtain ⟨fuel, hf⟩ := h
  rcases open_slice ht hf with ⟨hcs, hx⟩ | ⟨a, len', cap', m, n, D, Pl, hcs, hb, hl, hm, hmm, hx, hi⟩
  · simp [Value.cells] at hcs
    obtain ⟨rfl, rfl, rfl⟩ := hcs
    exact ⟨[], none, 0, rfl, by simp, fun i hi => absurd hi (Nat.not_lt_zero _)⟩
  · simp [Value.cells] at hcs
    obtain ⟨rfl, rfl, rfl⟩ := hcs
    have hlm : len ≤ m := by rw [hmm]; split <;> omega
    have hex : ∀ i, ∃ x : α, i < len → ∀ j u, (en x)[j]? = some u → w.cell? ((a.add (i * k)).add j) = some u := fun i => by
      by_cases hil : i < len
      · obtain ⟨cs', hc, ht'⟩ := hi i (by omega)
        rw [hC] at hc
        obtain ⟨_, hcl, hat⟩ := World.cells?_some hc
        obtain ⟨x, rfl⟩ := hE n cs' _ hcl ht'
        refine ⟨x, fun _ j u hj => ?_⟩
        have hjk : j < k := by have := (List.getElem?_eq_some_iff.1 hj).1; rwa [hk] at this
        rw [hat j hjk]
        exact hj
      · exact ⟨x0, fun h => absurd h hil⟩
    obtain ⟨f, hf'⟩ := Classical.axiomOfChoice hex
    have hll : ((List.range len).map f).length = len := by simp
    refine ⟨(List.range len).map f, some a, cap, by rw [hll], by rw [hll]; unfold maxLen at hm; omega, fun i hi2 => ?_⟩
    rw [hll] at hi2
    have hspot : a.spot = none := by
      have hc := hf' 0 (by omega)
      have h1 : (en (f 0))[0]? = some ((en (f 0))[0]'(by rw [hk]; exact h0)) := List.getElem?_eq_getElem _
      have := World.cell?_spot (hc 0 _ h1)
      simpa [Addr.add] using this
    obtain ⟨b, off, spot⟩ := a
    simp only at hspot
    subst hspot
    refine ⟨b, off, rfl, fun j u hj => ?_⟩
    have e1 : ((List.range len).map f)[i] = f i := by simp
    rw [e1] at hj
    have := hf' i hi2 j u hj
    rwa [Addr.add_lit, Addr.add_lit] at this
end
end Go.Proofs.Ytbcokphjpllbiaa
end
section
set_option linter.unusedSimpArgs false
set_option linter.unusedVariables false
namespace Go.Proofs.Ytbcokphjpllbiaa
open Go.Joins Go.ChangeShapes Go.WideShapes Go.RowKit Go.Deep Go.Sl
set_option maxRecDepth 100000 in
theorem cells_ord {H : Type} {enc : TypeId × Value → H} {w : World} {base : Nat} {spare : Nat → Bool} {held : Bool} {n : Nat} {cs : List Value} {y : DataW H × List MemPlace}
    (h : DataW.trod enc Try.prog w base spare held n 32 cs = some y) : ∃ o : Ord, cs = o.cells := by
  obtain ⟨xs, n', rfl, hx, hlen, hxl, hg⟩ := DataW.trod_struct Try.underlying32 h
  have hlen' : cs.length = 6 := hlen.trans (by kernel_rfl)
  match cs, hlen' with
  | [c0, c1, c2, c3, c4, c5], _ =>
    match xs, hxl with
    | [y0, y1, y2, y3, y4, y5], _ =>
      have g0 := hg 0 _ rfl
      have g1 := hg 1 _ rfl
      have g2 := hg 2 _ rfl
      have g3 := hg 3 _ rfl
      have g4 := hg 4 _ rfl
      have g5 := hg 5 _ rfl
      obtain ⟨i, e0, _⟩ := DataW.trod_int Try.underlying3 (show DataW.trod enc Try.prog w base spare held n' 3 [c0] = some y0 from g0)
      obtain ⟨u, e1, _⟩ := DataW.trod_string Try.underlying9 (show DataW.trod enc Try.prog w base spare held n' 9 [c1] = some y1 from g1)
      obtain ⟨b, e2, _⟩ := DataW.trod_bool Try.underlying4 (show DataW.trod enc Try.prog w base spare held n' 4 [c2] = some y2 from g2)
      obtain ⟨t, e3, _⟩ := DataW.trod_int Try.underlying3 (show DataW.trod enc Try.prog w base spare held n' 3 [c3] = some y3 from g3)
      obtain ⟨c, e4, _⟩ := DataW.trod_int Try.underlying3 (show DataW.trod enc Try.prog w base spare held n' 3 [c4] = some y4 from g4)
      obtain ⟨q, e5, _⟩ := DataW.trod_int Try.underlying3 (show DataW.trod enc Try.prog w base spare held n' 3 [c5] = some y5 from g5)
      simp only [List.cons.injEq, and_true] at e0 e1 e2 e3 e4 e5
      subst e0 e1 e2 e3 e4 e5
      exact ⟨⟨i, u, b, t, c, q⟩, rfl⟩
/-- An act of a vault's script. -/
structure Vact where
  kind : Int
  n : Int
  who : ByteArray
  i : It
  o : Ord
def Vact.cells (a : Vact) : List Value := .int .i64 a.kind :: .int .i64 a.n :: .string a.who :: (a.i.cells ++ a.o.cells)
theorem Vact.len (a : Vact) : a.cells.length = 13 := rfl
set_option maxRecDepth 100000 in
theorem cells_vact {H : Type} {enc : TypeId × Value → H} {w : World} {base : Nat} {spare : Nat → Bool} {held : Bool} {n : Nat} {cs : List Value} {y : DataW H × List MemPlace}
    (h : DataW.trod enc Try.prog w base spare held n 40 cs = some y) : ∃ a : Vact, cs = a.cells := by
  obtain ⟨xs, n', rfl, hx, hlen, hxl, hg⟩ := DataW.trod_struct Try.underlying40 h
  have hlen' : cs.length = 13 := hlen.trans (by kernel_rfl)
  match cs, hlen' with
  | [c0, c1, c2, c3, c4, c5, c6, c7, c8, c9, c10, c11, c12], _ =>
    match xs, hxl with
    | [y0, y1, y2, y3, y4], _ =>
      have g0 := hg 0 _ rfl
      have g1 := hg 1 _ rfl
      have g2 := hg 2 _ rfl
      have g3 := hg 3 _ rfl
      have g4 := hg 4 _ rfl
      obtain ⟨k, e0, _⟩ := DataW.trod_int Try.underlying3 (show DataW.trod enc Try.prog w base spare held n' 3 [c0] = some y0 from g0)
      obtain ⟨m, e1, _⟩ := DataW.trod_int Try.underlying3 (show DataW.trod enc Try.prog w base spare held n' 3 [c1] = some y1 from g1)
      obtain ⟨u, e2, _⟩ := DataW.trod_string Try.underlying9 (show DataW.trod enc Try.prog w base spare held n' 9 [c2] = some y2 from g2)
      obtain ⟨i, e3⟩ := cells_items (show DataW.trod enc Try.prog w base spare held n' 28 [c3, c4, c5, c6] = some y3 from g3)
      obtain ⟨o, e4⟩ := cells_ord (show DataW.trod enc Try.prog w base spare held n' 32 [c7, c8, c9, c10, c11, c12] = some y4 from g4)
      simp only [List.cons.injEq, and_true] at e0 e1 e2
      subst e0 e1 e2
      refine ⟨⟨k, m, u, i, o⟩, ?_⟩
      unfold Vact.cells
      rw [← e3, ← e4]
      rfl
set_option maxRecDepth 100000 in
theorem open_vacts {H : Type} {enc : TypeId × Value → H} {w : World} {base : Nat} {spare : Nat → Bool} {held : Bool} {r : Reach} {b0 : Nat} {v : Value} {d : DataW H} {p : List MemPlace}
    (hv : Value.okWide Try.prog w r b0 37 v) (h : DataW.Trod enc Try.prog w base spare held 37 v d p) : ∃ xs, SliceV Vact.cells 13 w v xs :=
  open_sliceV Vact.cells ⟨0, 0, ⟨#[]⟩, it0, ⟨0, ⟨#[]⟩, false, 0, 0, 0⟩⟩ Vact.len (by decide) Try.underlying37 (by kernel_rfl) (fun _ _ _ _ h => cells_vact h) hv h
/-- What an act of a script holds, cell by cell. -/
structure VactAt (V : World) (b off : Nat) (x : Vact) : Prop where
  kind : V.cell? ⟨b, off, none⟩ = some (.int .i64 x.kind)
  n : V.cell? ⟨b, off + 1, none⟩ = some (.int .i64 x.n)
  who : V.cell? ⟨b, off + 2, none⟩ = some (.string x.who)
  i0 : V.cell? ⟨b, off + 3, none⟩ = some (.int .i64 x.i.x0)
  i1 : V.cell? ⟨b, off + 4, none⟩ = some (.int .i64 x.i.x1)
  i2 : V.cell? ⟨b, off + 5, none⟩ = some (.int .i64 x.i.x2)
  i3 : V.cell? ⟨b, off + 6, none⟩ = some (.int .i64 x.i.x3)
  owho : V.cell? ⟨b, off + 8, none⟩ = some (.string x.o.who)
  its : ∀ (j : Nat) (v : Value), x.i.cells[j]? = some v → V.cell? ⟨b, off + 3 + j, none⟩ = some v
  ord : ∀ (j : Nat) (v : Value), x.o.cells[j]? = some v → V.cell? ⟨b, off + 7 + j, none⟩ = some v
  all : ∀ (j : Nat) (v : Value), x.cells[j]? = some v → V.cell? ⟨b, off + j, none⟩ = some v
theorem SliceV.vact {V : World} {v : Value} {xs : List Vact} (h : SliceV Vact.cells 13 V v xs) : ∃ a cap, v = .slice a xs.length cap ∧ xs.length ≤ 9223372036854775807 ∧ ∀ i (h : i < xs.length), ∃ b off, a = some ⟨b, off, none⟩ ∧ VactAt V b (off + i * 13) xs[i] := by
  obtain ⟨a, cap, hv, h63, hc⟩ := h
  refine ⟨a, cap, hv, h63, fun i hi => ?_⟩
  obtain ⟨b, off, ha, hj⟩ := hc i hi
  refine ⟨b, off, ha, hj 0 _ rfl, hj 1 _ rfl, hj 2 _ rfl, hj 3 _ rfl, hj 4 _ rfl, hj 5 _ rfl, hj 6 _ rfl, hj 8 _ rfl, fun j v hv => ?_, fun j v hv => ?_, fun j v hv => hj j v hv⟩
  · have h1 : (xs[i].cells)[3 + j]? = some v := by
      have hjl : j < xs[i].i.cells.length := (List.getElem?_eq_some_iff.1 hv).1
      rw [Nat.add_comm]
      show (xs[i].i.cells ++ xs[i].o.cells)[j]? = some v
      rw [List.getElem?_append_left hjl]
      exact hv
    have := hj (3 + j) v h1
    rwa [← Nat.add_assoc] at this
  · have h1 : (xs[i].cells)[7 + j]? = some v := by
      rw [Nat.add_comm]
      exact hv
    have := hj (7 + j) v h1
    rwa [← Nat.add_assoc] at this
end Go.Proofs.Ytbcokphjpllbiaa
end
section
set_option linter.unusedSimpArgs false
set_option linter.unusedVariables false
namespace Go.Proofs.Ytbcokphjpllbiaa
open Go.RowKit Go.Sl
def HvR (W : World) (L : List HP) (n : Nat) (v : Value) (w : World) : Prop := ∃ i : Nat, v = .int .i64 i ∧ i ≤ n ∧ i ≤ 100 ∧ St W L w
set_option maxRecDepth 100000 in
set_option maxHeartbeats 4000000 in
/-- Whatever it finds. -/
theorem heavy_spec (xs : List Vact) (v : Value) (V : World) (hv : SliceV Vact.cells 13 V v xs) (W w : World) (Lr : List HP) (hS : St W (Old V :: Lr) w) :
    Calls Try.prog 15 #[v] w fun e w' => ∃ h : Bool, e = .returned (.bool h) ∧ St W (Old V :: Lr) w' := by
  obtain ⟨a, cap, rfl, h63, hact⟩ := hv.vact
  have Ha := Lib.hid hact
  clear hact
  go_enter Try.func15, Try.ntmps15
  go_wp2_with fail
  go_loopw [3] (fun v wr => HvR W (Old V :: Lr) xs.length v wr) (fun v _ => xs.length - (intOf v).toNat)
  case atStart => exact ⟨0, rfl, by omega, by omega, hS⟩
  case round =>
    clear hS
    obtain ⟨i, rfl, hi, hi2, hS⟩ := hrel
    by_cases hend : i = xs.length ∨ i = 100
    · rcases hend with hend | hend
      · subst hend
        have d1 : decide ((xs.length : Int) < (xs.length : Int)) = false := by simp
        go_wp2_with (first | go_big_skip)
        go_ret
        exact ⟨_, rfl, hS⟩
      · subst hend
        by_cases hlt : 100 < xs.length
        · have d1 : ((100 : Nat) : Int) < (xs.length : Int) := by omega
          go_wp2_with (first | go_big_skip)
          go_ret
          exact ⟨_, rfl, hS⟩
        · have d1 : decide ((100 : Int) < (xs.length : Int)) = false := by simp; omega
          go_wp2_with (first | go_big_skip)
          go_ret
          exact ⟨_, rfl, hS⟩
    · have hil : i < xs.length := by omega
      have hi3 : i < 100 := by omega
      clear hend hi hi2
      obtain ⟨pb, poff, rfl, hA⟩ := Ha.out i hil
      obtain ⟨ck, cn, cw, c0, c1, c2, c3, co, cits, cord, call⟩ := hA
      generalize xs[i] = x at ck cn cw c0 c1 c2 c3 co cits cord call
      obtain ⟨kd, nn, who, ⟨i0, i1, i2, i3⟩, ⟨oi, ou, oy, ot, oc, op⟩⟩ := x
      simp only at ck cn cw c0 c1 c2 c3 co cits cord call
      by_cases h1 : 200 < who.size
      · have d1 : (200 : Int) < (who.size : Int) := by omega
        go_wp2_with (first | go_big_skip | ((with_reducible apply wl_ld1 hS); (with_reducible rfl); rfl; rfl; decide +kernel; (first | exact Cell.old .head cw | exact Cell.old (.tail .head) cw | exact Cell.old (.tail (.tail .head)) cw | exact Cell.old (.tail (.tail (.tail .head))) cw | exact Cell.old (.tail (.tail (.tail (.tail .head)))) cw | exact Cell.old (.tail (.tail (.tail (.tail (.tail .head))))) cw); (simp only [Act.put, List.setIfInBounds_toArray, List.set_cons_succ, List.set_cons_zero, Nat.reduceAdd])) | ((with_reducible apply wl_ld1 hS); (with_reducible rfl); rfl; rfl; decide +kernel; (first | exact Cell.old .head co | exact Cell.old (.tail .head) co | exact Cell.old (.tail (.tail .head)) co | exact Cell.old (.tail (.tail (.tail .head))) co | exact Cell.old (.tail (.tail (.tail (.tail .head)))) co | exact Cell.old (.tail (.tail (.tail (.tail (.tail .head))))) co); (simp only [Act.put, List.setIfInBounds_toArray, List.set_cons_succ, List.set_cons_zero, Nat.reduceAdd])))
        go_ret
        exact ⟨_, rfl, hS⟩
      · have d1 : decide ((200 : Int) < (who.size : Int)) = false := by simp; omega
        by_cases h2 : 200 < ou.size
        · have d2 : (200 : Int) < (ou.size : Int) := by omega
          go_wp2_with (first | go_big_skip | ((with_reducible apply wl_ld1 hS); (with_reducible rfl); rfl; rfl; decide +kernel; (first | exact Cell.old .head cw | exact Cell.old (.tail .head) cw | exact Cell.old (.tail (.tail .head)) cw | exact Cell.old (.tail (.tail (.tail .head))) cw | exact Cell.old (.tail (.tail (.tail (.tail .head)))) cw | exact Cell.old (.tail (.tail (.tail (.tail (.tail .head))))) cw); (simp only [Act.put, List.setIfInBounds_toArray, List.set_cons_succ, List.set_cons_zero, Nat.reduceAdd])) | ((with_reducible apply wl_ld1 hS); (with_reducible rfl); rfl; rfl; decide +kernel; (first | exact Cell.old .head co | exact Cell.old (.tail .head) co | exact Cell.old (.tail (.tail .head)) co | exact Cell.old (.tail (.tail (.tail .head))) co | exact Cell.old (.tail (.tail (.tail (.tail .head)))) co | exact Cell.old (.tail (.tail (.tail (.tail (.tail .head))))) co); (simp only [Act.put, List.setIfInBounds_toArray, List.set_cons_succ, List.set_cons_zero, Nat.reduceAdd])))
          go_ret
          exact ⟨_, rfl, hS⟩
        · have d2 : decide ((200 : Int) < (ou.size : Int)) = false := by simp; omega
          go_wp2_with (first | go_big_skip | ((with_reducible apply wl_ld1 hS); (with_reducible rfl); rfl; rfl; decide +kernel; (first | exact Cell.old .head cw | exact Cell.old (.tail .head) cw | exact Cell.old (.tail (.tail .head)) cw | exact Cell.old (.tail (.tail (.tail .head))) cw | exact Cell.old (.tail (.tail (.tail (.tail .head)))) cw | exact Cell.old (.tail (.tail (.tail (.tail (.tail .head))))) cw); (simp only [Act.put, List.setIfInBounds_toArray, List.set_cons_succ, List.set_cons_zero, Nat.reduceAdd])) | ((with_reducible apply wl_ld1 hS); (with_reducible rfl); rfl; rfl; decide +kernel; (first | exact Cell.old .head co | exact Cell.old (.tail .head) co | exact Cell.old (.tail (.tail .head)) co | exact Cell.old (.tail (.tail (.tail .head))) co | exact Cell.old (.tail (.tail (.tail (.tail .head)))) co | exact Cell.old (.tail (.tail (.tail (.tail (.tail .head))))) co); (simp only [Act.put, List.setIfInBounds_toArray, List.set_cons_succ, List.set_cons_zero, Nat.reduceAdd])))
          go_roundw
          case rel => exact ⟨i + 1, rfl, hil, hi3, hS⟩
          case measure => simp [intOf]; omega
/-- Purses as they are listed. -/
abbrev hdR (v : Value) (l : List Hd) : HP := row v 5 46 l.length (l.flatMap Hd.cells)
def LhR (W : World) (F : List HP) (p : Ps) (v5 v17 : Value) (w : World) : Prop :=
  ∃ k : Nat, v17 = .int .i64 k ∧ k ≤ p.length ∧ St W (row v5 5 46 k (((hdL p).take k).flatMap Hd.cells) :: F) w
/-- What a book's List yields. -/
def liR (bb : Nat) (L : List Ord) (n : Int) (v : Value) : HP := fun f => ∃ (a : Option Addr) (c : Nat), v = .slice a L.length c ∧ sats [bookL bb L n, pileR (.slice a L.length c) L] f
section
variable {W w : World} {bb : Nat} {L : List Ord} {n : Int} {v : Value} {R : List HP}
theorem liOpen (h : St W (liR bb L n v :: R) w) : ∃ a c, v = .slice a L.length c ∧ St W (bookL bb L n :: pileR (.slice a L.length c) L :: R) w := by
  obtain ⟨a, h⟩ := St.ex h
  obtain ⟨c, h⟩ := St.ex h
  obtain ⟨h1, h⟩ := St.and h
  exact ⟨a, c, h1, (St.split (St.split h).swap).swap.drop.swap⟩
theorem liShut {a : Option Addr} {c : Nat} (hv : v = .slice a L.length c) (h : St W (bookL bb L n :: pileR (.slice a L.length c) L :: R) w) : St W (liR bb L n v :: R) w := by
  refine St.mkEx a (St.mkEx c (St.mkAnd hv ?_))
  refine St.join ?_
  refine St.swap (St.imp h.swap ?_)
  intro f hf
  exact ⟨fun _ => true, hf, trivial⟩
theorem listF (hS : St W (bookL bb L n :: R) w) :
    Calls Try.prog 30 #[.pointer (some ⟨bb, 0, none⟩)] w fun e w' => ∃ v, e = .returned v ∧ St W (liR bb L n v :: R) w' := by
  refine (listL_spec hS).mono ?_
  rintro e w' ⟨a, c, rfl, hS⟩
  exact ⟨_, rfl, liShut rfl hS⟩
end
set_option maxRecDepth 100000 in
set_option maxHeartbeats 4000000 in
theorem listV_spec (vb mb bb : Nat) (p : Ps) (L : List Ord) (n : Int) {N : Nat} (hw : PsW p N) (hN : N ≤ 1000000000) (W w : World) (R : List HP) (hS : St W (vaultL vb mb bb p L n R) w) :
    Calls Try.prog 16 #[.pointer (some ⟨vb, 0, none⟩)] w fun e w' => ∃ a c a2 c2, e = .returned (.tuple #[.slice a (hdL p).length c, .slice a2 L.length c2, .int .i64 n]) ∧
      St W (vaultL vb mb bb p L n (hdR (.slice a (hdL p).length c) (hdL p) :: pileR (.slice a2 L.length c2) L :: R)) w' := by
  have hlen := hw.len
  have Hw := Lib.hid hw
  clear hw
  go_enter Try.func16, Try.ntmps16
  go_wp2_with (first | (go_at_call 35; refine (keysS_call (some mb) W _ _ (hS.sel (L' := amap eS eP mb p :: blk vb _ _ :: bookL bb L n :: R) (by (repeat' (first | (with_reducible first | exact Sel.done Suf.refl | exact Sel.done (Suf.tail Suf.refl) | exact Sel.done (Suf.tail (Suf.tail Suf.refl)) | exact Sel.done (Suf.tail (Suf.tail (Suf.tail Suf.refl))) | (apply Sel.done; (focus ((repeat (first | exact Suf.refl | apply Suf.tail)); done)))) | (refine Sel.cons (by with_reducible (focus ((repeat (first | exact Take.head | apply Take.tail)); done))) ?_)))))).mono ?_; clear hS; rintro e w ⟨g, rfl, hS⟩) | (go_at_call 34; refine (sortedS_call (fun x hx => by have := Hw.out.who x hx; unfold maxLen; omega) (by omega) hS).mono ?_; clear hS; rintro e w ⟨v, rfl, hS⟩; (have hv := hS.rowVal; obtain ⟨sa, sc, rfl⟩ := hv)) | ((with_reducible apply wl_ld1 hS); (with_reducible rfl); rfl; rfl; decide +kernel; (first | (focus ((repeat (first | exact Cell.here rfl | apply Cell.there)); done)) | assumption); (simp only [Act.put, List.setIfInBounds_toArray, List.set_cons_succ, List.set_cons_zero, Nat.reduceAdd])) | ((with_reducible apply wl_ldN hS); (with_reducible rfl); rfl; rfl; decide +kernel; (first | (focus ((repeat (first | exact Cells.whole | apply Cells.there)); done)) | assumption); kernel_rfl; (simp only [Act.put, List.setIfInBounds_toArray, List.set_cons_succ, List.set_cons_zero, Nat.reduceAdd])) | ((with_reducible apply wl_st1 hS); (with_reducible rfl); rfl; rfl; (focus ((conv => lhs; whnf); try rfl)); kernel_rfl; rfl; rfl; ((focus ((repeat (first | exact Upd.head | apply Upd.tail)); done))); (simp only [List.length_cons, List.length_nil]; omega); ((simp only [List.set_cons_zero, List.set_cons_succ, setAll]); rfl); clear hS; intro w hS; try (simp only [Act.put, List.setIfInBounds_toArray, List.set_cons_succ, List.set_cons_zero, Nat.reduceAdd])) | ((with_reducible apply wl_stN hS); (with_reducible rfl); rfl; rfl; (focus ((conv => lhs; whnf); try rfl)); kernel_rfl; rfl; ((focus ((repeat (first | exact Upd.head | apply Upd.tail)); done))); (simp only [List.length_cons, List.length_nil]; omega); ((simp only [List.set_cons_zero, List.set_cons_succ, setAll]); rfl); clear hS; intro w hS; try (simp only [Act.put, List.setIfInBounds_toArray, List.set_cons_succ, List.set_cons_zero, Nat.reduceAdd])) | ((with_reducible apply wl_box hS); (with_reducible rfl); rfl; rfl; rfl; clear hS; intro b w hS; (simp only [Act.put, List.setIfInBounds_toArray, List.set_cons_succ, List.set_cons_zero, Nat.reduceAdd])) | ((with_reducible apply wl_alloc hS); (with_reducible rfl); rfl; (with_reducible first | exact Ty.z3 | exact Ty.z28 | exact Ty.z32 | exact Ty.z40 | exact Ty.z46 | exact Ty.z69 | exact Ty.z86 | exact Ty.z146); clear hS; intro b w hS; (simp only [Act.put, List.setIfInBounds_toArray, List.set_cons_succ, List.set_cons_zero, Nat.reduceAdd])))
  have hS1 := hS.rowNil (k := 5) (T := 46)
  clear hS
  have hS := hS1
  clear hS1
  go_loopw [5, 17] (fun v5 v17 wr => LhR W (row (.slice sa p.length sc) 1 9 p.length ((sortB (p.map (·.1))).map eS) :: amap eS eP mb p :: blk vb [.map (some mb), .pointer (some ⟨bb, 0, none⟩), .int .i64 n] 56 :: bookL bb L n :: R) p v5 v17 wr) (fun _ v17 _ => p.length - (intOf v17).toNat)
  case atStart => exact ⟨0, rfl, Nat.zero_le _, hS⟩
  case round =>
    clear hS
    obtain ⟨k, rfl, hkl, hS⟩ := hrel
    have hlk := kL_len p
    have hlh := hdL_len p
    by_cases hkn : k = p.length
    · have e1 : (hdL p).take k = hdL p := List.take_of_length_le (by omega)
      rw [e1] at hS
      have e2 : k = (hdL p).length := by omega
      have hd1 : decide (k < p.length) = false := by simp; omega
      clear e1 hkl hlk
      clear hkn hlh
      subst e2
      go_wp2_with (first | ((with_reducible apply wl_ld1 hS); (with_reducible rfl); rfl; rfl; decide +kernel; (first | (focus ((repeat (first | exact Cell.here rfl | apply Cell.there)); done)) | assumption); (simp only [Act.put, List.setIfInBounds_toArray, List.set_cons_succ, List.set_cons_zero, Nat.reduceAdd])) | ((with_reducible apply wl_ldN hS); (with_reducible rfl); rfl; rfl; decide +kernel; (first | (focus ((repeat (first | exact Cells.whole | apply Cells.there)); done)) | assumption); kernel_rfl; (simp only [Act.put, List.setIfInBounds_toArray, List.set_cons_succ, List.set_cons_zero, Nat.reduceAdd])) | ((with_reducible apply wl_st1 hS); (with_reducible rfl); rfl; rfl; (focus ((conv => lhs; whnf); try rfl)); kernel_rfl; rfl; rfl; ((focus ((repeat (first | exact Upd.head | apply Upd.tail)); done))); (simp only [List.length_cons, List.length_nil]; omega); ((simp only [List.set_cons_zero, List.set_cons_succ, setAll]); rfl); clear hS; intro w hS; try (simp only [Act.put, List.setIfInBounds_toArray, List.set_cons_succ, List.set_cons_zero, Nat.reduceAdd])) | ((with_reducible apply wl_stN hS); (with_reducible rfl); rfl; rfl; (focus ((conv => lhs; whnf); try rfl)); kernel_rfl; rfl; ((focus ((repeat (first | exact Upd.head | apply Upd.tail)); done))); (simp only [List.length_cons, List.length_nil]; omega); ((simp only [List.set_cons_zero, List.set_cons_succ, setAll]); rfl); clear hS; intro w hS; try (simp only [Act.put, List.setIfInBounds_toArray, List.set_cons_succ, List.set_cons_zero, Nat.reduceAdd])) | ((with_reducible apply wl_box hS); (with_reducible rfl); rfl; rfl; rfl; clear hS; intro b w hS; (simp only [Act.put, List.setIfInBounds_toArray, List.set_cons_succ, List.set_cons_zero, Nat.reduceAdd])) | ((with_reducible apply wl_alloc hS); (with_reducible rfl); rfl; (with_reducible first | exact Ty.z3 | exact Ty.z28 | exact Ty.z32 | exact Ty.z40 | exact Ty.z46 | exact Ty.z69 | exact Ty.z86 | exact Ty.z146); clear hS; intro b w hS; (simp only [Act.put, List.setIfInBounds_toArray, List.set_cons_succ, List.set_cons_zero, Nat.reduceAdd])))
      have hS := hS.sel (L' := bookL bb L n :: blk vb _ _ :: amap eS eP mb p :: row u5 5 _ _ _ :: R) (by (repeat' (first | (with_reducible first | exact Sel.done Suf.refl | exact Sel.done (Suf.tail Suf.refl) | exact Sel.done (Suf.tail (Suf.tail Suf.refl)) | exact Sel.done (Suf.tail (Suf.tail (Suf.tail Suf.refl))) | (apply Sel.done; (focus ((repeat (first | exact Suf.refl | apply Suf.tail)); done)))) | (refine Sel.cons (by with_reducible (focus ((repeat (first | exact Take.head | apply Take.tail)); done))) ?_))))
      refine wp_region_flow3 [0, 0, 2, 6, 14, 30, 0, 64, 192, 448, 63, 1087, 4095] (fun i => i == 5) (fun _ => none) [⟨some 5, none, fun nd => liR bb L n (nd 5)⟩] [some 5, none, none, none] (by kernel_rfl) (by kernel_rfl) rfl hS (CongOk.cons (fun nd nd' h => by dsimp only; rw [h 5 rfl rfl]) CongOk.nil) ?_
      intro nd
      iterate 2 (refine ch_pure rfl (by kernel_rfl) rfl rfl ?_; intro K hK; go_big_quiet_op; go_big_quiet_on)
      (apply ch_nil; rfl; kernel_rfl; (with_reducible rfl); rfl; rfl; (simp only [Act.put, List.setIfInBounds_toArray, List.set_cons_succ, List.set_cons_zero, Nat.reduceAdd]))
      (refine ch_pure rfl (by kernel_rfl) rfl rfl ?_; intro K hK; go_big_quiet_op; go_big_quiet_on)
      (apply ch_ld1; rfl; kernel_rfl; (with_reducible rfl); rfl; rfl; decide +kernel; (intro F; first | exact Cell.here rfl | exact Cell.there (Cell.here rfl) | exact Cell.there (Cell.there (Cell.here rfl)) | exact Cell.there (Cell.there (Cell.there (Cell.here rfl))) | exact Cell.there (Cell.there (Cell.there (Cell.there (Cell.here rfl)))) | exact Cell.there (Cell.there (Cell.there (Cell.there (Cell.there (Cell.here rfl))))) | exact Cell.there (Cell.there (Cell.there (Cell.there (Cell.there (Cell.there (Cell.here rfl)))))) | assumption); (simp only [Act.put, List.setIfInBounds_toArray, List.set_cons_succ, List.set_cons_zero, Nat.reduceAdd]))
      (apply ch_callN; rfl; rfl; (with_reducible rfl); decide +kernel; (focus (simp only [List.map_toArray, List.map_cons, List.map_nil, Act.eval, Array.getD_eq_getD_getElem?, List.getElem?_toArray, List.getElem?_cons_succ, List.getElem?_cons_zero, Option.getD_some]; try rfl)); (intro _; rfl); (intro F w hS; exact listF hS); (simp only [Act.put, List.setIfInBounds_toArray, List.set_cons_succ, List.set_cons_zero, Nat.reduceAdd]))
      (refine ch_pure rfl (by kernel_rfl) rfl rfl ?_; intro K hK; go_big_quiet_op; go_big_quiet_on)
      (apply ch_nil; rfl; kernel_rfl; (with_reducible rfl); rfl; rfl; (simp only [Act.put, List.setIfInBounds_toArray, List.set_cons_succ, List.set_cons_zero, Nat.reduceAdd]))
      (refine ch_pure rfl (by kernel_rfl) rfl rfl ?_; intro K hK; go_big_quiet_op; go_big_quiet_on)
      (apply ch_ld1; rfl; kernel_rfl; (with_reducible rfl); rfl; rfl; decide +kernel; (intro F; first | exact Cell.here rfl | exact Cell.there (Cell.here rfl) | exact Cell.there (Cell.there (Cell.here rfl)) | exact Cell.there (Cell.there (Cell.there (Cell.here rfl))) | exact Cell.there (Cell.there (Cell.there (Cell.there (Cell.here rfl)))) | exact Cell.there (Cell.there (Cell.there (Cell.there (Cell.there (Cell.here rfl))))) | exact Cell.there (Cell.there (Cell.there (Cell.there (Cell.there (Cell.there (Cell.here rfl)))))) | assumption); (simp only [Act.put, List.setIfInBounds_toArray, List.set_cons_succ, List.set_cons_zero, Nat.reduceAdd]))
      iterate 3 (refine ch_pure rfl (by kernel_rfl) rfl rfl ?_; intro K hK; go_big_quiet_op; go_big_quiet_on)
      refine ch_end ?_
      clear hS
      intro w hS
      have hS2 : St W [liR bb L n (nd 5), blk vb _ _, amap eS eP mb p, row u5 5 _ _ _, sats R] w := hS
      clear hS
      have hS := hS2.unpack [_, _, _, _]
      clear hS2
      simp only [List.cons_append, List.nil_append] at hS
      generalize nd 5 = v5 at *
      obtain ⟨a2, c2, rfl, hS5⟩ := liOpen hS
      clear hS
      have hv := hS5.drop.drop.drop.drop.rowVal
      obtain ⟨a, c, rfl⟩ := hv
      clear hS
      have hS := hS5
      clear hS5
      go_wp2_with fail
      go_ret3
      exact ⟨a, c, a2, c2, rfl, hS.sel (by (repeat' (first | (with_reducible first | exact Sel.done Suf.refl | exact Sel.done (Suf.tail Suf.refl) | exact Sel.done (Suf.tail (Suf.tail Suf.refl)) | exact Sel.done (Suf.tail (Suf.tail (Suf.tail Suf.refl))) | (apply Sel.done; (focus ((repeat (first | exact Suf.refl | apply Suf.tail)); done)))) | (refine Sel.cons (by with_reducible (focus ((repeat (first | exact Take.head | apply Take.tail)); done))) ?_))))⟩
    · have hk1 : k < p.length := by omega
      have hks : k < (hdL p).length := by omega
      have hkk : k < (kL p).length := by omega
      have hx1 : ((sortB (p.map (·.1))).map eS)[k]? = some (.string (kL p)[k]) := by
        rw [List.getElem?_map]
        show ((kL p)[k]?).map eS = _
        rw [List.getElem?_eq_getElem hkk]; rfl
      have htk : ((hdL p).take (k + 1)).flatMap Hd.cells = ((hdL p).take k).flatMap Hd.cells ++ (Hd.mk (kL p)[k] (purseA p (kL p)[k])).cells := by
        rw [List.take_succ_eq_append_getElem hks, List.flatMap_append]
        simp [hdL]
      obtain ⟨⟨g2, rfl⟩, hcap, hcn⟩ := St.rowAddr hS.drop (by omega)
      obtain ⟨x, hx⟩ : ∃ x, purseA p (kL p)[k] = x := ⟨_, rfl⟩
      rw [hx] at htk
      generalize (kL p)[k] = key at hx htk hx1
      obtain ⟨x0, x1, x2, x3⟩ := x
      have Hx := Lib.hid hx
      have Htk := Lib.hid htk
      have HX := Lib.hid hx1
      clear hx htk hx1 hkn hkl hlk hlh hks hkk
      go_wp2_with (first | ((with_reducible apply wl_ld1 hS); (with_reducible rfl); rfl; rfl; decide +kernel; (exact Cell.there (Cell.row (by omega) HX.out)); (simp only [Act.put, List.setIfInBounds_toArray, List.set_cons_succ, List.set_cons_zero, Nat.reduceAdd])) | ((with_reducible apply wl_alookU (ek := eS) (ev := eP) (k := key) it0 ⟨x0, x1, x2, x3⟩ hS); (with_reducible rfl); rfl; rfl; rfl; ((focus ((repeat (first | exact Take.head | apply Take.tail)); done))); exact mP; exact kS; exact zP; rfl; exact Hx.out; (simp only [Act.put, List.setIfInBounds_toArray, List.set_cons_succ, List.set_cons_zero, Nat.reduceAdd, eP, It.cells])) | ((with_reducible apply wl_bs hS); (with_reducible rfl); rfl; (focus (simp only [List.map_toArray, List.map_cons, List.map_nil, Act.eval, Array.getD_eq_getD_getElem?, List.getElem?_toArray, List.getElem?_cons_succ, List.getElem?_cons_zero, Option.getD_some]; try rfl)); (with_reducible first | exact Ty.e41 | exact Ty.e42 | exact Ty.e49 | exact Ty.e65 | exact Ty.e79 | exact Ty.e84 | exact Ty.e89 | exact Ty.e90 | exact Ty.e98 | exact Ty.e114); (with_reducible first | exact Ty.r3 | exact Ty.r5 | exact Ty.r9 | exact Ty.r28 | exact Ty.r32 | exact Ty.r46 | exact Ty.r49 | exact Ty.r69 | exact Ty.r94); rfl; rfl; rfl; rfl; clear hS; intro bS w hS; (simp only [Act.put, List.setIfInBounds_toArray, List.set_cons_succ, List.set_cons_zero, Nat.reduceAdd])) | ((with_reducible apply wl_append hS); (with_reducible rfl); rfl; rfl; rfl; (with_reducible first | exact Ty.e41 | exact Ty.e42 | exact Ty.e49 | exact Ty.e65 | exact Ty.e79 | exact Ty.e84 | exact Ty.e89 | exact Ty.e90 | exact Ty.e98 | exact Ty.e114); (with_reducible first | exact Ty.r3 | exact Ty.r5 | exact Ty.r9 | exact Ty.r28 | exact Ty.r32 | exact Ty.r46 | exact Ty.r49 | exact Ty.r69 | exact Ty.r94); rfl; decide; ((focus ((repeat (first | exact Take.head | apply Take.tail)); done))); (exact Src.mk Cells.whole); (focus (try rfl)); rfl; (focus (unfold maxLen; omega)); (focus (omega)); clear hS; intro v w hS; (simp only [Act.put, List.setIfInBounds_toArray, List.set_cons_succ, List.set_cons_zero, Nat.reduceAdd])) | ((with_reducible apply wl_ld1 hS); (with_reducible rfl); rfl; rfl; decide +kernel; (first | (focus ((repeat (first | exact Cell.here rfl | apply Cell.there)); done)) | assumption); (simp only [Act.put, List.setIfInBounds_toArray, List.set_cons_succ, List.set_cons_zero, Nat.reduceAdd])) | ((with_reducible apply wl_ldN hS); (with_reducible rfl); rfl; rfl; decide +kernel; (first | (focus ((repeat (first | exact Cells.whole | apply Cells.there)); done)) | assumption); kernel_rfl; (simp only [Act.put, List.setIfInBounds_toArray, List.set_cons_succ, List.set_cons_zero, Nat.reduceAdd])) | ((with_reducible apply wl_st1 hS); (with_reducible rfl); rfl; rfl; (focus ((conv => lhs; whnf); try rfl)); kernel_rfl; rfl; rfl; ((focus ((repeat (first | exact Upd.head | apply Upd.tail)); done))); (simp only [List.length_cons, List.length_nil]; omega); ((simp only [List.set_cons_zero, List.set_cons_succ, setAll]); rfl); clear hS; intro w hS; try (simp only [Act.put, List.setIfInBounds_toArray, List.set_cons_succ, List.set_cons_zero, Nat.reduceAdd])) | ((with_reducible apply wl_stN hS); (with_reducible rfl); rfl; rfl; (focus ((conv => lhs; whnf); try rfl)); kernel_rfl; rfl; ((focus ((repeat (first | exact Upd.head | apply Upd.tail)); done))); (simp only [List.length_cons, List.length_nil]; omega); ((simp only [List.set_cons_zero, List.set_cons_succ, setAll]); rfl); clear hS; intro w hS; try (simp only [Act.put, List.setIfInBounds_toArray, List.set_cons_succ, List.set_cons_zero, Nat.reduceAdd])) | ((with_reducible apply wl_box hS); (with_reducible rfl); rfl; rfl; rfl; clear hS; intro b w hS; (simp only [Act.put, List.setIfInBounds_toArray, List.set_cons_succ, List.set_cons_zero, Nat.reduceAdd])) | ((with_reducible apply wl_alloc hS); (with_reducible rfl); rfl; (with_reducible first | exact Ty.z3 | exact Ty.z28 | exact Ty.z32 | exact Ty.z40 | exact Ty.z46 | exact Ty.z69 | exact Ty.z86 | exact Ty.z146); clear hS; intro b w hS; (simp only [Act.put, List.setIfInBounds_toArray, List.set_cons_succ, List.set_cons_zero, Nat.reduceAdd])))
      go_roundw
      case rel =>
        refine ⟨k + 1, rfl, hk1, ?_⟩
        rw [Htk.out]
        have h0 : St W (row v 5 46 (k + 1) (((hdL p).take k).flatMap Hd.cells ++ (Hd.mk key ⟨x0, x1, x2, x3⟩).cells) :: _) w := hS
        exact h0.sel (by (repeat' (first | (with_reducible first | exact Sel.done Suf.refl | exact Sel.done (Suf.tail Suf.refl) | exact Sel.done (Suf.tail (Suf.tail Suf.refl)) | exact Sel.done (Suf.tail (Suf.tail (Suf.tail Suf.refl))) | (apply Sel.done; (focus ((repeat (first | exact Suf.refl | apply Suf.tail)); done)))) | (refine Sel.cons (by with_reducible (focus ((repeat (first | exact Take.head | apply Take.tail)); done))) ?_))))
      case measure => simp [intOf]; omega
end Go.Proofs.Ytbcokphjpllbiaa
end
section
set_option linter.unusedSimpArgs false
set_option linter.unusedVariables false
namespace Go.Sl
open Go.RowKit
section
variable {P : Program} {W : World} {L : List HP} {ops : Array Oper} {Q : Act → Prop} {a : Act} {rest : List Oper} {o : Oper}
theorem wq_eqA {t t2 : TypeId} {x y : Operand} {xs ys : Array Value} {r : Bool} (ho : o.op = .binOp .eql t x y t2) (hg : Region.wanted o (yielded ops a.tmps) = true) (hx : a.eval x = .agg xs) (hy : a.eval y = .agg ys) (hm : P.eqGuardType P.depth t = false) (hr : ∀ w : World, (Op.equalIn 10000 t (.agg xs) (.agg ys)).run P w = .ok r w)
    (h : wpQuiet P ops (St W L) Q rest (a.put o.dst (.bool r))) : wpQuiet P ops (St W L) Q (o :: rest) a :=
  wq_val hg (fun w _ => by
    unfold execOp
    simp [ho, hx, hy, run_eqGuard_agg w .eql t x y xs ys hm, run_eql_struct, hr]) h
theorem wq_neA {t t2 : TypeId} {x y : Operand} {xs ys : Array Value} {r : Bool} (ho : o.op = .binOp .neq t x y t2) (hg : Region.wanted o (yielded ops a.tmps) = true) (hx : a.eval x = .agg xs) (hy : a.eval y = .agg ys) (hm : P.eqGuardType P.depth t = false) (hr : ∀ w : World, (Op.equalIn 10000 t (.agg xs) (.agg ys)).run P w = .ok r w)
    (h : wpQuiet P ops (St W L) Q rest (a.put o.dst (.bool (!r)))) : wpQuiet P ops (St W L) Q (o :: rest) a :=
  wq_val hg (fun w _ => by
    unfold execOp
    simp [ho, hx, hy, run_eqGuard_agg w .neq t x y xs ys hm, run_neq_struct, hr]) h
end
end Go.Sl
namespace Go.Proofs.Ytbcokphjpllbiaa
open Go.RowKit Go.Sl
/-- What holds of purses and the next ID behind i acts. -/
structure VOk (p : Ps) (n : Int) (i : Nat) : Prop where
  ok : PsOk p
  w : PsW p (200 * i)
  n0 : 1 ≤ n
  n1 : n ≤ 1 + i
theorem vOk0 : VOk [] 1 0 := ⟨psOk_nil, psW_nil _, by decide, by decide⟩
theorem VOk.on {p : Ps} {n : Int} {i : Nat} (h : VOk p n i) : VOk p n (i + 1) := ⟨h.ok, psW_mono h.w (by omega), h.n0, by have := h.n1; omega⟩
section
variable (vb mb bb : Nat) {p : Ps} {L : List Ord} {n : Int} {i : Nat} (W w : World) (R : List HP)
theorem put_st (h : VOk p n i) (who : ByteArray) (it : It) (hS : St W (vaultL vb mb bb p L n R) w) :
    Calls Try.prog 10 #[.pointer (some ⟨vb, 0, none⟩), .string who, .agg it.cells.toArray] w fun e w' => e = .returned (.int .i64 (putE p who it)) ∧ VOk (putP p who it) n (i + 1) ∧ St W (vaultL vb mb bb (putP p who it) L n R) w' := by
  refine (put_spec vb mb p who _ _ it W w _ hS).mono ?_
  rintro e w' ⟨rfl, hS⟩
  exact ⟨rfl, ⟨psOk_put h.ok _ _, psW_mono (psW_put h.w _ _) (by omega), h.n0, by have := h.n1; omega⟩, hS⟩
theorem take_st (h : VOk p n i) (who : ByteArray) (it : It) (hS : St W (vaultL vb mb bb p L n R) w) :
    Calls Try.prog 14 #[.pointer (some ⟨vb, 0, none⟩), .string who, .agg it.cells.toArray] w fun e w' => e = .returned (.int .i64 (takeE p who it)) ∧ VOk (takeP p who it) n (i + 1) ∧ St W (vaultL vb mb bb (takeP p who it) L n R) w' := by
  refine (take_spec vb mb p who _ _ it W w _ hS).mono ?_
  rintro e w' ⟨rfl, hS⟩
  exact ⟨rfl, ⟨psOk_take h.ok _ _, psW_mono (psW_take h.w _ _) (by omega), h.n0, by have := h.n1; omega⟩, hS⟩
theorem ord_all (h : VOk p n i) (o : Ord) (hS : St W (vaultL vb mb bb p L n R) w) :
    Calls Try.prog 11 #[.pointer (some ⟨vb, 0, none⟩), .agg o.cells.toArray] w fun e w' => e = .returned (.tuple #[.int .i64 (ordV ⟨p, L, n⟩ o).1, .int .i64 (ordV ⟨p, L, n⟩ o).2.1]) ∧
      VOk (ordV ⟨p, L, n⟩ o).2.2.ps (ordV ⟨p, L, n⟩ o).2.2.n (i + 1) ∧ St W (vaultL vb mb bb (ordV ⟨p, L, n⟩ o).2.2.ps (ordV ⟨p, L, n⟩ o).2.2.L (ordV ⟨p, L, n⟩ o).2.2.n R) w' := by
  have hll := bookL_len hS.drop.drop
  have hmay : ∀ x ∈ L, MayP x := fun x hx => (bookL_each hS.drop.drop x hx).1
  refine (ordV_spec vb mb bb ⟨p, L, n⟩ o h.ok h.n0 W w R hS).mono ?_
  rintro e w' ⟨rfl, hS⟩
  have h1 := ordV_ok (V := ⟨p, L, n⟩) (o := o) h.ok h.n0 hmay
  have h2 := ordV_w (V := ⟨p, L, n⟩) (o := o) h.w hmay hll
  have h3 : (ordV ⟨p, L, n⟩ o).2.2.n ≤ n + 1 := by
    unfold ordV
    repeat' split
    all_goals dsimp only
    all_goals omega
  exact ⟨rfl, ⟨h1.1, psW_mono h2 (by omega), h1.2, by have := h.n1; omega⟩, hS⟩
theorem ord_id (V : Vs) (o : Ord) : ((ordV V o).2.1 = 0 ∧ (ordV V o).1 = V.n ∧ (ordV V o).2.2.n = V.n + 1) ∨ ((ordV V o).2.1 ≠ 0 ∧ (ordV V o).1 = 0 ∧ (ordV V o).2.2.n = V.n) := by
  unfold ordV
  repeat' split
  all_goals simp
theorem ord_yes (h : VOk p n i) {o : Ord} (hr : (ordV ⟨p, L, n⟩ o).2.1 = 0) (hS : St W (vaultL vb mb bb p L n R) w) :
    Calls Try.prog 11 #[.pointer (some ⟨vb, 0, none⟩), .agg o.cells.toArray] w fun e w' => ∃ p2 L2, VOk p2 (n + 1) (i + 1) ∧ e = .returned (.tuple #[.int .i64 n, .int .i64 0]) ∧ St W (vaultL vb mb bb p2 L2 (n + 1) R) w' := by
  refine (ord_all vb mb bb W w R h o hS).mono ?_
  rcases ord_id ⟨p, L, n⟩ o with ⟨h1, h2, h3⟩ | ⟨h1, _⟩
  · rw [h1, h2, h3]
    rintro e w' ⟨rfl, hok, hS⟩
    exact ⟨_, _, hok, rfl, hS⟩
  · exact absurd hr h1
theorem ord_no (h : VOk p n i) {o : Ord} {r : Int} (hr : (ordV ⟨p, L, n⟩ o).2.1 = r) (hr0 : r ≠ 0) (hS : St W (vaultL vb mb bb p L n R) w) :
    Calls Try.prog 11 #[.pointer (some ⟨vb, 0, none⟩), .agg o.cells.toArray] w fun e w' => ∃ p2 L2, VOk p2 n (i + 1) ∧ e = .returned (.tuple #[.int .i64 0, .int .i64 r]) ∧ St W (vaultL vb mb bb p2 L2 n R) w' := by
  refine (ord_all vb mb bb W w R h o hS).mono ?_
  rcases ord_id ⟨p, L, n⟩ o with ⟨h1, _⟩ | ⟨h1, h2, h3⟩
  · exact absurd (hr.symm.trans h1) hr0
  · rw [hr, h2, h3]
    rintro e w' ⟨rfl, hok, hS⟩
    exact ⟨_, _, hok, rfl, hS⟩
theorem can_all (h : VOk p n i) (who : ByteArray) (id : Int) (hS : St W (vaultL vb mb bb p L n R) w) :
    Calls Try.prog 13 #[.pointer (some ⟨vb, 0, none⟩), .string who, .int .i64 id] w fun e w' => e = .returned (.int .i64 (canV ⟨p, L, n⟩ who id).1) ∧
      VOk (canV ⟨p, L, n⟩ who id).2.ps n (i + 1) ∧ St W (vaultL vb mb bb (canV ⟨p, L, n⟩ who id).2.ps (canV ⟨p, L, n⟩ who id).2.L n R) w' := by
  have hmay : ∀ x ∈ L, MayP x := fun x hx => (bookL_each hS.drop.drop x hx).1
  refine (canV_spec vb mb bb ⟨p, L, n⟩ who id h.ok W w R hS).mono ?_
  rintro e w' ⟨rfl, hS⟩
  have h1 := canV_ok (V := ⟨p, L, n⟩) (who := who) (id := id) h.ok h.n0 hmay
  have h2 := canV_w (V := ⟨p, L, n⟩) (who := who) (id := id) h.w hmay
  have h3 : (canV ⟨p, L, n⟩ who id).2.n = n := by
    unfold canV
    split <;> rfl
  rw [h3] at hS
  exact ⟨rfl, ⟨h1.1, psW_mono h2 (by omega), h.n0, by have := h.n1; omega⟩, hS⟩
theorem has_at (u1 u2 : Value) {k : ByteArray} {x0 x1 x2 x3 : Int} (hx : purseA p k = ⟨x0, x1, x2, x3⟩) (hS : St W (blk vb [.map (some mb), u1, u2] 56 :: amap eS eP mb p :: R) w) :
    Calls Try.prog 12 #[.pointer (some ⟨vb, 0, none⟩), .string k] w fun e w' => e = .returned (.agg #[.int .i64 x0, .int .i64 x1, .int .i64 x2, .int .i64 x3]) ∧ St W (blk vb [.map (some mb), u1, u2] 56 :: amap eS eP mb p :: R) w' := by
  refine (has_spec vb mb p k u1 u2 W w R hS).mono ?_
  rw [hx]
  exact fun e w' h => h
end
end Go.Proofs.Ytbcokphjpllbiaa
end
