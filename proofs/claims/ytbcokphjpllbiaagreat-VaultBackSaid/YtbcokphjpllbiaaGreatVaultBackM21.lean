/-
  The vault's purses as they are listed: by names, none empty. Plain.
  An order that comes in as an argument: its six cells. For every order.
  VaultOfNothing: the walk; a purse, an order that come in. For every name, purse and order.
  The vault's scripts as they come in: a slice of acts. For every slice.
  The vault's List; are names too long? For every vault, every script.
  The document's vault: where a purse stands, what it has, a purse laid. For every row of purses.
-/
import Derived.Test.YtbcokphjpllbiaaGreatVaultBackM5
import Derived.Test.YtbcokphjpllbiaaGreatVaultBackM9
import Derived.Test.YtbcokphjpllbiaaGreatVaultBackM17
import Derived.Test.YtbcokphjpllbiaaGreatVaultBackM19
import Derived.Test.YtbcokphjpllbiaaGreatVaultBackM20
import Derived.Sort.Walk0
import Derived.Test.YtbcokphjpllbiaaGreatRows
import Derived.Lib.SmallJoins
import Derived.ChangeArms
import Derived.ProofKit
import Derived.Laws.IdiomArrays
section
set_option linter.unusedSimpArgs false
set_option linter.unusedVariables false
namespace Go.Proofs.YtbcokphjpllbiaaGreat
open Go.RowKit Go.Sl
/-- Purses that are listed: no name twice, none empty, so many at most. -/
structure PsW (p : Ps) (N : Nat) : Prop where
  nd : (p.map (·.1)).Nodup
  nz : ∀ x ∈ p, isZ x.2 = false
  who : ∀ x ∈ p, whoB x.1 = true
  len : p.length ≤ N
theorem psW_nil (N : Nat) : PsW [] N := ⟨List.nodup_nil, fun _ h => (by cases h), fun _ h => (by cases h), Nat.zero_le _⟩
theorem psW_mono {p : Ps} {N M : Nat} (h : PsW p N) (hm : N ≤ M) : PsW p M := ⟨h.nd, h.nz, h.who, Nat.le_trans h.len hm⟩
theorem mem_delP {p : Ps} {k : ByteArray} {x : ByteArray × It} (hx : x ∈ delL p k) : x ∈ p ∧ x.1 ≠ k := by
  have h := List.mem_filter.1 hx
  exact ⟨h.1, by simpa using h.2⟩
theorem nodup_delP {p : Ps} (h : (p.map (·.1)).Nodup) (k : ByteArray) : ((delL p k).map (·.1)).Nodup := h.sublist (List.filter_sublist.map _)
theorem psW_lay {p : Ps} {N : Nat} (h : PsW p N) {k : ByteArray} (hk : whoB k = true) (i : It) : PsW (layP p k i) (N + 1) := by
  have hnd := nodup_delP h.nd k
  have hl : (delL p k).length ≤ N := Nat.le_trans (List.length_filter_le _ _) h.len
  unfold layP
  split
  · exact ⟨hnd, fun x hx => h.nz x (mem_delP hx).1, fun x hx => h.who x (mem_delP hx).1, by omega⟩
  · rename_i hz
    refine ⟨?_, ?_, ?_, by simpa using hl⟩
    · rw [List.map_cons, List.nodup_cons]
      refine ⟨fun hm => ?_, hnd⟩
      obtain ⟨x, hx, e⟩ := List.mem_map.1 hm
      exact (mem_delP hx).2 e
    · intro x hx
      rcases List.mem_cons.1 hx with rfl | hx
      · simpa using hz
      · exact h.nz x (mem_delP hx).1
    · intro x hx
      rcases List.mem_cons.1 hx with rfl | hx
      · exact hk
      · exact h.who x (mem_delP hx).1
theorem may_who {o : Ord} (h : MayP o) : whoB o.who = true := by
  unfold whoB
  simp
  exact ⟨h.who0, h.who1⟩
theorem whoB_le {k : ByteArray} (h : whoB k = true) : k.size ≤ 16 := by unfold whoB at h; simp at h; omega
section
variable {p : Ps} {N : Nat}
theorem psW_give (h : PsW p N) {who : ByteArray} (hk : whoB who = true) (k n : Int) : PsW (giveP p who k n) (N + 1) := psW_lay h hk _
theorem psW_put (h : PsW p N) (k : ByteArray) (i : It) : PsW (putP p k i) (N + 1) := by
  unfold putP
  split
  · rename_i hc
    split
    · exact psW_lay h hc.1 _
    · exact psW_mono h (by omega)
  · exact psW_mono h (by omega)
theorem psW_take (h : PsW p N) (k : ByteArray) (i : It) : PsW (takeP p k i) (N + 1) := by
  unfold takeP
  split
  · rename_i hc
    split
    · exact psW_lay h hc.1 _
    · exact psW_mono h (by omega)
  · exact psW_mono h (by omega)
theorem psW_back (h : PsW p N) {who : ByteArray} (hk : whoB who = true) (i : It) : PsW (backP p who i) (N + 4) :=
  psW_give (psW_give (psW_give (psW_give h hk _ _) hk _ _) hk _ _) hk _ _
theorem psW_pay (h : PsW p N) {t : Trd} (ht : whoB t.buyer = true ∧ whoB t.seller = true) : PsW (payT p t) (N + 3) :=
  psW_give (psW_give (psW_give h ht.1 _ _) ht.1 _ _) ht.2 _ _
end
theorem psW_pays : ∀ (ts : List Trd) {p : Ps} {N : Nat}, PsW p N → (∀ t ∈ ts, whoB t.buyer = true ∧ whoB t.seller = true) → PsW (ts.foldl payT p) (N + 3 * ts.length)
  | [], _, _, h, _ => h
  | t :: ts, _, _, h, ht => psW_mono (psW_pays ts (psW_pay h (ht t (List.mem_cons_self ..))) fun x hx => ht x (List.mem_cons_of_mem _ hx)) (by rw [List.length_cons]; omega)
theorem trades_len : ∀ (f : Nat) (o : Ord) (L : List Ord) (ts : List Trd), (refLoop f o L ts).2.2.length ≤ ts.length + f
  | 0, o, L, ts => by rw [refLoop]; exact Nat.le_refl _
  | f + 1, o, L, ts => by
    rw [refLoop]
    split
    · split
      · show ts.length ≤ _; omega
      · refine Nat.le_trans (trades_len f _ _ _) ?_
        rw [List.length_append, List.length_singleton]
        omega
    · show ts.length ≤ _; omega
theorem cutR_who {L : List Ord} {k : Nat} {c : Int} (hk : k < L.length) (h : ∀ x ∈ L, whoB x.who = true) : ∀ x ∈ cutR L k c, whoB x.who = true := by
  unfold cutR
  split
  · exact fun x hx => h x (List.mem_of_mem_eraseIdx hx)
  · intro x hxm
    rcases List.mem_or_eq_of_mem_set hxm with hx' | rfl
    · exact h x hx'
    · exact h (at' L k) (at'_mem hk)
theorem trades_who : ∀ (f : Nat) (o : Ord) (L : List Ord) (ts : List Trd), (∀ x ∈ L, whoB x.who = true) → whoB o.who = true → (∀ t ∈ ts, whoB t.buyer = true ∧ whoB t.seller = true) → ∀ t ∈ (refLoop f o L ts).2.2, whoB t.buyer = true ∧ whoB t.seller = true
  | 0, o, L, ts, _, _, h => h
  | f + 1, o, L, ts, hL, ho, h => by
    rw [refLoop]
    by_cases h0 : 0 < o.cnt
    · rw [if_pos h0]
      cases hb : bestTo o L L.length with
      | none => exact h
      | some k =>
        obtain ⟨hk, hm, _⟩ := best_some hb
        have hx := hL _ (at'_mem hk)
        refine trades_who f _ _ _ (cutR_who hk hL) ho ?_
        intro t ht
        rcases List.mem_append.1 ht with ht | ht
        · exact h t ht
        · rw [List.mem_singleton.1 ht]
          unfold tradeR
          split
          · exact ⟨ho, hx⟩
          · exact ⟨hx, ho⟩
    · rw [if_neg h0]
      exact h
theorem ordV_w {V : Vs} {o : Ord} {N : Nat} (h : PsW V.ps N) (hL : ∀ x ∈ V.L, MayP x) (hl : V.L.length ≤ 32) : PsW (ordV V o).2.2.ps (N + 100) := by
  unfold ordV
  split
  · exact psW_mono h (by omega)
  · rename_i h1
    have hm := mayB_true.1 (show mayB { o with id := 1 } = true by simpa [may1] using h1)
    split
    · exact psW_mono h (by omega)
    · split
      · have hlen := trades_len (V.L.length + 1) { o with id := V.n } V.L []
        refine psW_mono (psW_pays _ (psW_take h _ _) (trades_who _ _ _ _ (fun x hx => may_who (hL x hx)) (by have h9 := may_who hm; exact h9) fun t ht => (by cases ht))) ?_
        unfold runT
        rw [List.length_nil] at hlen
        omega
      · exact psW_mono h (by omega)
theorem bytes_ext {a b : ByteArray} (h : a.data.toList = b.data.toList) : a = b := by
  obtain ⟨⟨a⟩⟩ := a
  obtain ⟨⟨b⟩⟩ := b
  simp at h
  rw [h]
theorem canV_w {V : Vs} {who : ByteArray} {id : Int} {N : Nat} (h : PsW V.ps N) (hL : ∀ x ∈ V.L, MayP x) : PsW (canV V who id).2.ps (N + 100) := by
  unfold canV
  split
  · rename_i hh
    obtain ⟨x, hx, hx2⟩ := List.any_eq_true.1 hh
    unfold hitC at hx2
    have e : x.who = who := by
      have e1 := (Bool.and_eq_true _ _ ▸ hx2).2
      rw [Lib.toList_data, Lib.toList_data] at e1
      exact bytes_ext (by simpa using e1)
    exact psW_mono (psW_back h (e ▸ may_who (hL x hx)) _) (by omega)
  · exact psW_mono h (by omega)
/-- A purse that is listed. -/
structure Hd where
  who : ByteArray
  has : It
def Hd.cells (h : Hd) : List Value := .string h.who :: h.has.cells
theorem Hd.len (h : Hd) : h.cells.length = 5 := rfl
def kL (p : Ps) : List ByteArray := sortB (p.map (·.1))
def hdL (p : Ps) : List Hd := (kL p).map fun k => ⟨k, purseA p k⟩
theorem kL_len (p : Ps) : (kL p).length = p.length := by unfold kL; rw [(sortB_perm _).length_eq, List.length_map]
theorem hdL_len (p : Ps) : (hdL p).length = p.length := by unfold hdL; rw [List.length_map, kL_len]
theorem kL_mem {p : Ps} {k : ByteArray} (h : k ∈ kL p) : ∃ x ∈ p, x.1 = k := List.mem_map.1 ((sortB_perm _).mem_iff.1 h)
section
variable {p : Ps} {N : Nat}
theorem kL_nz (hw : PsW p N) {k : ByteArray} (h : k ∈ kL p) : isZ (purseA p k) = false := by
  obtain ⟨x, hx, rfl⟩ := kL_mem h
  have := getL_at (v := x.2) hw.nd hx
  unfold purseA
  rw [this]
  exact hw.nz x hx
theorem lt_of_leB {x y : ByteArray} (h : leB x y = true) (hne : x ≠ y) : Op.bytesLess x.toList y.toList = true := by
  rw [bytesLess_eq, Lib.toList_data, Lib.toList_data, decide_eq_true_eq]
  refine (List.le_iff_lt_or_eq.1 (by simpa [leB] using h)).resolve_right fun e => hne ?_
  obtain ⟨⟨a⟩⟩ := x
  obtain ⟨⟨b⟩⟩ := y
  simp at e
  rw [e]
theorem kL_lt (hw : PsW p N) {i j : Nat} (hij : i < j) (hj : j < (kL p).length) : Op.bytesLess ((kL p)[i]'(Nat.lt_trans hij hj)).toList (kL p)[j].toList = true := by
  have hnd : (kL p).Nodup := (sortB_perm _).nodup_iff.2 hw.nd
  refine lt_of_leB (List.pairwise_iff_getElem.1 (sortB_pairwise _) i j (Nat.lt_trans hij hj) hj hij) fun e => ?_
  have := (List.getElem_inj hnd).1 e
  omega
/-- What is listed at a place. -/
theorem hdL_at (hw : PsW p N) {j : Nat} (hj : j < (hdL p).length) : (hdL p)[j].has = purseA p (hdL p)[j].who ∧ isZ (hdL p)[j].has = false ∧ ∀ i, ∀ hi : i < j, Op.bytesLess ((hdL p)[i]'(Nat.lt_trans hi hj)).who.toList (hdL p)[j].who.toList = true := by
  have hj2 : j < (kL p).length := by unfold hdL at hj; rwa [List.length_map] at hj
  have e : (hdL p)[j] = ⟨(kL p)[j], purseA p (kL p)[j]⟩ := by simp [hdL]
  refine ⟨by rw [e], by rw [e]; exact kL_nz hw (List.getElem_mem hj2), fun i hi => ?_⟩
  have e2 : (hdL p)[i]'(Nat.lt_trans hi hj) = ⟨(kL p)[i]'(Nat.lt_trans hi hj2), purseA p ((kL p)[i]'(Nat.lt_trans hi hj2))⟩ := by simp [hdL]
  rw [e, e2]
  exact kL_lt hw hi hj2
end
end Go.Proofs.YtbcokphjpllbiaaGreat
end
section
set_option linter.unusedSimpArgs false
set_option linter.unusedVariables false
namespace Go.Proofs.YtbcokphjpllbiaaGreat
open Go.Joins Go.ChangeShapes Go.WideShapes Go.RowKit Go.Deep Go.Sl
section
variable {H : Type} {enc : TypeId × Value → H} {P : Program} {w : World} {base : Nat} {spare : Nat → Bool} {held : Bool}
end
end Go.Proofs.YtbcokphjpllbiaaGreat
end
section
set_option linter.unusedSimpArgs false
set_option linter.unusedVariables false
namespace Go.Proofs.YtbcokphjpllbiaaGreat
open Go.Joins Go.ChangeShapes Go.WideShapes Go.RowKit Go.Deep Go.Sl
section
variable {H : Type} {enc : TypeId × Value → H} {w : World} {base : Nat} {spare : Nat → Bool} {held : Bool}
set_option maxRecDepth 100000 in
theorem cells_items {n : Nat} {cs : List Value} {y : DataW H × List MemPlace} (h : DataW.trod enc Tryz.prog w base spare held n 39 cs = some y) : ∃ i : It, cs = i.cells := by
  obtain ⟨_, _, _, _, hl0, _, _⟩ := DataW.trod_array Tryz.underlying39 h
  have hl : cs.length = 4 := hl0.trans (by kernel_rfl)
  match cs, hl with
  | [c0, c1, c2, c3], _ =>
    obtain ⟨y0, y1, y2, y3, n', _, g0, g1, g2, g3⟩ := trod_array4 Tryz.underlying39 (by kernel_rfl) h
    obtain ⟨a, e0, _⟩ := DataW.trod_int Tryz.underlying3 g0
    obtain ⟨b, e1, _⟩ := DataW.trod_int Tryz.underlying3 g1
    obtain ⟨c, e2, _⟩ := DataW.trod_int Tryz.underlying3 g2
    obtain ⟨d, e3, _⟩ := DataW.trod_int Tryz.underlying3 g3
    simp only [List.cons.injEq, and_true] at e0 e1 e2 e3
    subst e0 e1 e2 e3
    exact ⟨⟨a, b, c, d⟩, rfl⟩
end
end Go.Proofs.YtbcokphjpllbiaaGreat
end
section
set_option linter.unusedSimpArgs false
set_option linter.unusedVariables false
namespace Go.Proofs.YtbcokphjpllbiaaGreat
open Go.Joins Go.ChangeShapes Go.WideShapes Go.RowKit Go.Deep Go.Sl
set_option maxRecDepth 100000 in
theorem cells_ord {H : Type} {enc : TypeId × Value → H} {w : World} {base : Nat} {spare : Nat → Bool} {held : Bool} {n : Nat} {cs : List Value} {y : DataW H × List MemPlace}
    (h : DataW.trod enc Tryz.prog w base spare held n 41 cs = some y) : ∃ o : Ord, cs = o.cells := by
  obtain ⟨xs, n', rfl, hx, hlen, hxl, hg⟩ := DataW.trod_struct Tryz.underlying41 h
  have hlen' : cs.length = 6 := hlen.trans (by kernel_rfl)
  match cs, hlen' with
  | [c0, c1, c2, c3, c4, c5], _ =>
    match xs, hxl with
    | [y0, y1, y2, y3, y4, y5], _ =>
      have g0 := hg 0 _ rfl
      have g1 := hg 1 _ rfl
      have g2 := hg 2 _ rfl
      have g3 := hg 3 _ rfl
      have g4 := hg 4 _ rfl
      have g5 := hg 5 _ rfl
      obtain ⟨i, e0, _⟩ := DataW.trod_int Tryz.underlying3 (show DataW.trod enc Tryz.prog w base spare held n' 3 [c0] = some y0 from g0)
      obtain ⟨u, e1, _⟩ := DataW.trod_string Tryz.underlying9 (show DataW.trod enc Tryz.prog w base spare held n' 9 [c1] = some y1 from g1)
      obtain ⟨b, e2, _⟩ := DataW.trod_bool Tryz.underlying4 (show DataW.trod enc Tryz.prog w base spare held n' 4 [c2] = some y2 from g2)
      obtain ⟨t, e3, _⟩ := DataW.trod_int Tryz.underlying3 (show DataW.trod enc Tryz.prog w base spare held n' 3 [c3] = some y3 from g3)
      obtain ⟨c, e4, _⟩ := DataW.trod_int Tryz.underlying3 (show DataW.trod enc Tryz.prog w base spare held n' 3 [c4] = some y4 from g4)
      obtain ⟨q, e5, _⟩ := DataW.trod_int Tryz.underlying3 (show DataW.trod enc Tryz.prog w base spare held n' 3 [c5] = some y5 from g5)
      simp only [List.cons.injEq, and_true] at e0 e1 e2 e3 e4 e5
      subst e0 e1 e2 e3 e4 e5
      exact ⟨⟨i, u, b, t, c, q⟩, rfl⟩
/-- An act of a vault's script. -/
structure Vact where
  kind : Int
  n : Int
  who : ByteArray
  i : It
  o : Ord
def Vact.cells (a : Vact) : List Value := .int .i64 a.kind :: .int .i64 a.n :: .string a.who :: (a.i.cells ++ a.o.cells)
theorem Vact.len (a : Vact) : a.cells.length = 13 := rfl
set_option maxRecDepth 100000 in
theorem cells_vact {H : Type} {enc : TypeId × Value → H} {w : World} {base : Nat} {spare : Nat → Bool} {held : Bool} {n : Nat} {cs : List Value} {y : DataW H × List MemPlace}
    (h : DataW.trod enc Tryz.prog w base spare held n 43 cs = some y) : ∃ a : Vact, cs = a.cells := by
  obtain ⟨xs, n', rfl, hx, hlen, hxl, hg⟩ := DataW.trod_struct Tryz.underlying43 h
  have hlen' : cs.length = 13 := hlen.trans (by kernel_rfl)
  match cs, hlen' with
  | [c0, c1, c2, c3, c4, c5, c6, c7, c8, c9, c10, c11, c12], _ =>
    match xs, hxl with
    | [y0, y1, y2, y3, y4], _ =>
      have g0 := hg 0 _ rfl
      have g1 := hg 1 _ rfl
      have g2 := hg 2 _ rfl
      have g3 := hg 3 _ rfl
      have g4 := hg 4 _ rfl
      obtain ⟨k, e0, _⟩ := DataW.trod_int Tryz.underlying3 (show DataW.trod enc Tryz.prog w base spare held n' 3 [c0] = some y0 from g0)
      obtain ⟨m, e1, _⟩ := DataW.trod_int Tryz.underlying3 (show DataW.trod enc Tryz.prog w base spare held n' 3 [c1] = some y1 from g1)
      obtain ⟨u, e2, _⟩ := DataW.trod_string Tryz.underlying9 (show DataW.trod enc Tryz.prog w base spare held n' 9 [c2] = some y2 from g2)
      obtain ⟨i, e3⟩ := cells_items (show DataW.trod enc Tryz.prog w base spare held n' 39 [c3, c4, c5, c6] = some y3 from g3)
      obtain ⟨o, e4⟩ := cells_ord (show DataW.trod enc Tryz.prog w base spare held n' 41 [c7, c8, c9, c10, c11, c12] = some y4 from g4)
      simp only [List.cons.injEq, and_true] at e0 e1 e2
      subst e0 e1 e2
      refine ⟨⟨k, m, u, i, o⟩, ?_⟩
      unfold Vact.cells
      rw [← e3, ← e4]
      rfl
set_option maxRecDepth 100000 in
theorem open_vacts {H : Type} {enc : TypeId × Value → H} {w : World} {base : Nat} {spare : Nat → Bool} {held : Bool} {r : Reach} {b0 : Nat} {v : Value} {d : DataW H} {p : List MemPlace}
    (hv : Value.okWide Tryz.prog w r b0 22 v) (h : DataW.Trod enc Tryz.prog w base spare held 22 v d p) : ∃ xs, SliceV Vact.cells 13 w v xs :=
  open_sliceV Vact.cells ⟨0, 0, ⟨#[]⟩, it0, ⟨0, ⟨#[]⟩, false, 0, 0, 0⟩⟩ Vact.len (by decide) Tryz.underlying22 (by kernel_rfl) (fun _ _ _ _ h => cells_vact h) hv h
/-- What an act of a script holds, cell by cell. -/
structure VactAt (V : World) (b off : Nat) (x : Vact) : Prop where
  kind : V.cell? ⟨b, off, none⟩ = some (.int .i64 x.kind)
  n : V.cell? ⟨b, off + 1, none⟩ = some (.int .i64 x.n)
  who : V.cell? ⟨b, off + 2, none⟩ = some (.string x.who)
  i0 : V.cell? ⟨b, off + 3, none⟩ = some (.int .i64 x.i.x0)
  i1 : V.cell? ⟨b, off + 4, none⟩ = some (.int .i64 x.i.x1)
  i2 : V.cell? ⟨b, off + 5, none⟩ = some (.int .i64 x.i.x2)
  i3 : V.cell? ⟨b, off + 6, none⟩ = some (.int .i64 x.i.x3)
  owho : V.cell? ⟨b, off + 8, none⟩ = some (.string x.o.who)
  its : ∀ (j : Nat) (v : Value), x.i.cells[j]? = some v → V.cell? ⟨b, off + 3 + j, none⟩ = some v
  ord : ∀ (j : Nat) (v : Value), x.o.cells[j]? = some v → V.cell? ⟨b, off + 7 + j, none⟩ = some v
  all : ∀ (j : Nat) (v : Value), x.cells[j]? = some v → V.cell? ⟨b, off + j, none⟩ = some v
theorem SliceV.vact {V : World} {v : Value} {xs : List Vact} (h : SliceV Vact.cells 13 V v xs) : ∃ a cap, v = .slice a xs.length cap ∧ xs.length ≤ 9223372036854775807 ∧ ∀ i (h : i < xs.length), ∃ b off, a = some ⟨b, off, none⟩ ∧ VactAt V b (off + i * 13) xs[i] := by
  obtain ⟨a, cap, hv, h63, hc⟩ := h
  refine ⟨a, cap, hv, h63, fun i hi => ?_⟩
  obtain ⟨b, off, ha, hj⟩ := hc i hi
  refine ⟨b, off, ha, hj 0 _ rfl, hj 1 _ rfl, hj 2 _ rfl, hj 3 _ rfl, hj 4 _ rfl, hj 5 _ rfl, hj 6 _ rfl, hj 8 _ rfl, fun j v hv => ?_, fun j v hv => ?_, fun j v hv => hj j v hv⟩
  · have h1 : (xs[i].cells)[3 + j]? = some v := by
      have hjl : j < xs[i].i.cells.length := (List.getElem?_eq_some_iff.1 hv).1
      rw [Nat.add_comm]
      show (xs[i].i.cells ++ xs[i].o.cells)[j]? = some v
      rw [List.getElem?_append_left hjl]
      exact hv
    have := hj (3 + j) v h1
    rwa [← Nat.add_assoc] at this
  · have h1 : (xs[i].cells)[7 + j]? = some v := by
      rw [Nat.add_comm]
      exact hv
    have := hj (7 + j) v h1
    rwa [← Nat.add_assoc] at this
end Go.Proofs.YtbcokphjpllbiaaGreat
end
section
set_option linter.unusedSimpArgs false
set_option linter.unusedVariables false
namespace Go.Proofs.YtbcokphjpllbiaaGreat
open Go.RowKit Go.Sl
def HvR (W : World) (L : List HP) (n : Nat) (v : Value) (w : World) : Prop := ∃ i : Nat, v = .int .i64 i ∧ i ≤ n ∧ i ≤ 100 ∧ St W L w
set_option maxRecDepth 100000 in
set_option maxHeartbeats 4000000 in
/-- Whatever it finds. -/
theorem heavy_spec (xs : List Vact) (v : Value) (V : World) (hv : SliceV Vact.cells 13 V v xs) (W w : World) (Lr : List HP) (hS : St W (Old V :: Lr) w) :
    Calls Tryz.prog 6 #[v] w fun e w' => ∃ h : Bool, e = .returned (.bool h) ∧ St W (Old V :: Lr) w' := by
  obtain ⟨a, cap, rfl, h63, hact⟩ := hv.vact
  have Ha := Lib.hid hact
  clear hact
  go_enter Tryz.func6, Tryz.ntmps6
  go_wp2_with fail
  go_loopw [3] (fun v wr => HvR W (Old V :: Lr) xs.length v wr) (fun v _ => xs.length - (intOf v).toNat)
  case atStart => exact ⟨0, rfl, by omega, by omega, hS⟩
  case round =>
    clear hS
    obtain ⟨i, rfl, hi, hi2, hS⟩ := hrel
    by_cases hend : i = xs.length ∨ i = 100
    · rcases hend with hend | hend
      · subst hend
        have d1 : decide ((xs.length : Int) < (xs.length : Int)) = false := by simp
        go_wp2_with (first | go_big_skip)
        go_ret
        exact ⟨_, rfl, hS⟩
      · subst hend
        by_cases hlt : 100 < xs.length
        · have d1 : ((100 : Nat) : Int) < (xs.length : Int) := by omega
          go_wp2_with (first | go_big_skip)
          go_ret
          exact ⟨_, rfl, hS⟩
        · have d1 : decide ((100 : Int) < (xs.length : Int)) = false := by simp; omega
          go_wp2_with (first | go_big_skip)
          go_ret
          exact ⟨_, rfl, hS⟩
    · have hil : i < xs.length := by omega
      have hi3 : i < 100 := by omega
      clear hend hi hi2
      obtain ⟨pb, poff, rfl, hA⟩ := Ha.out i hil
      obtain ⟨ck, cn, cw, c0, c1, c2, c3, co, cits, cord, call⟩ := hA
      generalize xs[i] = x at ck cn cw c0 c1 c2 c3 co cits cord call
      obtain ⟨kd, nn, who, ⟨i0, i1, i2, i3⟩, ⟨oi, ou, oy, ot, oc, op⟩⟩ := x
      simp only at ck cn cw c0 c1 c2 c3 co cits cord call
      by_cases h1 : 200 < who.size
      · have d1 : (200 : Int) < (who.size : Int) := by omega
        go_wp2_with (first | go_big_skip | ((with_reducible apply wl_ld1 hS); (with_reducible rfl); rfl; rfl; decide +kernel; (first | exact Cell.old .head cw | exact Cell.old (.tail .head) cw | exact Cell.old (.tail (.tail .head)) cw | exact Cell.old (.tail (.tail (.tail .head))) cw | exact Cell.old (.tail (.tail (.tail (.tail .head)))) cw | exact Cell.old (.tail (.tail (.tail (.tail (.tail .head))))) cw); (refine frS ?_)) | ((with_reducible apply wl_ld1 hS); (with_reducible rfl); rfl; rfl; decide +kernel; (first | exact Cell.old .head co | exact Cell.old (.tail .head) co | exact Cell.old (.tail (.tail .head)) co | exact Cell.old (.tail (.tail (.tail .head))) co | exact Cell.old (.tail (.tail (.tail (.tail .head)))) co | exact Cell.old (.tail (.tail (.tail (.tail (.tail .head))))) co); (refine frS ?_)))
        go_ret
        exact ⟨_, rfl, hS⟩
      · have d1 : decide ((200 : Int) < (who.size : Int)) = false := by simp; omega
        by_cases h2 : 200 < ou.size
        · have d2 : (200 : Int) < (ou.size : Int) := by omega
          go_wp2_with (first | go_big_skip | ((with_reducible apply wl_ld1 hS); (with_reducible rfl); rfl; rfl; decide +kernel; (first | exact Cell.old .head cw | exact Cell.old (.tail .head) cw | exact Cell.old (.tail (.tail .head)) cw | exact Cell.old (.tail (.tail (.tail .head))) cw | exact Cell.old (.tail (.tail (.tail (.tail .head)))) cw | exact Cell.old (.tail (.tail (.tail (.tail (.tail .head))))) cw); (refine frS ?_)) | ((with_reducible apply wl_ld1 hS); (with_reducible rfl); rfl; rfl; decide +kernel; (first | exact Cell.old .head co | exact Cell.old (.tail .head) co | exact Cell.old (.tail (.tail .head)) co | exact Cell.old (.tail (.tail (.tail .head))) co | exact Cell.old (.tail (.tail (.tail (.tail .head)))) co | exact Cell.old (.tail (.tail (.tail (.tail (.tail .head))))) co); (refine frS ?_)))
          go_ret
          exact ⟨_, rfl, hS⟩
        · have d2 : decide ((200 : Int) < (ou.size : Int)) = false := by simp; omega
          go_wp2_with (first | go_big_skip | ((with_reducible apply wl_ld1 hS); (with_reducible rfl); rfl; rfl; decide +kernel; (first | exact Cell.old .head cw | exact Cell.old (.tail .head) cw | exact Cell.old (.tail (.tail .head)) cw | exact Cell.old (.tail (.tail (.tail .head))) cw | exact Cell.old (.tail (.tail (.tail (.tail .head)))) cw | exact Cell.old (.tail (.tail (.tail (.tail (.tail .head))))) cw); (refine frS ?_)) | ((with_reducible apply wl_ld1 hS); (with_reducible rfl); rfl; rfl; decide +kernel; (first | exact Cell.old .head co | exact Cell.old (.tail .head) co | exact Cell.old (.tail (.tail .head)) co | exact Cell.old (.tail (.tail (.tail .head))) co | exact Cell.old (.tail (.tail (.tail (.tail .head)))) co | exact Cell.old (.tail (.tail (.tail (.tail (.tail .head))))) co); (refine frS ?_)))
          go_roundw
          case rel => exact ⟨i + 1, rfl, hil, hi3, hS⟩
          case measure => simp [intOf]; omega
/-- Purses as they are listed. -/
abbrev hdR (v : Value) (l : List Hd) : HP := row v 5 94 l.length (l.flatMap Hd.cells)
def LhR (W : World) (F : List HP) (p : Ps) (v5 v17 : Value) (w : World) : Prop :=
  ∃ k : Nat, v17 = .int .i64 k ∧ k ≤ p.length ∧ St W (row v5 5 94 k (((hdL p).take k).flatMap Hd.cells) :: F) w
/-- What a book's List yields. -/
def liR (bb : Nat) (L : List Ord) (n : Int) (v : Value) : HP := fun f => ∃ (a : Option Addr) (c : Nat), v = .slice a L.length c ∧ sats [bookL bb L n, pileR (.slice a L.length c) L] f
section
variable {W w : World} {bb : Nat} {L : List Ord} {n : Int} {v : Value} {R : List HP}
theorem liOpen (h : St W (liR bb L n v :: R) w) : ∃ a c, v = .slice a L.length c ∧ St W (bookL bb L n :: pileR (.slice a L.length c) L :: R) w := by
  obtain ⟨a, h⟩ := St.ex h
  obtain ⟨c, h⟩ := St.ex h
  obtain ⟨h1, h⟩ := St.and h
  exact ⟨a, c, h1, (St.split (St.split h).swap).swap.drop.swap⟩
theorem liShut {a : Option Addr} {c : Nat} (hv : v = .slice a L.length c) (h : St W (bookL bb L n :: pileR (.slice a L.length c) L :: R) w) : St W (liR bb L n v :: R) w := by
  refine St.mkEx a (St.mkEx c (St.mkAnd hv ?_))
  refine St.join ?_
  refine St.swap (St.imp h.swap ?_)
  intro f hf
  exact ⟨fun _ => true, hf, trivial⟩
theorem listF (hS : St W (bookL bb L n :: R) w) :
    Calls Tryz.prog 68 #[.pointer (some ⟨bb, 0, none⟩)] w fun e w' => ∃ v, e = .returned v ∧ St W (liR bb L n v :: R) w' := by
  refine (listL_spec hS).mono ?_
  rintro e w' ⟨a, c, rfl, hS⟩
  exact ⟨_, rfl, liShut rfl hS⟩
end
set_option maxRecDepth 100000 in
set_option maxHeartbeats 4000000 in
theorem listV_spec (vb mb bb : Nat) (p : Ps) (L : List Ord) (n : Int) {N : Nat} (hw : PsW p N) (hN : N ≤ 1000000000) (W w : World) (R : List HP) (hS : St W (vaultL vb mb bb p L n R) w) :
    Calls Tryz.prog 25 #[.pointer (some ⟨vb, 0, none⟩)] w fun e w' => ∃ a c a2 c2, e = .returned (.tuple #[.slice a (hdL p).length c, .slice a2 L.length c2, .int .i64 n]) ∧
      St W (vaultL vb mb bb p L n (hdR (.slice a (hdL p).length c) (hdL p) :: pileR (.slice a2 L.length c2) L :: R)) w' := by
  have hlen := hw.len
  have Hw := Lib.hid hw
  clear hw
  go_enter Tryz.func25, Tryz.ntmps25
  go_wp2_with (first | (go_at_call 74; refine (keysS_call (some mb) W _ _ (hS.sel (L' := amap eS eP mb p :: blk vb _ _ :: bookL bb L n :: R) (by exact selS))).mono ?_; clear hS; rintro e w ⟨g, rfl, hS⟩) | (go_at_call 73; refine (sortedS_call (fun x hx => by have := whoB_le (Hw.out.who x hx); unfold maxLen; omega) (by omega) hS).mono ?_; clear hS; rintro e w ⟨v, rfl, hS⟩; (have hv := hS.rowVal; obtain ⟨sa, sc, rfl⟩ := hv)) | (refine zl1 hS ?_) | (refine zlN hS ?_) | (refine zs1 hS ?_; clear hS; intro w hS) | (refine zsN hS ?_; clear hS; intro w hS) | (refine zbx hS ?_; clear hS; intro b w hS) | (refine zal hS ?_; clear hS; intro b w hS))
  have hS1 := hS.rowNil (k := 5) (T := 94)
  clear hS
  have hS := hS1
  clear hS1
  go_loopw [5, 17] (fun v5 v17 wr => LhR W (row (.slice sa p.length sc) 1 9 p.length ((sortB (p.map (·.1))).map eS) :: amap eS eP mb p :: blk vb [.map (some mb), .pointer (some ⟨bb, 0, none⟩), .int .i64 n] 80 :: bookL bb L n :: R) p v5 v17 wr) (fun _ v17 _ => p.length - (intOf v17).toNat)
  case atStart => exact ⟨0, rfl, Nat.zero_le _, hS⟩
  case round =>
    clear hS
    obtain ⟨k, rfl, hkl, hS⟩ := hrel
    have hlk := kL_len p
    have hlh := hdL_len p
    by_cases hkn : k = p.length
    · have e1 : (hdL p).take k = hdL p := List.take_of_length_le (by omega)
      rw [e1] at hS
      have e2 : k = (hdL p).length := by omega
      have hd1 : decide (k < p.length) = false := by simp; omega
      clear e1 hkl hlk
      clear hkn hlh
      subst e2
      go_wp2_with (first | (refine zl1 hS ?_) | (refine zlN hS ?_) | (refine zs1 hS ?_; clear hS; intro w hS) | (refine zsN hS ?_; clear hS; intro w hS) | (refine zbx hS ?_; clear hS; intro b w hS) | (refine zal hS ?_; clear hS; intro b w hS))
      have hS := hS.sel (L' := bookL bb L n :: blk vb _ _ :: amap eS eP mb p :: row u5 5 _ _ _ :: R) (by exact selS)
      refine wp_region_flow3 [0, 0, 2, 6, 14, 30, 0, 64, 192, 448, 63, 1087, 4095] (fun i => i == 5) (fun _ => none) [⟨some 5, none, fun nd => liR bb L n (nd 5)⟩] [some 5, none, none, none] (by kernel_rfl) (by kernel_rfl) rfl hS (CongOk.cons (fun nd nd' h => by dsimp only; rw [h 5 rfl rfl]) CongOk.nil) ?_
      intro nd
      iterate 2 (refine ch_pure rfl (by kernel_rfl) rfl rfl ?_; intro K hK; go_big_quiet_op; go_big_quiet_on)
      (refine zcn ?_)
      (refine ch_pure rfl (by kernel_rfl) rfl rfl ?_; intro K hK; go_big_quiet_op; go_big_quiet_on)
      (refine zc1 ?_)
      (apply ch_callN; rfl; rfl; (with_reducible rfl); decide +kernel; (focus (simp only [fD, List.map_cons, List.map_nil, Act.eval, fE, fF, fG, fH, Option.getD_some]; try rfl)); (intro _; rfl); (intro F w hS; exact listF hS); (refine frS ?_))
      (refine ch_pure rfl (by kernel_rfl) rfl rfl ?_; intro K hK; go_big_quiet_op; go_big_quiet_on)
      (refine zcn ?_)
      (refine ch_pure rfl (by kernel_rfl) rfl rfl ?_; intro K hK; go_big_quiet_op; go_big_quiet_on)
      (refine zc1 ?_)
      iterate 3 (refine ch_pure rfl (by kernel_rfl) rfl rfl ?_; intro K hK; go_big_quiet_op; go_big_quiet_on)
      refine ch_end ?_
      clear hS
      intro w hS
      have hS2 : St W [liR bb L n (nd 5), blk vb _ _, amap eS eP mb p, row u5 5 _ _ _, sats R] w := hS
      clear hS
      have hS := hS2.unpack [_, _, _, _]
      clear hS2
      simp only [List.cons_append, List.nil_append] at hS
      generalize nd 5 = v5 at *
      obtain ⟨a2, c2, rfl, hS5⟩ := liOpen hS
      clear hS
      have hv := hS5.drop.drop.drop.drop.rowVal
      obtain ⟨a, c, rfl⟩ := hv
      clear hS
      have hS := hS5
      clear hS5
      go_wp2_with fail
      go_ret3
      exact ⟨a, c, a2, c2, rfl, hS.sel (by exact selS)⟩
    · have hk1 : k < p.length := by omega
      have hks : k < (hdL p).length := by omega
      have hkk : k < (kL p).length := by omega
      have hx1 : ((sortB (p.map (·.1))).map eS)[k]? = some (.string (kL p)[k]) := by
        rw [List.getElem?_map]
        show ((kL p)[k]?).map eS = _
        rw [List.getElem?_eq_getElem hkk]; rfl
      have htk : ((hdL p).take (k + 1)).flatMap Hd.cells = ((hdL p).take k).flatMap Hd.cells ++ (Hd.mk (kL p)[k] (purseA p (kL p)[k])).cells := by
        rw [List.take_succ_eq_append_getElem hks, List.flatMap_append]
        simp [hdL]
      obtain ⟨⟨g2, rfl⟩, hcap, hcn⟩ := St.rowAddr hS.drop (by omega)
      obtain ⟨x, hx⟩ : ∃ x, purseA p (kL p)[k] = x := ⟨_, rfl⟩
      rw [hx] at htk
      generalize (kL p)[k] = key at hx htk hx1
      obtain ⟨x0, x1, x2, x3⟩ := x
      have Hx := Lib.hid hx
      have Htk := Lib.hid htk
      have HX := Lib.hid hx1
      clear hx htk hx1 hkn hkl hlk hlh hks hkk
      go_wp2_with (first | (refine zl1 hS ?_ (hc := by exact Cell.there (Cell.row (by omega) HX.out))) | ((with_reducible apply wl_alookU (ek := eS) (ev := eP) (k := key) it0 ⟨x0, x1, x2, x3⟩ hS); (with_reducible rfl); rfl; rfl; rfl; (exact takeS); exact mP; exact kS; exact zP; rfl; exact Hx.out; (simp only [Act.put, fA, fB, fC, Nat.reduceAdd, eP, It.cells])) | (refine zbs hS ?_; clear hS; intro bS w hS) | (refine zap hS ?_ (h63 := by unfold maxLen; omega) (hb := by omega); clear hS; intro v w hS) | (refine zl1 hS ?_) | (refine zlN hS ?_) | (refine zs1 hS ?_; clear hS; intro w hS) | (refine zsN hS ?_; clear hS; intro w hS) | (refine zbx hS ?_; clear hS; intro b w hS) | (refine zal hS ?_; clear hS; intro b w hS))
      go_roundw
      case rel =>
        refine ⟨k + 1, rfl, hk1, ?_⟩
        rw [Htk.out]
        have h0 : St W (row v 5 94 (k + 1) (((hdL p).take k).flatMap Hd.cells ++ (Hd.mk key ⟨x0, x1, x2, x3⟩).cells) :: _) w := hS
        exact h0.sel (by exact selS)
      case measure => simp [intOf]; omega
end Go.Proofs.YtbcokphjpllbiaaGreat
end
section
set_option linter.unusedSimpArgs false
set_option linter.unusedVariables false
namespace Go.Proofs.YtbcokphjpllbiaaGreat
open Go.RowKit Go.Sl
/-- Where a purse stands, or would stand; is it there? -/
def spI : List Hd → ByteArray → Nat
  | [], _ => 0
  | h :: H, k => if Op.bytesLess h.who.toList k.toList = true then spI H k + 1 else 0
def spB : List Hd → ByteArray → Bool
  | [], _ => false
  | h :: H, k => if Op.bytesLess h.who.toList k.toList = true then spB H k else h.who.toList == k.toList
theorem spI_le : ∀ (H : List Hd) (k : ByteArray), spI H k ≤ H.length
  | [], _ => Nat.le_refl _
  | h :: H, k => by
    have := spI_le H k
    rw [spI, List.length_cons]
    split <;> omega
theorem spB_lt : ∀ (H : List Hd) (k : ByteArray), spB H k = true → spI H k < H.length
  | [], _, h => by cases h
  | x :: H, k, h => by
    rw [spB] at h
    rw [spI, List.length_cons]
    split
    · rename_i hc
      rw [if_pos hc] at h
      have := spB_lt H k h
      omega
    · omega
/-- The document's vault: its block, its row of purses. -/
abbrev xvL (xb : Nat) (v vB : Value) (n : Int) (H : List Hd) (R : List HP) : List HP := blk xb [v, vB, .int .i64 n] 65 :: hdR v H :: R
def SpR (W : World) (L : List HP) (H : List Hd) (k : ByteArray) (v : Value) (w : World) : Prop :=
  ∃ i : Nat, v = .int .i64 i ∧ i ≤ H.length ∧ spI H k = i + spI (H.drop i) k ∧ spB H k = spB (H.drop i) k ∧ St W L w
set_option maxRecDepth 100000 in
set_option maxHeartbeats 4000000 in
theorem spot_spec (H : List Hd) (k : ByteArray) (xb : Nat) (v vB : Value) (n : Int) (W w : World) (R : List HP) (hS : St W (xvL xb v vB n H R) w) :
    Calls Tryz.prog 72 #[.pointer (some ⟨xb, 0, none⟩), .string k] w fun e w' => e = .returned (.tuple #[.int .i64 (spI H k), .bool (spB H k)]) ∧ St W (xvL xb v vB n H R) w' := by
  obtain ⟨a, cap, rfl⟩ := hS.drop.rowVal
  have h63 : H.length ≤ 9223372036854775807 := by
    rcases St.rowCase hS.drop with ⟨_, h0, _⟩ | ⟨_, _, h1, h2⟩
    · omega
    · omega
  go_enter Tryz.func72, Tryz.ntmps72
  go_wp2_with fail
  go_loopw [6] (fun v wr => SpR W (xvL xb (.slice a H.length cap) vB n H R) H k v wr) (fun v _ => H.length - (intOf v).toNat)
  case atStart => exact ⟨0, rfl, Nat.zero_le _, by simp, rfl, hS⟩
  case round =>
    clear hS
    obtain ⟨i, rfl, hil, e1, e2, hS⟩ := hrel
    by_cases hin : i = H.length
    · subst hin
      rw [List.drop_length] at e1 e2
      have E1 := Lib.hid (show spI H k = H.length from e1)
      have E2 := Lib.hid (show spB H k = false from e2)
      clear e1 e2
      go_wp2_with (first | go_big_skip | (refine zl1 hS ?_))
      go_ret2
      rw [E1.out, E2.out]
      exact ⟨rfl, hS⟩
    · have hi1 : i < H.length := by omega
      obtain ⟨⟨g, rfl⟩, hcap, hcn⟩ := St.rowAddr hS.drop (by omega)
      have hname : ∀ {K K' : List HP}, Take K (hdR (.slice (some ⟨g, 0, none⟩) H.length cap) H) K' → Cell K g (i * 5) (.string H[i].who) := fun hu => Cells.elemM (enc := Hd.cells) Hd.len hu hi1 0 _ rfl
      have hdr : H.drop i = H[i] :: H.drop (i + 1) := List.drop_eq_getElem_cons hi1
      rw [hdr] at e1 e2
      generalize H[i] = x at hname e1 e2
      obtain ⟨xw, xi⟩ := x
      simp only at hname
      rw [spI] at e1
      rw [spB] at e2
      simp only at e1 e2
      clear hdr
      cases hb : Op.bytesLess xw.toList k.toList with
      | true =>
        rw [if_pos hb] at e1 e2
        have E1 := Lib.hid e1
        have E2 := Lib.hid e2
        clear e1 e2
        go_wp2_with (first | go_big_skip | (refine zl1 hS ?_) | (refine zl1 hS ?_ (hc := by exact hname (by exact takeS))))
        go_roundw
        case rel => exact ⟨i + 1, rfl, hi1, by rw [E1.out]; omega, E2.out, hS⟩
        case measure => simp [intOf]; omega
      | false =>
        rw [if_neg (by rw [hb]; simp)] at e1 e2
        have E1 := Lib.hid (show spI H k = i from e1)
        have E2 := Lib.hid e2
        clear e1 e2
        go_wp2_with (first | go_big_skip | (refine zl1 hS ?_) | (refine zl1 hS ?_ (hc := by exact hname (by exact takeS))))
        refine wp_region_reads (by kernel_rfl) (by kernel_rfl) hS ?_
        iterate 2 (refine wq_pure rfl rfl ?_; intro K hK; go_big_quiet_op; go_big_quiet_on)
        (refine zqn ?_)
        (refine wq_pure rfl rfl ?_; intro K hK; go_big_quiet_op; go_big_quiet_on)
        (refine zq1 ?_)
        iterate 3 (refine wq_pure rfl rfl ?_; intro K hK; go_big_quiet_op; go_big_quiet_on)
        (apply wq_ld1; (with_reducible rfl); rfl; rfl; decide +kernel; (exact hname (by exact takeS)); (refine frS ?_))
        iterate 4 (refine wq_pure rfl rfl ?_; intro K hK; go_big_quiet_op; go_big_quiet_on)
        clear hS
        intro w hS
        go_wp2_with fail
        go_ret2
        rw [E1.out, E2.out]
        exact ⟨rfl, hS⟩
theorem spot_at {H : List Hd} {k : ByteArray} {p : Nat} {b : Bool} (h1 : spI H k = p) (h2 : spB H k = b) (xb : Nat) (v vB : Value) (n : Int) (W w : World) (R : List HP) (hS : St W (xvL xb v vB n H R) w) :
    Calls Tryz.prog 72 #[.pointer (some ⟨xb, 0, none⟩), .string k] w fun e w' => e = .returned (.tuple #[.int .i64 p, .bool b]) ∧ St W (xvL xb v vB n H R) w' :=
  (spot_spec H k xb v vB n W w R hS).mono fun e w' ⟨he, hS⟩ => ⟨by rw [he, h1, h2], hS⟩
def hasH (H : List Hd) (k : ByteArray) : It := if spB H k = true then (H.getD (spI H k) ⟨⟨#[]⟩, it0⟩).has else it0
set_option maxRecDepth 100000 in
set_option maxHeartbeats 4000000 in
theorem has8 (H : List Hd) (k : ByteArray) (xb : Nat) (v vB : Value) (n : Int) (W w : World) (R : List HP) (hS : St W (xvL xb v vB n H R) w) :
    Calls Tryz.prog 24 #[.pointer (some ⟨xb, 0, none⟩), .string k] w fun e w' => e = .returned (eP (hasH H k)) ∧ St W (xvL xb v vB n H R) w' := by
  obtain ⟨a, cap, rfl⟩ := hS.drop.rowVal
  unfold hasH
  cases hb : spB H k with
  | false =>
    obtain ⟨p, hp⟩ : ∃ p, spI H k = p := ⟨_, rfl⟩
    have Hp := Lib.hid hp
    have Hb := Lib.hid hb
    clear hp hb
    rw [if_neg (by simp)]
    go_enter Tryz.func24, Tryz.ntmps24
    go_wp2_with (first | go_big_skip | (go_at_call 72; refine (spot_at Hp.out Hb.out xb _ vB n W _ (_ :: R) (hS.sel (L' := blk xb _ _ :: hdR _ H :: blk b _ _ :: R) (by exact selS))).mono ?_; clear hS; rintro e w ⟨rfl, hS⟩) | (refine zl1 hS ?_) | (refine zlN hS ?_) | (refine zs1 hS ?_; clear hS; intro w hS) | (refine zsN hS ?_; clear hS; intro w hS) | (refine zbx hS ?_; clear hS; intro b w hS) | (refine zal hS ?_; clear hS; intro b w hS))
    (apply bp_cell; rfl; rfl; rfl; exact hS; decide +kernel; (exact cesS); kernel_rfl)
    exact ⟨rfl, hS.sel (by exact selS)⟩
  | true =>
    rw [if_pos rfl]
    have hlt := spB_lt H k hb
    obtain ⟨p, hp⟩ : ∃ p, spI H k = p := ⟨_, rfl⟩
    rw [hp] at hlt ⊢
    have Hp := Lib.hid hp
    have Hb := Lib.hid hb
    clear hp hb
    obtain ⟨⟨g, rfl⟩, hcap, hcn⟩ := St.rowAddr hS.drop (by omega)
    have hitems : ∀ {K K' : List HP}, Take K (hdR (.slice (some ⟨g, 0, none⟩) H.length cap) H) K' → Cells K g (p * 5 + 1) (H[p].has.cells) := fun hu j v hj => by
      have h1 := Cells.elemM (enc := Hd.cells) Hd.len hu hlt (1 + j) v (by rw [Nat.add_comm]; exact hj)
      rwa [← Nat.add_assoc] at h1
    have e : H.getD p ⟨⟨#[]⟩, it0⟩ = H[p] := by simp [List.getD_eq_getElem?_getD, List.getElem?_eq_getElem hlt]
    rw [e]
    clear e
    generalize H[p] = x at hitems
    obtain ⟨xw, ⟨x0, x1, x2, x3⟩⟩ := x
    simp only [It.cells] at hitems
    go_enter Tryz.func24, Tryz.ntmps24
    go_wp2_with (first | go_big_skip | (go_at_call 72; refine (spot_at Hp.out Hb.out xb _ vB n W _ (_ :: R) (hS.sel (L' := blk xb _ _ :: hdR _ H :: blk b _ _ :: R) (by exact selS))).mono ?_; clear hS; rintro e w ⟨rfl, hS⟩) | (refine zl1 hS ?_) | (refine zlN hS ?_ (hc := by exact hitems (by exact takeS))) | (refine zsN hS ?_; clear hS; intro w hS) | (refine zal hS ?_; clear hS; intro b w hS))
    (apply bp_cell; rfl; rfl; rfl; exact hS; decide +kernel; (exact cesS); kernel_rfl)
    exact ⟨rfl, hS.sel (by exact selS)⟩
end Go.Proofs.YtbcokphjpllbiaaGreat
end
