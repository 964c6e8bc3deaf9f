/-
  slices.Sorted(maps.Keys(m)) of maps by names as resources: a row of the keys, sorted. For every map.
  The vault's purses as they are listed: by names, none empty. Plain.
  An order that comes in as an argument: its six cells. For every order.
  VaultOfNothing: the walk; a purse, an order that come in. For every name, purse and order.
  The vault's scripts as they come in: a slice of acts. For every slice.
  The vault's List; are names too long? For every vault, every script.
  The document's vault: where a purse stands, what it has, a purse laid. For every row of purses.
  The document's row of purses is the program's purses, by names. The plain law: no program in sight.
  The document's vault: a purse laid. For every row of purses.
-/
import Derived.Test.YtbcokphjpllbiaaGreatVaultDecodesM5
import Derived.Test.YtbcokphjpllbiaaGreatVaultDecodesM7
import Derived.Test.YtbcokphjpllbiaaGreatVaultDecodesM9
import Derived.Test.YtbcokphjpllbiaaGreatVaultDecodesM14
import Derived.Test.YtbcokphjpllbiaaGreatVaultDecodesM17
import Derived.Sort.Walk0
import Derived.Test.YtbcokphjpllbiaaGreatRows
import Derived.Lib.SmallJoins
import Derived.ChangeArms
import Derived.ProofKit
import Derived.Laws.IdiomArrays
section
set_option linter.unusedSimpArgs false
set_option linter.unusedVariables false
namespace Go.Proofs.YtbcokphjpllbiaaGreat
open Go.RowKit Go.Maps Go.Sort Go.Shelf Go.Sl
/-- The keys, sorted. -/
def leB (x y : ByteArray) : Bool := decide (x.data.toList ≤ y.data.toList)
def sortB (l : List ByteArray) : List ByteArray := l.mergeSort leB
theorem sortB_perm (l : List ByteArray) : (sortB l).Perm l := List.mergeSort_perm _ _
theorem sortsS (m : Nat) : AnyZ.SortsIn Tryz.prog Tryz.sortedS_ren Fence.wide m :=
  ⟨fun blk off cap ss W hH hblk hsz => callsIn_wide.2 (AnyM.slices_Sort_string Tryz.sortS blk off cap ss W hH hblk hsz),
   fun p cap W => callsIn_wide.2 (AnyM.slices_Sort_string_none Tryz.sortS p cap W)⟩
theorem keysS_call (mb : Option Nat) (W w : World) (L : List HP) (hS : St W L w) :
    Calls Tryz.prog 74 #[.map mb] w fun e w' => ∃ g, e = .returned (.func (.func 105) #[] #[.pointer (some ⟨g, 0, none⟩)]) ∧ St W (blk g [.map mb] 77 :: L) w' := by
  have cK : CallsIn Fence.wide 5 Tryz.prog 74 #[.map mb] w fun e w' => e = .returned (.func (.func 105) #[] #[.pointer (some ⟨w.heap.size, 0, none⟩)]) ∧ w' = w.alloc (.cells #[.map mb] 77) := AnyZ.keys_in Tryz.keysS Fence.wide 5 trivial rfl mb w
  refine ((callsIn_wide (n := 5)).1 cK).mono ?_
  rintro e w' ⟨rfl, rfl⟩
  exact ⟨_, rfl, hS.alloc _⟩
section
variable {ν : Type} {ev : ν → Value} {W w : World} {L : List HP} {b g : Nat}
theorem ownsAS {l : List (ByteArray × ν)} (h : St W (amap eS ev b l :: L) w) (hwf : ∀ x ∈ l, x.1.size ≤ maxLen) (hl : l.length ≤ maxLen) :
    ∃ D : DataW Unit, w.ownsMap Tryz.prog 9 R1 b l.length D ∧ Maps.size D = l.length ∧ (strKeys D).Perm (l.map fun x => x.1.data.toList) := by
  obtain ⟨ps, c, h1, h2, h3⟩ := amapOpen h
  have hll : (ps.map (evs ev)).length = l.length := by have := h1.length_eq; rwa [List.length_map] at this ⊢
  have hk : (ps.map (evs ev)).map (·.1) = (ps.map prj).map (·.1) := by rw [evs_keys, prj_keys]
  have hp : ((ps.map (evs ev)).map (·.1)).Perm (l.map (·.1)) := by rw [hk]; exact h1.map _
  obtain ⟨D, hD1, hD2, hD3⟩ := ownsS (P := Tryz.prog) (K := 9) (kf := fun x : ByteArray × Value × Nat => x.1) h3 Tryz.underlying9 (fun x => rfl) (fun x hx => by
    have hx1 : x.1 ∈ l.map (·.1) := hp.mem_iff.1 (List.mem_map_of_mem hx)
    obtain ⟨y, hy, hxy⟩ := List.mem_map.1 hx1
    rw [← hxy]; exact hwf y hy) (by unfold Stamps; rw [List.map_map, List.map_map]; exact h2.st) (fun x hx => by obtain ⟨y, hy, rfl⟩ := List.mem_map.1 hx; exact h2.old y hy) (by rw [evs_keys]; exact h2.ks) (by omega)
  rw [hll] at hD1 hD2
  have e1 : (ps.map (evs ev)).map (fun x => x.1.data.toList) = ((ps.map (evs ev)).map (·.1)).map (fun k => k.data.toList) := by simp only [List.map_map]; rfl
  have e2 : l.map (fun x => x.1.data.toList) = (l.map (·.1)).map (fun k => k.data.toList) := by rw [List.map_map]; rfl
  refine ⟨D, hD1, hD2, hD3.trans ?_⟩
  rw [e1, e2]
  exact hp.map _
theorem leB_trans (a b c : ByteArray) (h1 : leB a b = true) (h2 : leB b c = true) : leB a c = true := by
  unfold leB at *
  simp only [decide_eq_true_eq] at *
  exact List.le_trans h1 h2
theorem leB_total (a b : ByteArray) : (leB a b || leB b a) = true := by
  unfold leB
  simp only [Bool.or_eq_true, decide_eq_true_eq]
  exact List.le_total _ _
theorem leB_anti {a b : ByteArray} (h1 : leB a b = true) (h2 : leB b a = true) : a = b := by
  unfold leB at *
  simp only [decide_eq_true_eq] at *
  have h := List.le_antisymm h1 h2
  obtain ⟨⟨a⟩⟩ := a
  obtain ⟨⟨b⟩⟩ := b
  simp at h
  rw [h]
theorem sortB_pairwise (l : List ByteArray) : (sortB l).Pairwise fun x y => leB x y = true := List.pairwise_mergeSort leB_trans leB_total l
theorem sortB_eq {l : List ByteArray} {ss : List (List UInt8)} (h : ss.Perm (l.map fun k => k.data.toList)) : (ss.mergeSort (fun x y => decide (x ≤ y))).map encStr = (sortB l).map eS := by
  have e : ss.mergeSort (fun x y => decide (x ≤ y)) = (sortB l).map fun k => k.data.toList := by
    refine List.Perm.eq_of_pairwise (le := fun a b => decide (a ≤ b) = true) (fun a b _ _ h1 h2 => ?_) (List.pairwise_mergeSort ?_ ?_ _) ?_ (((List.mergeSort_perm _ _).trans h).trans ((sortB_perm l).map _).symm)
    · simp only [decide_eq_true_eq] at h1 h2; exact List.le_antisymm h1 h2
    · intro a b c h1 h2; simp only [decide_eq_true_eq] at *; exact List.le_trans h1 h2
    · intro a b; simp only [Bool.or_eq_true, decide_eq_true_eq]; exact List.le_total _ _
    · exact List.pairwise_map.2 (sortB_pairwise l)
  rw [e, List.map_map]
  refine List.map_congr_left fun k _ => ?_
  show Value.string ⟨k.data.toList.toArray⟩ = Value.string k
  rfl
set_option maxHeartbeats 1000000 in
theorem sortedS_call {l : List (ByteArray × ν)} (hwf : ∀ x ∈ l, x.1.size ≤ maxLen) (hl : l.length ≤ 1000000000) (hS : St W (blk g [.map (some b)] 77 :: amap eS ev b l :: L) w) :
    Calls Tryz.prog 73 #[.func (.func 105) #[] #[.pointer (some ⟨g, 0, none⟩)]] w fun e w' => ∃ v, e = .returned v ∧ St W (row v 1 9 l.length ((sortB (l.map (·.1))).map eS) :: amap eS ev b l :: L) w' := by
  obtain ⟨D, hD1, hD2, hD3⟩ := ownsAS hS.drop hwf (by unfold maxLen; omega)
  have hseq : SeqGives Fence.wide 2 Tryz.prog 105 #[.pointer (some ⟨g, 0, none⟩)] encStr (fun ss => ss.Perm (strKeys D)) (Maps.size D) w :=
    AnyZ.keys_gives (ρ := Tryz.keysS_ren) { Tryz.keysS with } Fence.wide _ trivial rfl (by omega) g b l.length D _ (Array.getElem?_eq_some_iff.1 (hS.get (b := g) .head)).1 (hS.cell (b := g) (off := 0) .head rfl) hD1
  have cS := AnyZ.sorted_in Tryz.sortedS Fence.wide 5 trivial trivial trivial trivial rfl (by omega) (sortsS _) (enters_of Tryz.func104 (by kernel_rfl) rfl) 105 #[.pointer (some ⟨g, 0, none⟩)] trivial (enters_of Tryz.func105 (by kernel_rfl) rfl) _ _ (by rw [hD2]; unfold maxLen; omega) (by rw [hD2]; omega) _ hseq
  change CallsIn _ _ Tryz.prog 73 _ _ _ at cS
  refine ((callsIn_wide (n := 5)).1 cS).mono ?_
  rintro e w' ⟨v, ss, rfl, hP, hrow, hnil, hb⟩
  refine ⟨v, rfl, ?_⟩
  have hp := hP.trans hD3
  have e := sortB_eq (l := l.map (·.1)) (ss := ss) (by rw [List.map_map]; exact hp)
  rw [e, show ss.length = l.length by rw [hp.length_eq, List.length_map]] at hrow
  exact (hS.drop).called hb hrow
end
end Go.Proofs.YtbcokphjpllbiaaGreat
end
section
set_option linter.unusedSimpArgs false
set_option linter.unusedVariables false
namespace Go.Proofs.YtbcokphjpllbiaaGreat
open Go.RowKit Go.Sl
/-- Purses that are listed: no name twice, none empty, so many at most. -/
structure PsW (p : Ps) (N : Nat) : Prop where
  nd : (p.map (·.1)).Nodup
  nz : ∀ x ∈ p, isZ x.2 = false
  who : ∀ x ∈ p, whoB x.1 = true
  len : p.length ≤ N
theorem psW_nil (N : Nat) : PsW [] N := ⟨List.nodup_nil, fun _ h => (by cases h), fun _ h => (by cases h), Nat.zero_le _⟩
theorem psW_mono {p : Ps} {N M : Nat} (h : PsW p N) (hm : N ≤ M) : PsW p M := ⟨h.nd, h.nz, h.who, Nat.le_trans h.len hm⟩
theorem mem_delP {p : Ps} {k : ByteArray} {x : ByteArray × It} (hx : x ∈ delL p k) : x ∈ p ∧ x.1 ≠ k := by
  have h := List.mem_filter.1 hx
  exact ⟨h.1, by simpa using h.2⟩
theorem nodup_delP {p : Ps} (h : (p.map (·.1)).Nodup) (k : ByteArray) : ((delL p k).map (·.1)).Nodup := h.sublist (List.filter_sublist.map _)
theorem psW_lay {p : Ps} {N : Nat} (h : PsW p N) {k : ByteArray} (hk : whoB k = true) (i : It) : PsW (layP p k i) (N + 1) := by
  have hnd := nodup_delP h.nd k
  have hl : (delL p k).length ≤ N := Nat.le_trans (List.length_filter_le _ _) h.len
  unfold layP
  split
  · exact ⟨hnd, fun x hx => h.nz x (mem_delP hx).1, fun x hx => h.who x (mem_delP hx).1, by omega⟩
  · rename_i hz
    refine ⟨?_, ?_, ?_, by simpa using hl⟩
    · rw [List.map_cons, List.nodup_cons]
      refine ⟨fun hm => ?_, hnd⟩
      obtain ⟨x, hx, e⟩ := List.mem_map.1 hm
      exact (mem_delP hx).2 e
    · intro x hx
      rcases List.mem_cons.1 hx with rfl | hx
      · simpa using hz
      · exact h.nz x (mem_delP hx).1
    · intro x hx
      rcases List.mem_cons.1 hx with rfl | hx
      · exact hk
      · exact h.who x (mem_delP hx).1
theorem whoB_le {k : ByteArray} (h : whoB k = true) : k.size ≤ 16 := by unfold whoB at h; simp at h; omega
section
variable {p : Ps} {N : Nat}
end
theorem bytes_ext {a b : ByteArray} (h : a.data.toList = b.data.toList) : a = b := by
  obtain ⟨⟨a⟩⟩ := a
  obtain ⟨⟨b⟩⟩ := b
  simp at h
  rw [h]
/-- A purse that is listed. -/
structure Hd where
  who : ByteArray
  has : It
def Hd.cells (h : Hd) : List Value := .string h.who :: h.has.cells
theorem Hd.len (h : Hd) : h.cells.length = 5 := rfl
def kL (p : Ps) : List ByteArray := sortB (p.map (·.1))
def hdL (p : Ps) : List Hd := (kL p).map fun k => ⟨k, purseA p k⟩
theorem kL_len (p : Ps) : (kL p).length = p.length := by unfold kL; rw [(sortB_perm _).length_eq, List.length_map]
theorem hdL_len (p : Ps) : (hdL p).length = p.length := by unfold hdL; rw [List.length_map, kL_len]
theorem kL_mem {p : Ps} {k : ByteArray} (h : k ∈ kL p) : ∃ x ∈ p, x.1 = k := List.mem_map.1 ((sortB_perm _).mem_iff.1 h)
section
variable {p : Ps} {N : Nat}
theorem kL_nz (hw : PsW p N) {k : ByteArray} (h : k ∈ kL p) : isZ (purseA p k) = false := by
  obtain ⟨x, hx, rfl⟩ := kL_mem h
  have := getL_at (v := x.2) hw.nd hx
  unfold purseA
  rw [this]
  exact hw.nz x hx
theorem lt_of_leB {x y : ByteArray} (h : leB x y = true) (hne : x ≠ y) : Op.bytesLess x.toList y.toList = true := by
  rw [bytesLess_eq, Lib.toList_data, Lib.toList_data, decide_eq_true_eq]
  refine (List.le_iff_lt_or_eq.1 (by simpa [leB] using h)).resolve_right fun e => hne ?_
  obtain ⟨⟨a⟩⟩ := x
  obtain ⟨⟨b⟩⟩ := y
  simp at e
  rw [e]
theorem kL_lt (hw : PsW p N) {i j : Nat} (hij : i < j) (hj : j < (kL p).length) : Op.bytesLess ((kL p)[i]'(Nat.lt_trans hij hj)).toList (kL p)[j].toList = true := by
  have hnd : (kL p).Nodup := (sortB_perm _).nodup_iff.2 hw.nd
  refine lt_of_leB (List.pairwise_iff_getElem.1 (sortB_pairwise _) i j (Nat.lt_trans hij hj) hj hij) fun e => ?_
  have := (List.getElem_inj hnd).1 e
  omega
/-- What is listed at a place. -/
theorem hdL_at (hw : PsW p N) {j : Nat} (hj : j < (hdL p).length) : (hdL p)[j].has = purseA p (hdL p)[j].who ∧ isZ (hdL p)[j].has = false ∧ ∀ i, ∀ hi : i < j, Op.bytesLess ((hdL p)[i]'(Nat.lt_trans hi hj)).who.toList (hdL p)[j].who.toList = true := by
  have hj2 : j < (kL p).length := by unfold hdL at hj; rwa [List.length_map] at hj
  have e : (hdL p)[j] = ⟨(kL p)[j], purseA p (kL p)[j]⟩ := by simp [hdL]
  refine ⟨by rw [e], by rw [e]; exact kL_nz hw (List.getElem_mem hj2), fun i hi => ?_⟩
  have e2 : (hdL p)[i]'(Nat.lt_trans hi hj) = ⟨(kL p)[i]'(Nat.lt_trans hi hj2), purseA p ((kL p)[i]'(Nat.lt_trans hi hj2))⟩ := by simp [hdL]
  rw [e, e2]
  exact kL_lt hw hi hj2
end
end Go.Proofs.YtbcokphjpllbiaaGreat
end
section
set_option linter.unusedSimpArgs false
set_option linter.unusedVariables false
namespace Go.Proofs.YtbcokphjpllbiaaGreat
open Go.Joins Go.ChangeShapes Go.WideShapes Go.RowKit Go.Deep Go.Sl
section
variable {H : Type} {enc : TypeId × Value → H} {P : Program} {w : World} {base : Nat} {spare : Nat → Bool} {held : Bool}
end
end Go.Proofs.YtbcokphjpllbiaaGreat
end
section
set_option linter.unusedSimpArgs false
set_option linter.unusedVariables false
namespace Go.Proofs.YtbcokphjpllbiaaGreat
open Go.Joins Go.ChangeShapes Go.WideShapes Go.RowKit Go.Deep Go.Sl
section
variable {H : Type} {enc : TypeId × Value → H} {w : World} {base : Nat} {spare : Nat → Bool} {held : Bool}
end
end Go.Proofs.YtbcokphjpllbiaaGreat
end
section
set_option linter.unusedSimpArgs false
set_option linter.unusedVariables false
namespace Go.Proofs.YtbcokphjpllbiaaGreat
open Go.Joins Go.ChangeShapes Go.WideShapes Go.RowKit Go.Deep Go.Sl
/-- An act of a vault's script. -/
structure Vact where
  kind : Int
  n : Int
  who : ByteArray
  i : It
  o : Ord
def Vact.cells (a : Vact) : List Value := .int .i64 a.kind :: .int .i64 a.n :: .string a.who :: (a.i.cells ++ a.o.cells)
theorem Vact.len (a : Vact) : a.cells.length = 13 := rfl
/-- What an act of a script holds, cell by cell. -/
structure VactAt (V : World) (b off : Nat) (x : Vact) : Prop where
  kind : V.cell? ⟨b, off, none⟩ = some (.int .i64 x.kind)
  n : V.cell? ⟨b, off + 1, none⟩ = some (.int .i64 x.n)
  who : V.cell? ⟨b, off + 2, none⟩ = some (.string x.who)
  i0 : V.cell? ⟨b, off + 3, none⟩ = some (.int .i64 x.i.x0)
  i1 : V.cell? ⟨b, off + 4, none⟩ = some (.int .i64 x.i.x1)
  i2 : V.cell? ⟨b, off + 5, none⟩ = some (.int .i64 x.i.x2)
  i3 : V.cell? ⟨b, off + 6, none⟩ = some (.int .i64 x.i.x3)
  owho : V.cell? ⟨b, off + 8, none⟩ = some (.string x.o.who)
  its : ∀ (j : Nat) (v : Value), x.i.cells[j]? = some v → V.cell? ⟨b, off + 3 + j, none⟩ = some v
  ord : ∀ (j : Nat) (v : Value), x.o.cells[j]? = some v → V.cell? ⟨b, off + 7 + j, none⟩ = some v
  all : ∀ (j : Nat) (v : Value), x.cells[j]? = some v → V.cell? ⟨b, off + j, none⟩ = some v
end Go.Proofs.YtbcokphjpllbiaaGreat
end
section
set_option linter.unusedSimpArgs false
set_option linter.unusedVariables false
namespace Go.Proofs.YtbcokphjpllbiaaGreat
open Go.RowKit Go.Sl
def HvR (W : World) (L : List HP) (n : Nat) (v : Value) (w : World) : Prop := ∃ i : Nat, v = .int .i64 i ∧ i ≤ n ∧ i ≤ 100 ∧ St W L w
/-- Purses as they are listed. -/
abbrev hdR (v : Value) (l : List Hd) : HP := row v 5 94 l.length (l.flatMap Hd.cells)
def LhR (W : World) (F : List HP) (p : Ps) (v5 v17 : Value) (w : World) : Prop :=
  ∃ k : Nat, v17 = .int .i64 k ∧ k ≤ p.length ∧ St W (row v5 5 94 k (((hdL p).take k).flatMap Hd.cells) :: F) w
/-- What a book's List yields. -/
def liR (bb : Nat) (L : List Ord) (n : Int) (v : Value) : HP := fun f => ∃ (a : Option Addr) (c : Nat), v = .slice a L.length c ∧ sats [bookL bb L n, pileR (.slice a L.length c) L] f
section
variable {W w : World} {bb : Nat} {L : List Ord} {n : Int} {v : Value} {R : List HP}
theorem liOpen (h : St W (liR bb L n v :: R) w) : ∃ a c, v = .slice a L.length c ∧ St W (bookL bb L n :: pileR (.slice a L.length c) L :: R) w := by
  obtain ⟨a, h⟩ := St.ex h
  obtain ⟨c, h⟩ := St.ex h
  obtain ⟨h1, h⟩ := St.and h
  exact ⟨a, c, h1, (St.split (St.split h).swap).swap.drop.swap⟩
theorem liShut {a : Option Addr} {c : Nat} (hv : v = .slice a L.length c) (h : St W (bookL bb L n :: pileR (.slice a L.length c) L :: R) w) : St W (liR bb L n v :: R) w := by
  refine St.mkEx a (St.mkEx c (St.mkAnd hv ?_))
  refine St.join ?_
  refine St.swap (St.imp h.swap ?_)
  intro f hf
  exact ⟨fun _ => true, hf, trivial⟩
theorem listF (hS : St W (bookL bb L n :: R) w) :
    Calls Tryz.prog 68 #[.pointer (some ⟨bb, 0, none⟩)] w fun e w' => ∃ v, e = .returned v ∧ St W (liR bb L n v :: R) w' := by
  refine (listL_spec hS).mono ?_
  rintro e w' ⟨a, c, rfl, hS⟩
  exact ⟨_, rfl, liShut rfl hS⟩
end
set_option maxRecDepth 100000 in
set_option maxHeartbeats 4000000 in
theorem listV_spec (vb mb bb : Nat) (p : Ps) (L : List Ord) (n : Int) {N : Nat} (hw : PsW p N) (hN : N ≤ 1000000000) (W w : World) (R : List HP) (hS : St W (vaultL vb mb bb p L n R) w) :
    Calls Tryz.prog 25 #[.pointer (some ⟨vb, 0, none⟩)] w fun e w' => ∃ a c a2 c2, e = .returned (.tuple #[.slice a (hdL p).length c, .slice a2 L.length c2, .int .i64 n]) ∧
      St W (vaultL vb mb bb p L n (hdR (.slice a (hdL p).length c) (hdL p) :: pileR (.slice a2 L.length c2) L :: R)) w' := by
  have hlen := hw.len
  have Hw := Lib.hid hw
  clear hw
  go_enter Tryz.func25, Tryz.ntmps25
  go_wp2_with (first | (go_at_call 74; refine (keysS_call (some mb) W _ _ (hS.sel (L' := amap eS eP mb p :: blk vb _ _ :: bookL bb L n :: R) (by exact selS))).mono ?_; clear hS; rintro e w ⟨g, rfl, hS⟩) | (go_at_call 73; refine (sortedS_call (fun x hx => by have := whoB_le (Hw.out.who x hx); unfold maxLen; omega) (by omega) hS).mono ?_; clear hS; rintro e w ⟨v, rfl, hS⟩; (have hv := hS.rowVal; obtain ⟨sa, sc, rfl⟩ := hv)) | (refine zl1 hS ?_) | (refine zlN hS ?_) | (refine zs1 hS ?_; clear hS; intro w hS) | (refine zsN hS ?_; clear hS; intro w hS) | (refine zbx hS ?_; clear hS; intro b w hS) | (refine zal hS ?_; clear hS; intro b w hS))
  have hS1 := hS.rowNil (k := 5) (T := 94)
  clear hS
  have hS := hS1
  clear hS1
  go_loopw [5, 17] (fun v5 v17 wr => LhR W (row (.slice sa p.length sc) 1 9 p.length ((sortB (p.map (·.1))).map eS) :: amap eS eP mb p :: blk vb [.map (some mb), .pointer (some ⟨bb, 0, none⟩), .int .i64 n] 80 :: bookL bb L n :: R) p v5 v17 wr) (fun _ v17 _ => p.length - (intOf v17).toNat)
  case atStart => exact ⟨0, rfl, Nat.zero_le _, hS⟩
  case round =>
    clear hS
    obtain ⟨k, rfl, hkl, hS⟩ := hrel
    have hlk := kL_len p
    have hlh := hdL_len p
    by_cases hkn : k = p.length
    · have e1 : (hdL p).take k = hdL p := List.take_of_length_le (by omega)
      rw [e1] at hS
      have e2 : k = (hdL p).length := by omega
      have hd1 : decide (k < p.length) = false := by simp; omega
      clear e1 hkl hlk
      clear hkn hlh
      subst e2
      go_wp2_with (first | (refine zl1 hS ?_) | (refine zlN hS ?_) | (refine zs1 hS ?_; clear hS; intro w hS) | (refine zsN hS ?_; clear hS; intro w hS) | (refine zbx hS ?_; clear hS; intro b w hS) | (refine zal hS ?_; clear hS; intro b w hS))
      have hS := hS.sel (L' := bookL bb L n :: blk vb _ _ :: amap eS eP mb p :: row u5 5 _ _ _ :: R) (by exact selS)
      refine wp_region_flow3 [0, 0, 2, 6, 14, 30, 0, 64, 192, 448, 63, 1087, 4095] (fun i => i == 5) (fun _ => none) [⟨some 5, none, fun nd => liR bb L n (nd 5)⟩] [some 5, none, none, none] (by kernel_rfl) (by kernel_rfl) rfl hS (CongOk.cons (fun nd nd' h => by dsimp only; rw [h 5 rfl rfl]) CongOk.nil) ?_
      intro nd
      iterate 2 (refine ch_pure rfl (by kernel_rfl) rfl rfl ?_; intro K hK; go_big_quiet_op; go_big_quiet_on)
      (refine zcn ?_)
      (refine ch_pure rfl (by kernel_rfl) rfl rfl ?_; intro K hK; go_big_quiet_op; go_big_quiet_on)
      (refine zc1 ?_)
      (apply ch_callN; rfl; rfl; (with_reducible rfl); decide +kernel; (focus (simp only [fD, List.map_cons, List.map_nil, Act.eval, fE, fF, fG, fH, Option.getD_some]; try rfl)); (intro _; rfl); (intro F w hS; exact listF hS); (refine frS ?_))
      (refine ch_pure rfl (by kernel_rfl) rfl rfl ?_; intro K hK; go_big_quiet_op; go_big_quiet_on)
      (refine zcn ?_)
      (refine ch_pure rfl (by kernel_rfl) rfl rfl ?_; intro K hK; go_big_quiet_op; go_big_quiet_on)
      (refine zc1 ?_)
      iterate 3 (refine ch_pure rfl (by kernel_rfl) rfl rfl ?_; intro K hK; go_big_quiet_op; go_big_quiet_on)
      refine ch_end ?_
      clear hS
      intro w hS
      have hS2 : St W [liR bb L n (nd 5), blk vb _ _, amap eS eP mb p, row u5 5 _ _ _, sats R] w := hS
      clear hS
      have hS := hS2.unpack [_, _, _, _]
      clear hS2
      simp only [List.cons_append, List.nil_append] at hS
      generalize nd 5 = v5 at *
      obtain ⟨a2, c2, rfl, hS5⟩ := liOpen hS
      clear hS
      have hv := hS5.drop.drop.drop.drop.rowVal
      obtain ⟨a, c, rfl⟩ := hv
      clear hS
      have hS := hS5
      clear hS5
      go_wp2_with fail
      go_ret3
      exact ⟨a, c, a2, c2, rfl, hS.sel (by exact selS)⟩
    · have hk1 : k < p.length := by omega
      have hks : k < (hdL p).length := by omega
      have hkk : k < (kL p).length := by omega
      have hx1 : ((sortB (p.map (·.1))).map eS)[k]? = some (.string (kL p)[k]) := by
        rw [List.getElem?_map]
        show ((kL p)[k]?).map eS = _
        rw [List.getElem?_eq_getElem hkk]; rfl
      have htk : ((hdL p).take (k + 1)).flatMap Hd.cells = ((hdL p).take k).flatMap Hd.cells ++ (Hd.mk (kL p)[k] (purseA p (kL p)[k])).cells := by
        rw [List.take_succ_eq_append_getElem hks, List.flatMap_append]
        simp [hdL]
      obtain ⟨⟨g2, rfl⟩, hcap, hcn⟩ := St.rowAddr hS.drop (by omega)
      obtain ⟨x, hx⟩ : ∃ x, purseA p (kL p)[k] = x := ⟨_, rfl⟩
      rw [hx] at htk
      generalize (kL p)[k] = key at hx htk hx1
      obtain ⟨x0, x1, x2, x3⟩ := x
      have Hx := Lib.hid hx
      have Htk := Lib.hid htk
      have HX := Lib.hid hx1
      clear hx htk hx1 hkn hkl hlk hlh hks hkk
      go_wp2_with (first | (refine zl1 hS ?_ (hc := by exact Cell.there (Cell.row (by omega) HX.out))) | ((with_reducible apply wl_alookU (ek := eS) (ev := eP) (k := key) it0 ⟨x0, x1, x2, x3⟩ hS); (with_reducible rfl); rfl; rfl; rfl; (exact takeS); exact mP; exact kS; exact zP; rfl; exact Hx.out; (simp only [Act.put, fA, fB, fC, Nat.reduceAdd, eP, It.cells])) | (refine zbs hS ?_; clear hS; intro bS w hS) | (refine zap hS ?_ (h63 := by unfold maxLen; omega) (hb := by omega); clear hS; intro v w hS) | (refine zl1 hS ?_) | (refine zlN hS ?_) | (refine zs1 hS ?_; clear hS; intro w hS) | (refine zsN hS ?_; clear hS; intro w hS) | (refine zbx hS ?_; clear hS; intro b w hS) | (refine zal hS ?_; clear hS; intro b w hS))
      go_roundw
      case rel =>
        refine ⟨k + 1, rfl, hk1, ?_⟩
        rw [Htk.out]
        have h0 : St W (row v 5 94 (k + 1) (((hdL p).take k).flatMap Hd.cells ++ (Hd.mk key ⟨x0, x1, x2, x3⟩).cells) :: _) w := hS
        exact h0.sel (by exact selS)
      case measure => simp [intOf]; omega
end Go.Proofs.YtbcokphjpllbiaaGreat
end
section
set_option linter.unusedSimpArgs false
set_option linter.unusedVariables false
namespace Go.Proofs.YtbcokphjpllbiaaGreat
open Go.RowKit Go.Sl
/-- Where a purse stands, or would stand; is it there? -/
def spI : List Hd → ByteArray → Nat
  | [], _ => 0
  | h :: H, k => if Op.bytesLess h.who.toList k.toList = true then spI H k + 1 else 0
def spB : List Hd → ByteArray → Bool
  | [], _ => false
  | h :: H, k => if Op.bytesLess h.who.toList k.toList = true then spB H k else h.who.toList == k.toList
/-- The document's vault: its block, its row of purses. -/
abbrev xvL (xb : Nat) (v vB : Value) (n : Int) (H : List Hd) (R : List HP) : List HP := blk xb [v, vB, .int .i64 n] 65 :: hdR v H :: R
def SpR (W : World) (L : List HP) (H : List Hd) (k : ByteArray) (v : Value) (w : World) : Prop :=
  ∃ i : Nat, v = .int .i64 i ∧ i ≤ H.length ∧ spI H k = i + spI (H.drop i) k ∧ spB H k = spB (H.drop i) k ∧ St W L w
def hasH (H : List Hd) (k : ByteArray) : It := if spB H k = true then (H.getD (spI H k) ⟨⟨#[]⟩, it0⟩).has else it0
end Go.Proofs.YtbcokphjpllbiaaGreat
end
section
set_option linter.unusedSimpArgs false
set_option linter.unusedVariables false
namespace Go.Proofs.YtbcokphjpllbiaaGreat
open Go.RowKit Go.Sl
abbrev blt (x y : ByteArray) : Prop := Op.bytesLess x.toList y.toList = true
theorem blt_iff {x y : ByteArray} : blt x y ↔ x.data.toList < y.data.toList := by
  unfold blt
  rw [bytesLess_eq, Lib.toList_data, Lib.toList_data, decide_eq_true_eq]
theorem blt_trans {x y z : ByteArray} (h1 : blt x y) (h2 : blt y z) : blt x z := blt_iff.2 (List.lt_trans (blt_iff.1 h1) (blt_iff.1 h2))
theorem blt_ne {x y : ByteArray} (h : blt x y) : x ≠ y := fun e => by
  rw [e] at h
  exact List.lt_irrefl _ (blt_iff.1 h)
theorem blt_le {x y : ByteArray} (h : blt x y) : leB x y = true := by
  unfold leB
  rw [decide_eq_true_eq]
  exact List.le_of_lt (blt_iff.1 h)
theorem blt_of_not {x k : ByteArray} (h : ¬ blt x k) (hne : x ≠ k) : blt k x := by
  refine lt_of_leB ?_ fun e => hne e.symm
  unfold leB
  rw [decide_eq_true_eq]
  exact List.not_lt.1 fun hl => h (blt_iff.2 hl)
theorem who_beq {x y : ByteArray} : (x.toList == y.toList) = true ↔ x = y := by
  rw [Lib.toList_data, Lib.toList_data]
  constructor
  · intro h
    exact bytes_ext (by simpa using h)
  · rintro rfl
    simp
def SrtH (H : List Hd) : Prop := H.Pairwise fun x y => blt x.who y.who
theorem sp_facts : ∀ (H : List Hd) (k : ByteArray), SrtH H →
    (∀ x ∈ H.take (spI H k), blt x.who k) ∧ (∀ y ∈ H.drop (if spB H k = true then spI H k + 1 else spI H k), blt k y.who) ∧ (spB H k = true → ∃ x, H.drop (spI H k) = x :: H.drop (spI H k + 1) ∧ x.who = k)
  | [], k, _ => ⟨fun x hx => (by simp at hx), fun y hy => (by simp [spI, spB] at hy), fun h => (by cases h)⟩
  | h :: H, k, hs => by
    unfold SrtH at hs
    rw [List.pairwise_cons] at hs
    obtain ⟨hs1, hs2⟩ := hs
    rw [spI, spB]
    by_cases hb : Op.bytesLess h.who.toList k.toList = true
    · rw [if_pos hb, if_pos hb]
      obtain ⟨i1, i2, i3⟩ := sp_facts H k hs2
      refine ⟨?_, ?_, ?_⟩
      · intro x hx
        rw [List.take_succ_cons] at hx
        rcases List.mem_cons.1 hx with rfl | hx
        · exact hb
        · exact i1 x hx
      · intro y hy
        refine i2 y ?_
        split at hy
        · rename_i h1
          rw [if_pos h1]
          simpa using hy
        · rename_i h1
          rw [if_neg h1]
          simpa using hy
      · intro h1
        obtain ⟨x, hx1, hx2⟩ := i3 h1
        exact ⟨x, by simpa using hx1, hx2⟩
    · rw [if_neg hb, if_neg hb]
      refine ⟨fun x hx => (by simp at hx), ?_, ?_⟩
      · intro y hy
        split at hy
        · rename_i h1
          have e := who_beq.1 h1
          rw [← e]
          exact hs1 y (by simpa using hy)
        · rename_i h1
          have hne : h.who ≠ k := fun e => h1 (who_beq.2 e)
          have hkh := blt_of_not hb hne
          rw [List.drop_zero] at hy
          rcases List.mem_cons.1 hy with rfl | hy
          · exact hkh
          · exact blt_trans hkh (hs1 y hy)
      · intro h1
        exact ⟨h, by simp, who_beq.1 h1⟩
/-- A purse laid in the document's row. -/
def setH (H : List Hd) (k : ByteArray) (i : It) : List Hd := H.take (spI H k) ++ ((if isZ i = true then [] else [⟨k, i⟩]) ++ H.drop (if spB H k = true then spI H k + 1 else spI H k))
section
variable {p : Ps} {N : Nat}
theorem hdL_srt (hw : PsW p N) : SrtH (hdL p) := by
  refine List.pairwise_iff_getElem.2 fun i j hi hj hij => ?_
  exact (hdL_at hw hj).2.2 i hij
theorem hdL_who (p : Ps) : (hdL p).map Hd.who = kL p := by
  unfold hdL
  rw [List.map_map]
  exact (List.map_congr_left fun _ _ => rfl).trans (List.map_id _)
theorem hdL_has {x : Hd} (h : x ∈ hdL p) : x.has = purseA p x.who := by
  unfold hdL at h
  obtain ⟨y, _, rfl⟩ := List.mem_map.1 h
  rfl
theorem split3 (H : List Hd) (k : ByteArray) : H = H.take (spI H k) ++ ((if spB H k = true then (H.drop (spI H k)).take 1 else []) ++ H.drop (if spB H k = true then spI H k + 1 else spI H k)) := by
  split
  · have e : (H.drop (spI H k)).drop 1 = H.drop (spI H k + 1) := by rw [List.drop_drop]
    rw [← e, List.take_append_drop, List.take_append_drop]
  · rw [List.nil_append, List.take_append_drop]
/-- A purse laid: in the document's row as in the program's purses. -/
theorem setH_eq (hw : PsW p N) (k : ByteArray) (i : It) : setH (hdL p) k i = hdL (layP p k i) := by
  obtain ⟨h1, h2, h3⟩ := sp_facts (hdL p) k (hdL_srt hw)
  have hsp := split3 (hdL p) k
  have hsr := hdL_srt hw
  have hmA : ∀ x ∈ (hdL p).take (spI (hdL p) k), x ∈ hdL p := fun x hx => List.mem_of_mem_take hx
  have hmB : ∀ x ∈ (hdL p).drop (if spB (hdL p) k = true then spI (hdL p) k + 1 else spI (hdL p) k), x ∈ hdL p := fun x hx => List.mem_of_mem_drop hx
  have hmid : ∀ x ∈ (if spB (hdL p) k = true then ((hdL p).drop (spI (hdL p) k)).take 1 else []), x.who = k := by
    intro x hx
    split at hx
    · rename_i hb
      obtain ⟨y, hy, hk⟩ := h3 hb
      rw [hy] at hx
      simp at hx
      rw [hx]
      exact hk
    · cases hx
  have hsA : SrtH ((hdL p).take (spI (hdL p) k)) := hsr.sublist (List.take_sublist _ _)
  have hsB : SrtH ((hdL p).drop (if spB (hdL p) k = true then spI (hdL p) k + 1 else spI (hdL p) k)) := hsr.sublist (List.drop_sublist _ _)
  have hwho : (kL p).filter (fun y => decide (y ≠ k)) = ((hdL p).take (spI (hdL p) k)).map Hd.who ++ ((hdL p).drop (if spB (hdL p) k = true then spI (hdL p) k + 1 else spI (hdL p) k)).map Hd.who := by
    rw [← hdL_who p]
    conv => lhs; rw [hsp]
    rw [List.map_append, List.map_append, List.filter_append, List.filter_append]
    rw [List.filter_eq_self.2 fun y hy => by
      obtain ⟨x, hx, rfl⟩ := List.mem_map.1 hy
      simpa using blt_ne (h1 x hx)]
    rw [List.filter_eq_nil_iff.2 fun y hy => by
      obtain ⟨x, hx, rfl⟩ := List.mem_map.1 hy
      simpa using hmid x hx]
    rw [List.nil_append, List.filter_eq_self.2 fun y hy => by
      obtain ⟨x, hx, rfl⟩ := List.mem_map.1 hy
      simpa using (blt_ne (h2 x hx)).symm]
  have hdel : ((delL p k).map (·.1)).Perm (((hdL p).take (spI (hdL p) k)).map Hd.who ++ ((hdL p).drop (if spB (hdL p) k = true then spI (hdL p) k + 1 else spI (hdL p) k)).map Hd.who) := by
    rw [← hwho]
    have e : (delL p k).map (·.1) = (p.map (·.1)).filter (fun y => decide (y ≠ k)) := by
      unfold delL
      rw [List.filter_map]
      rfl
    rw [e]
    have hp : (kL p).Perm (p.map (·.1)) := sortB_perm _
    exact (hp.filter _).symm
  unfold setH layP
  cases hz : isZ i with
  | true =>
    rw [if_pos rfl, if_pos rfl, List.nil_append]
    have hk : kL (delL p k) = ((hdL p).take (spI (hdL p) k)).map Hd.who ++ ((hdL p).drop (if spB (hdL p) k = true then spI (hdL p) k + 1 else spI (hdL p) k)).map Hd.who := by
      refine List.Perm.eq_of_pairwise (le := fun a b => leB a b = true) (fun a b _ _ h1 h2 => leB_anti h1 h2) (sortB_pairwise _) ?_ ((sortB_perm _).trans hdel)
      refine List.pairwise_append.2 ⟨List.pairwise_map.2 (hsA.imp blt_le), List.pairwise_map.2 (hsB.imp blt_le), fun a ha b hb => ?_⟩
      obtain ⟨x, hx, rfl⟩ := List.mem_map.1 ha
      obtain ⟨y, hy, rfl⟩ := List.mem_map.1 hb
      exact blt_le (blt_trans (h1 x hx) (h2 y hy))
    unfold hdL at hk ⊢
    rw [hk, List.map_append, List.map_map, List.map_map]
    refine congr (congrArg _ ?_) ?_
    · refine ((List.map_congr_left fun x hx => ?_).trans (List.map_id _)).symm
      have e1 := hdL_has (hmA x hx)
      have e2 := purse_other p (blt_ne (h1 x hx)) i
      unfold layP at e2
      rw [hz, if_pos rfl] at e2
      show (⟨x.who, purseA (delL p k) x.who⟩ : Hd) = x
      rw [e2, ← e1]
    · refine ((List.map_congr_left fun x hx => ?_).trans (List.map_id _)).symm
      have e1 := hdL_has (hmB x hx)
      have e2 := purse_other p (blt_ne (h2 x hx)).symm i
      unfold layP at e2
      rw [hz, if_pos rfl] at e2
      show (⟨x.who, purseA (delL p k) x.who⟩ : Hd) = x
      rw [e2, ← e1]
  | false =>
    have hft : ¬ (false = true) := by simp
    rw [if_neg hft, if_neg hft]
    have hk : kL ((k, i) :: delL p k) = ((hdL p).take (spI (hdL p) k)).map Hd.who ++ (k :: ((hdL p).drop (if spB (hdL p) k = true then spI (hdL p) k + 1 else spI (hdL p) k)).map Hd.who) := by
      refine List.Perm.eq_of_pairwise (le := fun a b => leB a b = true) (fun a b _ _ h1 h2 => leB_anti h1 h2) (sortB_pairwise _) ?_ ((sortB_perm _).trans ?_)
      · refine List.pairwise_append.2 ⟨List.pairwise_map.2 (hsA.imp blt_le), List.pairwise_cons.2 ⟨fun b hb => ?_, List.pairwise_map.2 (hsB.imp blt_le)⟩, fun a ha b hb => ?_⟩
        · obtain ⟨y, hy, rfl⟩ := List.mem_map.1 hb
          exact blt_le (h2 y hy)
        · obtain ⟨x, hx, rfl⟩ := List.mem_map.1 ha
          rcases List.mem_cons.1 hb with rfl | hb
          · exact blt_le (h1 x hx)
          · obtain ⟨y, hy, rfl⟩ := List.mem_map.1 hb
            exact blt_le (blt_trans (h1 x hx) (h2 y hy))
      · rw [List.map_cons]
        exact (List.Perm.cons k hdel).trans List.perm_middle.symm
    unfold hdL at hk ⊢
    rw [hk, List.map_append, List.map_cons, List.map_map, List.map_map]
    have es := purse_same p k i
    unfold layP at es
    rw [hz, if_neg (by simp)] at es
    refine congr (congrArg _ ?_) ?_
    · refine ((List.map_congr_left fun x hx => ?_).trans (List.map_id _)).symm
      have e1 := hdL_has (hmA x hx)
      have e2 := purse_other p (blt_ne (h1 x hx)) i
      unfold layP at e2
      rw [hz, if_neg (by simp)] at e2
      show (⟨x.who, purseA ((k, i) :: delL p k) x.who⟩ : Hd) = x
      rw [e2, ← e1]
    · rw [List.singleton_append, es]
      refine congrArg _ ?_
      refine ((List.map_congr_left fun x hx => ?_).trans (List.map_id _)).symm
      have e1 := hdL_has (hmB x hx)
      have e2 := purse_other p (blt_ne (h2 x hx)).symm i
      unfold layP at e2
      rw [hz, if_neg (by simp)] at e2
      show (⟨x.who, purseA ((k, i) :: delL p k) x.who⟩ : Hd) = x
      rw [e2, ← e1]
end
end Go.Proofs.YtbcokphjpllbiaaGreat
end
section
set_option linter.unusedSimpArgs false
set_option linter.unusedVariables false
namespace Go.Proofs.YtbcokphjpllbiaaGreat
open Go.RowKit Go.Sl
end Go.Proofs.YtbcokphjpllbiaaGreat
end
