/-
  slices.Sorted(maps.Keys(m)) of maps as resources: a row of the keys, sorted. For every map.
-/
import Derived.Test.YtbogmenlhdpjlaaMapS
import Derived.Test.YtbogmenlhdpjlaaMapC
import Derived.Test.YtbogmenlhdpjlaaMShelf
import Derived.Test.YtbogmenlhdpjlaaTy
set_option linter.unusedSimpArgs false
set_option linter.unusedVariables false
namespace Go.Proofs.Ytbogmenlhdpjlaa
open Go.RowKit Go.Maps Go.Sort Go.Shelf Go.Sl
abbrev eI (z : Int) : Value := .int .i64 z
abbrev eS (s : ByteArray) : Value := .string s
abbrev eM (b : Nat) : Value := .map (some b)
/-- The keys, sorted. -/
def sortI (l : List Int) : List Int := l.mergeSort fun x y => decide (x ≤ y)
def leB (x y : ByteArray) : Bool := decide (x.data.toList ≤ y.data.toList)
def sortB (l : List ByteArray) : List ByteArray := l.mergeSort leB
theorem sortI_perm (l : List Int) : (sortI l).Perm l := List.mergeSort_perm _ _
theorem sortB_perm (l : List ByteArray) : (sortB l).Perm l := List.mergeSort_perm _ _
theorem sortsI (m : Nat) : AnyZI.SortsIn Try.prog Try.sortedI_ren Fence.wide m :=
  ⟨fun blk off cap ss W hH hblk hsz => callsIn_wide.2 (AnyM.slices_Sort_int Try.sortI blk off cap ss W hH hblk hsz),
   fun p cap W => callsIn_wide.2 (AnyM.slices_Sort_int_none Try.sortI p cap W)⟩
theorem sortsS (m : Nat) : AnyZ.SortsIn Try.prog Try.sortedS_ren Fence.wide m :=
  ⟨fun blk off cap ss W hH hblk hsz => callsIn_wide.2 (AnyM.slices_Sort_string Try.sortS blk off cap ss W hH hblk hsz),
   fun p cap W => callsIn_wide.2 (AnyM.slices_Sort_string_none Try.sortS p cap W)⟩
/-- maps.Keys: a function value that holds the map. -/
theorem keysI_call (mb : Option Nat) (W w : World) (L : List HP) (hS : St W L w) :
    Calls Try.prog 23 #[.map mb] w fun e w' => ∃ g, e = .returned (.func (.func 30) #[] #[.pointer (some ⟨g, 0, none⟩)]) ∧ St W (blk g [.map mb] 53 :: L) w' := by
  have cK : CallsIn Fence.wide 5 Try.prog 23 #[.map mb] w fun e w' => e = .returned (.func (.func 30) #[] #[.pointer (some ⟨w.heap.size, 0, none⟩)]) ∧ w' = w.alloc (.cells #[.map mb] 53) := AnyZI.keys_in Try.keysI Fence.wide 5 trivial rfl mb w
  refine ((callsIn_wide (n := 5)).1 cK).mono ?_
  rintro e w' ⟨rfl, rfl⟩
  exact ⟨_, rfl, hS.alloc _⟩
theorem keysS_call (mb : Option Nat) (W w : World) (L : List HP) (hS : St W L w) :
    Calls Try.prog 32 #[.map mb] w fun e w' => ∃ g, e = .returned (.func (.func 39) #[] #[.pointer (some ⟨g, 0, none⟩)]) ∧ St W (blk g [.map mb] 56 :: L) w' := by
  have cK : CallsIn Fence.wide 5 Try.prog 32 #[.map mb] w fun e w' => e = .returned (.func (.func 39) #[] #[.pointer (some ⟨w.heap.size, 0, none⟩)]) ∧ w' = w.alloc (.cells #[.map mb] 56) := AnyZ.keys_in Try.keysS Fence.wide 5 trivial rfl mb w
  refine ((callsIn_wide (n := 5)).1 cK).mono ?_
  rintro e w' ⟨rfl, rfl⟩
  exact ⟨_, rfl, hS.alloc _⟩
theorem keysJ_call (mb : Option Nat) (W w : World) (L : List HP) (hS : St W L w) :
    Calls Try.prog 26 #[.map mb] w fun e w' => ∃ g, e = .returned (.func (.func 33) #[] #[.pointer (some ⟨g, 0, none⟩)]) ∧ St W (blk g [.map mb] 65 :: L) w' := by
  have cK : CallsIn Fence.wide 5 Try.prog 26 #[.map mb] w fun e w' => e = .returned (.func (.func 33) #[] #[.pointer (some ⟨w.heap.size, 0, none⟩)]) ∧ w' = w.alloc (.cells #[.map mb] 65) := AnyZI.keys_in Try.keysJ Fence.wide 5 trivial rfl mb w
  refine ((callsIn_wide (n := 5)).1 cK).mono ?_
  rintro e w' ⟨rfl, rfl⟩
  exact ⟨_, rfl, hS.alloc _⟩
section
variable {ν : Type} {ev : ν → Value} {W w : World} {L : List HP} {b g : Nat}
theorem ownsAI {l : List (Int × ν)} (h : St W (amap eI ev b l :: L) w) (hwf : ∀ x ∈ l, (Lit.int .i64 x.1).wf = true) (hl : l.length ≤ maxLen) :
    ∃ D : DataW Unit, w.ownsMap Try.prog 3 R1 b l.length D ∧ Maps.size D = l.length ∧ (intKeys D).Perm (l.map (·.1)) := by
  obtain ⟨ps, c, h1, h2, h3⟩ := amapOpen h
  have hll : (ps.map (evs ev)).length = l.length := by have := h1.length_eq; rwa [List.length_map] at this ⊢
  have hk : (ps.map (evs ev)).map (·.1) = (ps.map prj).map (·.1) := by rw [evs_keys, prj_keys]
  have hp : ((ps.map (evs ev)).map (·.1)).Perm (l.map (·.1)) := by rw [hk]; exact h1.map _
  obtain ⟨D, hD1, hD2, hD3⟩ := ownsI (P := Try.prog) (K := 3) (kf := fun x : Int × Value × Nat => x.1) h3 Try.underlying3 (fun x => rfl) (fun x hx => by
    have hx1 : x.1 ∈ l.map (·.1) := hp.mem_iff.1 (List.mem_map_of_mem hx)
    obtain ⟨y, hy, hxy⟩ := List.mem_map.1 hx1
    rw [← hxy]; exact hwf y hy) (by unfold Stamps; rw [List.map_map, List.map_map]; exact h2.st) (fun x hx => by obtain ⟨y, hy, rfl⟩ := List.mem_map.1 hx; exact h2.old y hy) (by rw [evs_keys]; exact h2.ks) (by omega)
  rw [hll] at hD1 hD2
  exact ⟨D, hD1, hD2, hD3.trans hp⟩
theorem ownsAS {l : List (ByteArray × ν)} (h : St W (amap eS ev b l :: L) w) (hwf : ∀ x ∈ l, x.1.size ≤ maxLen) (hl : l.length ≤ maxLen) :
    ∃ D : DataW Unit, w.ownsMap Try.prog 9 R1 b l.length D ∧ Maps.size D = l.length ∧ (strKeys D).Perm (l.map fun x => x.1.data.toList) := by
  obtain ⟨ps, c, h1, h2, h3⟩ := amapOpen h
  have hll : (ps.map (evs ev)).length = l.length := by have := h1.length_eq; rwa [List.length_map] at this ⊢
  have hk : (ps.map (evs ev)).map (·.1) = (ps.map prj).map (·.1) := by rw [evs_keys, prj_keys]
  have hp : ((ps.map (evs ev)).map (·.1)).Perm (l.map (·.1)) := by rw [hk]; exact h1.map _
  obtain ⟨D, hD1, hD2, hD3⟩ := ownsS (P := Try.prog) (K := 9) (kf := fun x : ByteArray × Value × Nat => x.1) h3 Try.underlying9 (fun x => rfl) (fun x hx => by
    have hx1 : x.1 ∈ l.map (·.1) := hp.mem_iff.1 (List.mem_map_of_mem hx)
    obtain ⟨y, hy, hxy⟩ := List.mem_map.1 hx1
    rw [← hxy]; exact hwf y hy) (by unfold Stamps; rw [List.map_map, List.map_map]; exact h2.st) (fun x hx => by obtain ⟨y, hy, rfl⟩ := List.mem_map.1 hx; exact h2.old y hy) (by rw [evs_keys]; exact h2.ks) (by omega)
  rw [hll] at hD1 hD2
  have e1 : (ps.map (evs ev)).map (fun x => x.1.data.toList) = ((ps.map (evs ev)).map (·.1)).map (fun k => k.data.toList) := by simp only [List.map_map]; rfl
  have e2 : l.map (fun x => x.1.data.toList) = (l.map (·.1)).map (fun k => k.data.toList) := by rw [List.map_map]; rfl
  refine ⟨D, hD1, hD2, hD3.trans ?_⟩
  rw [e1, e2]
  exact hp.map _
theorem sortI_eq {l ss : List Int} (h : ss.Perm l) : ss.mergeSort (fun x y => decide (x ≤ y)) = sortI l := by
  refine List.Perm.eq_of_pairwise (le := fun a b => decide (a ≤ b) = true) (fun a b _ _ h1 h2 => ?_) (List.pairwise_mergeSort ?_ ?_ _) (List.pairwise_mergeSort ?_ ?_ _) (((List.mergeSort_perm _ _).trans h).trans (List.mergeSort_perm _ _).symm)
  · simp only [decide_eq_true_eq] at h1 h2; omega
  all_goals intros
  all_goals simp at *
  all_goals omega
theorem leB_trans (a b c : ByteArray) (h1 : leB a b = true) (h2 : leB b c = true) : leB a c = true := by
  unfold leB at *
  simp only [decide_eq_true_eq] at *
  exact List.le_trans h1 h2
theorem leB_total (a b : ByteArray) : (leB a b || leB b a) = true := by
  unfold leB
  simp only [Bool.or_eq_true, decide_eq_true_eq]
  exact List.le_total _ _
theorem leB_anti {a b : ByteArray} (h1 : leB a b = true) (h2 : leB b a = true) : a = b := by
  unfold leB at *
  simp only [decide_eq_true_eq] at *
  have h := List.le_antisymm h1 h2
  obtain ⟨⟨a⟩⟩ := a
  obtain ⟨⟨b⟩⟩ := b
  simp at h
  rw [h]
theorem sortB_pairwise (l : List ByteArray) : (sortB l).Pairwise fun x y => leB x y = true := List.pairwise_mergeSort leB_trans leB_total l
theorem sortI_pairwise (l : List Int) : (sortI l).Pairwise fun x y => x ≤ y := by
  have := List.pairwise_mergeSort (le := fun x y : Int => decide (x ≤ y)) (fun a b c h1 h2 => by simp at *; omega) (fun a b => by simp; omega) l
  exact this.imp fun h => by simpa using h
theorem sortB_eq {l : List ByteArray} {ss : List (List UInt8)} (h : ss.Perm (l.map fun k => k.data.toList)) : (ss.mergeSort (fun x y => decide (x ≤ y))).map encStr = (sortB l).map eS := by
  have e : ss.mergeSort (fun x y => decide (x ≤ y)) = (sortB l).map fun k => k.data.toList := by
    refine List.Perm.eq_of_pairwise (le := fun a b => decide (a ≤ b) = true) (fun a b _ _ h1 h2 => ?_) (List.pairwise_mergeSort ?_ ?_ _) ?_ (((List.mergeSort_perm _ _).trans h).trans ((sortB_perm l).map _).symm)
    · simp only [decide_eq_true_eq] at h1 h2; exact List.le_antisymm h1 h2
    · intro a b c h1 h2; simp only [decide_eq_true_eq] at *; exact List.le_trans h1 h2
    · intro a b; simp only [Bool.or_eq_true, decide_eq_true_eq]; exact List.le_total _ _
    · exact List.pairwise_map.2 (sortB_pairwise l)
  rw [e, List.map_map]
  refine List.map_congr_left fun k _ => ?_
  show Value.string ⟨k.data.toList.toArray⟩ = Value.string k
  rfl
set_option maxHeartbeats 1000000 in
theorem sortedI_call {l : List (Int × ν)} (hwf : ∀ x ∈ l, (Lit.int .i64 x.1).wf = true) (hl : l.length ≤ 1000000000) (hS : St W (blk g [.map (some b)] 53 :: amap eI ev b l :: L) w) :
    Calls Try.prog 22 #[.func (.func 30) #[] #[.pointer (some ⟨g, 0, none⟩)]] w fun e w' => ∃ v, e = .returned v ∧ St W (row v 1 3 l.length ((sortI (l.map (·.1))).map eI) :: amap eI ev b l :: L) w' := by
  obtain ⟨D, hD1, hD2, hD3⟩ := ownsAI hS.drop hwf (by unfold maxLen; omega)
  have hseq : SeqGives Fence.wide 2 Try.prog 30 #[.pointer (some ⟨g, 0, none⟩)] encZ (fun ss => ss.Perm (intKeys D)) (Maps.size D) w :=
    AnyZI.keys_gives (ρ := Try.keysI_ren) { Try.keysI with } Fence.wide _ trivial rfl (by omega) g b l.length D _ (Array.getElem?_eq_some_iff.1 (hS.get (b := g) .head)).1 (hS.cell (b := g) (off := 0) .head rfl) hD1
  have cS := AnyZI.sorted_in Try.sortedI Fence.wide 5 trivial trivial trivial trivial rfl (by omega) (sortsI _) (enters_of Try.func29 (by kernel_rfl) rfl) 30 #[.pointer (some ⟨g, 0, none⟩)] trivial (enters_of Try.func30 (by kernel_rfl) rfl) _ _ (by rw [hD2]; unfold maxLen; omega) (by rw [hD2]; omega) _ hseq
  change CallsIn _ _ Try.prog 22 _ _ _ at cS
  refine ((callsIn_wide (n := 5)).1 cS).mono ?_
  rintro e w' ⟨v, ss, rfl, hP, hrow, hnil, hb⟩
  refine ⟨v, rfl, ?_⟩
  have hp := hP.trans hD3
  rw [sortI_eq hp, show ss.length = l.length by rw [hp.length_eq, List.length_map]] at hrow
  exact (hS.drop).called hb hrow
set_option maxHeartbeats 1000000 in
theorem sortedJ_call {l : List (Int × ν)} (hwf : ∀ x ∈ l, (Lit.int .i64 x.1).wf = true) (hl : l.length ≤ 1000000000) (hS : St W (blk g [.map (some b)] 65 :: amap eI ev b l :: L) w) :
    Calls Try.prog 22 #[.func (.func 33) #[] #[.pointer (some ⟨g, 0, none⟩)]] w fun e w' => ∃ v, e = .returned v ∧ St W (row v 1 3 l.length ((sortI (l.map (·.1))).map eI) :: amap eI ev b l :: L) w' := by
  obtain ⟨D, hD1, hD2, hD3⟩ := ownsAI hS.drop hwf (by unfold maxLen; omega)
  have hseq : SeqGives Fence.wide 2 Try.prog 33 #[.pointer (some ⟨g, 0, none⟩)] encZ (fun ss => ss.Perm (intKeys D)) (Maps.size D) w :=
    AnyZI.keys_gives (ρ := Try.keysJ_ren) { Try.keysJ with } Fence.wide _ trivial rfl (by omega) g b l.length D _ (Array.getElem?_eq_some_iff.1 (hS.get (b := g) .head)).1 (hS.cell (b := g) (off := 0) .head rfl) hD1
  have cS := AnyZI.sorted_in Try.sortedI Fence.wide 5 trivial trivial trivial trivial rfl (by omega) (sortsI _) (enters_of Try.func29 (by kernel_rfl) rfl) 33 #[.pointer (some ⟨g, 0, none⟩)] trivial (enters_of Try.func33 (by kernel_rfl) rfl) _ _ (by rw [hD2]; unfold maxLen; omega) (by rw [hD2]; omega) _ hseq
  change CallsIn _ _ Try.prog 22 _ _ _ at cS
  refine ((callsIn_wide (n := 5)).1 cS).mono ?_
  rintro e w' ⟨v, ss, rfl, hP, hrow, hnil, hb⟩
  refine ⟨v, rfl, ?_⟩
  have hp := hP.trans hD3
  rw [sortI_eq hp, show ss.length = l.length by rw [hp.length_eq, List.length_map]] at hrow
  exact (hS.drop).called hb hrow
set_option maxHeartbeats 1000000 in
theorem sortedS_call {l : List (ByteArray × ν)} (hwf : ∀ x ∈ l, x.1.size ≤ maxLen) (hl : l.length ≤ 1000000000) (hS : St W (blk g [.map (some b)] 56 :: amap eS ev b l :: L) w) :
    Calls Try.prog 31 #[.func (.func 39) #[] #[.pointer (some ⟨g, 0, none⟩)]] w fun e w' => ∃ v, e = .returned v ∧ St W (row v 1 9 l.length ((sortB (l.map (·.1))).map eS) :: amap eS ev b l :: L) w' := by
  obtain ⟨D, hD1, hD2, hD3⟩ := ownsAS hS.drop hwf (by unfold maxLen; omega)
  have hseq : SeqGives Fence.wide 2 Try.prog 39 #[.pointer (some ⟨g, 0, none⟩)] encStr (fun ss => ss.Perm (strKeys D)) (Maps.size D) w :=
    AnyZ.keys_gives (ρ := Try.keysS_ren) { Try.keysS with } Fence.wide _ trivial rfl (by omega) g b l.length D _ (Array.getElem?_eq_some_iff.1 (hS.get (b := g) .head)).1 (hS.cell (b := g) (off := 0) .head rfl) hD1
  have cS := AnyZ.sorted_in Try.sortedS Fence.wide 5 trivial trivial trivial trivial rfl (by omega) (sortsS _) (enters_of Try.func38 (by kernel_rfl) rfl) 39 #[.pointer (some ⟨g, 0, none⟩)] trivial (enters_of Try.func39 (by kernel_rfl) rfl) _ _ (by rw [hD2]; unfold maxLen; omega) (by rw [hD2]; omega) _ hseq
  change CallsIn _ _ Try.prog 31 _ _ _ at cS
  refine ((callsIn_wide (n := 5)).1 cS).mono ?_
  rintro e w' ⟨v, ss, rfl, hP, hrow, hnil, hb⟩
  refine ⟨v, rfl, ?_⟩
  have hp := hP.trans hD3
  have e := sortB_eq (l := l.map (·.1)) (ss := ss) (by rw [List.map_map]; exact hp)
  rw [e, show ss.length = l.length by rw [hp.length_eq, List.length_map]] at hrow
  exact (hS.drop).called hb hrow
end
end Go.Proofs.Ytbogmenlhdpjlaa
