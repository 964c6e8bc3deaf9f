/-
  The library's contracts laid at this program: written by the kit's tool lay-plain.
  slices.Sorted(maps.Keys(m)) of maps by names as resources: a row of the keys, sorted. For every map.
  The vault's purses as they are listed: by names, none empty. Plain.
  The vault's List; are names too long? For every vault, every script.
  The vault's scripts: what each act leaves. For every vault and act.
-/
import Derived.Test.YtlmhakmoioogaaaGreatEconSendsM5
import Derived.Test.YtlmhakmoioogaaaGreatEconSendsM8
import Derived.Test.YtlmhakmoioogaaaGreatEconSendsM19
import Derived.Test.YtlmhakmoioogaaaGreatProg
import Derived.Shelf.SlIter.Nil
import Derived.Shelf.SlIterI.Nil
import Derived.Shelf.SortM.Plain
import Derived.Shelf.SortM.SortNone
import Derived.Ground.GgzProg
import Derived.Ground.SlgmProg
import Derived.Sort.Walk0
section
set_option linter.unusedSimpArgs false
set_option linter.unusedVariables false
namespace Go.Proofs.YtlmhakmoioogaaaGreat
open Go.Shelf
def Tryz.keysS_ren : Go.Shelf.Ren := ⟨fun | 7 => 187 | 10 => 229 | n => n, fun | 23 => 173 | 26 => 9 | 3 => 29 | 28 => 115 | 0 => 0 | 27 => 114 | 33 => 178 | 4 => 4 | n => n, fun | n => n⟩
theorem Tryz.keysS : Go.Proofs.SlLaysZ.n7 Tryz.prog Tryz.keysS_ren := {
  mixed := by kernel_rfl
  f7 := ⟨Tryz.f187.name, by decide, Tryz.func187.trans (congrArg some (by kernel_rfl))⟩
  f10 := ⟨Tryz.f229.name, by decide, Tryz.func229.trans (congrArg some (by kernel_rfl))⟩
  t0 := Tryz.underlying0
  a0 := Tryz.isAgg0
  z0 := Tryz.sizeOf0
  v0 := Tryz.zeroValue0
  t4 := Tryz.underlying4
  a4 := Tryz.isAgg4
  z4 := Tryz.sizeOf4
  v4 := Tryz.zeroValue4
  t23 := Tryz.underlying173
  a23 := Tryz.isAgg173
  z23 := Tryz.sizeOf173
  v23 := Tryz.zeroValue173
  t26 := Tryz.underlying9
  a26 := Tryz.isAgg9
  z26 := Tryz.sizeOf9
  v26 := Tryz.zeroValue9
  t27 := Tryz.underlying114
  a27 := Tryz.isAgg114
  z27 := Tryz.sizeOf114
  v27 := Tryz.zeroValue114
  t28 := Tryz.underlying115
  a28 := Tryz.isAgg115
  z28 := Tryz.sizeOf115
  v28 := Tryz.zeroValue115
  t33 := Tryz.underlying178
  a33 := Tryz.isAgg178
  z33 := Tryz.sizeOf178
  v33 := Tryz.zeroValue178 }
def Tryz.sortedS_ren : Go.Shelf.Ren := ⟨fun | 6 => 62 | 8 => 129 | 9 => 130 | 11 => 188 | 13 => 177 | 12 => 189 | 23 => 224 | 24 => 225 | 14 => 230 | 15 => 231 | 16 => 232 | 17 => 233 | 18 => 234 | 19 => 235 | 20 => 236 | 21 => 237 | 22 => 238 | 25 => 257 | 26 => 252 | 27 => 253 | 28 => 258 | 29 => 259 | 30 => 260 | 31 => 273 | n => n, fun | 26 => 9 | 28 => 115 | 24 => 58 | 0 => 0 | 3 => 3 | 37 => 195 | 48 => 295 | 50 => 194 | 4 => 4 | 40 => 289 | 39 => 288 | 45 => 134 | 5 => 5 | 9 => 9 | 51 => 318 | 55 => 262 | 57 => 332 | 58 => 181 | 33 => 178 | n => n, fun | n => n⟩
theorem Tryz.sortedS : Go.Proofs.SlLaysZ.n6 Tryz.prog Tryz.sortedS_ren := {
  mixed := by kernel_rfl
  f6 := ⟨Tryz.f62.name, by decide, Tryz.func62.trans (congrArg some (by kernel_rfl))⟩
  f8 := ⟨Tryz.f129.name, by decide, Tryz.func129.trans (congrArg some (by kernel_rfl))⟩
  f11 := ⟨Tryz.f188.name, by decide, Tryz.func188.trans (congrArg some (by kernel_rfl))⟩
  t0 := Tryz.underlying0
  a0 := Tryz.isAgg0
  z0 := Tryz.sizeOf0
  v0 := Tryz.zeroValue0
  t24 := Tryz.underlying58
  a24 := Tryz.isAgg58
  z24 := Tryz.sizeOf58
  v24 := Tryz.zeroValue58
  t26 := Tryz.underlying9
  a26 := Tryz.isAgg9
  z26 := Tryz.sizeOf9
  v26 := Tryz.zeroValue9
  t28 := Tryz.underlying115
  a28 := Tryz.isAgg115
  z28 := Tryz.sizeOf115
  v28 := Tryz.zeroValue115
  i26 := by kernel_rfl }
def Tryz.sortS_ren : Go.Shelf.Ren := ⟨fun | 6 => 130 | 8 => 177 | 9 => 189 | 19 => 224 | 20 => 225 | 21 => 230 | 22 => 231 | 23 => 232 | 24 => 233 | 25 => 234 | 26 => 235 | 27 => 236 | 28 => 237 | 29 => 238 | 36 => 257 | 31 => 252 | 32 => 253 | 37 => 258 | 38 => 259 | 39 => 260 | 41 => 273 | n => n, fun | 27 => 58 | 29 => 9 | 3 => 3 | 32 => 195 | 26 => 58 | 0 => 0 | 44 => 295 | 46 => 194 | 4 => 4 | 36 => 289 | 35 => 288 | 41 => 134 | 5 => 5 | 9 => 9 | 53 => 318 | 57 => 262 | 63 => 332 | 64 => 181 | n => n, fun | n => n⟩
theorem Tryz.sortS : Go.Proofs.SlLaysM.n6 Tryz.prog Tryz.sortS_ren := {
  mixed := by kernel_rfl
  f6 := ⟨Tryz.f130.name, by decide, Tryz.func130.trans (congrArg some (by kernel_rfl))⟩
  f8 := Tryz.func177.trans (congrArg some (by kernel_rfl))
  f9 := ⟨Tryz.f189.name, by decide, Tryz.func189.trans (congrArg some (by kernel_rfl))⟩
  f19 := Tryz.func224.trans (congrArg some (by kernel_rfl))
  f20 := Tryz.func225.trans (congrArg some (by kernel_rfl))
  f21 := ⟨Tryz.f230.name, by decide, Tryz.func230.trans (congrArg some (by kernel_rfl))⟩
  f22 := ⟨Tryz.f231.name, by decide, Tryz.func231.trans (congrArg some (by kernel_rfl))⟩
  f23 := ⟨Tryz.f232.name, by decide, Tryz.func232.trans (congrArg some (by kernel_rfl))⟩
  f24 := ⟨Tryz.f233.name, by decide, Tryz.func233.trans (congrArg some (by kernel_rfl))⟩
  f25 := ⟨Tryz.f234.name, by decide, Tryz.func234.trans (congrArg some (by kernel_rfl))⟩
  f26 := ⟨Tryz.f235.name, by decide, Tryz.func235.trans (congrArg some (by kernel_rfl))⟩
  f27 := ⟨Tryz.f236.name, by decide, Tryz.func236.trans (congrArg some (by kernel_rfl))⟩
  f28 := ⟨Tryz.f237.name, by decide, Tryz.func237.trans (congrArg some (by kernel_rfl))⟩
  f29 := ⟨Tryz.f238.name, by decide, Tryz.func238.trans (congrArg some (by kernel_rfl))⟩
  f31 := Tryz.func252.trans (congrArg some (by kernel_rfl))
  f32 := Tryz.func253.trans (congrArg some (by kernel_rfl))
  f36 := ⟨Tryz.f257.name, by decide, Tryz.func257.trans (congrArg some (by kernel_rfl))⟩
  f37 := ⟨Tryz.f258.name, by decide, Tryz.func258.trans (congrArg some (by kernel_rfl))⟩
  f38 := ⟨Tryz.f259.name, by decide, Tryz.func259.trans (congrArg some (by kernel_rfl))⟩
  f39 := ⟨Tryz.f260.name, by decide, Tryz.func260.trans (congrArg some (by kernel_rfl))⟩
  f41 := ⟨Tryz.f273.name, by decide, Tryz.func273.trans (congrArg some (by kernel_rfl))⟩
  t0 := Tryz.underlying0
  a0 := Tryz.isAgg0
  z0 := Tryz.sizeOf0
  v0 := Tryz.zeroValue0
  t3 := Tryz.underlying3
  a3 := Tryz.isAgg3
  z3 := Tryz.sizeOf3
  v3 := Tryz.zeroValue3
  t4 := Tryz.underlying4
  a4 := Tryz.isAgg4
  z4 := Tryz.sizeOf4
  v4 := Tryz.zeroValue4
  t5 := Tryz.underlying5
  a5 := Tryz.isAgg5
  z5 := Tryz.sizeOf5
  v5 := Tryz.zeroValue5
  t9 := Tryz.underlying9
  a9 := Tryz.isAgg9
  z9 := Tryz.sizeOf9
  v9 := Tryz.zeroValue9
  t26 := Tryz.underlying58
  a26 := Tryz.isAgg58
  z26 := Tryz.sizeOf58
  v26 := Tryz.zeroValue58
  t27 := Tryz.underlying58
  a27 := Tryz.isAgg58
  z27 := Tryz.sizeOf58
  v27 := Tryz.zeroValue58
  t29 := Tryz.underlying9
  a29 := Tryz.isAgg9
  z29 := Tryz.sizeOf9
  v29 := Tryz.zeroValue9
  t32 := Tryz.underlying195
  a32 := Tryz.isAgg195
  z32 := Tryz.sizeOf195
  v32 := Tryz.zeroValue195
  t35 := Tryz.underlying288
  a35 := Tryz.isAgg288
  z35 := Tryz.sizeOf288
  v35 := Tryz.zeroValue288
  t36 := Tryz.underlying289
  a36 := Tryz.isAgg289
  z36 := Tryz.sizeOf289
  v36 := Tryz.zeroValue289
  t41 := Tryz.underlying134
  a41 := Tryz.isAgg134
  z41 := Tryz.sizeOf134
  v41 := Tryz.zeroValue134
  t44 := Tryz.underlying295
  a44 := Tryz.isAgg295
  z44 := Tryz.sizeOf295
  v44 := Tryz.zeroValue295
  t46 := Tryz.underlying194
  a46 := Tryz.isAgg194
  z46 := Tryz.sizeOf194
  v46 := Tryz.zeroValue194
  t53 := Tryz.underlying318
  a53 := Tryz.isAgg318
  z53 := Tryz.sizeOf318
  v53 := Tryz.zeroValue318
  t57 := Tryz.underlying262
  a57 := Tryz.isAgg262
  z57 := Tryz.sizeOf262
  v57 := Tryz.zeroValue262
  t63 := Tryz.underlying332
  a63 := Tryz.isAgg332
  z63 := Tryz.sizeOf332
  v63 := Tryz.zeroValue332
  t64 := Tryz.underlying181
  a64 := Tryz.isAgg181
  z64 := Tryz.sizeOf181
  v64 := Tryz.zeroValue181 }
end Go.Proofs.YtlmhakmoioogaaaGreat
end
section
set_option linter.unusedSimpArgs false
set_option linter.unusedVariables false
namespace Go.Proofs.YtlmhakmoioogaaaGreat
open Go.RowKit Go.Maps Go.Sort Go.Shelf Go.Sl
/-- The keys, sorted. -/
def leB (x y : ByteArray) : Bool := decide (x.data.toList ≤ y.data.toList)
def sortB (l : List ByteArray) : List ByteArray := l.mergeSort leB
theorem sortB_perm (l : List ByteArray) : (sortB l).Perm l := List.mergeSort_perm _ _
theorem sortsS (m : Nat) : AnyZ.SortsIn Tryz.prog Tryz.sortedS_ren Fence.wide m :=
  ⟨fun blk off cap ss W hH hblk hsz => callsIn_wide.2 (AnyM.slices_Sort_string Tryz.sortS blk off cap ss W hH hblk hsz),
   fun p cap W => callsIn_wide.2 (AnyM.slices_Sort_string_none Tryz.sortS p cap W)⟩
theorem keysS_call (mb : Option Nat) (W w : World) (L : List HP) (hS : St W L w) :
    Calls Tryz.prog 187 #[.map mb] w fun e w' => ∃ g, e = .returned (.func (.func 229) #[] #[.pointer (some ⟨g, 0, none⟩)]) ∧ St W (blk g [.map mb] 173 :: L) w' := by
  have cK : CallsIn Fence.wide 5 Tryz.prog 187 #[.map mb] w fun e w' => e = .returned (.func (.func 229) #[] #[.pointer (some ⟨w.heap.size, 0, none⟩)]) ∧ w' = w.alloc (.cells #[.map mb] 173) := AnyZ.keys_in Tryz.keysS Fence.wide 5 trivial rfl mb w
  refine ((callsIn_wide (n := 5)).1 cK).mono ?_
  rintro e w' ⟨rfl, rfl⟩
  exact ⟨_, rfl, hS.alloc _⟩
section
variable {ν : Type} {ev : ν → Value} {W w : World} {L : List HP} {b g : Nat}
theorem ownsAS {l : List (ByteArray × ν)} (h : St W (amap eS ev b l :: L) w) (hwf : ∀ x ∈ l, x.1.size ≤ maxLen) (hl : l.length ≤ maxLen) :
    ∃ D : DataW Unit, w.ownsMap Tryz.prog 9 R1 b l.length D ∧ Maps.size D = l.length ∧ (strKeys D).Perm (l.map fun x => x.1.data.toList) := by
  obtain ⟨ps, c, h1, h2, h3⟩ := amapOpen h
  have hll : (ps.map (evs ev)).length = l.length := by have := h1.length_eq; rwa [List.length_map] at this ⊢
  have hk : (ps.map (evs ev)).map (·.1) = (ps.map prj).map (·.1) := by rw [evs_keys, prj_keys]
  have hp : ((ps.map (evs ev)).map (·.1)).Perm (l.map (·.1)) := by rw [hk]; exact h1.map _
  obtain ⟨D, hD1, hD2, hD3⟩ := ownsS (P := Tryz.prog) (K := 9) (kf := fun x : ByteArray × Value × Nat => x.1) h3 Tryz.underlying9 (fun x => rfl) (fun x hx => by
    have hx1 : x.1 ∈ l.map (·.1) := hp.mem_iff.1 (List.mem_map_of_mem hx)
    obtain ⟨y, hy, hxy⟩ := List.mem_map.1 hx1
    rw [← hxy]; exact hwf y hy) (by unfold Stamps; rw [List.map_map, List.map_map]; exact h2.st) (fun x hx => by obtain ⟨y, hy, rfl⟩ := List.mem_map.1 hx; exact h2.old y hy) (by rw [evs_keys]; exact h2.ks) (by omega)
  rw [hll] at hD1 hD2
  have e1 : (ps.map (evs ev)).map (fun x => x.1.data.toList) = ((ps.map (evs ev)).map (·.1)).map (fun k => k.data.toList) := by simp only [List.map_map]; rfl
  have e2 : l.map (fun x => x.1.data.toList) = (l.map (·.1)).map (fun k => k.data.toList) := by rw [List.map_map]; rfl
  refine ⟨D, hD1, hD2, hD3.trans ?_⟩
  rw [e1, e2]
  exact hp.map _
theorem leB_trans (a b c : ByteArray) (h1 : leB a b = true) (h2 : leB b c = true) : leB a c = true := by
  unfold leB at *
  simp only [decide_eq_true_eq] at *
  exact List.le_trans h1 h2
theorem leB_total (a b : ByteArray) : (leB a b || leB b a) = true := by
  unfold leB
  simp only [Bool.or_eq_true, decide_eq_true_eq]
  exact List.le_total _ _
theorem sortB_pairwise (l : List ByteArray) : (sortB l).Pairwise fun x y => leB x y = true := List.pairwise_mergeSort leB_trans leB_total l
theorem sortB_eq {l : List ByteArray} {ss : List (List UInt8)} (h : ss.Perm (l.map fun k => k.data.toList)) : (ss.mergeSort (fun x y => decide (x ≤ y))).map encStr = (sortB l).map eS := by
  have e : ss.mergeSort (fun x y => decide (x ≤ y)) = (sortB l).map fun k => k.data.toList := by
    refine List.Perm.eq_of_pairwise (le := fun a b => decide (a ≤ b) = true) (fun a b _ _ h1 h2 => ?_) (List.pairwise_mergeSort ?_ ?_ _) ?_ (((List.mergeSort_perm _ _).trans h).trans ((sortB_perm l).map _).symm)
    · simp only [decide_eq_true_eq] at h1 h2; exact List.le_antisymm h1 h2
    · intro a b c h1 h2; simp only [decide_eq_true_eq] at *; exact List.le_trans h1 h2
    · intro a b; simp only [Bool.or_eq_true, decide_eq_true_eq]; exact List.le_total _ _
    · exact List.pairwise_map.2 (sortB_pairwise l)
  rw [e, List.map_map]
  refine List.map_congr_left fun k _ => ?_
  show Value.string ⟨k.data.toList.toArray⟩ = Value.string k
  rfl
set_option maxHeartbeats 1000000 in
theorem sortedS_call {l : List (ByteArray × ν)} (hwf : ∀ x ∈ l, x.1.size ≤ maxLen) (hl : l.length ≤ 1000000000) (hS : St W (blk g [.map (some b)] 173 :: amap eS ev b l :: L) w) :
    Calls Tryz.prog 62 #[.func (.func 229) #[] #[.pointer (some ⟨g, 0, none⟩)]] w fun e w' => ∃ v, e = .returned v ∧ St W (row v 1 9 l.length ((sortB (l.map (·.1))).map eS) :: amap eS ev b l :: L) w' := by
  obtain ⟨D, hD1, hD2, hD3⟩ := ownsAS hS.drop hwf (by unfold maxLen; omega)
  have hseq : SeqGives Fence.wide 2 Tryz.prog 229 #[.pointer (some ⟨g, 0, none⟩)] encStr (fun ss => ss.Perm (strKeys D)) (Maps.size D) w :=
    AnyZ.keys_gives (ρ := Tryz.keysS_ren) { Tryz.keysS with } Fence.wide _ trivial rfl (by omega) g b l.length D _ (Array.getElem?_eq_some_iff.1 (hS.get (b := g) .head)).1 (hS.cell (b := g) (off := 0) .head rfl) hD1
  have cS := AnyZ.sorted_in Tryz.sortedS Fence.wide 5 trivial trivial trivial trivial rfl (by omega) (sortsS _) (enters_of Tryz.func130 (by kernel_rfl) rfl) 229 #[.pointer (some ⟨g, 0, none⟩)] trivial (enters_of Tryz.func229 (by kernel_rfl) rfl) _ _ (by rw [hD2]; unfold maxLen; omega) (by rw [hD2]; omega) _ hseq
  change CallsIn _ _ Tryz.prog 62 _ _ _ at cS
  refine ((callsIn_wide (n := 5)).1 cS).mono ?_
  rintro e w' ⟨v, ss, rfl, hP, hrow, hnil, hb⟩
  refine ⟨v, rfl, ?_⟩
  have hp := hP.trans hD3
  have e := sortB_eq (l := l.map (·.1)) (ss := ss) (by rw [List.map_map]; exact hp)
  rw [e, show ss.length = l.length by rw [hp.length_eq, List.length_map]] at hrow
  exact (hS.drop).called hb hrow
end
end Go.Proofs.YtlmhakmoioogaaaGreat
end
section
set_option linter.unusedSimpArgs false
set_option linter.unusedVariables false
namespace Go.Proofs.YtlmhakmoioogaaaGreat
open Go.RowKit Go.Sl
/-- Purses that are listed: no name twice, none empty, so many at most. -/
structure PsW (p : Ps) (N : Nat) : Prop where
  nd : (p.map (·.1)).Nodup
  nz : ∀ x ∈ p, isZ x.2 = false
  who : ∀ x ∈ p, whoB x.1 = true
  len : p.length ≤ N
theorem psW_nil (N : Nat) : PsW [] N := ⟨List.nodup_nil, fun _ h => (by cases h), fun _ h => (by cases h), Nat.zero_le _⟩
theorem psW_mono {p : Ps} {N M : Nat} (h : PsW p N) (hm : N ≤ M) : PsW p M := ⟨h.nd, h.nz, h.who, Nat.le_trans h.len hm⟩
theorem mem_delP {p : Ps} {k : ByteArray} {x : ByteArray × It} (hx : x ∈ delL p k) : x ∈ p ∧ x.1 ≠ k := by
  have h := List.mem_filter.1 hx
  exact ⟨h.1, by simpa using h.2⟩
theorem nodup_delP {p : Ps} (h : (p.map (·.1)).Nodup) (k : ByteArray) : ((delL p k).map (·.1)).Nodup := h.sublist (List.filter_sublist.map _)
theorem psW_lay {p : Ps} {N : Nat} (h : PsW p N) {k : ByteArray} (hk : whoB k = true) (i : It) : PsW (layP p k i) (N + 1) := by
  have hnd := nodup_delP h.nd k
  have hl : (delL p k).length ≤ N := Nat.le_trans (List.length_filter_le _ _) h.len
  unfold layP
  split
  · exact ⟨hnd, fun x hx => h.nz x (mem_delP hx).1, fun x hx => h.who x (mem_delP hx).1, by omega⟩
  · rename_i hz
    refine ⟨?_, ?_, ?_, by simpa using hl⟩
    · rw [List.map_cons, List.nodup_cons]
      refine ⟨fun hm => ?_, hnd⟩
      obtain ⟨x, hx, e⟩ := List.mem_map.1 hm
      exact (mem_delP hx).2 e
    · intro x hx
      rcases List.mem_cons.1 hx with rfl | hx
      · simpa using hz
      · exact h.nz x (mem_delP hx).1
    · intro x hx
      rcases List.mem_cons.1 hx with rfl | hx
      · exact hk
      · exact h.who x (mem_delP hx).1
theorem may_who {o : Ord} (h : MayP o) : whoB o.who = true := by
  unfold whoB
  simp
  exact ⟨h.who0, h.who1⟩
theorem whoB_le {k : ByteArray} (h : whoB k = true) : k.size ≤ 16 := by unfold whoB at h; simp at h; omega
section
variable {p : Ps} {N : Nat}
theorem psW_give (h : PsW p N) {who : ByteArray} (hk : whoB who = true) (k n : Int) : PsW (giveP p who k n) (N + 1) := psW_lay h hk _
theorem psW_put (h : PsW p N) (k : ByteArray) (i : It) : PsW (putP p k i) (N + 1) := by
  unfold putP
  split
  · rename_i hc
    split
    · exact psW_lay h hc.1 _
    · exact psW_mono h (by omega)
  · exact psW_mono h (by omega)
theorem psW_take (h : PsW p N) (k : ByteArray) (i : It) : PsW (takeP p k i) (N + 1) := by
  unfold takeP
  split
  · rename_i hc
    split
    · exact psW_lay h hc.1 _
    · exact psW_mono h (by omega)
  · exact psW_mono h (by omega)
theorem psW_back (h : PsW p N) {who : ByteArray} (hk : whoB who = true) (i : It) : PsW (backP p who i) (N + 4) :=
  psW_give (psW_give (psW_give (psW_give h hk _ _) hk _ _) hk _ _) hk _ _
theorem psW_pay (h : PsW p N) {t : Trd} (ht : whoB t.buyer = true ∧ whoB t.seller = true) : PsW (payT p t) (N + 3) :=
  psW_give (psW_give (psW_give h ht.1 _ _) ht.1 _ _) ht.2 _ _
end
theorem psW_pays : ∀ (ts : List Trd) {p : Ps} {N : Nat}, PsW p N → (∀ t ∈ ts, whoB t.buyer = true ∧ whoB t.seller = true) → PsW (ts.foldl payT p) (N + 3 * ts.length)
  | [], _, _, h, _ => h
  | t :: ts, _, _, h, ht => psW_mono (psW_pays ts (psW_pay h (ht t (List.mem_cons_self ..))) fun x hx => ht x (List.mem_cons_of_mem _ hx)) (by rw [List.length_cons]; omega)
theorem trades_len : ∀ (f : Nat) (o : Ord) (L : List Ord) (ts : List Trd), (refLoop f o L ts).2.2.length ≤ ts.length + f
  | 0, o, L, ts => by rw [refLoop]; exact Nat.le_refl _
  | f + 1, o, L, ts => by
    rw [refLoop]
    split
    · split
      · show ts.length ≤ _; omega
      · refine Nat.le_trans (trades_len f _ _ _) ?_
        rw [List.length_append, List.length_singleton]
        omega
    · show ts.length ≤ _; omega
theorem cutR_who {L : List Ord} {k : Nat} {c : Int} (hk : k < L.length) (h : ∀ x ∈ L, whoB x.who = true) : ∀ x ∈ cutR L k c, whoB x.who = true := by
  unfold cutR
  split
  · exact fun x hx => h x (List.mem_of_mem_eraseIdx hx)
  · intro x hxm
    rcases List.mem_or_eq_of_mem_set hxm with hx' | rfl
    · exact h x hx'
    · exact h (at' L k) (at'_mem hk)
theorem trades_who : ∀ (f : Nat) (o : Ord) (L : List Ord) (ts : List Trd), (∀ x ∈ L, whoB x.who = true) → whoB o.who = true → (∀ t ∈ ts, whoB t.buyer = true ∧ whoB t.seller = true) → ∀ t ∈ (refLoop f o L ts).2.2, whoB t.buyer = true ∧ whoB t.seller = true
  | 0, o, L, ts, _, _, h => h
  | f + 1, o, L, ts, hL, ho, h => by
    rw [refLoop]
    by_cases h0 : 0 < o.cnt
    · rw [if_pos h0]
      cases hb : bestTo o L L.length with
      | none => exact h
      | some k =>
        obtain ⟨hk, hm, _⟩ := best_some hb
        have hx := hL _ (at'_mem hk)
        refine trades_who f _ _ _ (cutR_who hk hL) ho ?_
        intro t ht
        rcases List.mem_append.1 ht with ht | ht
        · exact h t ht
        · rw [List.mem_singleton.1 ht]
          unfold tradeR
          split
          · exact ⟨ho, hx⟩
          · exact ⟨hx, ho⟩
    · rw [if_neg h0]
      exact h
theorem ordV_w {V : Vs} {o : Ord} {N : Nat} (h : PsW V.ps N) (hL : ∀ x ∈ V.L, MayP x) (hl : V.L.length ≤ 32) : PsW (ordV V o).2.2.ps (N + 100) := by
  unfold ordV
  split
  · exact psW_mono h (by omega)
  · rename_i h1
    have hm := mayB_true.1 (show mayB { o with id := 1 } = true by simpa [may1] using h1)
    split
    · exact psW_mono h (by omega)
    · split
      · have hlen := trades_len (V.L.length + 1) { o with id := V.n } V.L []
        refine psW_mono (psW_pays _ (psW_take h _ _) (trades_who _ _ _ _ (fun x hx => may_who (hL x hx)) (by have h9 := may_who hm; exact h9) fun t ht => (by cases ht))) ?_
        unfold runT
        rw [List.length_nil] at hlen
        omega
      · exact psW_mono h (by omega)
theorem bytes_ext {a b : ByteArray} (h : a.data.toList = b.data.toList) : a = b := by
  obtain ⟨⟨a⟩⟩ := a
  obtain ⟨⟨b⟩⟩ := b
  simp at h
  rw [h]
theorem canV_w {V : Vs} {who : ByteArray} {id : Int} {N : Nat} (h : PsW V.ps N) (hL : ∀ x ∈ V.L, MayP x) : PsW (canV V who id).2.ps (N + 100) := by
  unfold canV
  split
  · rename_i hh
    obtain ⟨x, hx, hx2⟩ := List.any_eq_true.1 hh
    unfold hitC at hx2
    have e : x.who = who := by
      have e1 := (Bool.and_eq_true _ _ ▸ hx2).2
      rw [Lib.toList_data, Lib.toList_data] at e1
      exact bytes_ext (by simpa using e1)
    exact psW_mono (psW_back h (e ▸ may_who (hL x hx)) _) (by omega)
  · exact psW_mono h (by omega)
/-- A purse that is listed. -/
structure Hd where
  who : ByteArray
  has : It
def Hd.cells (h : Hd) : List Value := .string h.who :: h.has.cells
theorem Hd.len (h : Hd) : h.cells.length = 5 := rfl
def kL (p : Ps) : List ByteArray := sortB (p.map (·.1))
def hdL (p : Ps) : List Hd := (kL p).map fun k => ⟨k, purseA p k⟩
theorem kL_len (p : Ps) : (kL p).length = p.length := by unfold kL; rw [(sortB_perm _).length_eq, List.length_map]
theorem hdL_len (p : Ps) : (hdL p).length = p.length := by unfold hdL; rw [List.length_map, kL_len]
section
variable {p : Ps} {N : Nat}
end
end Go.Proofs.YtlmhakmoioogaaaGreat
end
section
set_option linter.unusedSimpArgs false
set_option linter.unusedVariables false
namespace Go.Proofs.YtlmhakmoioogaaaGreat
open Go.RowKit Go.Sl
def HvR (W : World) (L : List HP) (n : Nat) (v : Value) (w : World) : Prop := ∃ i : Nat, v = .int .i64 i ∧ i ≤ n ∧ i ≤ 100 ∧ St W L w
/-- Purses as they are listed. -/
abbrev hdR (v : Value) (l : List Hd) : HP := row v 5 189 l.length (l.flatMap Hd.cells)
def LhR (W : World) (F : List HP) (p : Ps) (v5 v17 : Value) (w : World) : Prop :=
  ∃ k : Nat, v17 = .int .i64 k ∧ k ≤ p.length ∧ St W (row v5 5 189 k (((hdL p).take k).flatMap Hd.cells) :: F) w
/-- What a book's List yields. -/
def liR (bb : Nat) (L : List Ord) (n : Int) (v : Value) : HP := fun f => ∃ (a : Option Addr) (c : Nat), v = .slice a L.length c ∧ sats [bookL bb L n, pileR (.slice a L.length c) L] f
section
variable {W w : World} {bb : Nat} {L : List Ord} {n : Int} {v : Value} {R : List HP}
theorem liOpen (h : St W (liR bb L n v :: R) w) : ∃ a c, v = .slice a L.length c ∧ St W (bookL bb L n :: pileR (.slice a L.length c) L :: R) w := by
  obtain ⟨a, h⟩ := St.ex h
  obtain ⟨c, h⟩ := St.ex h
  obtain ⟨h1, h⟩ := St.and h
  exact ⟨a, c, h1, (St.split (St.split h).swap).swap.drop.swap⟩
theorem liShut {a : Option Addr} {c : Nat} (hv : v = .slice a L.length c) (h : St W (bookL bb L n :: pileR (.slice a L.length c) L :: R) w) : St W (liR bb L n v :: R) w := by
  refine St.mkEx a (St.mkEx c (St.mkAnd hv ?_))
  refine St.join ?_
  refine St.swap (St.imp h.swap ?_)
  intro f hf
  exact ⟨fun _ => true, hf, trivial⟩
theorem listF (hS : St W (bookL bb L n :: R) w) :
    Calls Tryz.prog 172 #[.pointer (some ⟨bb, 0, none⟩)] w fun e w' => ∃ v, e = .returned v ∧ St W (liR bb L n v :: R) w' := by
  refine (listL_spec hS).mono ?_
  rintro e w' ⟨a, c, rfl, hS⟩
  exact ⟨_, rfl, liShut rfl hS⟩
end
set_option maxRecDepth 100000 in
set_option maxHeartbeats 4000000 in
theorem listV_spec (vb mb bb : Nat) (p : Ps) (L : List Ord) (n : Int) {N : Nat} (hw : PsW p N) (hN : N ≤ 1000000000) (W w : World) (R : List HP) (hS : St W (vaultL vb mb bb p L n R) w) :
    Calls Tryz.prog 124 #[.pointer (some ⟨vb, 0, none⟩)] w fun e w' => ∃ a c a2 c2, e = .returned (.tuple #[.slice a (hdL p).length c, .slice a2 L.length c2, .int .i64 n]) ∧
      St W (vaultL vb mb bb p L n (hdR (.slice a (hdL p).length c) (hdL p) :: pileR (.slice a2 L.length c2) L :: R)) w' := by
  have hlen := hw.len
  have Hw := Lib.hid hw
  clear hw
  go_enter Tryz.func124, Tryz.ntmps124
  go_wp2_with (first | (go_at_call 187; refine (keysS_call (some mb) W _ _ (hS.sel (L' := amap eS eP mb p :: blk vb _ _ :: bookL bb L n :: R) (by exact selS))).mono ?_; clear hS; rintro e w ⟨g, rfl, hS⟩) | (go_at_call 62; refine (sortedS_call (fun x hx => by have := whoB_le (Hw.out.who x hx); unfold maxLen; omega) (by omega) hS).mono ?_; clear hS; rintro e w ⟨v, rfl, hS⟩; (have hv := hS.rowVal; obtain ⟨sa, sc, rfl⟩ := hv)) | (refine zl1 hS ?_) | (refine zlN hS ?_) | (refine zs1 hS ?_; clear hS; intro w hS) | (refine zsN hS ?_; clear hS; intro w hS) | (refine zbx hS ?_; clear hS; intro b w hS) | (refine zal hS ?_; clear hS; intro b w hS))
  have hS1 := hS.rowNil (k := 5) (T := 189)
  clear hS
  have hS := hS1
  clear hS1
  go_loopw [5, 17] (fun v5 v17 wr => LhR W (row (.slice sa p.length sc) 1 9 p.length ((sortB (p.map (·.1))).map eS) :: amap eS eP mb p :: blk vb [.map (some mb), .pointer (some ⟨bb, 0, none⟩), .int .i64 n] 176 :: bookL bb L n :: R) p v5 v17 wr) (fun _ v17 _ => p.length - (intOf v17).toNat)
  case atStart => exact ⟨0, rfl, Nat.zero_le _, hS⟩
  case round =>
    clear hS
    obtain ⟨k, rfl, hkl, hS⟩ := hrel
    have hlk := kL_len p
    have hlh := hdL_len p
    by_cases hkn : k = p.length
    · have e1 : (hdL p).take k = hdL p := List.take_of_length_le (by omega)
      rw [e1] at hS
      have e2 : k = (hdL p).length := by omega
      have hd1 : decide (k < p.length) = false := by simp; omega
      clear e1 hkl hlk
      clear hkn hlh
      subst e2
      go_wp2_with (first | (refine zl1 hS ?_) | (refine zlN hS ?_) | (refine zs1 hS ?_; clear hS; intro w hS) | (refine zsN hS ?_; clear hS; intro w hS) | (refine zbx hS ?_; clear hS; intro b w hS) | (refine zal hS ?_; clear hS; intro b w hS))
      have hS := hS.sel (L' := bookL bb L n :: blk vb _ _ :: amap eS eP mb p :: row u5 5 _ _ _ :: R) (by exact selS)
      refine wp_region_flow3 [0, 0, 2, 6, 14, 30, 0, 64, 192, 448, 63, 1087, 4095] (fun i => i == 5) (fun _ => none) [⟨some 5, none, fun nd => liR bb L n (nd 5)⟩] [some 5, none, none, none] (by kernel_rfl) (by kernel_rfl) rfl hS (CongOk.cons (fun nd nd' h => by dsimp only; rw [h 5 rfl rfl]) CongOk.nil) ?_
      intro nd
      iterate 2 (refine ch_pure rfl (by kernel_rfl) rfl rfl ?_; intro K hK; go_big_quiet_op; go_big_quiet_on)
      (refine zcn ?_)
      (refine ch_pure rfl (by kernel_rfl) rfl rfl ?_; intro K hK; go_big_quiet_op; go_big_quiet_on)
      (refine zc1 ?_)
      (apply ch_callN; rfl; rfl; (with_reducible rfl); decide +kernel; (focus (simp only [fD, List.map_cons, List.map_nil, Act.eval, fE, fF, fG, fH, Option.getD_some]; try rfl)); (intro _; rfl); (intro F w hS; exact listF hS); (refine frS ?_))
      (refine ch_pure rfl (by kernel_rfl) rfl rfl ?_; intro K hK; go_big_quiet_op; go_big_quiet_on)
      (refine zcn ?_)
      (refine ch_pure rfl (by kernel_rfl) rfl rfl ?_; intro K hK; go_big_quiet_op; go_big_quiet_on)
      (refine zc1 ?_)
      iterate 3 (refine ch_pure rfl (by kernel_rfl) rfl rfl ?_; intro K hK; go_big_quiet_op; go_big_quiet_on)
      refine ch_end ?_
      clear hS
      intro w hS
      have hS2 : St W [liR bb L n (nd 5), blk vb _ _, amap eS eP mb p, row u5 5 _ _ _, sats R] w := hS
      clear hS
      have hS := hS2.unpack [_, _, _, _]
      clear hS2
      simp only [List.cons_append, List.nil_append] at hS
      generalize nd 5 = v5 at *
      obtain ⟨a2, c2, rfl, hS5⟩ := liOpen hS
      clear hS
      have hv := hS5.drop.drop.drop.drop.rowVal
      obtain ⟨a, c, rfl⟩ := hv
      clear hS
      have hS := hS5
      clear hS5
      go_wp2_with fail
      go_ret3
      exact ⟨a, c, a2, c2, rfl, hS.sel (by exact selS)⟩
    · have hk1 : k < p.length := by omega
      have hks : k < (hdL p).length := by omega
      have hkk : k < (kL p).length := by omega
      have hx1 : ((sortB (p.map (·.1))).map eS)[k]? = some (.string (kL p)[k]) := by
        rw [List.getElem?_map]
        show ((kL p)[k]?).map eS = _
        rw [List.getElem?_eq_getElem hkk]; rfl
      have htk : ((hdL p).take (k + 1)).flatMap Hd.cells = ((hdL p).take k).flatMap Hd.cells ++ (Hd.mk (kL p)[k] (purseA p (kL p)[k])).cells := by
        rw [List.take_succ_eq_append_getElem hks, List.flatMap_append]
        simp [hdL]
      obtain ⟨⟨g2, rfl⟩, hcap, hcn⟩ := St.rowAddr hS.drop (by omega)
      obtain ⟨x, hx⟩ : ∃ x, purseA p (kL p)[k] = x := ⟨_, rfl⟩
      rw [hx] at htk
      generalize (kL p)[k] = key at hx htk hx1
      obtain ⟨x0, x1, x2, x3⟩ := x
      have Hx := Lib.hid hx
      have Htk := Lib.hid htk
      have HX := Lib.hid hx1
      clear hx htk hx1 hkn hkl hlk hlh hks hkk
      go_wp2_with (first | (refine zl1 hS ?_ (hc := by exact Cell.there (Cell.row (by omega) HX.out))) | ((with_reducible apply wl_alookU (ek := eS) (ev := eP) (k := key) it0 ⟨x0, x1, x2, x3⟩ hS); (with_reducible rfl); rfl; rfl; rfl; (exact takeS); exact mP; exact kS; exact zP; rfl; exact Hx.out; (simp only [Act.put, fA, fB, fC, Nat.reduceAdd, eP, It.cells])) | (refine zbs hS ?_; clear hS; intro bS w hS) | (refine zap hS ?_ (h63 := by unfold maxLen; omega) (hb := by omega); clear hS; intro v w hS) | (refine zl1 hS ?_) | (refine zlN hS ?_) | (refine zs1 hS ?_; clear hS; intro w hS) | (refine zsN hS ?_; clear hS; intro w hS) | (refine zbx hS ?_; clear hS; intro b w hS) | (refine zal hS ?_; clear hS; intro b w hS))
      go_roundw
      case rel =>
        refine ⟨k + 1, rfl, hk1, ?_⟩
        rw [Htk.out]
        have h0 : St W (row v 5 189 (k + 1) (((hdL p).take k).flatMap Hd.cells ++ (Hd.mk key ⟨x0, x1, x2, x3⟩).cells) :: _) w := hS
        exact h0.sel (by exact selS)
      case measure => simp [intOf]; omega
end Go.Proofs.YtlmhakmoioogaaaGreat
end
section
set_option linter.unusedSimpArgs false
set_option linter.unusedVariables false
namespace Go.Sl
open Go.RowKit
section
variable {P : Program} {W : World} {L : List HP} {ops : Array Oper} {Q : Act → Prop} {a : Act} {rest : List Oper} {o : Oper}
theorem wq_eqA {t t2 : TypeId} {x y : Operand} {xs ys : Array Value} {r : Bool} (ho : o.op = .binOp .eql t x y t2) (hg : Region.wanted o (yielded ops a.tmps) = true) (hx : a.eval x = .agg xs) (hy : a.eval y = .agg ys) (hm : P.eqGuardType P.depth t = false) (hr : ∀ w : World, (Op.equalIn 10000 t (.agg xs) (.agg ys)).run P w = .ok r w)
    (h : wpQuiet P ops (St W L) Q rest (a.put o.dst (.bool r))) : wpQuiet P ops (St W L) Q (o :: rest) a :=
  wq_val hg (fun w _ => by
    unfold execOp
    simp [ho, hx, hy, run_eqGuard_agg w .eql t x y xs ys hm, run_eql_struct, hr]) h
end
end Go.Sl
namespace Go.Proofs.YtlmhakmoioogaaaGreat
open Go.RowKit Go.Sl
/-- What holds of purses and the next ID behind i acts. -/
structure VOk (p : Ps) (n : Int) (i : Nat) : Prop where
  ok : PsOk p
  w : PsW p (100 * i)
  n0 : 1 ≤ n
  n1 : n ≤ 1 + i
theorem vOk0 : VOk [] 1 0 := ⟨psOk_nil, psW_nil _, by decide, by decide⟩
theorem VOk.on {p : Ps} {n : Int} {i : Nat} (h : VOk p n i) : VOk p n (i + 1) := ⟨h.ok, psW_mono h.w (by omega), h.n0, by have := h.n1; omega⟩
section
variable (vb mb bb : Nat) {p : Ps} {L : List Ord} {n : Int} {i : Nat} (W w : World) (R : List HP)
theorem put_st (h : VOk p n i) (who : ByteArray) (it : It) (hS : St W (vaultL vb mb bb p L n R) w) :
    Calls Tryz.prog 102 #[.pointer (some ⟨vb, 0, none⟩), .string who, .agg it.cells.toArray] w fun e w' => e = .returned (.int .i64 (putE p who it)) ∧ VOk (putP p who it) n (i + 1) ∧ St W (vaultL vb mb bb (putP p who it) L n R) w' := by
  refine (put_spec vb mb p who _ _ it W w _ hS).mono ?_
  rintro e w' ⟨rfl, hS⟩
  exact ⟨rfl, ⟨psOk_put h.ok _ _, psW_mono (psW_put h.w _ _) (by omega), h.n0, by have := h.n1; omega⟩, hS⟩
theorem take_st (h : VOk p n i) (who : ByteArray) (it : It) (hS : St W (vaultL vb mb bb p L n R) w) :
    Calls Tryz.prog 104 #[.pointer (some ⟨vb, 0, none⟩), .string who, .agg it.cells.toArray] w fun e w' => e = .returned (.int .i64 (takeE p who it)) ∧ VOk (takeP p who it) n (i + 1) ∧ St W (vaultL vb mb bb (takeP p who it) L n R) w' := by
  refine (take_spec vb mb p who _ _ it W w _ hS).mono ?_
  rintro e w' ⟨rfl, hS⟩
  exact ⟨rfl, ⟨psOk_take h.ok _ _, psW_mono (psW_take h.w _ _) (by omega), h.n0, by have := h.n1; omega⟩, hS⟩
theorem ord_all (h : VOk p n i) (o : Ord) (hS : St W (vaultL vb mb bb p L n R) w) :
    Calls Tryz.prog 105 #[.pointer (some ⟨vb, 0, none⟩), .agg o.cells.toArray] w fun e w' => e = .returned (.tuple #[.int .i64 (ordV ⟨p, L, n⟩ o).1, .int .i64 (ordV ⟨p, L, n⟩ o).2.1]) ∧
      VOk (ordV ⟨p, L, n⟩ o).2.2.ps (ordV ⟨p, L, n⟩ o).2.2.n (i + 1) ∧ St W (vaultL vb mb bb (ordV ⟨p, L, n⟩ o).2.2.ps (ordV ⟨p, L, n⟩ o).2.2.L (ordV ⟨p, L, n⟩ o).2.2.n R) w' := by
  have hll := bookL_len hS.drop.drop
  have hmay : ∀ x ∈ L, MayP x := fun x hx => (bookL_each hS.drop.drop x hx).1
  refine (ordV_spec vb mb bb ⟨p, L, n⟩ o h.ok h.n0 W w R hS).mono ?_
  rintro e w' ⟨rfl, hS⟩
  have h1 := ordV_ok (V := ⟨p, L, n⟩) (o := o) h.ok h.n0 hmay
  have h2 := ordV_w (V := ⟨p, L, n⟩) (o := o) h.w hmay hll
  have h3 : (ordV ⟨p, L, n⟩ o).2.2.n ≤ n + 1 := by
    unfold ordV
    repeat' split
    all_goals dsimp only
    all_goals omega
  exact ⟨rfl, ⟨h1.1, psW_mono h2 (by omega), h1.2, by have := h.n1; omega⟩, hS⟩
theorem can_all (h : VOk p n i) (who : ByteArray) (id : Int) (hS : St W (vaultL vb mb bb p L n R) w) :
    Calls Tryz.prog 106 #[.pointer (some ⟨vb, 0, none⟩), .string who, .int .i64 id] w fun e w' => e = .returned (.int .i64 (canV ⟨p, L, n⟩ who id).1) ∧
      VOk (canV ⟨p, L, n⟩ who id).2.ps n (i + 1) ∧ St W (vaultL vb mb bb (canV ⟨p, L, n⟩ who id).2.ps (canV ⟨p, L, n⟩ who id).2.L n R) w' := by
  have hmay : ∀ x ∈ L, MayP x := fun x hx => (bookL_each hS.drop.drop x hx).1
  refine (canV_spec vb mb bb ⟨p, L, n⟩ who id h.ok W w R hS).mono ?_
  rintro e w' ⟨rfl, hS⟩
  have h1 := canV_ok (V := ⟨p, L, n⟩) (who := who) (id := id) h.ok h.n0 hmay
  have h2 := canV_w (V := ⟨p, L, n⟩) (who := who) (id := id) h.w hmay
  have h3 : (canV ⟨p, L, n⟩ who id).2.n = n := by
    unfold canV
    split <;> rfl
  rw [h3] at hS
  exact ⟨rfl, ⟨h1.1, psW_mono h2 (by omega), h.n0, by have := h.n1; omega⟩, hS⟩
theorem has_at (u1 u2 : Value) {k : ByteArray} {x0 x1 x2 x3 : Int} (hx : purseA p k = ⟨x0, x1, x2, x3⟩) (hS : St W (blk vb [.map (some mb), u1, u2] 176 :: amap eS eP mb p :: R) w) :
    Calls Tryz.prog 47 #[.pointer (some ⟨vb, 0, none⟩), .string k] w fun e w' => e = .returned (.agg #[.int .i64 x0, .int .i64 x1, .int .i64 x2, .int .i64 x3]) ∧ St W (blk vb [.map (some mb), u1, u2] 176 :: amap eS eP mb p :: R) w' := by
  refine (has_spec vb mb p k u1 u2 W w R hS).mono ?_
  rw [hx]
  exact fun e w' h => h
end
end Go.Proofs.YtlmhakmoioogaaaGreat
end
