/-
  A Load as a resource: its block, the map of zones, a map of keys for each zone; New. For every Load.
-/
import Derived.Test.YtbogmenlhdpjlaaTy
import Derived.Test.YtbogmenlhdpjlaaMapT
set_option linter.unusedSimpArgs false
set_option linter.unusedVariables false
namespace Go.Proofs.Ytbogmenlhdpjlaa
open Go.RowKit Go.Sl
theorem mZ : tyMap Try.prog 53 = some (3, 56) := by kernel_rfl
theorem mK : tyMap Try.prog 56 = some (9, 3) := by kernel_rfl
theorem kI : KeyOk Try.prog 3 eI := KeyOk.int Try.underlying3
theorem kS : KeyOk Try.prog 9 eS := KeyOk.str Try.underlying9
theorem zM : tyZeroV Try.prog 56 = some (.map none) := by kernel_rfl
theorem zI : tyZeroV Try.prog 3 = some (.int .i64 0) := by kernel_rfl
abbrev Cs := List (ByteArray × Int)
abbrev Zs := List (Int × Cs)
/-- A zone: its number, the block of its map, its keys with their counts. -/
structure Zn where
  zone : Int
  blk : Nat
  cells : Cs
def Zn.row (z : Zn) : Int × Cs := (z.zone, z.cells)
def Zn.key (z : Zn) : Int × Nat := (z.zone, z.blk)
def innerR (z : Zn) : HP := amap eS eI z.blk z.cells
def loadP (lb : Nat) (D : Zs) : HP := fun f => ∃ (p : Nat × List Zn), p.2.map Zn.row = D ∧ sats [blk lb [.map (some p.1)] 55, amap eI eM p.1 (p.2.map Zn.key), sats (p.2.map innerR)] f
section
variable {W w : World} {L : List HP} {lb : Nat} {D D' : Zs}
theorem sats_last {A : HP} {f : Frag} (h : sats [A] f) : A f ∨ True := .inr trivial
theorem sats_sats {l : List HP} {f : Frag} (hf : sats [sats l] f) : sats l f := by
  obtain ⟨S, x, _⟩ := hf
  have e : cutIn S f = cutOut (fun b => !S b) f := by
    funext b; simp only [cutIn, cutOut]; cases S b <;> rfl
  rw [e] at x
  exact sats_cut x
theorem loadOpen (h : St W (loadP lb D :: L) w) : ∃ (m : Nat) (zs : List Zn), zs.map Zn.row = D ∧ St W (blk lb [.map (some m)] 55 :: amap eI eM m (zs.map Zn.key) :: sats (zs.map innerR) :: L) w := by
  obtain ⟨⟨m, zs⟩, h⟩ := St.ex h
  obtain ⟨hz, h⟩ := St.and h
  refine ⟨m, zs, hz, ?_⟩
  have h1 := (St.split h).swap
  have h2 := (St.split h1).swap
  have h3 : St W (sats (zs.map innerR) :: amap eI eM m (zs.map Zn.key) :: blk lb [.map (some m)] 55 :: L) w := h2.imp fun f hf => sats_sats hf
  exact (h3.perm (List.perm_middle (l₁ := [_, _])).symm).swap
theorem loadShut {m : Nat} {zs : List Zn} (hz : zs.map Zn.row = D) (h : St W (blk lb [.map (some m)] 55 :: amap eI eM m (zs.map Zn.key) :: sats (zs.map innerR) :: L) w) : St W (loadP lb D :: L) w := by
  refine St.mkEx (m, zs) (St.mkAnd hz ?_)
  have h1 : St W (sats [sats (zs.map innerR)] :: blk lb [.map (some m)] 55 :: amap eI eM m (zs.map Zn.key) :: L) w := ((h.perm (List.perm_middle (l₁ := [_, _]))).imp fun f hf => ⟨fun _ => true, hf, trivial⟩)
  exact St.join (St.swap (St.join (St.swap (h1.perm ((List.Perm.swap _ _ _).cons _)))))
end
theorem perm_map_inv {α β : Type} {f : α → β} {l : List α} {l' : List β} (h : (l.map f).Perm l') : ∃ l2 : List α, l.Perm l2 ∧ l2.map f = l' := by
  generalize hm : l.map f = m at h
  induction h generalizing l with
  | nil => exact ⟨l, .refl _, hm⟩
  | cons x _ ih =>
    match l, hm with
    | y :: l, hm =>
      simp only [List.map_cons, List.cons.injEq] at hm
      obtain ⟨l2, h1, h2⟩ := ih hm.2
      exact ⟨y :: l2, h1.cons y, by rw [List.map_cons, hm.1, h2]⟩
  | swap x y l' =>
    match l, hm with
    | a :: b :: l, hm =>
      simp only [List.map_cons, List.cons.injEq] at hm
      exact ⟨b :: a :: l, .swap _ _ _, by rw [List.map_cons, List.map_cons, hm.1, hm.2.1, hm.2.2]⟩
  | trans _ _ ih1 ih2 =>
    obtain ⟨l2, h1, h2⟩ := ih1 hm
    obtain ⟨l3, h3, h4⟩ := ih2 h2
    exact ⟨l3, h1.trans h3, h4⟩
section
variable {W w : World} {L : List HP} {lb : Nat} {D D' : Zs}
theorem loadKeys (h : St W (loadP lb D :: L) w) : (D.map (·.1)).Nodup := by
  obtain ⟨m, zs, hD, hm⟩ := loadOpen h
  clear h
  subst hD
  have := amapKeys hm.drop
  rw [List.map_map] at this ⊢
  exact this
/-- One zone's map out of all; and back. -/
theorem loadOut {z : Int} {cells : Cs} (hp : D.Perm ((z, cells) :: D')) (h : St W (loadP lb D :: L) w) :
    ∃ (m b : Nat) (zs : List Zn), zs.map Zn.row = D' ∧ St W (blk lb [.map (some m)] 55 :: amap eI eM m ((z, b) :: zs.map Zn.key) :: amap eS eI b cells :: sats (zs.map innerR) :: L) w := by
  obtain ⟨m, zs, hD, hm⟩ := loadOpen h
  clear h
  subst hD
  obtain ⟨zs2, h1, h2⟩ := perm_map_inv hp
  match zs2, h2 with
  | zn :: zs2, h2 =>
    simp only [List.map_cons, List.cons.injEq] at h2
    obtain ⟨hz, hzs⟩ := h2
    obtain ⟨zz, b, cc⟩ := zn
    simp only [Zn.row, Prod.mk.injEq] at hz
    obtain ⟨rfl, rfl⟩ := hz
    refine ⟨m, b, zs2, hzs, ?_⟩
    have e1 : St W (amap eI eM m ((zz, b) :: zs2.map Zn.key) :: blk lb [.map (some m)] 55 :: sats (zs.map innerR) :: L) w := amapPerm (h1.map Zn.key) hm.swap
    have e2 : St W (sats (zs.map innerR) :: amap eI eM m ((zz, b) :: zs2.map Zn.key) :: blk lb [.map (some m)] 55 :: L) w := e1.perm (List.perm_middle (l₁ := [_, _]))
    have e3 : St W (amap eS eI b cc :: sats (zs2.map innerR) :: amap eI eM m ((zz, b) :: zs2.map Zn.key) :: blk lb [.map (some m)] 55 :: L) w := St.split (e2.imp fun _ hf => sats_perm (h1.map innerR) hf)
    refine e3.perm ?_
    refine (List.perm_middle (l₁ := [_, _, _])).trans (List.Perm.cons _ ?_)
    exact (List.perm_middle (l₁ := [_, _])).trans (List.Perm.cons _ (List.Perm.refl _))
theorem loadBack {m b : Nat} {z : Int} {cells : Cs} {zs : List Zn} (hz : zs.map Zn.row = D') (h : St W (blk lb [.map (some m)] 55 :: amap eI eM m ((z, b) :: zs.map Zn.key) :: amap eS eI b cells :: sats (zs.map innerR) :: L) w) : St W (loadP lb ((z, cells) :: D') :: L) w := by
  refine loadShut (m := m) (zs := ⟨z, b, cells⟩ :: zs) (by rw [List.map_cons, hz]; rfl) ?_
  have h1 : St W (amap eS eI b cells :: sats (zs.map innerR) :: blk lb [.map (some m)] 55 :: amap eI eM m ((z, b) :: zs.map Zn.key) :: L) w := by
    exact h.perm (List.perm_append_comm_assoc [_, _] [_, _] L)
  exact (St.join h1).perm ((List.perm_middle (l₁ := [_, _])).symm)
theorem loadPerm (hp : D.Perm D') (h : St W (loadP lb D :: L) w) : St W (loadP lb D' :: L) w := by
  obtain ⟨m, zs, hD, hm⟩ := loadOpen h
  clear h
  subst hD
  obtain ⟨zs2, h1, h2⟩ := perm_map_inv hp
  refine loadShut (m := m) (zs := zs2) h2 ?_
  have e1 := (amapPerm (h1.map Zn.key) hm.swap).swap
  have e2 := e1.perm (List.perm_middle (l₁ := [_, _]))
  exact (e2.imp fun _ hf => sats_perm (h1.map innerR) hf).perm ((List.perm_middle (l₁ := [_, _])).symm)
end
set_option maxHeartbeats 1000000 in
theorem new_load (W w : World) (L : List HP) (hS : St W L w) :
    Calls Try.prog 10 #[] w fun e w' => ∃ b, e = .returned (.pointer (some ⟨b, 0, none⟩)) ∧ St W (loadP b [] :: L) w' := by
  go_enter Try.func10, Try.ntmps10
  go_wp2_with (first | ((with_reducible apply wl_amake eI eM hS); (with_reducible rfl); rfl; clear hS; intro m w hS; (simp only [Act.put, List.setIfInBounds_toArray, List.set_cons_succ, List.set_cons_zero, Nat.reduceAdd])) | ((with_reducible apply wl_box hS); (with_reducible rfl); rfl; rfl; rfl; clear hS; intro b w hS; (simp only [Act.put, List.setIfInBounds_toArray, List.set_cons_succ, List.set_cons_zero, Nat.reduceAdd])))
  go_ret
  refine ⟨b, rfl, loadShut (m := m) (zs := []) rfl ?_⟩
  exact ⟨hS.os, hS.tape, hS.output, sep_mono (fun _ x => x) (fun _ x => sep_mono (fun _ x => x) (fun _ x => ⟨fun _ => false, trivial, x⟩) x) hS.sat⟩
end Go.Proofs.Ytbogmenlhdpjlaa
