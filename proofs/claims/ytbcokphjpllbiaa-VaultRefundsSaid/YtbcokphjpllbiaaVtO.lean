/-
  VaultRefunds: what each step does. For all prices and counts.
-/
import Derived.Test.YtbcokphjpllbiaaVtM
set_option linter.unusedSimpArgs false
set_option linter.unusedVariables false
namespace Go.Proofs.Ytbcokphjpllbiaa
open Go.RowKit Go.Sl
def ks : ByteArray := ⟨#[115]⟩
def kb : ByteArray := ⟨#[98]⟩
theorem ks_kb : ks ≠ kb := by decide
theorem kb_ks : kb ≠ ks := by decide
theorem ks_who : whoB ks = true := by kernel_rfl
theorem kb_who : whoB kb = true := by kernel_rfl
theorem take_all {p : Ps} {k : ByteArray} {i : It} (hz : purseA p k = i) (hk : whoB k = true) (hi : isIt i = true) : takeE p k i = 0 ∧ takeP p k i = layP p k it0 := by
  have h : subOk i i = true := by
    unfold subOk lessIt
    rw [hi]
    simp
  have e : subIt i i = it0 := by simp [subIt, it0]
  unfold takeE takeP
  rw [hz, e]
  simp [hk, hi, h]
theorem run_none {o : Ord} (hc : 0 < o.cnt) : runT [] o = [] ∧ runL [] o = [o] := by
  have h : refLoop (([] : List Ord).length + 1) o [] [] = (o, [], []) := by
    show refLoop (0 + 1) _ _ _ = _
    rw [refLoop, if_pos hc]
    rfl
  unfold runT runL
  rw [h]
  refine ⟨rfl, ?_⟩
  rw [if_pos hc]
  rfl
section
variable (P M C F : Int)
def sS (id : Int) : Ord := ⟨id, ks, false, 2, C, P⟩
def sB (id c : Int) : Ord := ⟨id, kb, true, 2, c, P + M⟩
/-- What the arguments may be. -/
structure RfOk : Prop where
  p0 : 1 ≤ P
  p1 : P ≤ 1024
  m0 : 0 ≤ M
  m1 : M ≤ 1024 - P
  c0 : 1 ≤ C
  c1 : C ≤ 1000
  f0 : 0 ≤ F
  f1 : F ≤ 1000
def trS : Trd := ⟨kb, ks, 2, 1, 2, C, P, P + M⟩
theorem meet_S (h : RfOk P M C F) : meetR (sB P M 2 (C + F)) (sS P C 1) = true := by
  have := h.m0
  unfold meetR sB sS
  simp
  omega
theorem run_S (h : RfOk P M C F) : runT [sS P C 1] (sB P M 2 (C + F)) = [trS P M C] ∧ runL [sS P C 1] (sB P M 2 (C + F)) = if 0 < F then [sB P M 2 F] else [] := by
  have hc := h.c0
  have hf := h.f0
  have hb : bestTo (sB P M 2 (C + F)) [sS P C 1] [sS P C 1].length = some 0 := by
    show bestTo _ _ (0 + 1) = _
    rw [bestTo]
    have e : at' [sS P C 1] 0 = sS P C 1 := rfl
    rw [e, meet_S P M C F h]
    rfl
  have hm : minI (C + F) C = C := by unfold minI; split <;> omega
  have ht : tradeR (sB P M 2 (C + F)) (sS P C 1) = trS P M C := by
    unfold tradeR
    rw [if_pos (show (sB P M 2 (C + F)).buy = true from rfl)]
    show (⟨kb, ks, 2, 1, 2, minI (C + F) C, P, P + M⟩ : Trd) = _
    rw [hm]; rfl
  have hr : refLoop ([sS P C 1].length + 1) (sB P M 2 (C + F)) [sS P C 1] [] = (sB P M 2 F, [], [trS P M C]) := by
    show refLoop (1 + 1) _ _ _ = _
    rw [refLoop, if_pos (show 0 < (sB P M 2 (C + F)).cnt by show 0 < C + F; omega), hb]
    have e : at' [sS P C 1] 0 = sS P C 1 := rfl
    simp only [e, ht]
    have e2 : minI (sB P M 2 (C + F)).cnt (sS P C 1).cnt = C := hm
    rw [e2]
    have e3 : cutR [sS P C 1] 0 ((sS P C 1).cnt - C) = [] := by
      unfold cutR
      rw [if_pos (show (sS P C 1).cnt - C = 0 by show C - C = 0; omega)]; rfl
    have e4 : ({ sB P M 2 (C + F) with cnt := (sB P M 2 (C + F)).cnt - C } : Ord) = sB P M 2 F := by
      show (⟨2, kb, true, 2, C + F - C, P + M⟩ : Ord) = _
      rw [show C + F - C = F by omega]; rfl
    rw [e3, e4, List.nil_append, refLoop]
    split <;> rfl
  unfold runT runL
  rw [hr]
  exact ⟨rfl, rfl⟩
end
end Go.Proofs.Ytbcokphjpllbiaa
