/-
  EconDecodes: any bytes as an economy, or refused, as the document says. For every row of bytes.
-/
import Derived.Test.YtlmhakmoioogaaaGreatEconDcM32
import Derived.Test.YtlmhakmoioogaaaGreatEconDcM38
import Derived.ChangeArms
import Derived.Lib.SmallJoins
import Derived.Test.YtlmhakmoioogaaaGreatRows
set_option linter.unusedSimpArgs false
set_option linter.unusedVariables false
namespace Go.Proofs.YtlmhakmoioogaaaGreat.econDecodes
open Go.ChangeShapes Go.WideShapes Go.ChangeAt Go.RowKit Go.Sl
theorem own : ownKnob Tryz.prog.godebug = none := by kernel_rfl
set_option maxRecDepth 100000 in
theorem lifted (os : Os) (started : os.Started) (H : Type) (enc : TypeId × Value → H) :
    ReturnsInHanded {} Tryz.checked os 12 .any (Rows.econDecodesSpec.pre6 enc Tryz.prog Tryz.f12 Rows.econDecodesRow.domain false) (Rows.econDecodesSpec.post enc Tryz.prog Tryz.f12 false true false false) := by
  refine returnsInHanded_of_change (C := Tryz.checked) own started (by kernel_rfl) Tryz.func12
    (ChangeSpec.witness6 (enc := enc) (C := Tryz.checked) false ⟨#[], #[.slice none 0 0], []⟩ 8 (by kernel_rfl) (by kernel_rfl) (by kernel_rfl) (by kernel_rfl)) ?_
  intro W base args ds gs before hval0 hW hcnd _
  have hval : ∀ (j : Nat) t v, Tryz.f12.params[j]? = some t → args[j]? = some v → Value.okWide Tryz.prog W .any base t v := hval0
  have hW' := hW
  obtain ⟨p, q, hA0, hV, rfl, hfz, hnd⟩ := hW
  have hA : DataW.TrodAll enc Tryz.prog W 0 (fun _ => true) true Tryz.f12.params.toList args.toList ds p := hA0
  rw [Tryz.params12] at hA hval
  obtain ⟨v0, vs0, d0, ds0, p0, q0, hargs, rfl, rfl, h0, r0⟩ := trodAll_cons hA
  obtain ⟨rfl, rfl, rfl⟩ := trodAll_nil r0
  obtain rfl : args = #[v0] := by cases args; simp_all
  obtain ⟨rfl, rfl⟩ := trodVars_none hV
  obtain ⟨z0, hz0⟩ := open_bytesV (hval 0 63 v0 rfl rfl) h0
  refine (decodesE_spec z0 v0 W hz0 W W [] (St.start W)).mono fun e W' ⟨he, hS⟩ => ?_
  subst he
  exact ⟨_, rfl, law_post (tb := 4) (by kernel_rfl) (by kernel_rfl) (by kernel_rfl) (by kernel_rfl) (by kernel_rfl) Tryz.underlying4 rfl hW' rfl rfl rfl (hS.below .head)⟩
end Go.Proofs.YtlmhakmoioogaaaGreat.econDecodes
namespace Go.Proofs.YtlmhakmoioogaaaGreat
theorem econDecodes_laid : laidOutB Tryz.prog = true := by kernel_rfl
theorem econDecodes_rowed : mapsRowed Tryz.prog = true := by kernel_rfl
theorem econDecodes_enter : Tryz.prog.mayEnter = true := by kernel_rfl
theorem econDecodes_lifts : (Rows.econDecodesRow.lifted == Tryz.prog.liftsFinal) = true := by kernel_rfl
theorem econDecodes_make : (Tryz.prog.make == some Rows.econDecodesRow.make) = true := by kernel_rfl
theorem econDecodes_heard : Tryz.prog.stopsHeard = true := by kernel_rfl
theorem econDecodes_place : (Rows.econDecodesRow.inPlace == Tryz.prog.inPlace 12) = true := by kernel_rfl
theorem econDecodes_follow : (Rows.econDecodesRow.unfollowed == Tryz.prog.unfollowed 12) = true := by kernel_rfl
theorem econDecodes_recur : (Rows.econDecodesRow.recurses == Tryz.prog.recurses 12) = true := by kernel_rfl
theorem econDecodes_names : (Rows.econDecodesRow.named == Tryz.prog.varsNamed 12) = true := by kernel_rfl
theorem econDecodes_closed : joinedFacts Tryz.prog 12 Tryz.f12 Rows.econDecodesSpec Rows.econDecodesRow = true := by
  unfold joinedFacts
  rw [econDecodes_laid, econDecodes_rowed, econDecodes_enter, econDecodes_lifts, econDecodes_make, econDecodes_heard, econDecodes_place, econDecodes_follow, econDecodes_recur, econDecodes_names]
  kernel_rfl
theorem econDecodes_named : Tryz.prog.funcNamed Rows.econDecodesRow.func = some 12 := by kernel_rfl
theorem econDecodes_proved : Rows.EconDecodesSaid :=
  OpenClaim.holds_of_wide 12 Tryz.f12 rfl rfl rfl rfl rfl rfl rfl ⟨rfl, rfl, rfl, rfl, rfl⟩ rfl rfl rfl rfl rfl econDecodes_named Tryz.func12 econDecodes_closed
    (of_decide_eq_true (by kernel_rfl)) (by unfold Func.isWrapper; first | (rw [if_pos (by decide +kernel)]; kernel_rfl) | (rw [if_neg (by decide +kernel)]; exact ⟨rfl, rfl⟩))
    (fun os started H enc _ => econDecodes.lifted os started H enc)
end Go.Proofs.YtlmhakmoioogaaaGreat
