/-
  EconTotal: what is minted is at keys, or under way, or has arrived; nothing else comes or goes. For every row of requests.
-/
import Derived.Test.YtlmhakmoioogaaaGreatEconTotalM30
import Derived.Test.YtlmhakmoioogaaaGreatEconTotalM48
import Derived.Test.YtlmhakmoioogaaaGreatRows
import Derived.Lib.SmallJoins
import Derived.ChangeArms
set_option linter.unusedSimpArgs false
set_option linter.unusedVariables false
namespace Go.Proofs.YtlmhakmoioogaaaGreat.econTotal
open Go.ChangeShapes Go.WideShapes Go.ChangeAt Go.RowKit Go.Sl
theorem own : ownKnob Tryz.prog.godebug = none := by kernel_rfl
set_option maxRecDepth 100000 in
theorem lifted (os : Os) (started : os.Started) (H : Type) (enc : TypeId × Value → H) :
    ReturnsInHanded {} Tryz.checked os 4 .any (Rows.econTotalSpec.pre6 enc Tryz.prog Tryz.f4 Rows.econTotalRow.domain false) (Rows.econTotalSpec.post enc Tryz.prog Tryz.f4 false true false false) := by
  refine returnsInHanded_of_change (C := Tryz.checked) own started (by kernel_rfl) Tryz.func4
    (ChangeSpec.witness6 (enc := enc) (C := Tryz.checked) false ⟨#[], #[.slice none 0 0], []⟩ 8 (by kernel_rfl) (by kernel_rfl) (by kernel_rfl) (by kernel_rfl)) ?_
  intro W base args ds gs before hval0 hW hcnd _
  have hval : ∀ (j : Nat) t v, Tryz.f4.params[j]? = some t → args[j]? = some v → Value.okWide Tryz.prog W .any base t v := hval0
  have hW' := hW
  obtain ⟨p, q, hA0, hV, rfl, hfz, hnd⟩ := hW
  have hA : DataW.TrodAll enc Tryz.prog W 0 (fun _ => true) true Tryz.f4.params.toList args.toList ds p := hA0
  rw [Tryz.params4] at hA hval
  obtain ⟨v0, vs0, d0, ds0, p0, q0, hargs, rfl, rfl, h0, r0⟩ := trodAll_cons hA
  obtain ⟨rfl, rfl, rfl⟩ := trodAll_nil r0
  obtain rfl : args = #[v0] := by cases args; simp_all
  obtain ⟨rfl, rfl⟩ := trodVars_none hV
  obtain ⟨a0, ha0⟩ := open_opns (hval 0 43 v0 rfl rfl) h0
  refine (total_spec a0 v0 W ha0 W W [] (St.start W)).mono fun e W' ⟨he, hS⟩ => ?_
  subst he
  exact ⟨_, rfl, law_post (tb := 4) (by kernel_rfl) (by kernel_rfl) (by kernel_rfl) (by kernel_rfl) (by kernel_rfl) Tryz.underlying4 rfl hW' rfl rfl rfl (hS.below .head)⟩
end Go.Proofs.YtlmhakmoioogaaaGreat.econTotal
namespace Go.Proofs.YtlmhakmoioogaaaGreat
theorem econTotal_laid : laidOutB Tryz.prog = true := by kernel_rfl
theorem econTotal_rowed : mapsRowed Tryz.prog = true := by kernel_rfl
theorem econTotal_enter : Tryz.prog.mayEnter = true := by kernel_rfl
theorem econTotal_lifts : (Rows.econTotalRow.lifted == Tryz.prog.liftsFinal) = true := by kernel_rfl
theorem econTotal_make : (Tryz.prog.make == some Rows.econTotalRow.make) = true := by kernel_rfl
theorem econTotal_heard : Tryz.prog.stopsHeard = true := by kernel_rfl
theorem econTotal_place : (Rows.econTotalRow.inPlace == Tryz.prog.inPlace 4) = true := by kernel_rfl
theorem econTotal_follow : (Rows.econTotalRow.unfollowed == Tryz.prog.unfollowed 4) = true := by kernel_rfl
theorem econTotal_recur : (Rows.econTotalRow.recurses == Tryz.prog.recurses 4) = true := by kernel_rfl
theorem econTotal_names : (Rows.econTotalRow.named == Tryz.prog.varsNamed 4) = true := by kernel_rfl
theorem econTotal_closed : joinedFacts Tryz.prog 4 Tryz.f4 Rows.econTotalSpec Rows.econTotalRow = true := by
  unfold joinedFacts
  rw [econTotal_laid, econTotal_rowed, econTotal_enter, econTotal_lifts, econTotal_make, econTotal_heard, econTotal_place, econTotal_follow, econTotal_recur, econTotal_names]
  kernel_rfl
theorem econTotal_named : Tryz.prog.funcNamed Rows.econTotalRow.func = some 4 := by kernel_rfl
theorem econTotal_proved : Rows.EconTotalSaid :=
  OpenClaim.holds_of_wide 4 Tryz.f4 rfl rfl rfl rfl rfl rfl rfl ⟨rfl, rfl, rfl, rfl, rfl⟩ rfl rfl rfl rfl rfl econTotal_named Tryz.func4 econTotal_closed
    (of_decide_eq_true (by kernel_rfl)) (by unfold Func.isWrapper; first | (rw [if_pos (by decide +kernel)]; kernel_rfl) | (rw [if_neg (by decide +kernel)]; exact ⟨rfl, rfl⟩))
    (fun os started H enc _ => econTotal.lifted os started H enc)
end Go.Proofs.YtlmhakmoioogaaaGreat
