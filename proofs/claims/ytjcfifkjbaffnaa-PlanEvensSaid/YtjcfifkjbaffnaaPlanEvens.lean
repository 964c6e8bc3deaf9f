/-
  PlanEvens: a move of a plan never makes the host that it goes to the one with the most load. For all hits.
-/
import Derived.Test.YtjcfifkjbaffnaaPeQM1
import Derived.Test.YtjcfifkjbaffnaaPeQM24
import Derived.ChangeArms
import Derived.Lib.SmallJoins
import Derived.Test.YtjcfifkjbaffnaaRows
set_option linter.unusedSimpArgs false
set_option linter.unusedVariables false
namespace Go.Proofs.Ytjcfifkjbaffnaa.planEvens
open Go.ChangeShapes Go.WideShapes Go.ChangeAt Go.RowKit Go.Sl
theorem own : ownKnob Try.prog.godebug = none := by kernel_rfl
set_option maxRecDepth 100000 in
theorem lifted (os : Os) (started : os.Started) (H : Type) (enc : TypeId × Value → H) :
    ReturnsInHanded {} Try.checked os 3 .any (Rows.planEvensSpec.pre6 enc Try.prog Try.f3 Rows.planEvensRow.domain false) (Rows.planEvensSpec.post enc Try.prog Try.f3 false true false false) := by
  refine returnsInHanded_of_change (C := Try.checked) own started (by kernel_rfl) Try.func3
    (ChangeSpec.witness6 (enc := enc) (C := Try.checked) false ⟨#[], #[.slice none 0 0], []⟩ 8 (by kernel_rfl) (by kernel_rfl) (by kernel_rfl) (by kernel_rfl)) ?_
  intro W base args ds gs before hval0 hW hcnd _
  have hval : ∀ (j : Nat) t v, Try.f3.params[j]? = some t → args[j]? = some v → Value.okWide Try.prog W .any base t v := hval0
  have hW' := hW
  obtain ⟨p, q, hA0, hV, rfl, hfz, hnd⟩ := hW
  have hA : DataW.TrodAll enc Try.prog W 0 (fun _ => true) true Try.f3.params.toList args.toList ds p := hA0
  rw [Try.params3] at hA hval
  obtain ⟨v0, vs0, d0, ds0, p0, q0, hargs, rfl, rfl, h0, r0⟩ := trodAll_cons hA
  obtain ⟨rfl, rfl, rfl⟩ := trodAll_nil r0
  obtain rfl : args = #[v0] := by cases args; simp_all
  obtain ⟨rfl, rfl⟩ := trodVars_none hV
  obtain ⟨z0, hz0⟩ := open_intsP (hval 0 22 v0 rfl rfl) h0
  refine (evensL_at hz0 W W [] (St.start W)).mono fun e W' ⟨he, hS⟩ => ?_
  subst he
  exact ⟨_, rfl, law_post (tb := 4) (by kernel_rfl) (by kernel_rfl) (by kernel_rfl) (by kernel_rfl) (by kernel_rfl) Try.underlying4 rfl hW' rfl rfl rfl (hS.below .head)⟩
end Go.Proofs.Ytjcfifkjbaffnaa.planEvens
namespace Go.Proofs.Ytjcfifkjbaffnaa
theorem planEvens_laid : laidOutB Try.prog = true := by kernel_rfl
theorem planEvens_rowed : mapsRowed Try.prog = true := by kernel_rfl
theorem planEvens_enter : Try.prog.mayEnter = true := by kernel_rfl
theorem planEvens_lifts : (Rows.planEvensRow.lifted == Try.prog.liftsFinal) = true := by kernel_rfl
theorem planEvens_make : (Try.prog.make == some Rows.planEvensRow.make) = true := by kernel_rfl
theorem planEvens_heard : Try.prog.stopsHeard = true := by kernel_rfl
theorem planEvens_place : (Rows.planEvensRow.inPlace == Try.prog.inPlace 3) = true := by kernel_rfl
theorem planEvens_follow : (Rows.planEvensRow.unfollowed == Try.prog.unfollowed 3) = true := by kernel_rfl
theorem planEvens_recur : (Rows.planEvensRow.recurses == Try.prog.recurses 3) = true := by kernel_rfl
theorem planEvens_names : (Rows.planEvensRow.named == Try.prog.varsNamed 3) = true := by kernel_rfl
theorem planEvens_closed : joinedFacts Try.prog 3 Try.f3 Rows.planEvensSpec Rows.planEvensRow = true := by
  unfold joinedFacts
  rw [planEvens_laid, planEvens_rowed, planEvens_enter, planEvens_lifts, planEvens_make, planEvens_heard, planEvens_place, planEvens_follow, planEvens_recur, planEvens_names]
  kernel_rfl
theorem planEvens_named : Try.prog.funcNamed Rows.planEvensRow.func = some 3 := by kernel_rfl
theorem planEvens_proved : Rows.PlanEvensSaid :=
  OpenClaim.holds_of_wide 3 Try.f3 rfl rfl rfl rfl rfl rfl rfl ⟨rfl, rfl, rfl, rfl, rfl⟩ rfl rfl rfl rfl rfl planEvens_named Try.func3 planEvens_closed
    (of_decide_eq_true (by kernel_rfl)) (by unfold Func.isWrapper; first | (rw [if_pos (by decide +kernel)]; kernel_rfl) | (rw [if_neg (by decide +kernel)]; exact ⟨rfl, rfl⟩))
    (fun os started H enc _ => planEvens.lifted os started H enc)
end Go.Proofs.Ytjcfifkjbaffnaa
