/-
  PlanHot: a hot zone is split at its middle, one that is not is not. For all hits, middles and limits.
-/
import Derived.Test.YtjcfifkjbaffnaaPhQM1
import Derived.Test.YtjcfifkjbaffnaaPhQM23
import Derived.ChangeArms
import Derived.ChangeMaps5
import Derived.Lib.SmallJoins
import Derived.Test.YtjcfifkjbaffnaaRows
set_option linter.unusedSimpArgs false
set_option linter.unusedVariables false
namespace Go.Proofs.Ytjcfifkjbaffnaa.planHot
open Go.ChangeShapes Go.WideShapes Go.ChangeAt Go.RowKit Go.Sl Go.ChangeMaps
theorem own : ownKnob Try.prog.godebug = none := by kernel_rfl
set_option maxRecDepth 100000 in
theorem lifted (os : Os) (started : os.Started) (H : Type) (enc : TypeId × Value → H) :
    ReturnsInHanded {} Try.checked os 5 .any (Rows.planHotSpec.pre6 enc Try.prog Try.f5 Rows.planHotRow.domain false) (Rows.planHotSpec.post enc Try.prog Try.f5 false true false false) := by
  refine returnsInHanded_of_change (C := Try.checked) own started (by kernel_rfl) Try.func5
    (ChangeSpec.witness6 (enc := enc) (C := Try.checked) false ⟨#[], #[.int .i64 0, .string ⟨#[]⟩, .int .i64 0], []⟩ 8 (by kernel_rfl) (by kernel_rfl) (by kernel_rfl) (by kernel_rfl)) ?_
  intro W base args ds gs before hval0 hW hcnd _
  have hval : ∀ (j : Nat) t v, Try.f5.params[j]? = some t → args[j]? = some v → Value.okWide Try.prog W .any base t v := hval0
  have hW' := hW
  obtain ⟨p, q, hA0, hV, rfl, hfz, hnd⟩ := hW
  have hA : DataW.TrodAll enc Try.prog W 0 (fun _ => true) true Try.f5.params.toList args.toList ds p := hA0
  rw [Try.params5] at hA hval
  obtain ⟨v0, vs0, d0, ds0, p0, q0, hargs, rfl, rfl, h0, r0⟩ := trodAll_cons hA
  obtain ⟨v1, vs1, d1, ds1, p1, q1, rfl, rfl, rfl, h1, r1⟩ := trodAll_cons r0
  obtain ⟨v2, vs2, d2, ds2, p2, q2, rfl, rfl, rfl, h2, r2⟩ := trodAll_cons r1
  obtain ⟨rfl, rfl, rfl⟩ := trodAll_nil r2
  obtain rfl : args = #[v0, v1, v2] := by cases args; simp_all
  obtain ⟨rfl, rfl⟩ := trodVars_none hV
  obtain ⟨i0, rfl, _⟩ := open_int Try.underlying3 (hval 0 3 v0 rfl rfl) h0
  obtain ⟨s1, rfl, _⟩ := open_string Try.underlying9 (hval 1 9 v1 rfl rfl) h1
  obtain ⟨i2, rfl, _⟩ := open_int Try.underlying3 (hval 2 3 v2 rfl rfl) h2
  refine (hotL_at i0 i2 s1 W W [Old W] (St.start W)).mono fun e W' ⟨he, hS⟩ => ?_
  subst he
  exact ⟨_, rfl, law_post (tb := 4) (by kernel_rfl) (by kernel_rfl) (by kernel_rfl) (by kernel_rfl) (by kernel_rfl) Try.underlying4 rfl hW' rfl rfl rfl (hS.below .head)⟩
end Go.Proofs.Ytjcfifkjbaffnaa.planHot
namespace Go.Proofs.Ytjcfifkjbaffnaa
theorem planHot_laid : laidOutB Try.prog = true := by kernel_rfl
theorem planHot_rowed : mapsRowed Try.prog = true := by kernel_rfl
theorem planHot_enter : Try.prog.mayEnter = true := by kernel_rfl
theorem planHot_lifts : (Rows.planHotRow.lifted == Try.prog.liftsFinal) = true := by kernel_rfl
theorem planHot_make : (Try.prog.make == some Rows.planHotRow.make) = true := by kernel_rfl
theorem planHot_heard : Try.prog.stopsHeard = true := by kernel_rfl
theorem planHot_place : (Rows.planHotRow.inPlace == Try.prog.inPlace 5) = true := by kernel_rfl
theorem planHot_follow : (Rows.planHotRow.unfollowed == Try.prog.unfollowed 5) = true := by kernel_rfl
theorem planHot_recur : (Rows.planHotRow.recurses == Try.prog.recurses 5) = true := by kernel_rfl
theorem planHot_names : (Rows.planHotRow.named == Try.prog.varsNamed 5) = true := by kernel_rfl
theorem planHot_closed : joinedFacts Try.prog 5 Try.f5 Rows.planHotSpec Rows.planHotRow = true := by
  unfold joinedFacts
  rw [planHot_laid, planHot_rowed, planHot_enter, planHot_lifts, planHot_make, planHot_heard, planHot_place, planHot_follow, planHot_recur, planHot_names]
  kernel_rfl
theorem planHot_named : Try.prog.funcNamed Rows.planHotRow.func = some 5 := by kernel_rfl
theorem planHot_proved : Rows.PlanHotSaid :=
  OpenClaim.holds_of_wide 5 Try.f5 rfl rfl rfl rfl rfl rfl rfl ⟨rfl, rfl, rfl, rfl, rfl⟩ rfl rfl rfl rfl rfl planHot_named Try.func5 planHot_closed
    (of_decide_eq_true (by kernel_rfl)) (by unfold Func.isWrapper; first | (rw [if_pos (by decide +kernel)]; kernel_rfl) | (rw [if_neg (by decide +kernel)]; exact ⟨rfl, rfl⟩))
    (fun os started H enc _ => planHot.lifted os started H enc)
end Go.Proofs.Ytjcfifkjbaffnaa
