/-
  PlanCold: two zones side by side of one host of which little is asked are merged, of two hosts not. For all hits and limits.
-/
import Derived.Test.YtjcfifkjbaffnaaPcQM1
import Derived.Test.YtjcfifkjbaffnaaPcQM23
import Derived.ChangeArms
import Derived.Lib.SmallJoins
import Derived.Test.YtjcfifkjbaffnaaRows
set_option linter.unusedSimpArgs false
set_option linter.unusedVariables false
namespace Go.Proofs.Ytjcfifkjbaffnaa.planCold
open Go.ChangeShapes Go.WideShapes Go.ChangeAt Go.RowKit Go.Sl
theorem own : ownKnob Try.prog.godebug = none := by kernel_rfl
set_option maxRecDepth 100000 in
theorem lifted (os : Os) (started : os.Started) (H : Type) (enc : TypeId × Value → H) :
    ReturnsInHanded {} Try.checked os 6 .any (Rows.planColdSpec.pre6 enc Try.prog Try.f6 Rows.planColdRow.domain false) (Rows.planColdSpec.post enc Try.prog Try.f6 false true false false) := by
  refine returnsInHanded_of_change (C := Try.checked) own started (by kernel_rfl) Try.func6
    (ChangeSpec.witness6 (enc := enc) (C := Try.checked) false ⟨#[], #[.int .i64 0, .int .i64 0, .int .i64 0, .bool false], []⟩ 8 (by kernel_rfl) (by kernel_rfl) (by kernel_rfl) (by kernel_rfl)) ?_
  intro W base args ds gs before hval0 hW hcnd _
  have hval : ∀ (j : Nat) t v, Try.f6.params[j]? = some t → args[j]? = some v → Value.okWide Try.prog W .any base t v := hval0
  have hW' := hW
  obtain ⟨p, q, hA0, hV, rfl, hfz, hnd⟩ := hW
  have hA : DataW.TrodAll enc Try.prog W 0 (fun _ => true) true Try.f6.params.toList args.toList ds p := hA0
  rw [Try.params6] at hA hval
  obtain ⟨v0, vs0, d0, ds0, p0, q0, hargs, rfl, rfl, h0, r0⟩ := trodAll_cons hA
  obtain ⟨v1, vs1, d1, ds1, p1, q1, rfl, rfl, rfl, h1, r1⟩ := trodAll_cons r0
  obtain ⟨v2, vs2, d2, ds2, p2, q2, rfl, rfl, rfl, h2, r2⟩ := trodAll_cons r1
  obtain ⟨v3, vs3, d3, ds3, p3, q3, rfl, rfl, rfl, h3, r3⟩ := trodAll_cons r2
  obtain ⟨rfl, rfl, rfl⟩ := trodAll_nil r3
  obtain rfl : args = #[v0, v1, v2, v3] := by cases args; simp_all
  obtain ⟨rfl, rfl⟩ := trodVars_none hV
  obtain ⟨i0, rfl, _⟩ := open_int Try.underlying3 (hval 0 3 v0 rfl rfl) h0
  obtain ⟨i1, rfl, _⟩ := open_int Try.underlying3 (hval 1 3 v1 rfl rfl) h1
  obtain ⟨i2, rfl, _⟩ := open_int Try.underlying3 (hval 2 3 v2 rfl rfl) h2
  obtain ⟨b3, rfl, _⟩ := open_bool Try.underlying4 (hval 3 4 v3 rfl rfl) h3
  refine (coldL_at i0 i1 i2 b3 W W [Old W] (St.start W)).mono fun e W' ⟨he, hS⟩ => ?_
  subst he
  exact ⟨_, rfl, law_post (tb := 4) (by kernel_rfl) (by kernel_rfl) (by kernel_rfl) (by kernel_rfl) (by kernel_rfl) Try.underlying4 rfl hW' rfl rfl rfl (hS.below .head)⟩
end Go.Proofs.Ytjcfifkjbaffnaa.planCold
namespace Go.Proofs.Ytjcfifkjbaffnaa
theorem planCold_laid : laidOutB Try.prog = true := by kernel_rfl
theorem planCold_rowed : mapsRowed Try.prog = true := by kernel_rfl
theorem planCold_enter : Try.prog.mayEnter = true := by kernel_rfl
theorem planCold_lifts : (Rows.planColdRow.lifted == Try.prog.liftsFinal) = true := by kernel_rfl
theorem planCold_make : (Try.prog.make == some Rows.planColdRow.make) = true := by kernel_rfl
theorem planCold_heard : Try.prog.stopsHeard = true := by kernel_rfl
theorem planCold_place : (Rows.planColdRow.inPlace == Try.prog.inPlace 6) = true := by kernel_rfl
theorem planCold_follow : (Rows.planColdRow.unfollowed == Try.prog.unfollowed 6) = true := by kernel_rfl
theorem planCold_recur : (Rows.planColdRow.recurses == Try.prog.recurses 6) = true := by kernel_rfl
theorem planCold_names : (Rows.planColdRow.named == Try.prog.varsNamed 6) = true := by kernel_rfl
theorem planCold_closed : joinedFacts Try.prog 6 Try.f6 Rows.planColdSpec Rows.planColdRow = true := by
  unfold joinedFacts
  rw [planCold_laid, planCold_rowed, planCold_enter, planCold_lifts, planCold_make, planCold_heard, planCold_place, planCold_follow, planCold_recur, planCold_names]
  kernel_rfl
theorem planCold_named : Try.prog.funcNamed Rows.planColdRow.func = some 6 := by kernel_rfl
theorem planCold_proved : Rows.PlanColdSaid :=
  OpenClaim.holds_of_wide 6 Try.f6 rfl rfl rfl rfl rfl rfl rfl ⟨rfl, rfl, rfl, rfl, rfl⟩ rfl rfl rfl rfl rfl planCold_named Try.func6 planCold_closed
    (of_decide_eq_true (by kernel_rfl)) (by unfold Func.isWrapper; first | (rw [if_pos (by decide +kernel)]; kernel_rfl) | (rw [if_neg (by decide +kernel)]; exact ⟨rfl, rfl⟩))
    (fun os started H enc _ => planCold.lifted os started H enc)
end Go.Proofs.Ytjcfifkjbaffnaa
