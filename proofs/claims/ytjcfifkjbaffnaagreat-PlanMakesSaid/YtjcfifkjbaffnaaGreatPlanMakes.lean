/-
  PlanMakes: of any map, hosts, table and limits the plan is the document's. For all of them.
-/
import Derived.Test.YtjcfifkjbaffnaaGreatPkQM1
import Derived.Test.YtjcfifkjbaffnaaGreatPkQM32
import Derived.ChangeArms
import Derived.Lib.SmallJoins
import Derived.Test.YtjcfifkjbaffnaaGreatRows
set_option linter.unusedSimpArgs false
set_option linter.unusedVariables false
namespace Go.Proofs.YtjcfifkjbaffnaaGreat.planMakes
open Go.ChangeShapes Go.WideShapes Go.ChangeAt Go.RowKit Go.Sl
theorem own : ownKnob Tryz.prog.godebug = none := by kernel_rfl
set_option maxRecDepth 100000 in
theorem lifted (os : Os) (started : os.Started) (H : Type) (enc : TypeId × Value → H) :
    ReturnsInHanded {} Tryz.checked os 3 .any (Rows.planMakesSpec.pre6 enc Tryz.prog Tryz.f3 Rows.planMakesRow.domain false) (Rows.planMakesSpec.post enc Tryz.prog Tryz.f3 false true false false) := by
  refine returnsInHanded_of_change (C := Tryz.checked) own started (by kernel_rfl) Tryz.func3
    (ChangeSpec.witness6 (enc := enc) (C := Tryz.checked) false ⟨#[], #[.agg #[.int .i64 0, .int .i64 0, .slice none 0 0], .slice none 0 0, .slice none 0 0, .agg #[.int .i64 0, .int .i64 0]], []⟩ 8 (by kernel_rfl) (by kernel_rfl) (by kernel_rfl) (by kernel_rfl)) ?_
  intro W base args ds gs before hval0 hW hcnd _
  have hval : ∀ (j : Nat) t v, Tryz.f3.params[j]? = some t → args[j]? = some v → Value.okWide Tryz.prog W .any base t v := hval0
  have hW' := hW
  obtain ⟨p, q, hA0, hV, rfl, hfz, hnd⟩ := hW
  have hA : DataW.TrodAll enc Tryz.prog W 0 (fun _ => true) true Tryz.f3.params.toList args.toList ds p := hA0
  rw [Tryz.params3] at hA hval
  obtain ⟨v0, vs0, d0, ds0, p0, q0, hargs, rfl, rfl, h0, r0⟩ := trodAll_cons hA
  obtain ⟨v1, vs1, d1, ds1, p1, q1, rfl, rfl, rfl, h1, r1⟩ := trodAll_cons r0
  obtain ⟨v2, vs2, d2, ds2, p2, q2, rfl, rfl, rfl, h2, r2⟩ := trodAll_cons r1
  obtain ⟨v3, vs3, d3, ds3, p3, q3, rfl, rfl, rfl, h3, r3⟩ := trodAll_cons r2
  obtain ⟨rfl, rfl, rfl⟩ := trodAll_nil r3
  obtain rfl : args = #[v0, v1, v2, v3] := by cases args; simp_all
  obtain ⟨rfl, rfl⟩ := trodVars_none hV
  obtain ⟨m0, n0, y0, z0, rfl, hz0, hrg0, hm0, hn0⟩ := open_mapP (hval 0 24 v0 rfl rfl) h0
  obtain ⟨z1, hz1⟩ := open_intsP (hval 1 25 v1 rfl rfl) h1
  obtain ⟨z2, hz2⟩ := open_rowsP (hval 2 26 v2 rfl rfl) h2
  obtain ⟨x3, y3, rfl⟩ := open_limP (hval 3 28 v3 rfl rfl) h3
  refine (makesL_at (hot := x3) (cold := y3) hz0 hz1 hz2 hrg0 hm0 hn0 W W [] (St.start W)).mono fun e W' ⟨he, hS⟩ => ?_
  subst he
  exact ⟨_, rfl, law_post (tb := 4) (by kernel_rfl) (by kernel_rfl) (by kernel_rfl) (by kernel_rfl) (by kernel_rfl) Tryz.underlying4 rfl hW' rfl rfl rfl (hS.below .head)⟩
end Go.Proofs.YtjcfifkjbaffnaaGreat.planMakes
namespace Go.Proofs.YtjcfifkjbaffnaaGreat
theorem planMakes_laid : laidOutB Tryz.prog = true := by kernel_rfl
theorem planMakes_rowed : mapsRowed Tryz.prog = true := by kernel_rfl
theorem planMakes_enter : Tryz.prog.mayEnter = true := by kernel_rfl
theorem planMakes_lifts : (Rows.planMakesRow.lifted == Tryz.prog.liftsFinal) = true := by kernel_rfl
theorem planMakes_make : (Tryz.prog.make == some Rows.planMakesRow.make) = true := by kernel_rfl
theorem planMakes_heard : Tryz.prog.stopsHeard = true := by kernel_rfl
theorem planMakes_place : (Rows.planMakesRow.inPlace == Tryz.prog.inPlace 3) = true := by kernel_rfl
theorem planMakes_follow : (Rows.planMakesRow.unfollowed == Tryz.prog.unfollowed 3) = true := by kernel_rfl
theorem planMakes_recur : (Rows.planMakesRow.recurses == Tryz.prog.recurses 3) = true := by kernel_rfl
theorem planMakes_names : (Rows.planMakesRow.named == Tryz.prog.varsNamed 3) = true := by kernel_rfl
theorem planMakes_closed : joinedFacts Tryz.prog 3 Tryz.f3 Rows.planMakesSpec Rows.planMakesRow = true := by
  unfold joinedFacts
  rw [planMakes_laid, planMakes_rowed, planMakes_enter, planMakes_lifts, planMakes_make, planMakes_heard, planMakes_place, planMakes_follow, planMakes_recur, planMakes_names]
  kernel_rfl
theorem planMakes_named : Tryz.prog.funcNamed Rows.planMakesRow.func = some 3 := by kernel_rfl
theorem planMakes_proved : Rows.PlanMakesSaid :=
  OpenClaim.holds_of_wide 3 Tryz.f3 rfl rfl rfl rfl rfl rfl rfl ⟨rfl, rfl, rfl, rfl, rfl⟩ rfl rfl rfl rfl rfl planMakes_named Tryz.func3 planMakes_closed
    (of_decide_eq_true (by kernel_rfl)) (by unfold Func.isWrapper; first | (rw [if_pos (by decide +kernel)]; kernel_rfl) | (rw [if_neg (by decide +kernel)]; exact ⟨rfl, rfl⟩))
    (fun os started H enc _ => planMakes.lifted os started H enc)
end Go.Proofs.YtjcfifkjbaffnaaGreat
