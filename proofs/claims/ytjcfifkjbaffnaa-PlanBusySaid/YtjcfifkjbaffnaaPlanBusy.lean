/-
  PlanBusy: a plan names no zone with which something is under way, and no zone twice. For all maps, hosts, tables and limits.
-/
import Derived.Test.YtjcfifkjbaffnaaPbQM1
import Derived.Test.YtjcfifkjbaffnaaPbQM26
import Derived.ChangeArms
import Derived.Lib.SmallJoins
import Derived.Test.YtjcfifkjbaffnaaRows
set_option linter.unusedSimpArgs false
set_option linter.unusedVariables false
namespace Go.Proofs.Ytjcfifkjbaffnaa.planBusy
open Go.ChangeShapes Go.WideShapes Go.ChangeAt Go.RowKit Go.Sl
theorem own : ownKnob Try.prog.godebug = none := by kernel_rfl
set_option maxRecDepth 100000 in
theorem lifted (os : Os) (started : os.Started) (H : Type) (enc : TypeId × Value → H) :
    ReturnsInHanded {} Try.checked os 4 .any (Rows.planBusySpec.pre6 enc Try.prog Try.f4 Rows.planBusyRow.domain false) (Rows.planBusySpec.post enc Try.prog Try.f4 false true false false) := by
  refine returnsInHanded_of_change (C := Try.checked) own started (by kernel_rfl) Try.func4
    (ChangeSpec.witness6 (enc := enc) (C := Try.checked) false ⟨#[], #[.agg #[.int .i64 0, .int .i64 0, .slice none 0 0], .slice none 0 0, .slice none 0 0, .agg #[.int .i64 0, .int .i64 0]], []⟩ 8 (by kernel_rfl) (by kernel_rfl) (by kernel_rfl) (by kernel_rfl)) ?_
  intro W base args ds gs before hval0 hW hcnd _
  have hval : ∀ (j : Nat) t v, Try.f4.params[j]? = some t → args[j]? = some v → Value.okWide Try.prog W .any base t v := hval0
  have hW' := hW
  obtain ⟨p, q, hA0, hV, rfl, hfz, hnd⟩ := hW
  have hA : DataW.TrodAll enc Try.prog W 0 (fun _ => true) true Try.f4.params.toList args.toList ds p := hA0
  rw [Try.params4] at hA hval
  obtain ⟨v0, vs0, d0, ds0, p0, q0, hargs, rfl, rfl, h0, r0⟩ := trodAll_cons hA
  obtain ⟨v1, vs1, d1, ds1, p1, q1, rfl, rfl, rfl, h1, r1⟩ := trodAll_cons r0
  obtain ⟨v2, vs2, d2, ds2, p2, q2, rfl, rfl, rfl, h2, r2⟩ := trodAll_cons r1
  obtain ⟨v3, vs3, d3, ds3, p3, q3, rfl, rfl, rfl, h3, r3⟩ := trodAll_cons r2
  obtain ⟨rfl, rfl, rfl⟩ := trodAll_nil r3
  obtain rfl : args = #[v0, v1, v2, v3] := by cases args; simp_all
  obtain ⟨rfl, rfl⟩ := trodVars_none hV
  obtain ⟨m0, n0, y0, z0, rfl, hz0, hrg0, hm0, hn0⟩ := open_mapP (hval 0 26 v0 rfl rfl) h0
  obtain ⟨z1, hz1⟩ := open_intsP (hval 1 22 v1 rfl rfl) h1
  obtain ⟨z2, hz2⟩ := open_rowsP (hval 2 27 v2 rfl rfl) h2
  obtain ⟨x3, y3, rfl⟩ := open_limP (hval 3 40 v3 rfl rfl) h3
  refine (busyL_at (hot := x3) (cold := y3) hz0 hz1 hz2 hrg0 hm0 hn0 W W [] (St.start W)).mono fun e W' ⟨he, hS⟩ => ?_
  subst he
  exact ⟨_, rfl, law_post (tb := 4) (by kernel_rfl) (by kernel_rfl) (by kernel_rfl) (by kernel_rfl) (by kernel_rfl) Try.underlying4 rfl hW' rfl rfl rfl (hS.below .head)⟩
end Go.Proofs.Ytjcfifkjbaffnaa.planBusy
namespace Go.Proofs.Ytjcfifkjbaffnaa
theorem planBusy_laid : laidOutB Try.prog = true := by kernel_rfl
theorem planBusy_rowed : mapsRowed Try.prog = true := by kernel_rfl
theorem planBusy_enter : Try.prog.mayEnter = true := by kernel_rfl
theorem planBusy_lifts : (Rows.planBusyRow.lifted == Try.prog.liftsFinal) = true := by kernel_rfl
theorem planBusy_make : (Try.prog.make == some Rows.planBusyRow.make) = true := by kernel_rfl
theorem planBusy_heard : Try.prog.stopsHeard = true := by kernel_rfl
theorem planBusy_place : (Rows.planBusyRow.inPlace == Try.prog.inPlace 4) = true := by kernel_rfl
theorem planBusy_follow : (Rows.planBusyRow.unfollowed == Try.prog.unfollowed 4) = true := by kernel_rfl
theorem planBusy_recur : (Rows.planBusyRow.recurses == Try.prog.recurses 4) = true := by kernel_rfl
theorem planBusy_names : (Rows.planBusyRow.named == Try.prog.varsNamed 4) = true := by kernel_rfl
theorem planBusy_closed : joinedFacts Try.prog 4 Try.f4 Rows.planBusySpec Rows.planBusyRow = true := by
  unfold joinedFacts
  rw [planBusy_laid, planBusy_rowed, planBusy_enter, planBusy_lifts, planBusy_make, planBusy_heard, planBusy_place, planBusy_follow, planBusy_recur, planBusy_names]
  kernel_rfl
theorem planBusy_named : Try.prog.funcNamed Rows.planBusyRow.func = some 4 := by kernel_rfl
theorem planBusy_proved : Rows.PlanBusySaid :=
  OpenClaim.holds_of_wide 4 Try.f4 rfl rfl rfl rfl rfl rfl rfl ⟨rfl, rfl, rfl, rfl, rfl⟩ rfl rfl rfl rfl rfl planBusy_named Try.func4 planBusy_closed
    (of_decide_eq_true (by kernel_rfl)) (by unfold Func.isWrapper; first | (rw [if_pos (by decide +kernel)]; kernel_rfl) | (rw [if_neg (by decide +kernel)]; exact ⟨rfl, rfl⟩))
    (fun os started H enc _ => planBusy.lifted os started H enc)
end Go.Proofs.Ytjcfifkjbaffnaa
