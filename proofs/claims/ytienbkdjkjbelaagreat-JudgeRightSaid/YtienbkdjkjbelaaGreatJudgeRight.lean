/-
  JudgeRight: answers that are those of the events are never wrong; with one of them turned that one is. For all requests, every place.
-/
import Derived.Test.YtienbkdjkjbelaaGreatJuRM22
import Derived.Test.YtienbkdjkjbelaaGreatJuRM47
import Derived.ChangeArms
import Derived.Lib.SmallJoins
import Derived.Test.YtienbkdjkjbelaaGreatRows
set_option linter.unusedSimpArgs false
set_option linter.unusedVariables false
namespace Go.Proofs.YtienbkdjkjbelaaGreat.judgeRight
open Go.ChangeShapes Go.WideShapes Go.ChangeAt Go.RowKit Go.Sl
theorem own : ownKnob Tryz.prog.godebug = none := by kernel_rfl
set_option maxRecDepth 100000 in
theorem lifted (os : Os) (started : os.Started) (H : Type) (enc : TypeId × Value → H) :
    ReturnsInHanded {} Tryz.checked os 4 .any (Rows.judgeRightSpec.pre6 enc Tryz.prog Tryz.f4 Rows.judgeRightRow.domain false) (Rows.judgeRightSpec.post enc Tryz.prog Tryz.f4 false true false false) := by
  refine returnsInHanded_of_change (C := Tryz.checked) own started (by kernel_rfl) Tryz.func4
    (ChangeSpec.witness6 (enc := enc) (C := Tryz.checked) false ⟨#[], #[.slice none 0 0, .int .i64 0], []⟩ 8 (by kernel_rfl) (by kernel_rfl) (by kernel_rfl) (by kernel_rfl)) ?_
  intro W base args ds gs before hval0 hW hcnd _
  have hval : ∀ (j : Nat) t v, Tryz.f4.params[j]? = some t → args[j]? = some v → Value.okWide Tryz.prog W .any base t v := hval0
  have hW' := hW
  obtain ⟨p, q, hA0, hV, rfl, hfz, hnd⟩ := hW
  have hA : DataW.TrodAll enc Tryz.prog W 0 (fun _ => true) true Tryz.f4.params.toList args.toList ds p := hA0
  rw [Tryz.params4] at hA hval
  obtain ⟨v0, vs0, d0, ds0, p0, q0, hargs, rfl, rfl, h0, r0⟩ := trodAll_cons hA
  obtain ⟨v1, vs1, d1, ds1, p1, q1, rfl, rfl, rfl, h1, r1⟩ := trodAll_cons r0
  obtain ⟨rfl, rfl, rfl⟩ := trodAll_nil r1
  obtain rfl : args = #[v0, v1] := by cases args; simp_all
  obtain ⟨rfl, rfl⟩ := trodVars_none hV
  obtain ⟨a0, ha0⟩ := open_opns (hval 0 22 v0 rfl rfl) h0
  obtain ⟨i1, rfl, _⟩ := open_int Tryz.underlying3 (hval 1 3 v1 rfl rfl) h1
  refine (rightJ_spec a0 v0 i1 W ha0 W W [] (St.start W)).mono fun e W' ⟨he, hS⟩ => ?_
  subst he
  exact ⟨_, rfl, law_post (tb := 4) (by kernel_rfl) (by kernel_rfl) (by kernel_rfl) (by kernel_rfl) (by kernel_rfl) Tryz.underlying4 rfl hW' rfl rfl rfl (hS.below .head)⟩
end Go.Proofs.YtienbkdjkjbelaaGreat.judgeRight
namespace Go.Proofs.YtienbkdjkjbelaaGreat
theorem judgeRight_laid : laidOutB Tryz.prog = true := by kernel_rfl
theorem judgeRight_rowed : mapsRowed Tryz.prog = true := by kernel_rfl
theorem judgeRight_enter : Tryz.prog.mayEnter = true := by kernel_rfl
theorem judgeRight_lifts : (Rows.judgeRightRow.lifted == Tryz.prog.liftsFinal) = true := by kernel_rfl
theorem judgeRight_make : (Tryz.prog.make == some Rows.judgeRightRow.make) = true := by kernel_rfl
theorem judgeRight_heard : Tryz.prog.stopsHeard = true := by kernel_rfl
theorem judgeRight_place : (Rows.judgeRightRow.inPlace == Tryz.prog.inPlace 4) = true := by kernel_rfl
theorem judgeRight_follow : (Rows.judgeRightRow.unfollowed == Tryz.prog.unfollowed 4) = true := by kernel_rfl
theorem judgeRight_recur : (Rows.judgeRightRow.recurses == Tryz.prog.recurses 4) = true := by kernel_rfl
theorem judgeRight_names : (Rows.judgeRightRow.named == Tryz.prog.varsNamed 4) = true := by kernel_rfl
theorem judgeRight_closed : joinedFacts Tryz.prog 4 Tryz.f4 Rows.judgeRightSpec Rows.judgeRightRow = true := by
  unfold joinedFacts
  rw [judgeRight_laid, judgeRight_rowed, judgeRight_enter, judgeRight_lifts, judgeRight_make, judgeRight_heard, judgeRight_place, judgeRight_follow, judgeRight_recur, judgeRight_names]
  kernel_rfl
theorem judgeRight_named : Tryz.prog.funcNamed Rows.judgeRightRow.func = some 4 := by kernel_rfl
theorem judgeRight_proved : Rows.JudgeRightSaid :=
  OpenClaim.holds_of_wide 4 Tryz.f4 rfl rfl rfl rfl rfl rfl rfl ⟨rfl, rfl, rfl, rfl, rfl⟩ rfl rfl rfl rfl rfl judgeRight_named Tryz.func4 judgeRight_closed
    (of_decide_eq_true (by kernel_rfl)) (by unfold Func.isWrapper; first | (rw [if_pos (by decide +kernel)]; kernel_rfl) | (rw [if_neg (by decide +kernel)]; exact ⟨rfl, rfl⟩))
    (fun os started H enc _ => judgeRight.lifted os started H enc)
end Go.Proofs.YtienbkdjkjbelaaGreat
