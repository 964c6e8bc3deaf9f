/-
  JudgeWrong: of any events and answers the first that is wrong. For all requests and answers.
-/
import Derived.Test.YtienbkdjkjbelaaGreatJuA2M20
import Derived.Test.YtienbkdjkjbelaaGreatJuA2M40
import Derived.Test.YtienbkdjkjbelaaGreatJuA2M42
import Derived.ChangeArms
import Derived.Lib.SmallJoins
import Derived.Test.YtienbkdjkjbelaaGreatRows
set_option linter.unusedSimpArgs false
set_option linter.unusedVariables false
namespace Go.Proofs.YtienbkdjkjbelaaGreat.judgeWrong
open Go.ChangeShapes Go.WideShapes Go.ChangeAt Go.RowKit Go.Sl
theorem own : ownKnob Tryz.prog.godebug = none := by kernel_rfl
set_option maxRecDepth 100000 in
theorem lifted (os : Os) (started : os.Started) (H : Type) (enc : TypeId × Value → H) :
    ReturnsInHanded {} Tryz.checked os 3 .any (Rows.judgeWrongSpec.pre6 enc Tryz.prog Tryz.f3 Rows.judgeWrongRow.domain false) (Rows.judgeWrongSpec.post enc Tryz.prog Tryz.f3 false true false false) := by
  refine returnsInHanded_of_change_sized (C := Tryz.checked) own started (by kernel_rfl) Tryz.func3
    (ChangeSpec.witness6 (enc := enc) (C := Tryz.checked) false ⟨#[], #[.slice none 0 0, .slice none 0 0], []⟩ 8 (by kernel_rfl) (by kernel_rfl) (by kernel_rfl) (by kernel_rfl)) ?_
  intro W base args ds gs before hval0 hW hcnd hsz _
  have hval : ∀ (j : Nat) t v, Tryz.f3.params[j]? = some t → args[j]? = some v → Value.okWide Tryz.prog W .any base t v := hval0
  have hW' := hW
  obtain ⟨p, q, hA0, hV, rfl, hfz, hnd⟩ := hW
  have hA : DataW.TrodAll enc Tryz.prog W 0 (fun _ => true) true Tryz.f3.params.toList args.toList ds p := hA0
  rw [Tryz.params3] at hA hval
  obtain ⟨v0, vs0, d0, ds0, p0, q0, hargs, rfl, rfl, h0, r0⟩ := trodAll_cons hA
  obtain ⟨v1, vs1, d1, ds1, p1, q1, rfl, rfl, rfl, h1, r1⟩ := trodAll_cons r0
  obtain ⟨rfl, rfl, rfl⟩ := trodAll_nil r1
  obtain rfl : args = #[v0, v1] := by cases args; simp_all
  obtain ⟨rfl, rfl⟩ := trodVars_none hV
  obtain ⟨a0, ha0⟩ := open_opns (hval 0 22 v0 rfl rfl) h0
  obtain ⟨w1, hw1, hb1⟩ := open_answers (hval 1 23 v1 rfl rfl) h1 (fun n hn => of_decide_eq_true (List.all_eq_true.1 hsz n (DataW.weights_mem_each (j := 1) rfl rfl n hn)))
  refine (wrongJ_spec a0 v0 v1 W ha0 hw1 hb1 W W [] (St.start W)).mono fun e W' ⟨he, hS⟩ => ?_
  subst he
  exact ⟨_, rfl, law_post (tb := 4) (by kernel_rfl) (by kernel_rfl) (by kernel_rfl) (by kernel_rfl) (by kernel_rfl) Tryz.underlying4 rfl hW' rfl rfl rfl (hS.below .head)⟩
end Go.Proofs.YtienbkdjkjbelaaGreat.judgeWrong
namespace Go.Proofs.YtienbkdjkjbelaaGreat
theorem judgeWrong_laid : laidOutB Tryz.prog = true := by kernel_rfl
theorem judgeWrong_rowed : mapsRowed Tryz.prog = true := by kernel_rfl
theorem judgeWrong_enter : Tryz.prog.mayEnter = true := by kernel_rfl
theorem judgeWrong_lifts : (Rows.judgeWrongRow.lifted == Tryz.prog.liftsFinal) = true := by kernel_rfl
theorem judgeWrong_make : (Tryz.prog.make == some Rows.judgeWrongRow.make) = true := by kernel_rfl
theorem judgeWrong_heard : Tryz.prog.stopsHeard = true := by kernel_rfl
theorem judgeWrong_place : (Rows.judgeWrongRow.inPlace == Tryz.prog.inPlace 3) = true := by kernel_rfl
theorem judgeWrong_follow : (Rows.judgeWrongRow.unfollowed == Tryz.prog.unfollowed 3) = true := by kernel_rfl
theorem judgeWrong_recur : (Rows.judgeWrongRow.recurses == Tryz.prog.recurses 3) = true := by kernel_rfl
theorem judgeWrong_names : (Rows.judgeWrongRow.named == Tryz.prog.varsNamed 3) = true := by kernel_rfl
theorem judgeWrong_closed : joinedFacts Tryz.prog 3 Tryz.f3 Rows.judgeWrongSpec Rows.judgeWrongRow = true := by
  unfold joinedFacts
  rw [judgeWrong_laid, judgeWrong_rowed, judgeWrong_enter, judgeWrong_lifts, judgeWrong_make, judgeWrong_heard, judgeWrong_place, judgeWrong_follow, judgeWrong_recur, judgeWrong_names]
  kernel_rfl
theorem judgeWrong_named : Tryz.prog.funcNamed Rows.judgeWrongRow.func = some 3 := by kernel_rfl
theorem judgeWrong_proved : Rows.JudgeWrongSaid :=
  OpenClaim.holds_of_wide 3 Tryz.f3 rfl rfl rfl rfl rfl rfl rfl ⟨rfl, rfl, rfl, rfl, rfl⟩ rfl rfl rfl rfl rfl judgeWrong_named Tryz.func3 judgeWrong_closed
    (of_decide_eq_true (by kernel_rfl)) (by unfold Func.isWrapper; first | (rw [if_pos (by decide +kernel)]; kernel_rfl) | (rw [if_neg (by decide +kernel)]; exact ⟨rfl, rfl⟩))
    (fun os started H enc _ => judgeWrong.lifted os started H enc)
end Go.Proofs.YtienbkdjkjbelaaGreat
