/-
  JudgeOrders: of any events what was said, and what they come to. For every row of requests.
-/
import Derived.Test.YtienbkdjkjbelaaGreatJoAM21
import Derived.Test.YtienbkdjkjbelaaGreatJoAM48
import Derived.ChangeArms
import Derived.Lib.SmallJoins
import Derived.Test.YtienbkdjkjbelaaGreatRows
set_option linter.unusedSimpArgs false
set_option linter.unusedVariables false
namespace Go.Proofs.YtienbkdjkjbelaaGreat.judgeOrders
open Go.ChangeShapes Go.WideShapes Go.ChangeAt Go.RowKit Go.Sl
theorem own : ownKnob Tryz.prog.godebug = none := by kernel_rfl
set_option maxRecDepth 100000 in
theorem lifted (os : Os) (started : os.Started) (H : Type) (enc : TypeId × Value → H) :
    ReturnsInHanded {} Tryz.checked os 6 .any (Rows.judgeOrdersSpec.pre6 enc Tryz.prog Tryz.f6 Rows.judgeOrdersRow.domain false) (Rows.judgeOrdersSpec.post enc Tryz.prog Tryz.f6 false true false false) := by
  refine returnsInHanded_of_change (C := Tryz.checked) own started (by kernel_rfl) Tryz.func6
    (ChangeSpec.witness6 (enc := enc) (C := Tryz.checked) false ⟨#[], #[.slice none 0 0], []⟩ 8 (by kernel_rfl) (by kernel_rfl) (by kernel_rfl) (by kernel_rfl)) ?_
  intro W base args ds gs before hval0 hW hcnd _
  have hval : ∀ (j : Nat) t v, Tryz.f6.params[j]? = some t → args[j]? = some v → Value.okWide Tryz.prog W .any base t v := hval0
  have hW' := hW
  obtain ⟨p, q, hA0, hV, rfl, hfz, hnd⟩ := hW
  have hA : DataW.TrodAll enc Tryz.prog W 0 (fun _ => true) true Tryz.f6.params.toList args.toList ds p := hA0
  rw [Tryz.params6] at hA hval
  obtain ⟨v0, vs0, d0, ds0, p0, q0, hargs, rfl, rfl, h0, r0⟩ := trodAll_cons hA
  obtain ⟨rfl, rfl, rfl⟩ := trodAll_nil r0
  obtain rfl : args = #[v0] := by cases args; simp_all
  obtain ⟨rfl, rfl⟩ := trodVars_none hV
  obtain ⟨a0, ha0⟩ := open_opns (hval 0 22 v0 rfl rfl) h0
  refine (ordersJ_spec a0 v0 W ha0 W W [] (St.start W)).mono fun e W' ⟨he, hS⟩ => ?_
  subst he
  exact ⟨_, rfl, law_post (tb := 4) (by kernel_rfl) (by kernel_rfl) (by kernel_rfl) (by kernel_rfl) (by kernel_rfl) Tryz.underlying4 rfl hW' rfl rfl rfl (hS.below .head)⟩
end Go.Proofs.YtienbkdjkjbelaaGreat.judgeOrders
namespace Go.Proofs.YtienbkdjkjbelaaGreat
theorem judgeOrders_laid : laidOutB Tryz.prog = true := by kernel_rfl
theorem judgeOrders_rowed : mapsRowed Tryz.prog = true := by kernel_rfl
theorem judgeOrders_enter : Tryz.prog.mayEnter = true := by kernel_rfl
theorem judgeOrders_lifts : (Rows.judgeOrdersRow.lifted == Tryz.prog.liftsFinal) = true := by kernel_rfl
theorem judgeOrders_make : (Tryz.prog.make == some Rows.judgeOrdersRow.make) = true := by kernel_rfl
theorem judgeOrders_heard : Tryz.prog.stopsHeard = true := by kernel_rfl
theorem judgeOrders_place : (Rows.judgeOrdersRow.inPlace == Tryz.prog.inPlace 6) = true := by kernel_rfl
theorem judgeOrders_follow : (Rows.judgeOrdersRow.unfollowed == Tryz.prog.unfollowed 6) = true := by kernel_rfl
theorem judgeOrders_recur : (Rows.judgeOrdersRow.recurses == Tryz.prog.recurses 6) = true := by kernel_rfl
theorem judgeOrders_names : (Rows.judgeOrdersRow.named == Tryz.prog.varsNamed 6) = true := by kernel_rfl
theorem judgeOrders_closed : joinedFacts Tryz.prog 6 Tryz.f6 Rows.judgeOrdersSpec Rows.judgeOrdersRow = true := by
  unfold joinedFacts
  rw [judgeOrders_laid, judgeOrders_rowed, judgeOrders_enter, judgeOrders_lifts, judgeOrders_make, judgeOrders_heard, judgeOrders_place, judgeOrders_follow, judgeOrders_recur, judgeOrders_names]
  kernel_rfl
theorem judgeOrders_named : Tryz.prog.funcNamed Rows.judgeOrdersRow.func = some 6 := by kernel_rfl
theorem judgeOrders_proved : Rows.JudgeOrdersSaid :=
  OpenClaim.holds_of_wide 6 Tryz.f6 rfl rfl rfl rfl rfl rfl rfl ⟨rfl, rfl, rfl, rfl, rfl⟩ rfl rfl rfl rfl rfl judgeOrders_named Tryz.func6 judgeOrders_closed
    (of_decide_eq_true (by kernel_rfl)) (by unfold Func.isWrapper; first | (rw [if_pos (by decide +kernel)]; kernel_rfl) | (rw [if_neg (by decide +kernel)]; exact ⟨rfl, rfl⟩))
    (fun os started H enc _ => judgeOrders.lifted os started H enc)
end Go.Proofs.YtienbkdjkjbelaaGreat
