/-
  EconOnce: requests that come again, in whatever order behind the first time, are not done again. For every row of requests, every row of numbers.
-/
import Derived.Test.YtlmhakmoioogaaaGreatEconOnceM15
import Derived.Test.YtlmhakmoioogaaaGreatEconOnceM30
import Derived.Test.YtlmhakmoioogaaaGreatEconOnceM51
import Derived.Test.YtlmhakmoioogaaaGreatRows
import Derived.Lib.SmallJoins
import Derived.ChangeArms
set_option linter.unusedSimpArgs false
set_option linter.unusedVariables false
namespace Go.Proofs.YtlmhakmoioogaaaGreat.econOnce
open Go.ChangeShapes Go.WideShapes Go.ChangeAt Go.RowKit Go.Sl
theorem own : ownKnob Tryz.prog.godebug = none := by kernel_rfl
set_option maxRecDepth 100000 in
theorem lifted (os : Os) (started : os.Started) (H : Type) (enc : TypeId × Value → H) :
    ReturnsInHanded {} Tryz.checked os 6 .any (Rows.econOnceSpec.pre6 enc Tryz.prog Tryz.f6 Rows.econOnceRow.domain false) (Rows.econOnceSpec.post enc Tryz.prog Tryz.f6 false true false false) := by
  refine returnsInHanded_of_change (C := Tryz.checked) own started (by kernel_rfl) Tryz.func6
    (ChangeSpec.witness6 (enc := enc) (C := Tryz.checked) false ⟨#[], #[.slice none 0 0, .slice none 0 0], []⟩ 8 (by kernel_rfl) (by kernel_rfl) (by kernel_rfl) (by kernel_rfl)) ?_
  intro W base args ds gs before hval0 hW hcnd _
  have hval : ∀ (j : Nat) t v, Tryz.f6.params[j]? = some t → args[j]? = some v → Value.okWide Tryz.prog W .any base t v := hval0
  have hW' := hW
  obtain ⟨p, q, hA0, hV, rfl, hfz, hnd⟩ := hW
  have hA : DataW.TrodAll enc Tryz.prog W 0 (fun _ => true) true Tryz.f6.params.toList args.toList ds p := hA0
  rw [Tryz.params6] at hA hval
  obtain ⟨v0, vs0, d0, ds0, p0, q0, hargs, rfl, rfl, h0, r0⟩ := trodAll_cons hA
  obtain ⟨v1, vs1, d1, ds1, p1, q1, rfl, rfl, rfl, h1, r1⟩ := trodAll_cons r0
  obtain ⟨rfl, rfl, rfl⟩ := trodAll_nil r1
  obtain rfl : args = #[v0, v1] := by cases args; simp_all
  obtain ⟨rfl, rfl⟩ := trodVars_none hV
  obtain ⟨a0, ha0⟩ := open_opns (hval 0 43 v0 rfl rfl) h0
  obtain ⟨z1, hz1⟩ := open_intsV (hval 1 62 v1 rfl rfl) h1
  refine (once_spec a0 z1 v0 v1 W ha0 hz1 W W [] (St.start W)).mono fun e W' ⟨he, hS⟩ => ?_
  subst he
  exact ⟨_, rfl, law_post (tb := 4) (by kernel_rfl) (by kernel_rfl) (by kernel_rfl) (by kernel_rfl) (by kernel_rfl) Tryz.underlying4 rfl hW' rfl rfl rfl (hS.below .head)⟩
end Go.Proofs.YtlmhakmoioogaaaGreat.econOnce
namespace Go.Proofs.YtlmhakmoioogaaaGreat
theorem econOnce_laid : laidOutB Tryz.prog = true := by kernel_rfl
theorem econOnce_rowed : mapsRowed Tryz.prog = true := by kernel_rfl
theorem econOnce_enter : Tryz.prog.mayEnter = true := by kernel_rfl
theorem econOnce_lifts : (Rows.econOnceRow.lifted == Tryz.prog.liftsFinal) = true := by kernel_rfl
theorem econOnce_make : (Tryz.prog.make == some Rows.econOnceRow.make) = true := by kernel_rfl
theorem econOnce_heard : Tryz.prog.stopsHeard = true := by kernel_rfl
theorem econOnce_place : (Rows.econOnceRow.inPlace == Tryz.prog.inPlace 6) = true := by kernel_rfl
theorem econOnce_follow : (Rows.econOnceRow.unfollowed == Tryz.prog.unfollowed 6) = true := by kernel_rfl
theorem econOnce_recur : (Rows.econOnceRow.recurses == Tryz.prog.recurses 6) = true := by kernel_rfl
theorem econOnce_names : (Rows.econOnceRow.named == Tryz.prog.varsNamed 6) = true := by kernel_rfl
theorem econOnce_closed : joinedFacts Tryz.prog 6 Tryz.f6 Rows.econOnceSpec Rows.econOnceRow = true := by
  unfold joinedFacts
  rw [econOnce_laid, econOnce_rowed, econOnce_enter, econOnce_lifts, econOnce_make, econOnce_heard, econOnce_place, econOnce_follow, econOnce_recur, econOnce_names]
  kernel_rfl
theorem econOnce_named : Tryz.prog.funcNamed Rows.econOnceRow.func = some 6 := by kernel_rfl
theorem econOnce_proved : Rows.EconOnceSaid :=
  OpenClaim.holds_of_wide 6 Tryz.f6 rfl rfl rfl rfl rfl rfl rfl ⟨rfl, rfl, rfl, rfl, rfl⟩ rfl rfl rfl rfl rfl econOnce_named Tryz.func6 econOnce_closed
    (of_decide_eq_true (by kernel_rfl)) (by unfold Func.isWrapper; first | (rw [if_pos (by decide +kernel)]; kernel_rfl) | (rw [if_neg (by decide +kernel)]; exact ⟨rfl, rfl⟩))
    (fun os started H enc _ => econOnce.lifted os started H enc)
end Go.Proofs.YtlmhakmoioogaaaGreat
