/-
  EconOfNothing: a nil economy has nothing. For every request, every span.
-/
import Derived.Test.YtlmhakmoioogaaaGreatEconOfNothingM28
import Derived.Test.YtlmhakmoioogaaaGreatEconOfNothingM29
import Derived.Test.YtlmhakmoioogaaaGreatRows
import Derived.Lib.SmallJoins
import Derived.ChangeArms
set_option linter.unusedSimpArgs false
set_option linter.unusedVariables false
namespace Go.Proofs.YtlmhakmoioogaaaGreat.econOfNothing
open Go.ChangeShapes Go.WideShapes Go.ChangeAt Go.RowKit Go.Sl
theorem own : ownKnob Tryz.prog.godebug = none := by kernel_rfl
set_option maxRecDepth 100000 in
theorem lifted (os : Os) (started : os.Started) (H : Type) (enc : TypeId × Value → H) :
    ReturnsInHanded {} Tryz.checked os 11 .any (Rows.econOfNothingSpec.pre6 enc Tryz.prog Tryz.f11 Rows.econOfNothingRow.domain false) (Rows.econOfNothingSpec.post enc Tryz.prog Tryz.f11 false true false false) := by
  refine returnsInHanded_of_change (C := Tryz.checked) own started (by kernel_rfl) Tryz.func11
    (ChangeSpec.witness6 (enc := enc) (C := Tryz.checked) false ⟨#[], #[.agg #[.int .i64 0, .int .i64 0, .int .i64 0, .string ⟨#[]⟩, .string ⟨#[]⟩, .string ⟨#[]⟩, .string ⟨#[]⟩, .int .i64 0, .int .i64 0, .int .i64 0, .bool false, .int .i64 0], .agg #[.string ⟨#[]⟩, .string ⟨#[]⟩]], []⟩ 8 (by kernel_rfl) (by kernel_rfl) (by kernel_rfl) (by kernel_rfl)) ?_
  intro W base args ds gs before hval0 hW hcnd _
  have hval : ∀ (j : Nat) t v, Tryz.f11.params[j]? = some t → args[j]? = some v → Value.okWide Tryz.prog W .any base t v := hval0
  have hW' := hW
  obtain ⟨p, q, hA0, hV, rfl, hfz, hnd⟩ := hW
  have hA : DataW.TrodAll enc Tryz.prog W 0 (fun _ => true) true Tryz.f11.params.toList args.toList ds p := hA0
  rw [Tryz.params11] at hA hval
  obtain ⟨v0, vs0, d0, ds0, p0, q0, hargs, rfl, rfl, h0, r0⟩ := trodAll_cons hA
  obtain ⟨v1, vs1, d1, ds1, p1, q1, rfl, rfl, rfl, h1, r1⟩ := trodAll_cons r0
  obtain ⟨rfl, rfl, rfl⟩ := trodAll_nil r1
  obtain rfl : args = #[v0, v1] := by cases args; simp_all
  obtain ⟨rfl, rfl⟩ := trodVars_none hV
  obtain ⟨o0, rfl⟩ := open_opn (hval 0 35 v0 rfl rfl) h0
  obtain ⟨s1, rfl⟩ := open_span (hval 1 54 v1 rfl rfl) h1
  refine (nothing_spec o0.kind o0.client o0.seq o0.ak o0.aw o0.tk o0.tw o0.item o0.cnt o0.price o0.buy o0.id s1.1 s1.2 W W [Old W] (St.start W)).mono fun e W' ⟨he, hS⟩ => ?_
  subst he
  exact ⟨_, rfl, law_post (tb := 4) (by kernel_rfl) (by kernel_rfl) (by kernel_rfl) (by kernel_rfl) (by kernel_rfl) Tryz.underlying4 rfl hW' rfl rfl rfl (hS.below .head)⟩
end Go.Proofs.YtlmhakmoioogaaaGreat.econOfNothing
namespace Go.Proofs.YtlmhakmoioogaaaGreat
theorem econOfNothing_laid : laidOutB Tryz.prog = true := by kernel_rfl
theorem econOfNothing_rowed : mapsRowed Tryz.prog = true := by kernel_rfl
theorem econOfNothing_enter : Tryz.prog.mayEnter = true := by kernel_rfl
theorem econOfNothing_lifts : (Rows.econOfNothingRow.lifted == Tryz.prog.liftsFinal) = true := by kernel_rfl
theorem econOfNothing_make : (Tryz.prog.make == some Rows.econOfNothingRow.make) = true := by kernel_rfl
theorem econOfNothing_heard : Tryz.prog.stopsHeard = true := by kernel_rfl
theorem econOfNothing_place : (Rows.econOfNothingRow.inPlace == Tryz.prog.inPlace 11) = true := by kernel_rfl
theorem econOfNothing_follow : (Rows.econOfNothingRow.unfollowed == Tryz.prog.unfollowed 11) = true := by kernel_rfl
theorem econOfNothing_recur : (Rows.econOfNothingRow.recurses == Tryz.prog.recurses 11) = true := by kernel_rfl
theorem econOfNothing_names : (Rows.econOfNothingRow.named == Tryz.prog.varsNamed 11) = true := by kernel_rfl
theorem econOfNothing_closed : joinedFacts Tryz.prog 11 Tryz.f11 Rows.econOfNothingSpec Rows.econOfNothingRow = true := by
  unfold joinedFacts
  rw [econOfNothing_laid, econOfNothing_rowed, econOfNothing_enter, econOfNothing_lifts, econOfNothing_make, econOfNothing_heard, econOfNothing_place, econOfNothing_follow, econOfNothing_recur, econOfNothing_names]
  kernel_rfl
theorem econOfNothing_named : Tryz.prog.funcNamed Rows.econOfNothingRow.func = some 11 := by kernel_rfl
theorem econOfNothing_proved : Rows.EconOfNothingSaid :=
  OpenClaim.holds_of_wide 11 Tryz.f11 rfl rfl rfl rfl rfl rfl rfl ⟨rfl, rfl, rfl, rfl, rfl⟩ rfl rfl rfl rfl rfl econOfNothing_named Tryz.func11 econOfNothing_closed
    (of_decide_eq_true (by kernel_rfl)) (by unfold Func.isWrapper; first | (rw [if_pos (by decide +kernel)]; kernel_rfl) | (rw [if_neg (by decide +kernel)]; exact ⟨rfl, rfl⟩))
    (fun os started H enc _ => econOfNothing.lifted os started H enc)
end Go.Proofs.YtlmhakmoioogaaaGreat
