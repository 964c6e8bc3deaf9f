/-
  EconSpans: behind a cut one part has just the keys of the span, and the other one none of them. For every row of requests, every span.
-/
import Derived.Test.YtlmhakmoioogaaaGreatEconSpansM29
import Derived.Test.YtlmhakmoioogaaaGreatEconSpansM48
import Derived.Test.YtlmhakmoioogaaaGreatRows
import Derived.Lib.SmallJoins
import Derived.ChangeArms
set_option linter.unusedSimpArgs false
set_option linter.unusedVariables false
namespace Go.Proofs.YtlmhakmoioogaaaGreat.econSpans
open Go.ChangeShapes Go.WideShapes Go.ChangeAt Go.RowKit Go.Sl
theorem own : ownKnob Tryz.prog.godebug = none := by kernel_rfl
set_option maxRecDepth 100000 in
theorem lifted (os : Os) (started : os.Started) (H : Type) (enc : TypeId × Value → H) :
    ReturnsInHanded {} Tryz.checked os 5 .any (Rows.econSpansSpec.pre6 enc Tryz.prog Tryz.f5 Rows.econSpansRow.domain false) (Rows.econSpansSpec.post enc Tryz.prog Tryz.f5 false true false false) := by
  refine returnsInHanded_of_change (C := Tryz.checked) own started (by kernel_rfl) Tryz.func5
    (ChangeSpec.witness6 (enc := enc) (C := Tryz.checked) false ⟨#[], #[.slice none 0 0, .agg #[.string ⟨#[]⟩, .string ⟨#[]⟩]], []⟩ 8 (by kernel_rfl) (by kernel_rfl) (by kernel_rfl) (by kernel_rfl)) ?_
  intro W base args ds gs before hval0 hW hcnd _
  have hval : ∀ (j : Nat) t v, Tryz.f5.params[j]? = some t → args[j]? = some v → Value.okWide Tryz.prog W .any base t v := hval0
  have hW' := hW
  obtain ⟨p, q, hA0, hV, rfl, hfz, hnd⟩ := hW
  have hA : DataW.TrodAll enc Tryz.prog W 0 (fun _ => true) true Tryz.f5.params.toList args.toList ds p := hA0
  rw [Tryz.params5] at hA hval
  obtain ⟨v0, vs0, d0, ds0, p0, q0, hargs, rfl, rfl, h0, r0⟩ := trodAll_cons hA
  obtain ⟨v1, vs1, d1, ds1, p1, q1, rfl, rfl, rfl, h1, r1⟩ := trodAll_cons r0
  obtain ⟨rfl, rfl, rfl⟩ := trodAll_nil r1
  obtain rfl : args = #[v0, v1] := by cases args; simp_all
  obtain ⟨rfl, rfl⟩ := trodVars_none hV
  obtain ⟨a0, ha0⟩ := open_opns (hval 0 43 v0 rfl rfl) h0
  obtain ⟨s1, rfl⟩ := open_span (hval 1 54 v1 rfl rfl) h1
  refine (spans_spec a0 s1.1 s1.2 v0 W ha0 W W [] (St.start W)).mono fun e W' ⟨he, hS⟩ => ?_
  subst he
  exact ⟨_, rfl, law_post (tb := 4) (by kernel_rfl) (by kernel_rfl) (by kernel_rfl) (by kernel_rfl) (by kernel_rfl) Tryz.underlying4 rfl hW' rfl rfl rfl (hS.below .head)⟩
end Go.Proofs.YtlmhakmoioogaaaGreat.econSpans
namespace Go.Proofs.YtlmhakmoioogaaaGreat
theorem econSpans_laid : laidOutB Tryz.prog = true := by kernel_rfl
theorem econSpans_rowed : mapsRowed Tryz.prog = true := by kernel_rfl
theorem econSpans_enter : Tryz.prog.mayEnter = true := by kernel_rfl
theorem econSpans_lifts : (Rows.econSpansRow.lifted == Tryz.prog.liftsFinal) = true := by kernel_rfl
theorem econSpans_make : (Tryz.prog.make == some Rows.econSpansRow.make) = true := by kernel_rfl
theorem econSpans_heard : Tryz.prog.stopsHeard = true := by kernel_rfl
theorem econSpans_place : (Rows.econSpansRow.inPlace == Tryz.prog.inPlace 5) = true := by kernel_rfl
theorem econSpans_follow : (Rows.econSpansRow.unfollowed == Tryz.prog.unfollowed 5) = true := by kernel_rfl
theorem econSpans_recur : (Rows.econSpansRow.recurses == Tryz.prog.recurses 5) = true := by kernel_rfl
theorem econSpans_names : (Rows.econSpansRow.named == Tryz.prog.varsNamed 5) = true := by kernel_rfl
theorem econSpans_closed : joinedFacts Tryz.prog 5 Tryz.f5 Rows.econSpansSpec Rows.econSpansRow = true := by
  unfold joinedFacts
  rw [econSpans_laid, econSpans_rowed, econSpans_enter, econSpans_lifts, econSpans_make, econSpans_heard, econSpans_place, econSpans_follow, econSpans_recur, econSpans_names]
  kernel_rfl
theorem econSpans_named : Tryz.prog.funcNamed Rows.econSpansRow.func = some 5 := by kernel_rfl
theorem econSpans_proved : Rows.EconSpansSaid :=
  OpenClaim.holds_of_wide 5 Tryz.f5 rfl rfl rfl rfl rfl rfl rfl ⟨rfl, rfl, rfl, rfl, rfl⟩ rfl rfl rfl rfl rfl econSpans_named Tryz.func5 econSpans_closed
    (of_decide_eq_true (by kernel_rfl)) (by unfold Func.isWrapper; first | (rw [if_pos (by decide +kernel)]; kernel_rfl) | (rw [if_neg (by decide +kernel)]; exact ⟨rfl, rfl⟩))
    (fun os started H enc _ => econSpans.lifted os started H enc)
end Go.Proofs.YtlmhakmoioogaaaGreat
