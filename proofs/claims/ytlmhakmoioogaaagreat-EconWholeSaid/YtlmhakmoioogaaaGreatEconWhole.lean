/-
  EconWhole: cut and joined at once it is byte by byte what it was. For every row of requests, every span.
-/
import Derived.Test.YtlmhakmoioogaaaGreatEconWjM21
import Derived.Test.YtlmhakmoioogaaaGreatEconWjM49
import Derived.Test.YtlmhakmoioogaaaGreatEconWjM53
import Derived.ChangeArms
import Derived.Lib.SmallJoins
import Derived.Test.YtlmhakmoioogaaaGreatRows
set_option linter.unusedSimpArgs false
set_option linter.unusedVariables false
namespace Go.Proofs.YtlmhakmoioogaaaGreat.econWhole
open Go.ChangeShapes Go.WideShapes Go.ChangeAt Go.RowKit Go.Sl
theorem own : ownKnob Tryz.prog.godebug = none := by kernel_rfl
set_option maxRecDepth 100000 in
theorem lifted (os : Os) (started : os.Started) (H : Type) (enc : TypeId × Value → H) :
    ReturnsInHanded {} Tryz.checked os 9 .any (Rows.econWholeSpec.pre6 enc Tryz.prog Tryz.f9 Rows.econWholeRow.domain false) (Rows.econWholeSpec.post enc Tryz.prog Tryz.f9 false true false false) := by
  refine returnsInHanded_of_change (C := Tryz.checked) own started (by kernel_rfl) Tryz.func9
    (ChangeSpec.witness6 (enc := enc) (C := Tryz.checked) false ⟨#[], #[.slice none 0 0, .agg #[.string ⟨#[]⟩, .string ⟨#[]⟩]], []⟩ 8 (by kernel_rfl) (by kernel_rfl) (by kernel_rfl) (by kernel_rfl)) ?_
  intro W base args ds gs before hval0 hW hcnd _
  have hval : ∀ (j : Nat) t v, Tryz.f9.params[j]? = some t → args[j]? = some v → Value.okWide Tryz.prog W .any base t v := hval0
  have hW' := hW
  obtain ⟨p, q, hA0, hV, rfl, hfz, hnd⟩ := hW
  have hA : DataW.TrodAll enc Tryz.prog W 0 (fun _ => true) true Tryz.f9.params.toList args.toList ds p := hA0
  rw [Tryz.params9] at hA hval
  obtain ⟨v0, vs0, d0, ds0, p0, q0, hargs, rfl, rfl, h0, r0⟩ := trodAll_cons hA
  obtain ⟨v1, vs1, d1, ds1, p1, q1, rfl, rfl, rfl, h1, r1⟩ := trodAll_cons r0
  obtain ⟨rfl, rfl, rfl⟩ := trodAll_nil r1
  obtain rfl : args = #[v0, v1] := by cases args; simp_all
  obtain ⟨rfl, rfl⟩ := trodVars_none hV
  obtain ⟨a0, ha0⟩ := open_opns (hval 0 43 v0 rfl rfl) h0
  obtain ⟨s1, rfl⟩ := open_span (hval 1 54 v1 rfl rfl) h1
  refine (whole_spec a0 s1.1 s1.2 v0 W ha0 W W [] (St.start W)).mono fun e W' ⟨he, hS⟩ => ?_
  subst he
  exact ⟨_, rfl, law_post (tb := 4) (by kernel_rfl) (by kernel_rfl) (by kernel_rfl) (by kernel_rfl) (by kernel_rfl) Tryz.underlying4 rfl hW' rfl rfl rfl (hS.below .head)⟩
end Go.Proofs.YtlmhakmoioogaaaGreat.econWhole
namespace Go.Proofs.YtlmhakmoioogaaaGreat
theorem econWhole_laid : laidOutB Tryz.prog = true := by kernel_rfl
theorem econWhole_rowed : mapsRowed Tryz.prog = true := by kernel_rfl
theorem econWhole_enter : Tryz.prog.mayEnter = true := by kernel_rfl
theorem econWhole_lifts : (Rows.econWholeRow.lifted == Tryz.prog.liftsFinal) = true := by kernel_rfl
theorem econWhole_make : (Tryz.prog.make == some Rows.econWholeRow.make) = true := by kernel_rfl
theorem econWhole_heard : Tryz.prog.stopsHeard = true := by kernel_rfl
theorem econWhole_place : (Rows.econWholeRow.inPlace == Tryz.prog.inPlace 9) = true := by kernel_rfl
theorem econWhole_follow : (Rows.econWholeRow.unfollowed == Tryz.prog.unfollowed 9) = true := by kernel_rfl
theorem econWhole_recur : (Rows.econWholeRow.recurses == Tryz.prog.recurses 9) = true := by kernel_rfl
theorem econWhole_names : (Rows.econWholeRow.named == Tryz.prog.varsNamed 9) = true := by kernel_rfl
theorem econWhole_closed : joinedFacts Tryz.prog 9 Tryz.f9 Rows.econWholeSpec Rows.econWholeRow = true := by
  unfold joinedFacts
  rw [econWhole_laid, econWhole_rowed, econWhole_enter, econWhole_lifts, econWhole_make, econWhole_heard, econWhole_place, econWhole_follow, econWhole_recur, econWhole_names]
  kernel_rfl
theorem econWhole_named : Tryz.prog.funcNamed Rows.econWholeRow.func = some 9 := by kernel_rfl
theorem econWhole_proved : Rows.EconWholeSaid :=
  OpenClaim.holds_of_wide 9 Tryz.f9 rfl rfl rfl rfl rfl rfl rfl ⟨rfl, rfl, rfl, rfl, rfl⟩ rfl rfl rfl rfl rfl econWhole_named Tryz.func9 econWhole_closed
    (of_decide_eq_true (by kernel_rfl)) (by unfold Func.isWrapper; first | (rw [if_pos (by decide +kernel)]; kernel_rfl) | (rw [if_neg (by decide +kernel)]; exact ⟨rfl, rfl⟩))
    (fun os started H enc _ => econWhole.lifted os started H enc)
end Go.Proofs.YtlmhakmoioogaaaGreat
