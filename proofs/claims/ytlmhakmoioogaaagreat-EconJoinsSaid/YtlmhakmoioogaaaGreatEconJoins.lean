/-
  EconJoins: two economies that have a key, or something under way, in common are not joined, and nothing is changed; others are. For every two rows of requests.
-/
import Derived.Test.YtlmhakmoioogaaaGreatEconWjM21
import Derived.Test.YtlmhakmoioogaaaGreatEconWjM49
import Derived.Test.YtlmhakmoioogaaaGreatEconWjM53
import Derived.ChangeArms
import Derived.Lib.SmallJoins
import Derived.Test.YtlmhakmoioogaaaGreatRows
set_option linter.unusedSimpArgs false
set_option linter.unusedVariables false
namespace Go.Proofs.YtlmhakmoioogaaaGreat.econJoins
open Go.ChangeShapes Go.WideShapes Go.ChangeAt Go.RowKit Go.Sl
theorem own : ownKnob Tryz.prog.godebug = none := by kernel_rfl
set_option maxRecDepth 100000 in
theorem lifted (os : Os) (started : os.Started) (H : Type) (enc : TypeId × Value → H) :
    ReturnsInHanded {} Tryz.checked os 8 .any (Rows.econJoinsSpec.pre6 enc Tryz.prog Tryz.f8 Rows.econJoinsRow.domain false) (Rows.econJoinsSpec.post enc Tryz.prog Tryz.f8 false true false false) := by
  refine returnsInHanded_of_change (C := Tryz.checked) own started (by kernel_rfl) Tryz.func8
    (ChangeSpec.witness6 (enc := enc) (C := Tryz.checked) false ⟨#[], #[.slice none 0 0, .slice none 0 0], []⟩ 8 (by kernel_rfl) (by kernel_rfl) (by kernel_rfl) (by kernel_rfl)) ?_
  intro W base args ds gs before hval0 hW hcnd _
  have hval : ∀ (j : Nat) t v, Tryz.f8.params[j]? = some t → args[j]? = some v → Value.okWide Tryz.prog W .any base t v := hval0
  have hW' := hW
  obtain ⟨p, q, hA0, hV, rfl, hfz, hnd⟩ := hW
  have hA : DataW.TrodAll enc Tryz.prog W 0 (fun _ => true) true Tryz.f8.params.toList args.toList ds p := hA0
  rw [Tryz.params8] at hA hval
  obtain ⟨v0, vs0, d0, ds0, p0, q0, hargs, rfl, rfl, h0, r0⟩ := trodAll_cons hA
  obtain ⟨v1, vs1, d1, ds1, p1, q1, rfl, rfl, rfl, h1, r1⟩ := trodAll_cons r0
  obtain ⟨rfl, rfl, rfl⟩ := trodAll_nil r1
  obtain rfl : args = #[v0, v1] := by cases args; simp_all
  obtain ⟨rfl, rfl⟩ := trodVars_none hV
  obtain ⟨a0, ha0⟩ := open_opns (hval 0 43 v0 rfl rfl) h0
  obtain ⟨a1, ha1⟩ := open_opns (hval 1 43 v1 rfl rfl) h1
  refine (joins_spec a0 a1 v0 v1 W ha0 ha1 W W [] (St.start W)).mono fun e W' ⟨he, hS⟩ => ?_
  subst he
  exact ⟨_, rfl, law_post (tb := 4) (by kernel_rfl) (by kernel_rfl) (by kernel_rfl) (by kernel_rfl) (by kernel_rfl) Tryz.underlying4 rfl hW' rfl rfl rfl (hS.below .head)⟩
end Go.Proofs.YtlmhakmoioogaaaGreat.econJoins
namespace Go.Proofs.YtlmhakmoioogaaaGreat
theorem econJoins_laid : laidOutB Tryz.prog = true := by kernel_rfl
theorem econJoins_rowed : mapsRowed Tryz.prog = true := by kernel_rfl
theorem econJoins_enter : Tryz.prog.mayEnter = true := by kernel_rfl
theorem econJoins_lifts : (Rows.econJoinsRow.lifted == Tryz.prog.liftsFinal) = true := by kernel_rfl
theorem econJoins_make : (Tryz.prog.make == some Rows.econJoinsRow.make) = true := by kernel_rfl
theorem econJoins_heard : Tryz.prog.stopsHeard = true := by kernel_rfl
theorem econJoins_place : (Rows.econJoinsRow.inPlace == Tryz.prog.inPlace 8) = true := by kernel_rfl
theorem econJoins_follow : (Rows.econJoinsRow.unfollowed == Tryz.prog.unfollowed 8) = true := by kernel_rfl
theorem econJoins_recur : (Rows.econJoinsRow.recurses == Tryz.prog.recurses 8) = true := by kernel_rfl
theorem econJoins_names : (Rows.econJoinsRow.named == Tryz.prog.varsNamed 8) = true := by kernel_rfl
theorem econJoins_closed : joinedFacts Tryz.prog 8 Tryz.f8 Rows.econJoinsSpec Rows.econJoinsRow = true := by
  unfold joinedFacts
  rw [econJoins_laid, econJoins_rowed, econJoins_enter, econJoins_lifts, econJoins_make, econJoins_heard, econJoins_place, econJoins_follow, econJoins_recur, econJoins_names]
  kernel_rfl
theorem econJoins_named : Tryz.prog.funcNamed Rows.econJoinsRow.func = some 8 := by kernel_rfl
theorem econJoins_proved : Rows.EconJoinsSaid :=
  OpenClaim.holds_of_wide 8 Tryz.f8 rfl rfl rfl rfl rfl rfl rfl ⟨rfl, rfl, rfl, rfl, rfl⟩ rfl rfl rfl rfl rfl econJoins_named Tryz.func8 econJoins_closed
    (of_decide_eq_true (by kernel_rfl)) (by unfold Func.isWrapper; first | (rw [if_pos (by decide +kernel)]; kernel_rfl) | (rw [if_neg (by decide +kernel)]; exact ⟨rfl, rfl⟩))
    (fun os started H enc _ => econJoins.lifted os started H enc)
end Go.Proofs.YtlmhakmoioogaaaGreat
