/-
  EconCuts: an economy is cut at any span: both parts are what the page says; joined again they are what was there. For every row of requests, every span, every row of further requests.
-/
import Derived.Test.YtlmhakmoioogaaaGreatEconCuM21
import Derived.Test.YtlmhakmoioogaaaGreatEconCuM54
import Derived.ChangeArms
import Derived.Lib.SmallJoins
import Derived.Test.YtlmhakmoioogaaaGreatRows
set_option linter.unusedSimpArgs false
set_option linter.unusedVariables false
namespace Go.Proofs.YtlmhakmoioogaaaGreat.econCuts
open Go.ChangeShapes Go.WideShapes Go.ChangeAt Go.RowKit Go.Sl
theorem own : ownKnob Tryz.prog.godebug = none := by kernel_rfl
set_option maxRecDepth 100000 in
theorem lifted (os : Os) (started : os.Started) (H : Type) (enc : TypeId × Value → H) :
    ReturnsInHanded {} Tryz.checked os 10 .any (Rows.econCutsSpec.pre6 enc Tryz.prog Tryz.f10 Rows.econCutsRow.domain false) (Rows.econCutsSpec.post enc Tryz.prog Tryz.f10 false true false false) := by
  refine returnsInHanded_of_change (C := Tryz.checked) own started (by kernel_rfl) Tryz.func10
    (ChangeSpec.witness6 (enc := enc) (C := Tryz.checked) false ⟨#[], #[.slice none 0 0, .agg #[.string ⟨#[]⟩, .string ⟨#[]⟩], .slice none 0 0], []⟩ 8 (by kernel_rfl) (by kernel_rfl) (by kernel_rfl) (by kernel_rfl)) ?_
  intro W base args ds gs before hval0 hW hcnd _
  have hval : ∀ (j : Nat) t v, Tryz.f10.params[j]? = some t → args[j]? = some v → Value.okWide Tryz.prog W .any base t v := hval0
  have hW' := hW
  obtain ⟨p, q, hA0, hV, rfl, hfz, hnd⟩ := hW
  have hA : DataW.TrodAll enc Tryz.prog W 0 (fun _ => true) true Tryz.f10.params.toList args.toList ds p := hA0
  rw [Tryz.params10] at hA hval
  obtain ⟨v0, vs0, d0, ds0, p0, q0, hargs, rfl, rfl, h0, r0⟩ := trodAll_cons hA
  obtain ⟨v1, vs1, d1, ds1, p1, q1, rfl, rfl, rfl, h1, r1⟩ := trodAll_cons r0
  obtain ⟨v2, vs2, d2, ds2, p2, q2, rfl, rfl, rfl, h2, r2⟩ := trodAll_cons r1
  obtain ⟨rfl, rfl, rfl⟩ := trodAll_nil r2
  obtain rfl : args = #[v0, v1, v2] := by cases args; simp_all
  obtain ⟨rfl, rfl⟩ := trodVars_none hV
  obtain ⟨a0, ha0⟩ := open_opns (hval 0 43 v0 rfl rfl) h0
  obtain ⟨s1, rfl⟩ := open_span (hval 1 54 v1 rfl rfl) h1
  obtain ⟨a2, ha2⟩ := open_opns (hval 2 43 v2 rfl rfl) h2
  refine (cuts_spec a0 s1.1 s1.2 a2 v0 v2 W ha0 ha2 W W [] (St.start W)).mono fun e W' ⟨he, hS⟩ => ?_
  subst he
  exact ⟨_, rfl, law_post (tb := 4) (by kernel_rfl) (by kernel_rfl) (by kernel_rfl) (by kernel_rfl) (by kernel_rfl) Tryz.underlying4 rfl hW' rfl rfl rfl (hS.below .head)⟩
end Go.Proofs.YtlmhakmoioogaaaGreat.econCuts
namespace Go.Proofs.YtlmhakmoioogaaaGreat
theorem econCuts_laid : laidOutB Tryz.prog = true := by kernel_rfl
theorem econCuts_rowed : mapsRowed Tryz.prog = true := by kernel_rfl
theorem econCuts_enter : Tryz.prog.mayEnter = true := by kernel_rfl
theorem econCuts_lifts : (Rows.econCutsRow.lifted == Tryz.prog.liftsFinal) = true := by kernel_rfl
theorem econCuts_make : (Tryz.prog.make == some Rows.econCutsRow.make) = true := by kernel_rfl
theorem econCuts_heard : Tryz.prog.stopsHeard = true := by kernel_rfl
theorem econCuts_place : (Rows.econCutsRow.inPlace == Tryz.prog.inPlace 10) = true := by kernel_rfl
theorem econCuts_follow : (Rows.econCutsRow.unfollowed == Tryz.prog.unfollowed 10) = true := by kernel_rfl
theorem econCuts_recur : (Rows.econCutsRow.recurses == Tryz.prog.recurses 10) = true := by kernel_rfl
theorem econCuts_names : (Rows.econCutsRow.named == Tryz.prog.varsNamed 10) = true := by kernel_rfl
theorem econCuts_closed : joinedFacts Tryz.prog 10 Tryz.f10 Rows.econCutsSpec Rows.econCutsRow = true := by
  unfold joinedFacts
  rw [econCuts_laid, econCuts_rowed, econCuts_enter, econCuts_lifts, econCuts_make, econCuts_heard, econCuts_place, econCuts_follow, econCuts_recur, econCuts_names]
  kernel_rfl
theorem econCuts_named : Tryz.prog.funcNamed Rows.econCutsRow.func = some 10 := by kernel_rfl
theorem econCuts_proved : Rows.EconCutsSaid :=
  OpenClaim.holds_of_wide 10 Tryz.f10 rfl rfl rfl rfl rfl rfl rfl ⟨rfl, rfl, rfl, rfl, rfl⟩ rfl rfl rfl rfl rfl econCuts_named Tryz.func10 econCuts_closed
    (of_decide_eq_true (by kernel_rfl)) (by unfold Func.isWrapper; first | (rw [if_pos (by decide +kernel)]; kernel_rfl) | (rw [if_neg (by decide +kernel)]; exact ⟨rfl, rfl⟩))
    (fun os started H enc _ => econCuts.lifted os started H enc)
end Go.Proofs.YtlmhakmoioogaaaGreat
