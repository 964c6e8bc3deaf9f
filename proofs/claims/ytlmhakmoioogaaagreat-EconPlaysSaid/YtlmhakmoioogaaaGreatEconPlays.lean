/-
  EconPlays: of any requests what is said, and all that there is. For every row of requests.
-/
import Derived.Test.YtlmhakmoioogaaaGreatEconPlaysM37
import Derived.Test.YtlmhakmoioogaaaGreatEconPlaysM54
import Derived.Test.YtlmhakmoioogaaaGreatRows
import Derived.Lib.SmallJoins
import Derived.ChangeArms
set_option linter.unusedSimpArgs false
set_option linter.unusedVariables false
namespace Go.Proofs.YtlmhakmoioogaaaGreat.econPlays
open Go.ChangeShapes Go.WideShapes Go.ChangeAt Go.RowKit Go.Sl
theorem own : ownKnob Tryz.prog.godebug = none := by kernel_rfl
set_option maxRecDepth 100000 in
theorem lifted (os : Os) (started : os.Started) (H : Type) (enc : TypeId × Value → H) :
    ReturnsInHanded {} Tryz.checked os 7 .any (Rows.econPlaysSpec.pre6 enc Tryz.prog Tryz.f7 Rows.econPlaysRow.domain false) (Rows.econPlaysSpec.post enc Tryz.prog Tryz.f7 false true false false) := by
  refine returnsInHanded_of_change (C := Tryz.checked) own started (by kernel_rfl) Tryz.func7
    (ChangeSpec.witness6 (enc := enc) (C := Tryz.checked) false ⟨#[], #[.slice none 0 0], []⟩ 8 (by kernel_rfl) (by kernel_rfl) (by kernel_rfl) (by kernel_rfl)) ?_
  intro W base args ds gs before hval0 hW hcnd _
  have hval : ∀ (j : Nat) t v, Tryz.f7.params[j]? = some t → args[j]? = some v → Value.okWide Tryz.prog W .any base t v := hval0
  have hW' := hW
  obtain ⟨p, q, hA0, hV, rfl, hfz, hnd⟩ := hW
  have hA : DataW.TrodAll enc Tryz.prog W 0 (fun _ => true) true Tryz.f7.params.toList args.toList ds p := hA0
  rw [Tryz.params7] at hA hval
  obtain ⟨v0, vs0, d0, ds0, p0, q0, hargs, rfl, rfl, h0, r0⟩ := trodAll_cons hA
  obtain ⟨rfl, rfl, rfl⟩ := trodAll_nil r0
  obtain rfl : args = #[v0] := by cases args; simp_all
  obtain ⟨rfl, rfl⟩ := trodVars_none hV
  obtain ⟨a0, ha0⟩ := open_opns (hval 0 43 v0 rfl rfl) h0
  refine (playsE_spec a0 v0 W ha0 W W [] (St.start W)).mono fun e W' ⟨he, hS⟩ => ?_
  subst he
  exact ⟨_, rfl, law_post (tb := 4) (by kernel_rfl) (by kernel_rfl) (by kernel_rfl) (by kernel_rfl) (by kernel_rfl) Tryz.underlying4 rfl hW' rfl rfl rfl (hS.below .head)⟩
end Go.Proofs.YtlmhakmoioogaaaGreat.econPlays
namespace Go.Proofs.YtlmhakmoioogaaaGreat
theorem econPlays_laid : laidOutB Tryz.prog = true := by kernel_rfl
theorem econPlays_rowed : mapsRowed Tryz.prog = true := by kernel_rfl
theorem econPlays_enter : Tryz.prog.mayEnter = true := by kernel_rfl
theorem econPlays_lifts : (Rows.econPlaysRow.lifted == Tryz.prog.liftsFinal) = true := by kernel_rfl
theorem econPlays_make : (Tryz.prog.make == some Rows.econPlaysRow.make) = true := by kernel_rfl
theorem econPlays_heard : Tryz.prog.stopsHeard = true := by kernel_rfl
theorem econPlays_place : (Rows.econPlaysRow.inPlace == Tryz.prog.inPlace 7) = true := by kernel_rfl
theorem econPlays_follow : (Rows.econPlaysRow.unfollowed == Tryz.prog.unfollowed 7) = true := by kernel_rfl
theorem econPlays_recur : (Rows.econPlaysRow.recurses == Tryz.prog.recurses 7) = true := by kernel_rfl
theorem econPlays_names : (Rows.econPlaysRow.named == Tryz.prog.varsNamed 7) = true := by kernel_rfl
theorem econPlays_closed : joinedFacts Tryz.prog 7 Tryz.f7 Rows.econPlaysSpec Rows.econPlaysRow = true := by
  unfold joinedFacts
  rw [econPlays_laid, econPlays_rowed, econPlays_enter, econPlays_lifts, econPlays_make, econPlays_heard, econPlays_place, econPlays_follow, econPlays_recur, econPlays_names]
  kernel_rfl
theorem econPlays_named : Tryz.prog.funcNamed Rows.econPlaysRow.func = some 7 := by kernel_rfl
theorem econPlays_proved : Rows.EconPlaysSaid :=
  OpenClaim.holds_of_wide 7 Tryz.f7 rfl rfl rfl rfl rfl rfl rfl ⟨rfl, rfl, rfl, rfl, rfl⟩ rfl rfl rfl rfl rfl econPlays_named Tryz.func7 econPlays_closed
    (of_decide_eq_true (by kernel_rfl)) (by unfold Func.isWrapper; first | (rw [if_pos (by decide +kernel)]; kernel_rfl) | (rw [if_neg (by decide +kernel)]; exact ⟨rfl, rfl⟩))
    (fun os started H enc _ => econPlays.lifted os started H enc)
end Go.Proofs.YtlmhakmoioogaaaGreat
