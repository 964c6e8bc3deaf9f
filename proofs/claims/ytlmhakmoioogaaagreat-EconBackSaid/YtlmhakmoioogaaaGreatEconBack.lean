/-
  EconBack: an economy as bytes, there and back, goes on as it was. For every two rows of requests.
-/
import Derived.Test.YtlmhakmoioogaaaGreatEconBkM25
set_option linter.unusedSimpArgs false
set_option linter.unusedVariables false
namespace Go.Proofs.YtlmhakmoioogaaaGreat.econBack
open Go.ChangeShapes Go.WideShapes Go.ChangeAt Go.RowKit Go.Sl
theorem own : ownKnob Tryz.prog.godebug = none := by kernel_rfl
set_option maxRecDepth 100000 in
theorem lifted (os : Os) (started : os.Started) (H : Type) (enc : TypeId × Value → H) :
    ReturnsInHanded {} Tryz.checked os 13 .any (Rows.econBackSpec.pre6 enc Tryz.prog Tryz.f13 Rows.econBackRow.domain false) (Rows.econBackSpec.post enc Tryz.prog Tryz.f13 false true false false) := by
  refine returnsInHanded_of_change (C := Tryz.checked) own started (by kernel_rfl) Tryz.func13
    (ChangeSpec.witness6 (enc := enc) (C := Tryz.checked) false ⟨#[], #[.slice none 0 0, .slice none 0 0], []⟩ 8 (by kernel_rfl) (by kernel_rfl) (by kernel_rfl) (by kernel_rfl)) ?_
  intro W base args ds gs before hval0 hW hcnd _
  have hval : ∀ (j : Nat) t v, Tryz.f13.params[j]? = some t → args[j]? = some v → Value.okWide Tryz.prog W .any base t v := hval0
  have hW' := hW
  obtain ⟨p, q, hA0, hV, rfl, hfz, hnd⟩ := hW
  have hA : DataW.TrodAll enc Tryz.prog W 0 (fun _ => true) true Tryz.f13.params.toList args.toList ds p := hA0
  rw [Tryz.params13] at hA hval
  obtain ⟨v0, vs0, d0, ds0, p0, q0, hargs, rfl, rfl, h0, r0⟩ := trodAll_cons hA
  obtain ⟨v1, vs1, d1, ds1, p1, q1, rfl, rfl, rfl, h1, r1⟩ := trodAll_cons r0
  obtain ⟨rfl, rfl, rfl⟩ := trodAll_nil r1
  obtain rfl : args = #[v0, v1] := by cases args; simp_all
  obtain ⟨rfl, rfl⟩ := trodVars_none hV
  obtain ⟨a0, ha0⟩ := open_opns (hval 0 43 v0 rfl rfl) h0
  obtain ⟨a1, ha1⟩ := open_opns (hval 1 43 v1 rfl rfl) h1
  refine (backE_spec a0 a1 v0 v1 W ha0 ha1 W W [] (St.start W)).mono fun e W' ⟨he, hS⟩ => ?_
  subst he
  exact ⟨_, rfl, law_post (tb := 4) (by kernel_rfl) (by kernel_rfl) (by kernel_rfl) (by kernel_rfl) (by kernel_rfl) Tryz.underlying4 rfl hW' rfl rfl rfl (hS.below .head)⟩
end Go.Proofs.YtlmhakmoioogaaaGreat.econBack
namespace Go.Proofs.YtlmhakmoioogaaaGreat
theorem econBack_laid : laidOutB Tryz.prog = true := by kernel_rfl
theorem econBack_rowed : mapsRowed Tryz.prog = true := by kernel_rfl
theorem econBack_enter : Tryz.prog.mayEnter = true := by kernel_rfl
theorem econBack_lifts : (Rows.econBackRow.lifted == Tryz.prog.liftsFinal) = true := by kernel_rfl
theorem econBack_make : (Tryz.prog.make == some Rows.econBackRow.make) = true := by kernel_rfl
theorem econBack_heard : Tryz.prog.stopsHeard = true := by kernel_rfl
theorem econBack_place : (Rows.econBackRow.inPlace == Tryz.prog.inPlace 13) = true := by kernel_rfl
theorem econBack_follow : (Rows.econBackRow.unfollowed == Tryz.prog.unfollowed 13) = true := by kernel_rfl
theorem econBack_recur : (Rows.econBackRow.recurses == Tryz.prog.recurses 13) = true := by kernel_rfl
theorem econBack_names : (Rows.econBackRow.named == Tryz.prog.varsNamed 13) = true := by kernel_rfl
theorem econBack_closed : joinedFacts Tryz.prog 13 Tryz.f13 Rows.econBackSpec Rows.econBackRow = true := by
  unfold joinedFacts
  rw [econBack_laid, econBack_rowed, econBack_enter, econBack_lifts, econBack_make, econBack_heard, econBack_place, econBack_follow, econBack_recur, econBack_names]
  kernel_rfl
theorem econBack_named : Tryz.prog.funcNamed Rows.econBackRow.func = some 13 := by kernel_rfl
theorem econBack_proved : Rows.EconBackSaid :=
  OpenClaim.holds_of_wide 13 Tryz.f13 rfl rfl rfl rfl rfl rfl rfl ⟨rfl, rfl, rfl, rfl, rfl⟩ rfl rfl rfl rfl rfl econBack_named Tryz.func13 econBack_closed
    (of_decide_eq_true (by kernel_rfl)) (by unfold Func.isWrapper; first | (rw [if_pos (by decide +kernel)]; kernel_rfl) | (rw [if_neg (by decide +kernel)]; exact ⟨rfl, rfl⟩))
    (fun os started H enc _ => econBack.lifted os started H enc)
end Go.Proofs.YtlmhakmoioogaaaGreat
