/-
  EconSends: what is sent is at its place when it has arrived, once, and nothing is under way when that is done. For every three numbers.
-/
import Derived.Test.YtlmhakmoioogaaaGreatEconSendsM32
import Derived.Test.YtlmhakmoioogaaaGreatRows
import Derived.Lib.SmallJoins
import Derived.ChangeArms
set_option linter.unusedSimpArgs false
set_option linter.unusedVariables false
namespace Go.Proofs.YtlmhakmoioogaaaGreat.econSends
open Go.ChangeShapes Go.WideShapes Go.ChangeAt Go.RowKit Go.Sl
theorem own : ownKnob Tryz.prog.godebug = none := by kernel_rfl
set_option maxRecDepth 100000 in
theorem lifted (os : Os) (started : os.Started) (H : Type) (enc : TypeId × Value → H) :
    ReturnsInHanded {} Tryz.checked os 3 .any (Rows.econSendsSpec.pre6 enc Tryz.prog Tryz.f3 Rows.econSendsRow.domain false) (Rows.econSendsSpec.post enc Tryz.prog Tryz.f3 false true false false) := by
  refine returnsInHanded_of_change (C := Tryz.checked) own started (by kernel_rfl) Tryz.func3
    (ChangeSpec.witness6 (enc := enc) (C := Tryz.checked) false ⟨#[], #[.int .i64 0, .int .i64 0, .int .i64 0], []⟩ 8 (by kernel_rfl) (by kernel_rfl) (by kernel_rfl) (by kernel_rfl)) ?_
  intro W base args ds gs before hval0 hW hcnd _
  have hval : ∀ (j : Nat) t v, Tryz.f3.params[j]? = some t → args[j]? = some v → Value.okWide Tryz.prog W .any base t v := hval0
  have hW' := hW
  obtain ⟨p, q, hA0, hV, rfl, hfz, hnd⟩ := hW
  have hA : DataW.TrodAll enc Tryz.prog W 0 (fun _ => true) true Tryz.f3.params.toList args.toList ds p := hA0
  rw [Tryz.params3] at hA hval
  obtain ⟨v0, vs0, d0, ds0, p0, q0, hargs, rfl, rfl, h0, r0⟩ := trodAll_cons hA
  obtain ⟨v1, vs1, d1, ds1, p1, q1, rfl, rfl, rfl, h1, r1⟩ := trodAll_cons r0
  obtain ⟨v2, vs2, d2, ds2, p2, q2, rfl, rfl, rfl, h2, r2⟩ := trodAll_cons r1
  obtain ⟨rfl, rfl, rfl⟩ := trodAll_nil r2
  obtain rfl : args = #[v0, v1, v2] := by cases args; simp_all
  obtain ⟨rfl, rfl⟩ := trodVars_none hV
  obtain ⟨i0, rfl, _⟩ := open_int Tryz.underlying3 (hval 0 3 v0 rfl rfl) h0
  obtain ⟨i1, rfl, _⟩ := open_int Tryz.underlying3 (hval 1 3 v1 rfl rfl) h1
  obtain ⟨i2, rfl, _⟩ := open_int Tryz.underlying3 (hval 2 3 v2 rfl rfl) h2
  refine (eSends_spec i0 i1 i2 W W [Old W] (St.start W)).mono fun e W' ⟨he, hS⟩ => ?_
  subst he
  exact ⟨_, rfl, law_post (tb := 4) (by kernel_rfl) (by kernel_rfl) (by kernel_rfl) (by kernel_rfl) (by kernel_rfl) Tryz.underlying4 rfl hW' rfl rfl rfl (hS.below .head)⟩
end Go.Proofs.YtlmhakmoioogaaaGreat.econSends
namespace Go.Proofs.YtlmhakmoioogaaaGreat
theorem econSends_laid : laidOutB Tryz.prog = true := by kernel_rfl
theorem econSends_rowed : mapsRowed Tryz.prog = true := by kernel_rfl
theorem econSends_enter : Tryz.prog.mayEnter = true := by kernel_rfl
theorem econSends_lifts : (Rows.econSendsRow.lifted == Tryz.prog.liftsFinal) = true := by kernel_rfl
theorem econSends_make : (Tryz.prog.make == some Rows.econSendsRow.make) = true := by kernel_rfl
theorem econSends_heard : Tryz.prog.stopsHeard = true := by kernel_rfl
theorem econSends_place : (Rows.econSendsRow.inPlace == Tryz.prog.inPlace 3) = true := by kernel_rfl
theorem econSends_follow : (Rows.econSendsRow.unfollowed == Tryz.prog.unfollowed 3) = true := by kernel_rfl
theorem econSends_recur : (Rows.econSendsRow.recurses == Tryz.prog.recurses 3) = true := by kernel_rfl
theorem econSends_names : (Rows.econSendsRow.named == Tryz.prog.varsNamed 3) = true := by kernel_rfl
theorem econSends_closed : joinedFacts Tryz.prog 3 Tryz.f3 Rows.econSendsSpec Rows.econSendsRow = true := by
  unfold joinedFacts
  rw [econSends_laid, econSends_rowed, econSends_enter, econSends_lifts, econSends_make, econSends_heard, econSends_place, econSends_follow, econSends_recur, econSends_names]
  kernel_rfl
theorem econSends_named : Tryz.prog.funcNamed Rows.econSendsRow.func = some 3 := by kernel_rfl
theorem econSends_proved : Rows.EconSendsSaid :=
  OpenClaim.holds_of_wide 3 Tryz.f3 rfl rfl rfl rfl rfl rfl rfl ⟨rfl, rfl, rfl, rfl, rfl⟩ rfl rfl rfl rfl rfl econSends_named Tryz.func3 econSends_closed
    (of_decide_eq_true (by kernel_rfl)) (by unfold Func.isWrapper; first | (rw [if_pos (by decide +kernel)]; kernel_rfl) | (rw [if_neg (by decide +kernel)]; exact ⟨rfl, rfl⟩))
    (fun os started H enc _ => econSends.lifted os started H enc)
end Go.Proofs.YtlmhakmoioogaaaGreat
