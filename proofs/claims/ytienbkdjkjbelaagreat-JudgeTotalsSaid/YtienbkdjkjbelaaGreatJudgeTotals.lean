/-
  JudgeTotals: of any rows of requests and any map the sums are those of all, kept. For all of them.
-/
import Derived.Test.YtienbkdjkjbelaaGreatJuTM21
import Derived.Test.YtienbkdjkjbelaaGreatJuTM49
import Derived.ChangeArms
import Derived.Lib.SmallJoins
import Derived.Test.YtienbkdjkjbelaaGreatRows
set_option linter.unusedSimpArgs false
set_option linter.unusedVariables false
namespace Go.Proofs.YtienbkdjkjbelaaGreat.judgeTotals
open Go.ChangeShapes Go.WideShapes Go.ChangeAt Go.RowKit Go.Sl
theorem own : ownKnob Tryz.prog.godebug = none := by kernel_rfl
set_option maxRecDepth 100000 in
theorem lifted (os : Os) (started : os.Started) (H : Type) (enc : TypeId × Value → H) :
    ReturnsInHanded {} Tryz.checked os 5 .any (Rows.judgeTotalsSpec.pre6 enc Tryz.prog Tryz.f5 Rows.judgeTotalsRow.domain false) (Rows.judgeTotalsSpec.post enc Tryz.prog Tryz.f5 false true false false) := by
  refine returnsInHanded_of_change_sized (C := Tryz.checked) own started (by kernel_rfl) Tryz.func5
    (ChangeSpec.witness6 (enc := enc) (C := Tryz.checked) false ⟨#[], #[.slice none 0 0, .slice none 0 0, .agg #[.int .i64 0, .int .i64 0, .slice none 0 0]], []⟩ 8 (by kernel_rfl) (by kernel_rfl) (by kernel_rfl) (by kernel_rfl)) ?_
  intro W base args ds gs before hval0 hW hcnd hsz _
  have hval : ∀ (j : Nat) t v, Tryz.f5.params[j]? = some t → args[j]? = some v → Value.okWide Tryz.prog W .any base t v := hval0
  have hW' := hW
  obtain ⟨p, q, hA0, hV, rfl, hfz, hnd⟩ := hW
  have hA : DataW.TrodAll enc Tryz.prog W 0 (fun _ => true) true Tryz.f5.params.toList args.toList ds p := hA0
  rw [Tryz.params5] at hA hval
  obtain ⟨v0, vs0, d0, ds0, p0, q0, hargs, rfl, rfl, h0, r0⟩ := trodAll_cons hA
  obtain ⟨v1, vs1, d1, ds1, p1, q1, rfl, rfl, rfl, h1, r1⟩ := trodAll_cons r0
  obtain ⟨v2, vs2, d2, ds2, p2, q2, rfl, rfl, rfl, h2, r2⟩ := trodAll_cons r1
  obtain ⟨rfl, rfl, rfl⟩ := trodAll_nil r2
  obtain rfl : args = #[v0, v1, v2] := by cases args; simp_all
  obtain ⟨rfl, rfl⟩ := trodVars_none hV
  obtain ⟨w0, hw0, hb0⟩ := open_opnss (hval 0 55 v0 rfl rfl) h0 (fun n hn => of_decide_eq_true (List.all_eq_true.1 hsz n (DataW.weights_mem_each (j := 0) rfl rfl n hn)))
  obtain ⟨a1, ha1⟩ := open_opns (hval 1 22 v1 rfl rfl) h1
  obtain ⟨m2, n2, y2, z2, rfl, hz2⟩ := open_map (hval 2 58 v2 rfl rfl) h2
  refine (totalsJ_spec hw0 hb0 ha1 hz2 W W [] (St.start W)).mono fun e W' ⟨he, hS⟩ => ?_
  subst he
  exact ⟨_, rfl, law_post (tb := 4) (by kernel_rfl) (by kernel_rfl) (by kernel_rfl) (by kernel_rfl) (by kernel_rfl) Tryz.underlying4 rfl hW' rfl rfl rfl (hS.below .head)⟩
end Go.Proofs.YtienbkdjkjbelaaGreat.judgeTotals
namespace Go.Proofs.YtienbkdjkjbelaaGreat
theorem judgeTotals_laid : laidOutB Tryz.prog = true := by kernel_rfl
theorem judgeTotals_rowed : mapsRowed Tryz.prog = true := by kernel_rfl
theorem judgeTotals_enter : Tryz.prog.mayEnter = true := by kernel_rfl
theorem judgeTotals_lifts : (Rows.judgeTotalsRow.lifted == Tryz.prog.liftsFinal) = true := by kernel_rfl
theorem judgeTotals_make : (Tryz.prog.make == some Rows.judgeTotalsRow.make) = true := by kernel_rfl
theorem judgeTotals_heard : Tryz.prog.stopsHeard = true := by kernel_rfl
theorem judgeTotals_place : (Rows.judgeTotalsRow.inPlace == Tryz.prog.inPlace 5) = true := by kernel_rfl
theorem judgeTotals_follow : (Rows.judgeTotalsRow.unfollowed == Tryz.prog.unfollowed 5) = true := by kernel_rfl
theorem judgeTotals_recur : (Rows.judgeTotalsRow.recurses == Tryz.prog.recurses 5) = true := by kernel_rfl
theorem judgeTotals_names : (Rows.judgeTotalsRow.named == Tryz.prog.varsNamed 5) = true := by kernel_rfl
theorem judgeTotals_closed : joinedFacts Tryz.prog 5 Tryz.f5 Rows.judgeTotalsSpec Rows.judgeTotalsRow = true := by
  unfold joinedFacts
  rw [judgeTotals_laid, judgeTotals_rowed, judgeTotals_enter, judgeTotals_lifts, judgeTotals_make, judgeTotals_heard, judgeTotals_place, judgeTotals_follow, judgeTotals_recur, judgeTotals_names]
  kernel_rfl
theorem judgeTotals_named : Tryz.prog.funcNamed Rows.judgeTotalsRow.func = some 5 := by kernel_rfl
theorem judgeTotals_proved : Rows.JudgeTotalsSaid :=
  OpenClaim.holds_of_wide 5 Tryz.f5 rfl rfl rfl rfl rfl rfl rfl ⟨rfl, rfl, rfl, rfl, rfl⟩ rfl rfl rfl rfl rfl judgeTotals_named Tryz.func5 judgeTotals_closed
    (of_decide_eq_true (by kernel_rfl)) (by unfold Func.isWrapper; first | (rw [if_pos (by decide +kernel)]; kernel_rfl) | (rw [if_neg (by decide +kernel)]; exact ⟨rfl, rfl⟩))
    (fun os started H enc _ => judgeTotals.lifted os started H enc)
end Go.Proofs.YtienbkdjkjbelaaGreat
