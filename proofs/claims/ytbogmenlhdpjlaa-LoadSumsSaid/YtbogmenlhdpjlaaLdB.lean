/-
  A nil Load: Hit, Fade, Gone do nothing, Table has no row. For every zone and key.
-/
import Derived.Test.YtbogmenlhdpjlaaLdA
set_option linter.unusedSimpArgs false
set_option linter.unusedVariables false
namespace Go.Proofs.Ytbogmenlhdpjlaa
open Go.RowKit Go.Sl
theorem hit_nil (z : Int) (k : ByteArray) (W w : World) (L : List HP) (hS : St W L w) :
    Calls Try.prog 11 #[.pointer none, .int .i64 z, .string k] w fun e w' => e = .returned (.tuple #[]) ∧ St W L w' := by
  go_enter Try.func11, Try.ntmps11
  go_wp2_with fail
  refine bodyPost_ret (results_none rfl _ _ _) rfl ?_
  exact ⟨rfl, hS⟩
theorem fade_nil (W w : World) (L : List HP) (hS : St W L w) :
    Calls Try.prog 13 #[.pointer none] w fun e w' => e = .returned (.tuple #[]) ∧ St W L w' := by
  go_enter Try.func13, Try.ntmps13
  go_wp2_with fail
  refine bodyPost_ret (results_none rfl _ _ _) rfl ?_
  exact ⟨rfl, hS⟩
theorem gone_nil (z : Int) (W w : World) (L : List HP) (hS : St W L w) :
    Calls Try.prog 16 #[.pointer none, .int .i64 z] w fun e w' => e = .returned (.tuple #[]) ∧ St W L w' := by
  go_enter Try.func16, Try.ntmps16
  go_wp2_with fail
  go_end0
  exact ⟨rfl, hS⟩
theorem table_nil (W w : World) (L : List HP) (hS : St W L w) :
    Calls Try.prog 12 #[.pointer none] w fun e w' => e = .returned (.slice none 0 0) ∧ St W L w' := by
  go_enter Try.func12, Try.ntmps12
  go_wp2_with fail
  go_ret
  exact ⟨rfl, hS⟩
/-- Arguments that may not be: nothing is done. -/
theorem hit_bad (lb : Nat) (z : Int) (k : ByteArray) (hbad : z < 1 ∨ k.size < 1 ∨ 16 < k.size) (W w : World) (L : List HP) (hS : St W L w) :
    Calls Try.prog 11 #[.pointer (some ⟨lb, 0, none⟩), .int .i64 z, .string k] w fun e w' => e = .returned (.tuple #[]) ∧ St W L w' := by
  go_enter Try.func11, Try.ntmps11
  by_cases hz : z < 1
  · go_wp2_with fail
    all_goals refine bodyPost_ret (results_none rfl _ _ _) rfl ?_
    all_goals exact ⟨rfl, hS⟩
  · have d1 : decide (z < 1) = false := by simpa using hz
    by_cases h1 : k.size < 1
    · have h1' : (k.size : Int) < 1 := by omega
      go_wp2_with fail
      all_goals refine bodyPost_ret (results_none rfl _ _ _) rfl ?_
      all_goals exact ⟨rfl, hS⟩
    · have d2 : decide ((k.size : Int) < 1) = false := by simp; omega
      have h2 : (16 : Int) < (k.size : Int) := by omega
      go_wp2_with fail
      all_goals refine bodyPost_ret (results_none rfl _ _ _) rfl ?_
      all_goals exact ⟨rfl, hS⟩
end Go.Proofs.Ytbogmenlhdpjlaa
