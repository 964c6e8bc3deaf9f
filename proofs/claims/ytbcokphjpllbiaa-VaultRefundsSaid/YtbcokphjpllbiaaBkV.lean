/-
  BookGone: the walk. For all prices, all that are cancelled, every order.
-/
import Derived.Test.YtbcokphjpllbiaaBkU
import Derived.Test.YtbcokphjpllbiaaInts
import Derived.Test.YtbcokphjpllbiaaRow
set_option linter.unusedSimpArgs false
set_option linter.unusedVariables false
namespace Go.Proofs.Ytbcokphjpllbiaa
open Go.RowKit Go.Sl
theorem IntsV.flat {V : World} {v : Value} {zs : List Int} (h : IntsV V v zs) : ∃ a cap, v = .slice a zs.length cap ∧ zs.length ≤ 9223372036854775807 ∧ ∀ i, i < zs.length → ∃ b off, a = some ⟨b, off, none⟩ ∧ V.cell? ⟨b, off + i, none⟩ = some (.int .i64 (zs.getD i 0)) := by
  rcases h with ⟨rfl, a, cap, rfl⟩ | ⟨b, off, cap, rfl, _, h63, hc⟩
  · exact ⟨a, cap, rfl, by simp, fun i hi => absurd hi (Nat.not_lt_zero _)⟩
  · exact ⟨_, cap, rfl, h63, fun i hi => ⟨b, off, rfl, hc i hi⟩⟩
def intsR (v : Value) (ks : List Int) : HP := row v 1 3 ks.length (ks.map (Value.int .i64))
def Gone1 (W : World) (L : List HP) (zs : List Int) (bb : Nat) (v8 : Value) (w : World) : Prop :=
  ∃ (k : Nat) (q : List Ord), v8 = .int .i64 k ∧ k ≤ zs.length ∧ q.length = k ∧ GoneQ k q ∧ St W (bookP bb (bG q k) :: L) w
def Gone2 (W : World) (L : List HP) (n m : Nat) (bb : Nat) (v9 v10 : Value) (w : World) : Prop :=
  ∃ (k : Nat) (q : List Ord) (gone : List Int), v10 = .int .i64 k ∧ k ≤ m ∧ q.length ≤ 20 ∧ GoneQ n q ∧ gone.length = k ∧ (∀ x ∈ q, x.id ∉ gone) ∧ (∀ x ∈ gone, x ≤ 32) ∧ St W (bookP bb (bG q n) :: intsR v9 gone :: L) w
def Gone3 (W : World) (L : List HP) (n : Nat) (v : Value) (w : World) : Prop := ∃ i : Nat, v = .int .i64 i ∧ i ≤ n ∧ St W L w
end Go.Proofs.Ytbcokphjpllbiaa
