/-
  Place in every case, as a function on books; the law's known trade; may an order be, as the document says it.
-/
import Derived.Test.YtbcokphjpllbiaaBkH
set_option linter.unusedSimpArgs false
set_option linter.unusedVariables false
namespace Go.Proofs.Ytbcokphjpllbiaa
open Go.RowKit Go.Sl
def bk0 : Bk := ⟨[[], [], [], [], [], [], [], []], 0⟩
theorem bk0_ok : BkOk bk0 := ⟨rfl, by decide, (by intro p hp x hx; simp [bk0] at hp; subst hp; cases hx), by decide, by decide⟩
def tradesR (v : Value) (l : List Trd) : HP := row v 8 69 l.length (l.flatMap Trd.cells)
theorem new_book (W w : World) (L : List HP) (hS : St W L w) :
    Calls Try.prog 19 #[] w fun e w' => ∃ b, e = .returned (.pointer (some ⟨b, 0, none⟩)) ∧ St W (bookP b bk0 :: L) w' := by
  refine (new_spec W w L hS).mono ?_
  rintro e w' ⟨b, rfl, hS⟩
  refine ⟨b, rfl, ?_⟩
  have h1 : ∀ (n : Nat) {L : List HP} {w : World}, St W L w → St W (sats (pilesR (List.replicate n (.slice none 0 0)) (List.replicate n [])) :: L) w := by
    intro n
    induction n with
    | zero => intro L w h; exact ⟨h.os, h.tape, h.output, fun _ => false, trivial, h.sat⟩
    | succ n ih => intro L w h; exact St.join ((ih h).rowNil (k := 6) (T := 32))
  exact bookShut (vs := List.replicate 8 (.slice none 0 0)) rfl rfl (h1 8 hS).swap
theorem place_spec (bb : Nat) (bk : Bk) (o : Ord) (hok : BkOk bk) (W w : World) (L : List HP) (hS : St W (bookP bb bk :: L) w) :
    Calls Try.prog 27 #[.pointer (some ⟨bb, 0, none⟩), .agg o.cells.toArray] w fun e w' => ∃ v, e = .returned (.tuple #[v, .int .i64 (placeB bk o).left, .int .i64 (placeB bk o).errno]) ∧
      St W (bookP bb (placeB bk o).book :: tradesR v (placeB bk o).trades :: L) w' := by
  have hnil : ∀ {w : World}, St W (bookP bb bk :: L) w → St W (bookP bb bk :: tradesR (.slice none 0 0) [] :: L) w := fun h => (h.rowNil (k := 8) (T := 69)).swap
  cases hb : mayB o
  · have e : placeB bk o = ⟨[], 0, 1, bk⟩ := by unfold placeB; rw [if_pos (.inl hb)]
    rw [e]
    refine (place_bad bb bk o hok hb W w L hS).mono ?_
    rintro e w' ⟨rfl, hS⟩
    exact ⟨_, rfl, hnil hS⟩
  · by_cases hle : o.id ≤ bk.last
    · have e : placeB bk o = ⟨[], 0, 1, bk⟩ := by unfold placeB; rw [if_pos (.inr hle)]
      rw [e]
      refine (place_old bb bk o hok hb hle W w L hS).mono ?_
      rintro e w' ⟨rfl, hS⟩
      exact ⟨_, rfl, hnil hS⟩
    · have hno : ¬ (mayB o = false ∨ o.id ≤ bk.last) := by rintro (h | h); (rw [hb] at h; cases h); exact hle h
      by_cases hf : 32 ≤ bk.len
      · have e : placeB bk o = ⟨[], 0, 6, bk⟩ := by unfold placeB; rw [if_neg hno, if_pos hf]
        rw [e]
        refine (place_full bb bk o hok hb (by omega) hf W w L hS).mono ?_
        rintro e w' ⟨rfl, hS⟩
        exact ⟨_, rfl, hnil hS⟩
      · have e : (placeB bk o).errno = 0 := by unfold placeB; rw [if_neg hno, if_neg hf]
        rw [e]
        exact place_ok bb bk o hok hb (by omega) hf W w L hS
def ko1 : Ord := ⟨1, ⟨#[97]⟩, false, 1, 3, 5⟩
def ko2 : Ord := ⟨2, ⟨#[98]⟩, true, 1, 2, 7⟩
def kb1 : Bk := ⟨[[], [], [], [], [], [ko1], [], []], 1⟩
def kb2 : Bk := ⟨[[], [], [], [], [], [⟨1, ⟨#[97]⟩, false, 1, 1, 5⟩], [], []], 2⟩
def kt : Trd := ⟨⟨#[98]⟩, ⟨#[97]⟩, 2, 1, 1, 2, 5, 7⟩
theorem known1 : placeB bk0 ko1 = ⟨[], 3, 0, kb1⟩ := by kernel_rfl
theorem known2 : placeB kb1 ko2 = ⟨[kt], 0, 0, kb2⟩ := by kernel_rfl
theorem kb1_ok : BkOk kb1 := ⟨rfl, by decide, (by
  intro p hp x hx
  have hx' : x = ko1 := by
    simp [kb1] at hp
    rcases hp with rfl | rfl | rfl
    all_goals first | (simp at hx; done) | (simpa using hx)
  subst hx'
  decide), by decide, by decide⟩
/-- Two values are compared. -/
theorem wl_eq {P : Program} {ops : Array Oper} {Q : Exit → Act → World → Prop} {a : Act} {w : World} {rest : List Oper} {o : Oper} (t : TypeId) {x y : Operand} {t' : TypeId} {v : Value} (_ho : o.op = .binOp .eql t x y t') (hg : Region.wanted o (yielded ops a.tmps) = true)
    (hr : (execOp a.eval o).run P w = .ok (.value v) w) (h : wpList P ops Q rest (a.put o.dst v) w) : wpList P ops Q (o :: rest) a w := wpList_run hg hr h
end Go.Proofs.Ytbcokphjpllbiaa
