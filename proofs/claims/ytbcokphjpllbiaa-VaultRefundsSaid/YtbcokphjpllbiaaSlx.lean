/-
  append of a slice of another named type. Over any program; no condition.
-/
import Derived.Test.YtbcokphjpllbiaaSlw
set_option linter.unusedSimpArgs false
set_option linter.unusedVariables false
namespace Go.Sl
open Go.RowKit
section
variable {P : Program} {ops : Array Oper} {Q : Exit → Act → World → Prop} {a : Act} {w : World} {W : World} {L L' R : List HP} {rest : List Oper} {o : Oper}
theorem append_types {t t2 e e2 : TypeId} (ht : P.underlying t = some (.slice e)) (h2 : P.underlying t2 = some (.slice e2)) (ty : TypeId) (s x : Value) (w : World) : (Builtin.append_ #[t, t2] ty #[s, x]).run P w = (Builtin.append_ #[t, t] ty #[s, x]).run P w := by
  unfold Builtin.append_
  simp only [List.getElem?_toArray, List.getElem?_cons_zero, List.getElem?_cons_succ, Sem.run_bind, run_underlying ht, run_underlying h2, Result.andThen_ok]
  cases s <;> simp [run_underlying ht, run_underlying h2]
theorem wl_append2 {s x : Operand} {t t2 e e2 : TypeId} {z : Value} {k bytes : Nat} {v xv : Value} {n m : Nat} {cs news : List Value} (hS : St W L w) (ho : o.op = .call { callee := .builtin .append, args := #[s, x], argTypes := #[t, t2] })
    (hg : Region.wanted o (yielded ops a.tmps) = true) (hs : a.eval s = v) (hx : a.eval x = xv) (ht : tyElem P t = some e) (ht2 : tyElem P t2 = some e2) (hi : tyRow P e = some (some z, k, bytes)) (hz : z.cells.size = k) (hk : 0 < k) (hu : Take L (row v k e n cs) R)
    (hsrc : Src L xv m news) (hl : news.length = m * k) (h1 : news.all (·.oneCell') = true) (h63 : n + m ≤ maxLen) (hb : (n + m) * bytes ≤ 140737488355328)
    (h : ∀ v' w', St W (row v' k e (n + m) (cs ++ news) :: R) w' → wpList P ops Q rest (a.put o.dst v') w') : wpList P ops Q (o :: rest) a w := by
  obtain ⟨v', w', hr, hS'⟩ := run_append (P := P) (ty := o.type) ht hi hz hk rfl hS hu (hsrc.at hS) hl h1 h63 hb
  refine wpList_run hg (v := v') (w' := w') ?_ (h v' w' hS')
  unfold execOp
  simp only [ho, resolve, invoke, builtin, Sem.run_bind, Sem.run_pure, Result.andThen_ok, List.map_toArray, List.map_cons, List.map_nil, hs, hx, append_types (tyElem_spec ht) (tyElem_spec ht2), hr]
end
end Go.Sl
