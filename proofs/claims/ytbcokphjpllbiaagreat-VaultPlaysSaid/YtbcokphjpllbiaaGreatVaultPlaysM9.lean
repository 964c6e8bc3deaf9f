/-
  The vault's purses: Has, lays, Put, Take. For every vault.
-/
import Derived.Test.YtbcokphjpllbiaaGreatVaultPlaysM3
import Derived.Test.YtbcokphjpllbiaaGreatVaultPlaysM4
import Derived.Test.YtbcokphjpllbiaaGreatVaultPlaysM7
import Derived.Test.YtbcokphjpllbiaaGreatVaultPlaysM8

section
set_option linter.unusedSimpArgs false
set_option linter.unusedVariables false
namespace Go.Sl
open Go.RowKit
section
variable {κ ν : Type} [DecidableEq κ] {P : Program} {t K E : TypeId} {ek : κ → Value} {ev : ν → Value} {W w : World} {L R : List HP} {b : Nat} {l : List (κ × ν)} {ops : Array Oper} {a : Act} {rest : List Oper} {o : Oper}
theorem lookR_u {k : κ} {z : Value} {d u : ν} (hd : z = ev d) (hu : (getL l k).getD d = u) : lookR false z ((getL l k).map ev) = ev u := by
  subst hu hd
  cases getL l k <;> rfl
/-- What stands at a key, or nothing. -/
theorem wl_alookU {Q : Exit → Act → World → Prop} {x y : Operand} {k : κ} {z : Value} (d u : ν) (hS : St W L w) (ho : o.op = .lookup t x y false) (hg : Region.wanted o (yielded ops a.tmps) = true) (hx : a.eval x = .map (some b)) (hy : a.eval y = ek k) (hu : Take L (amap ek ev b l) R)
    (ht : tyMap P t = some (K, E)) (hK : KeyOk P K ek) (hz : tyZeroV P E = some z) (hd : z = ev d) (hv : (getL l k).getD d = u) (h : wpList P ops Q rest (a.put o.dst (ev u)) w) : wpList P ops Q (o :: rest) a w :=
  wl_alook hS ho hg hx hy hu ht hK hz (by rw [lookR_u hd hv]; exact h)
theorem ch_alookU {tb : List Nat} {toks : List Tok} {fresh : Nat → Bool} {pin : Nat → Option Value} {Qf : Act → Prop} {nd : Nat → Value} {i : Nat} {x y : Operand} {k : κ} {z : Value} (d u : ν) (hf : fresh i = false) (hn : noTok toks i = true) (ho : o.op = .lookup t x y false) (hg : Region.wanted o (yielded ops a.tmps) = true) (hx : a.eval x = .map (some b)) (hy : a.eval y = ek k)
    (hu : ∀ F, ∃ R, Take (kpL toks tb i nd ++ F) (amap ek ev b l) R) (ht : tyMap P t = some (K, E)) (hK : KeyOk P K ek) (hz : tyZeroV P E = some z) (hd : z = ev d) (hv : (getL l k).getD d = u)
    (h : Chain P W ops tb toks fresh pin Qf nd (i + 1) rest (a.put o.dst (ev u))) : Chain P W ops tb toks fresh pin Qf nd i (o :: rest) a :=
  ch_val hf hn hg (fun F w hS => by
    obtain ⟨R, hu⟩ := hu F
    unfold execOp
    simp [ho, hx, hy, run_alook (hS.take hu) ht hK hz, lookR_u hd hv]) h
end
end Go.Sl
namespace Go.Sl
open Go.RowKit
section
variable {P : Program} {w : World} {ops : Array Oper} {Q : Exit → Act → World → Prop} {a : Act} {rest : List Oper} {o : Oper}
theorem wl_eqA {t t2 : TypeId} {x y : Operand} {xs ys : Array Value} {r : Bool} (ho : o.op = .binOp .eql t x y t2) (hg : Region.wanted o (yielded ops a.tmps) = true) (hx : a.eval x = .agg xs) (hy : a.eval y = .agg ys) (hm : P.eqGuardType P.depth t = false) (hr : ∀ w : World, (Op.equalIn 10000 t (.agg xs) (.agg ys)).run P w = .ok r w)
    (h : wpList P ops Q rest (a.put o.dst (.bool r)) w) : wpList P ops Q (o :: rest) a w := by
  refine wpList_run hg (v := .bool r) (w' := w) ?_ h
  unfold execOp
  simp [ho, hx, hy, run_eqGuard_agg w .eql t x y xs ys hm, run_eql_struct, hr]
theorem wl_neA {t t2 : TypeId} {x y : Operand} {xs ys : Array Value} {r : Bool} (ho : o.op = .binOp .neq t x y t2) (hg : Region.wanted o (yielded ops a.tmps) = true) (hx : a.eval x = .agg xs) (hy : a.eval y = .agg ys) (hm : P.eqGuardType P.depth t = false) (hr : ∀ w : World, (Op.equalIn 10000 t (.agg xs) (.agg ys)).run P w = .ok r w)
    (h : wpList P ops Q rest (a.put o.dst (.bool (!r))) w) : wpList P ops Q (o :: rest) a w := by
  refine wpList_run hg (v := .bool (!r)) (w' := w) ?_ h
  unfold execOp
  simp [ho, hx, hy, run_eqGuard_agg w .neq t x y xs ys hm, run_neq_struct, hr]
end
end Go.Sl
namespace Go.Proofs.YtbcokphjpllbiaaGreat
open Go.RowKit Go.Sl
theorem eqI (x0 x1 x2 x3 y0 y1 y2 y3 : Int) (w : World) : (Op.equalIn 10000 39 (.agg #[.int .i64 x0, .int .i64 x1, .int .i64 x2, .int .i64 x3]) (.agg #[.int .i64 y0, .int .i64 y1, .int .i64 y2, .int .i64 y3])).run Tryz.prog w = .ok (x0 == y0 && (x1 == y1 && (x2 == y2 && x3 == y3))) w := by
  have u3 := Tryz.underlying3
  have a3 := Tryz.isAgg3
  have z3 := Tryz.sizeOf3
  rw [show (10000 : Nat) = 9999 + 1 from rfl, Op.equalIn]
  simp only [Sem.run_bind, run_underlying Tryz.underlying39, Result.andThen_ok]
  simp only [Std.Legacy.Range.forIn_eq_forIn_range', Std.Legacy.Range.size, Nat.sub_zero, Nat.add_sub_cancel, Nat.div_one, List.range'_succ, List.range'_zero, List.forIn_cons, List.forIn_nil]
  go_simp
  by_cases h1 : x0 = y0 <;> by_cases h2 : x1 = y1 <;> by_cases h3 : x2 = y2 <;> by_cases h4 : x3 = y3 <;> simp [h1, h2, h3, h4]
abbrev eS (k : ByteArray) : Value := .string k
abbrev eP (i : It) : Value := .agg i.cells.toArray
theorem kS : KeyOk Tryz.prog 9 eS := KeyOk.str Tryz.underlying9
theorem mP : tyMap Tryz.prog 77 = some (9, 39) := by kernel_rfl
theorem zP : tyZeroV Tryz.prog 39 = some (.agg #[.int .i64 0, .int .i64 0, .int .i64 0, .int .i64 0]) := by kernel_rfl
abbrev Ps := List (ByteArray × It)
def purseA (p : Ps) (k : ByteArray) : It := (getL p k).getD it0
def isZ (i : It) : Bool := decide (i.x0 = 0) && (decide (i.x1 = 0) && (decide (i.x2 = 0) && decide (i.x3 = 0)))
def layP (p : Ps) (k : ByteArray) (i : It) : Ps := if isZ i = true then delL p k else (k, i) :: delL p k
section
variable (vb mb : Nat) (p : Ps) (k : ByteArray) (u1 u2 : Value) (W w : World) (R : List HP)
set_option maxRecDepth 100000 in
theorem has_spec (hS : St W (blk vb [.map (some mb), u1, u2] 80 :: amap eS eP mb p :: R) w) :
    Calls Tryz.prog 23 #[.pointer (some ⟨vb, 0, none⟩), .string k] w fun e w' => e = .returned (eP (purseA p k)) ∧ St W (blk vb [.map (some mb), u1, u2] 80 :: amap eS eP mb p :: R) w' := by
  obtain ⟨x, hx⟩ : ∃ x, purseA p k = x := ⟨_, rfl⟩
  rw [hx]
  obtain ⟨x0, x1, x2, x3⟩ := x
  have Hx := Lib.hid hx
  clear hx
  go_enter Tryz.func23, Tryz.ntmps23
  go_wp2_with (first | ((with_reducible apply wl_alookU (ek := eS) (ev := eP) (k := k) it0 ⟨x0, x1, x2, x3⟩ hS); (with_reducible rfl); rfl; rfl; rfl; ((focus((repeat(first|exact .head|apply Take.tail));done))); exact mP; exact kS; exact zP; rfl; exact Hx.out; (simp only [Act.put, fA, fB, fC, Nat.reduceAdd, eP, It.cells])) | ((with_reducible apply wl_ld1 hS); (with_reducible rfl); rfl; rfl; decide +kernel; (first | (focus((repeat(first|exact Cell.here rfl | apply Cell.there)); done)) | assumption); (simp only [Act.put, fA, fB, fC, Nat.reduceAdd])) | ((with_reducible apply wl_stN hS); (with_reducible rfl); rfl; rfl; (focus ((conv => lhs; whnf); try rfl)); kernel_rfl; rfl; ((focus((repeat(first|exact Upd.head | apply Upd.tail)); done))); (simp only [List.length_cons, List.length_nil]; omega); ((simp only [List.set_cons_zero, List.set_cons_succ, setAll]); rfl); clear hS; intro w hS; try (simp only [Act.put, fA, fB, fC, Nat.reduceAdd])) | ((with_reducible apply wl_alloc hS); (with_reducible rfl); rfl; (exact Ty.z39); clear hS; intro b w hS; (simp only [Act.put, fA, fB, fC, Nat.reduceAdd])))
  (apply bp_cell; rfl; rfl; rfl; exact hS; decide +kernel; (first | (focus((repeat(first|exact Cells.whole | apply Cells.there)); done)) | assumption); kernel_rfl)
  exact ⟨rfl, hS.drop⟩
set_option maxHeartbeats 1000000 in
set_option maxRecDepth 100000 in
theorem lays_spec (i : It) (hS : St W (blk vb [.map (some mb), u1, u2] 80 :: amap eS eP mb p :: R) w) :
    Calls Tryz.prog 38 #[.pointer (some ⟨vb, 0, none⟩), .string k, .agg i.cells.toArray] w fun e w' => e = .returned (.tuple #[]) ∧ St W (blk vb [.map (some mb), u1, u2] 80 :: amap eS eP mb (layP p k i) :: R) w' := by
  obtain ⟨x0, x1, x2, x3⟩ := i
  unfold layP
  cases hz : isZ ⟨x0, x1, x2, x3⟩ with
  | true =>
    rw [if_pos rfl]
    simp only [isZ, Bool.and_eq_true, decide_eq_true_eq] at hz
    obtain ⟨rfl, rfl, rfl, rfl⟩ := hz
    have h4 : (((0 : Int) == 0) && (((0 : Int) == 0) && (((0 : Int) == 0) && ((0 : Int) == 0)))) = true := rfl
    simp only [It.cells]
    go_enter Tryz.func38, Tryz.ntmps38
    go_wp2_with (first | ((with_reducible apply wl_eqA); (with_reducible rfl); rfl; rfl; rfl; kernel_rfl; exact eqI _ _ _ _ _ _ _ _; rw [h4]; (simp only [Act.put, fA, fB, fC, Nat.reduceAdd, eP, It.cells])) | ((with_reducible apply wl_adel (ek := eS) (ev := eP) (k := k) hS); (with_reducible rfl); rfl; rfl; rfl; ((focus((repeat(first|exact .head|apply Take.tail));done))); exact mP; exact kS; clear hS; intro w hS; try (simp only [Act.put, fA, fB, fC, Nat.reduceAdd, eP, It.cells])) | ((with_reducible apply wl_ld1 hS); (with_reducible rfl); rfl; rfl; decide +kernel; (first | (focus((repeat(first|exact Cell.here rfl | apply Cell.there)); done)) | assumption); (simp only [Act.put, fA, fB, fC, Nat.reduceAdd])) | ((with_reducible apply wl_ldN hS); (with_reducible rfl); rfl; rfl; decide +kernel; (first | (focus((repeat(first|exact Cells.whole | apply Cells.there)); done)) | assumption); kernel_rfl; (simp only [Act.put, fA, fB, fC, Nat.reduceAdd])) | ((with_reducible apply wl_box hS); (with_reducible rfl); rfl; rfl; rfl; clear hS; intro b w hS; (simp only [Act.put, fA, fB, fC, Nat.reduceAdd])))
    refine bodyPost_ret (results_none rfl _ _ _) rfl ?_
    exact ⟨rfl, hS.sel (by (repeat' (first | (with_reducible first | exact Sel.done Suf.refl | exact Sel.done (Suf.tail Suf.refl) | exact Sel.done (Suf.tail (Suf.tail Suf.refl)) | exact Sel.done (Suf.tail (Suf.tail (Suf.tail Suf.refl))) | (apply Sel.done; (focus((repeat(first|exact Suf.refl | apply Suf.tail)); done)))) | (refine Sel.cons (by with_reducible (focus((repeat(first|exact .head|apply Take.tail));done))) ?_))))⟩
  | false =>
    rw [if_neg (by simp)]
    have h4 : (x0 == 0 && (x1 == 0 && (x2 == 0 && x3 == 0))) = false := hz
    clear hz
    simp only [It.cells]
    go_enter Tryz.func38, Tryz.ntmps38
    go_wp2_with (first | ((with_reducible apply wl_eqA); (with_reducible rfl); rfl; rfl; rfl; kernel_rfl; exact eqI _ _ _ _ _ _ _ _; rw [h4]; (simp only [Act.put, fA, fB, fC, Nat.reduceAdd, eP, It.cells])) | ((with_reducible apply wl_ldN hS); (with_reducible rfl); rfl; rfl; decide +kernel; (first | (focus((repeat(first|exact Cells.whole | apply Cells.there)); done)) | assumption); kernel_rfl; (simp only [Act.put, fA, fB, fC, Nat.reduceAdd])) | ((with_reducible apply wl_box hS); (with_reducible rfl); rfl; rfl; rfl; clear hS; intro b w hS; (simp only [Act.put, fA, fB, fC, Nat.reduceAdd])))
    refine wp_region_tail 6 (by kernel_rfl) (by kernel_rfl) hS ?_
    repeat (first | go_big_quiet_skip | (apply wq_ld1; (with_reducible rfl); rfl; rfl; decide +kernel; (first | (focus((repeat(first|exact Cell.here rfl | apply Cell.there)); done)) | assumption); (simp only [Act.put, fA, fB, fC, Nat.reduceAdd])) | (apply wq_ldN; (with_reducible rfl); rfl; rfl; decide +kernel; (first | (focus((repeat(first|exact Cells.whole | apply Cells.there)); done)) | assumption); kernel_rfl; (simp only [Act.put, fA, fB, fC, Nat.reduceAdd])) | (apply wq_nil; (with_reducible rfl); rfl; rfl; (simp only [Act.put, fA, fB, fC, Nat.reduceAdd])) | (refine wq_pure rfl rfl ?_; intro K hK; go_big_quiet_op; go_big_quiet_on))
    clear hS
    intro w hS
    simp only [List.drop_succ_cons, List.drop_zero]
    go_wp2_with (first | ((with_reducible apply wl_aset (ek := eS) (ev := eP) (k := k) (u := ⟨x0, x1, x2, x3⟩) hS); (with_reducible rfl); rfl; rfl; rfl; ((focus((repeat(first|exact .head|apply Take.tail));done))); (focus (rfl)); exact mP; exact kS; clear hS; intro w hS; try (simp only [Act.put, fA, fB, fC, Nat.reduceAdd, eP, It.cells])))
    go_end0
    exact ⟨rfl, hS.sel (by (repeat' (first | (with_reducible first | exact Sel.done Suf.refl | exact Sel.done (Suf.tail Suf.refl) | exact Sel.done (Suf.tail (Suf.tail Suf.refl)) | exact Sel.done (Suf.tail (Suf.tail (Suf.tail Suf.refl))) | (apply Sel.done; (focus((repeat(first|exact Suf.refl | apply Suf.tail)); done)))) | (refine Sel.cons (by with_reducible (focus((repeat(first|exact .head|apply Take.tail));done))) ?_))))⟩
end
def whoB (k : ByteArray) : Bool := decide (1 ≤ k.size) && decide (k.size ≤ 16)
theorem who_spec (k : ByteArray) (W w : World) (R : List HP) (hS : St W R w) :
    Calls Tryz.prog 36 #[.string k] w fun e w' => e = .returned (.bool (whoB k)) ∧ St W R w' := by
  go_enter Tryz.func36, Tryz.ntmps36
  by_cases h1 : k.size < 1
  · have e : whoB k = false := by unfold whoB; simp; omega
    have d1 : decide ((1 : Int) ≤ (k.size : Int)) = false := by simp; omega
    rw [e]
    go_wp2_with (fail)
    go_ret
    exact ⟨rfl, hS⟩
  · have d1 : (1 : Int) ≤ (k.size : Int) := by omega
    by_cases h2 : k.size ≤ 16
    · have e : whoB k = true := by unfold whoB; simp; omega
      have d2 : (k.size : Int) ≤ 16 := by omega
      rw [e]
      go_wp2_with (fail)
      go_ret
      exact ⟨rfl, hS⟩
    · have e : whoB k = false := by unfold whoB; simp; omega
      have d2 : decide ((k.size : Int) ≤ 16) = false := by simp; omega
      rw [e]
      go_wp2_with (fail)
      go_ret
      exact ⟨rfl, hS⟩
theorem add_some {l : List It} {s0 s1 s2 s3 : Int} (h : addL l it0 = some ⟨s0, s1, s2, s3⟩) (v : Value) (W w : World) (R : List HP) (hS : St W (row v 4 39 l.length (l.flatMap It.cells) :: R) w) :
    Calls Tryz.prog 60 #[v] w fun e w' => e = .returned (.tuple #[.agg #[.int .i64 s0, .int .i64 s1, .int .i64 s2, .int .i64 s3], .bool true]) ∧ St W R w' :=
  (add_it l v W w R hS).mono fun e w' ⟨he, hS⟩ => ⟨by rw [he, addF, h]; rfl, hS.drop⟩
theorem add_none {l : List It} (h : addL l it0 = none) (v : Value) (W w : World) (R : List HP) (hS : St W (row v 4 39 l.length (l.flatMap It.cells) :: R) w) :
    Calls Tryz.prog 60 #[v] w fun e w' => e = .returned (.tuple #[.agg #[.int .i64 0, .int .i64 0, .int .i64 0, .int .i64 0], .bool false]) ∧ St W R w' :=
  (add_it l v W w R hS).mono fun e w' ⟨he, hS⟩ => ⟨by rw [he, addF, h]; rfl, hS.drop⟩
theorem sub_yes {x0 x1 x2 x3 y0 y1 y2 y3 : Int} (h : subOk ⟨x0, x1, x2, x3⟩ ⟨y0, y1, y2, y3⟩ = true) (W w : World) (R : List HP) (hS : St W R w) :
    Calls Tryz.prog 65 #[.agg #[.int .i64 x0, .int .i64 x1, .int .i64 x2, .int .i64 x3], .agg #[.int .i64 y0, .int .i64 y1, .int .i64 y2, .int .i64 y3]] w fun e w' => e = .returned (.tuple #[.agg #[.int .i64 (x0 - y0), .int .i64 (x1 - y1), .int .i64 (x2 - y2), .int .i64 (x3 - y3)], .bool true]) ∧ St W R w' :=
  (sub_it ⟨x0, x1, x2, x3⟩ ⟨y0, y1, y2, y3⟩ W w R hS).mono fun e w' ⟨he, hS⟩ => ⟨by rw [he, subF, h]; rfl, hS⟩
theorem sub_no {x0 x1 x2 x3 y0 y1 y2 y3 : Int} (h : subOk ⟨x0, x1, x2, x3⟩ ⟨y0, y1, y2, y3⟩ = false) (W w : World) (R : List HP) (hS : St W R w) :
    Calls Tryz.prog 65 #[.agg #[.int .i64 x0, .int .i64 x1, .int .i64 x2, .int .i64 x3], .agg #[.int .i64 y0, .int .i64 y1, .int .i64 y2, .int .i64 y3]] w fun e w' => e = .returned (.tuple #[.agg #[.int .i64 0, .int .i64 0, .int .i64 0, .int .i64 0], .bool false]) ∧ St W R w' :=
  (sub_it ⟨x0, x1, x2, x3⟩ ⟨y0, y1, y2, y3⟩ W w R hS).mono fun e w' ⟨he, hS⟩ => ⟨by rw [he, subF, h]; rfl, hS⟩
end Go.Proofs.YtbcokphjpllbiaaGreat
end
