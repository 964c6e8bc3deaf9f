/-
  Maps as resources up to order: what may be done to a map while a range walks over it; the walk's rules. Over any program; no condition.
  The vault's purses: Has, lays, Put, Take. For every vault.
-/
import Derived.Test.YtlmhakmoioogaaaGreatEconSendsM3
import Derived.Test.YtlmhakmoioogaaaGreatEconSendsM4
import Derived.Test.YtlmhakmoioogaaaGreatEconSendsM5
import Derived.Test.YtlmhakmoioogaaaGreatEconSendsM6
import Derived.Test.YtlmhakmoioogaaaGreatEconSendsM7

section
set_option linter.unusedSimpArgs false
set_option linter.unusedVariables false
namespace Go.Sl
open Go.RowKit
section
variable {κ ν : Type}
end
section
variable {κ ν : Type} [DecidableEq κ] {W w : World} {L : List HP} {ek : κ → Value} {ev : ν → Value} {b r : Nat} {l todo : List (κ × ν)} {P : Program} {t K E : TypeId}
end
section
variable {κ ν : Type} {W w : World} {L : List HP} {ek : κ → Value} {ev : ν → Value} {b r : Nat} {l todo : List (κ × ν)} {P : Program} {t K E : TypeId}
end
/-! The walk's rules. -/
section
variable {κ ν : Type} {W w : World} {L R : List HP} {ek : κ → Value} {ev : ν → Value} {b r : Nat} {l todo : List (κ × ν)} {P : Program} {t K E : TypeId} {ops : Array Oper} {Q : Exit → Act → World → Prop} {a : Act} {rest : List Oper} {o : Oper}
theorem wl_amake (ek : κ → Value) (ev : ν → Value) (hS : St W L w) (ho : o.op = .makeMap t none) (hg : Region.wanted o (yielded ops a.tmps) = true)
    (h : ∀ b w', St W (amap ek ev b [] :: L) w' → wpList P ops Q rest (a.put o.dst (.map (some b))) w') : wpList P ops Q (o :: rest) a w := by
  obtain ⟨b, w', hr, hS'⟩ := run_amake (P := P) (t := t) (ek := ek) (ev := ev) hS
  refine wpList_run hg (v := .map (some b)) (w' := w') ?_ (h b w' hS')
  unfold execOp
  simp [ho, hr]
/-- How much a range has before it. -/
def itLeft (r b : Nat) (w : World) : Nat := match w.heap[r]?, w.heap[b]? with
  | some (.mapIter _ _ seen _), some (.map es _) => (es.toList.filter fun e => decide (e.born ∉ seen)).length
  | _, _ => 0
theorem itLeft_eq (h : St W (itR ek ev r b l todo :: L) w) : itLeft r b w = todo.length := by
  obtain ⟨⟨ps, c, since, c0, seen⟩, ⟨h1, h2, h3, h4, h5⟩, hS⟩ := itOpen h
  have e1 := hS.get (b := r) .head
  have e2 := hS.get (b := b) (.tail .head)
  unfold itLeft
  rw [e1, e2]
  have e3 : (((ps.map (evs ev)).map (entA ek)).toArray.toList.filter fun e => decide (e.born ∉ seen)).length = (ps.filter fun x => decide (x.2.2 ∉ seen)).length := by
    show (((ps.map (evs ev)).map (entA ek)).filter _).length = _
    rw [List.map_map, List.filter_map, List.length_map]
    rfl
  have e4 := h5.length_eq
  rw [List.length_map] at e4
  exact e3.trans e4
variable [DecidableEq κ]
/-- What a lookup hands back. -/
def lookR (ok : Bool) (z : Value) : Option Value → Value
  | some v => if ok then .tuple #[v, .bool true] else v
  | none => if ok then .tuple #[z, .bool false] else z
def getL (l : List (κ × ν)) (k : κ) : Option ν := (l.find? fun x => decide (x.1 = k)).map (·.2)
theorem getL_none {k : κ} (h : getL l k = none) : ∀ x ∈ l, x.1 ≠ k := by
  unfold getL at h
  rw [Option.map_eq_none_iff, List.find?_eq_none] at h
  intro x hx
  simpa using h x hx
theorem getL_some {k : κ} {v : ν} (h : getL l k = some v) : (k, v) ∈ l := by
  unfold getL at h
  obtain ⟨x, hx, rfl⟩ := Option.map_eq_some_iff.1 h
  have h1 := List.find?_some hx
  have h2 := List.mem_of_find?_eq_some hx
  simp only [decide_eq_true_eq] at h1
  rw [← h1]; exact h2
theorem getL_no {k : κ} (h : ∀ x ∈ l, x.1 ≠ k) : getL l k = none := by
  unfold getL
  rw [Option.map_eq_none_iff, List.find?_eq_none]
  intro x hx
  simpa using h x hx
theorem getL_at {k : κ} {v : ν} (hn : (l.map (·.1)).Nodup) (h : (k, v) ∈ l) : getL l k = some v := by
  induction l with
  | nil => cases h
  | cons x l ih =>
    rw [List.map_cons, List.nodup_cons] at hn
    unfold getL at ih ⊢
    rcases List.mem_cons.1 h with h1 | h1
    · subst h1; simp
    · have hx : x.1 ≠ k := fun e => hn.1 (List.mem_map.2 ⟨_, h1, e.symm⟩)
      rw [List.find?_cons_of_neg (by simpa using hx)]
      exact ih hn.2 h1
theorem getL_perm {l l' : List (κ × ν)} (hn : (l.map (·.1)).Nodup) (hp : l.Perm l') (k : κ) : getL l k = getL l' k := by
  cases h : getL l k with
  | some v => exact (getL_at ((hp.map (·.1)).nodup_iff.1 hn) (hp.mem_iff.1 (getL_some h))).symm
  | none => exact (getL_no fun x hx => getL_none h x (hp.mem_iff.2 hx)).symm
theorem run_alook {k : κ} {z : Value} {ok : Bool} (h : St W (amap ek ev b l :: L) w) (ht : tyMap P t = some (K, E)) (hK : KeyOk P K ek) (hz : tyZeroV P E = some z) :
    (Instr.lookup t (.map (some b)) (ek k) ok).run P w = .ok (lookR ok z ((getL l k).map ev)) w := by
  cases hg : getL l k with
  | some v => exact run_alook_at (x := (k, v)) h ht hK (getL_some hg)
  | none => exact run_alook_no h ht hK hz (getL_none hg)
/-- A lookup. -/
theorem wl_alook {x y : Operand} {k : κ} {z : Value} {ok : Bool} (hS : St W L w) (ho : o.op = .lookup t x y ok) (hg : Region.wanted o (yielded ops a.tmps) = true) (hx : a.eval x = .map (some b)) (hy : a.eval y = ek k) (hu : Take L (amap ek ev b l) R)
    (ht : tyMap P t = some (K, E)) (hK : KeyOk P K ek) (hz : tyZeroV P E = some z) (h : wpList P ops Q rest (a.put o.dst (lookR ok z ((getL l k).map ev))) w) : wpList P ops Q (o :: rest) a w := by
  refine wpList_run hg (w' := w) ?_ h
  unfold execOp
  simp [ho, hx, hy, run_alook (hS.take hu) ht hK hz]
/-- The same, one rule for each case. -/
theorem wl_alook1 {x y : Operand} {k : κ} {u : ν} {z : Value} (hS : St W L w) (ho : o.op = .lookup t x y false) (hg : Region.wanted o (yielded ops a.tmps) = true) (hx : a.eval x = .map (some b)) (hy : a.eval y = ek k) (hu : Take L (amap ek ev b l) R)
    (ht : tyMap P t = some (K, E)) (hK : KeyOk P K ek) (hz : tyZeroV P E = some z) (hgl : getL l k = some u) (h : wpList P ops Q rest (a.put o.dst (ev u)) w) : wpList P ops Q (o :: rest) a w :=
  wl_alook hS ho hg hx hy hu ht hK hz (by rw [hgl]; exact h)
theorem wl_alook0 {x y : Operand} {k : κ} {z : Value} (hS : St W L w) (ho : o.op = .lookup t x y false) (hg : Region.wanted o (yielded ops a.tmps) = true) (hx : a.eval x = .map (some b)) (hy : a.eval y = ek k) (hu : Take L (amap ek ev b l) R)
    (ht : tyMap P t = some (K, E)) (hK : KeyOk P K ek) (hz : tyZeroV P E = some z) (hgl : getL l k = none) (h : wpList P ops Q rest (a.put o.dst z) w) : wpList P ops Q (o :: rest) a w :=
  wl_alook hS ho hg hx hy hu ht hK hz (by rw [hgl]; exact h)
/-- A store. -/
theorem wl_aset {x y v : Operand} {k : κ} {u : ν} (hS : St W L w) (ho : o.op = .mapUpdate t x y v) (hg : Region.wanted o (yielded ops a.tmps) = true) (hx : a.eval x = .map (some b)) (hy : a.eval y = ek k) (hu : Take L (amap ek ev b l) R) (hv : a.eval v = ev u)
    (ht : tyMap P t = some (K, E)) (hK : KeyOk P K ek) (h : ∀ w', St W (amap ek ev b ((k, u) :: delL l k) :: R) w' → wpList P ops Q rest (a.put o.dst undef) w') : wpList P ops Q (o :: rest) a w := by
  obtain ⟨w', hr, hS'⟩ := run_aset (P := P) (k := k) (v := u) (hS.take hu) ht hK
  refine wpList_runSkip hg (w' := w') ?_ (h w' hS')
  unfold execOp
  simp [ho, hx, hy, hv, hr]
theorem wl_adel {x y : Operand} {k : κ} {k2 : TypeId} (hS : St W L w) (ho : o.op = .call { callee := .builtin .delete, args := #[x, y], argTypes := #[t, k2] }) (hg : Region.wanted o (yielded ops a.tmps) = true) (hx : a.eval x = .map (some b)) (hy : a.eval y = ek k) (hu : Take L (amap ek ev b l) R)
    (ht : tyMap P t = some (K, E)) (hK : KeyOk P K ek) (h : ∀ w', St W (amap ek ev b (delL l k) :: R) w' → wpList P ops Q rest (a.put o.dst (.tuple #[])) w') : wpList P ops Q (o :: rest) a w := by
  obtain ⟨w', hr, hS'⟩ := run_adel (P := P) (k := k) (k2 := k2) (ty := o.type) (hS.take hu) ht hK
  refine wpList_run hg (v := .tuple #[]) (w' := w') ?_ (h w' hS')
  unfold execOp
  simp [ho, resolve, invoke, builtin, hx, hy, hr]
end
end Go.Sl
end
section
set_option linter.unusedSimpArgs false
set_option linter.unusedVariables false
namespace Go.Sl
open Go.RowKit
section
variable {κ ν : Type} [DecidableEq κ] {P : Program} {t K E : TypeId} {ek : κ → Value} {ev : ν → Value} {W w : World} {L R : List HP} {b : Nat} {l : List (κ × ν)} {ops : Array Oper} {a : Act} {rest : List Oper} {o : Oper}
theorem lookR_u {k : κ} {z : Value} {d u : ν} (hd : z = ev d) (hu : (getL l k).getD d = u) : lookR false z ((getL l k).map ev) = ev u := by
  subst hu hd
  cases getL l k <;> rfl
/-- What stands at a key, or nothing. -/
theorem wl_alookU {Q : Exit → Act → World → Prop} {x y : Operand} {k : κ} {z : Value} (d u : ν) (hS : St W L w) (ho : o.op = .lookup t x y false) (hg : Region.wanted o (yielded ops a.tmps) = true) (hx : a.eval x = .map (some b)) (hy : a.eval y = ek k) (hu : Take L (amap ek ev b l) R)
    (ht : tyMap P t = some (K, E)) (hK : KeyOk P K ek) (hz : tyZeroV P E = some z) (hd : z = ev d) (hv : (getL l k).getD d = u) (h : wpList P ops Q rest (a.put o.dst (ev u)) w) : wpList P ops Q (o :: rest) a w :=
  wl_alook hS ho hg hx hy hu ht hK hz (by rw [lookR_u hd hv]; exact h)
theorem ch_alookU {tb : List Nat} {toks : List Tok} {fresh : Nat → Bool} {pin : Nat → Option Value} {Qf : Act → Prop} {nd : Nat → Value} {i : Nat} {x y : Operand} {k : κ} {z : Value} (d u : ν) (hf : fresh i = false) (hn : noTok toks i = true) (ho : o.op = .lookup t x y false) (hg : Region.wanted o (yielded ops a.tmps) = true) (hx : a.eval x = .map (some b)) (hy : a.eval y = ek k)
    (hu : ∀ F, ∃ R, Take (kpL toks tb i nd ++ F) (amap ek ev b l) R) (ht : tyMap P t = some (K, E)) (hK : KeyOk P K ek) (hz : tyZeroV P E = some z) (hd : z = ev d) (hv : (getL l k).getD d = u)
    (h : Chain P W ops tb toks fresh pin Qf nd (i + 1) rest (a.put o.dst (ev u))) : Chain P W ops tb toks fresh pin Qf nd i (o :: rest) a :=
  ch_val hf hn hg (fun F w hS => by
    obtain ⟨R, hu⟩ := hu F
    unfold execOp
    simp [ho, hx, hy, run_alook (hS.take hu) ht hK hz, lookR_u hd hv]) h
end
end Go.Sl
namespace Go.Sl
open Go.RowKit
section
variable {P : Program} {w : World} {ops : Array Oper} {Q : Exit → Act → World → Prop} {a : Act} {rest : List Oper} {o : Oper}
theorem wl_eqA {t t2 : TypeId} {x y : Operand} {xs ys : Array Value} {r : Bool} (ho : o.op = .binOp .eql t x y t2) (hg : Region.wanted o (yielded ops a.tmps) = true) (hx : a.eval x = .agg xs) (hy : a.eval y = .agg ys) (hm : P.eqGuardType P.depth t = false) (hr : ∀ w : World, (Op.equalIn 10000 t (.agg xs) (.agg ys)).run P w = .ok r w)
    (h : wpList P ops Q rest (a.put o.dst (.bool r)) w) : wpList P ops Q (o :: rest) a w := by
  refine wpList_run hg (v := .bool r) (w' := w) ?_ h
  unfold execOp
  simp [ho, hx, hy, run_eqGuard_agg w .eql t x y xs ys hm, run_eql_struct, hr]
theorem wl_neA {t t2 : TypeId} {x y : Operand} {xs ys : Array Value} {r : Bool} (ho : o.op = .binOp .neq t x y t2) (hg : Region.wanted o (yielded ops a.tmps) = true) (hx : a.eval x = .agg xs) (hy : a.eval y = .agg ys) (hm : P.eqGuardType P.depth t = false) (hr : ∀ w : World, (Op.equalIn 10000 t (.agg xs) (.agg ys)).run P w = .ok r w)
    (h : wpList P ops Q rest (a.put o.dst (.bool (!r))) w) : wpList P ops Q (o :: rest) a w := by
  refine wpList_run hg (v := .bool (!r)) (w' := w) ?_ h
  unfold execOp
  simp [ho, hx, hy, run_eqGuard_agg w .neq t x y xs ys hm, run_neq_struct, hr]
end
end Go.Sl
namespace Go.Proofs.YtlmhakmoioogaaaGreat
open Go.RowKit Go.Sl
theorem eqI (x0 x1 x2 x3 y0 y1 y2 y3 : Int) (w : World) : (Op.equalIn 10000 29 (.agg #[.int .i64 x0, .int .i64 x1, .int .i64 x2, .int .i64 x3]) (.agg #[.int .i64 y0, .int .i64 y1, .int .i64 y2, .int .i64 y3])).run Tryz.prog w = .ok (x0 == y0 && (x1 == y1 && (x2 == y2 && x3 == y3))) w := by
  have u3 := Tryz.underlying3
  have a3 := Tryz.isAgg3
  have z3 := Tryz.sizeOf3
  rw [show (10000 : Nat) = 9999 + 1 from rfl, Op.equalIn]
  simp only [Sem.run_bind, run_underlying Tryz.underlying29, Result.andThen_ok]
  simp only [Std.Legacy.Range.forIn_eq_forIn_range', Std.Legacy.Range.size, Nat.sub_zero, Nat.add_sub_cancel, Nat.div_one, List.range'_succ, List.range'_zero, List.forIn_cons, List.forIn_nil]
  go_simp
  by_cases h1 : x0 = y0 <;> by_cases h2 : x1 = y1 <;> by_cases h3 : x2 = y2 <;> by_cases h4 : x3 = y3 <;> simp [h1, h2, h3, h4]
abbrev eS (k : ByteArray) : Value := .string k
abbrev eP (i : It) : Value := .agg i.cells.toArray
theorem kS : KeyOk Tryz.prog 9 eS := KeyOk.str Tryz.underlying9
theorem mP : tyMap Tryz.prog 173 = some (9, 29) := by kernel_rfl
theorem zP : tyZeroV Tryz.prog 29 = some (.agg #[.int .i64 0, .int .i64 0, .int .i64 0, .int .i64 0]) := by kernel_rfl
abbrev Ps := List (ByteArray × It)
def purseA (p : Ps) (k : ByteArray) : It := (getL p k).getD it0
def isZ (i : It) : Bool := decide (i.x0 = 0) && (decide (i.x1 = 0) && (decide (i.x2 = 0) && decide (i.x3 = 0)))
def layP (p : Ps) (k : ByteArray) (i : It) : Ps := if isZ i = true then delL p k else (k, i) :: delL p k
section
variable (vb mb : Nat) (p : Ps) (k : ByteArray) (u1 u2 : Value) (W w : World) (R : List HP)
set_option maxRecDepth 100000 in
theorem has_spec (hS : St W (blk vb [.map (some mb), u1, u2] 176 :: amap eS eP mb p :: R) w) :
    Calls Tryz.prog 47 #[.pointer (some ⟨vb, 0, none⟩), .string k] w fun e w' => e = .returned (eP (purseA p k)) ∧ St W (blk vb [.map (some mb), u1, u2] 176 :: amap eS eP mb p :: R) w' := by
  obtain ⟨x, hx⟩ : ∃ x, purseA p k = x := ⟨_, rfl⟩
  rw [hx]
  obtain ⟨x0, x1, x2, x3⟩ := x
  have Hx := Lib.hid hx
  clear hx
  go_enter Tryz.func47, Tryz.ntmps47
  go_wp2_with (first | ((with_reducible apply wl_alookU (ek := eS) (ev := eP) (k := k) it0 ⟨x0, x1, x2, x3⟩ hS); (with_reducible rfl); rfl; rfl; rfl; (exact takeS); exact mP; exact kS; exact zP; rfl; exact Hx.out; (simp only [Act.put, fA, fB, fC, Nat.reduceAdd, eP, It.cells])) | (refine zl1 hS ?_) | (refine zlN hS ?_) | (refine zs1 hS ?_; clear hS; intro w hS) | (refine zsN hS ?_; clear hS; intro w hS) | (refine zbx hS ?_; clear hS; intro b w hS) | (refine zal hS ?_; clear hS; intro b w hS))
  (apply bp_cell; rfl; rfl; rfl; exact hS; decide +kernel; (exact cesS); kernel_rfl)
  exact ⟨rfl, hS.drop⟩
set_option maxHeartbeats 1000000 in
set_option maxRecDepth 100000 in
theorem lays_spec (i : It) (hS : St W (blk vb [.map (some mb), u1, u2] 176 :: amap eS eP mb p :: R) w) :
    Calls Tryz.prog 164 #[.pointer (some ⟨vb, 0, none⟩), .string k, .agg i.cells.toArray] w fun e w' => e = .returned (.tuple #[]) ∧ St W (blk vb [.map (some mb), u1, u2] 176 :: amap eS eP mb (layP p k i) :: R) w' := by
  obtain ⟨x0, x1, x2, x3⟩ := i
  unfold layP
  cases hz : isZ ⟨x0, x1, x2, x3⟩ with
  | true =>
    rw [if_pos rfl]
    simp only [isZ, Bool.and_eq_true, decide_eq_true_eq] at hz
    obtain ⟨rfl, rfl, rfl, rfl⟩ := hz
    have h4 : (((0 : Int) == 0) && (((0 : Int) == 0) && (((0 : Int) == 0) && ((0 : Int) == 0)))) = true := rfl
    simp only [It.cells]
    go_enter Tryz.func164, Tryz.ntmps164
    go_wp2_with (first | ((with_reducible apply wl_eqA); (with_reducible rfl); rfl; rfl; rfl; kernel_rfl; exact eqI _ _ _ _ _ _ _ _; rw [h4]; (simp only [Act.put, fA, fB, fC, Nat.reduceAdd, eP, It.cells])) | ((with_reducible apply wl_adel (ek := eS) (ev := eP) (k := k) hS); (with_reducible rfl); rfl; rfl; rfl; (exact takeS); exact mP; exact kS; clear hS; intro w hS; try (simp only [Act.put, fA, fB, fC, Nat.reduceAdd, eP, It.cells])) | (refine zl1 hS ?_) | (refine zlN hS ?_) | (refine zs1 hS ?_; clear hS; intro w hS) | (refine zsN hS ?_; clear hS; intro w hS) | (refine zbx hS ?_; clear hS; intro b w hS) | (refine zal hS ?_; clear hS; intro b w hS))
    refine bodyPost_ret (results_none rfl _ _ _) rfl ?_
    exact ⟨rfl, hS.sel (by exact selS)⟩
  | false =>
    rw [if_neg (by simp)]
    have h4 : (x0 == 0 && (x1 == 0 && (x2 == 0 && x3 == 0))) = false := hz
    clear hz
    simp only [It.cells]
    go_enter Tryz.func164, Tryz.ntmps164
    go_wp2_with (first | ((with_reducible apply wl_eqA); (with_reducible rfl); rfl; rfl; rfl; kernel_rfl; exact eqI _ _ _ _ _ _ _ _; rw [h4]; (simp only [Act.put, fA, fB, fC, Nat.reduceAdd, eP, It.cells])) | ((with_reducible apply wl_aset (ek := eS) (ev := eP) (k := k) (u := ⟨x0, x1, x2, x3⟩) hS); (with_reducible rfl); rfl; rfl; rfl; (exact takeS); (focus (rfl)); exact mP; exact kS; clear hS; intro w hS; try (simp only [Act.put, fA, fB, fC, Nat.reduceAdd, eP, It.cells])) | (refine zl1 hS ?_) | (refine zlN hS ?_) | (refine zs1 hS ?_; clear hS; intro w hS) | (refine zsN hS ?_; clear hS; intro w hS) | (refine zbx hS ?_; clear hS; intro b w hS) | (refine zal hS ?_; clear hS; intro b w hS))
    refine wp_region_tail 6 (by kernel_rfl) (by kernel_rfl) hS ?_
    repeat (first | go_big_quiet_skip | (refine zq1 ?_) | (refine zqN ?_) | (refine zqn ?_) | (refine wq_pure rfl rfl ?_; intro K hK; go_big_quiet_op; go_big_quiet_on))
    clear hS
    intro w hS
    simp only [List.drop_succ_cons, List.drop_zero]
    go_wp2_with (first | ((with_reducible apply wl_aset (ek := eS) (ev := eP) (k := k) (u := ⟨x0, x1, x2, x3⟩) hS); (with_reducible rfl); rfl; rfl; rfl; (exact takeS); (focus (rfl)); exact mP; exact kS; clear hS; intro w hS; try (simp only [Act.put, fA, fB, fC, Nat.reduceAdd, eP, It.cells])) | (refine zl1 hS ?_) | (refine zlN hS ?_) | (refine zs1 hS ?_; clear hS; intro w hS) | (refine zsN hS ?_; clear hS; intro w hS) | (refine zbx hS ?_; clear hS; intro b w hS) | (refine zal hS ?_; clear hS; intro b w hS))
    go_end0
    exact ⟨rfl, hS.sel (by exact selS)⟩
end
def whoB (k : ByteArray) : Bool := decide (1 ≤ k.size) && decide (k.size ≤ 16)
theorem who_spec (k : ByteArray) (W w : World) (R : List HP) (hS : St W R w) :
    Calls Tryz.prog 163 #[.string k] w fun e w' => e = .returned (.bool (whoB k)) ∧ St W R w' := by
  go_enter Tryz.func163, Tryz.ntmps163
  by_cases h1 : k.size < 1
  · have e : whoB k = false := by unfold whoB; simp; omega
    have d1 : decide ((1 : Int) ≤ (k.size : Int)) = false := by simp; omega
    rw [e]
    go_wp2_with (first | go_big_skip | (refine zl1 hS ?_) | (refine zlN hS ?_) | (refine zs1 hS ?_; clear hS; intro w hS) | (refine zsN hS ?_; clear hS; intro w hS) | (refine zbx hS ?_; clear hS; intro b w hS) | (refine zal hS ?_; clear hS; intro b w hS))
    go_ret
    exact ⟨rfl, hS⟩
  · have d1 : (1 : Int) ≤ (k.size : Int) := by omega
    by_cases h2 : k.size ≤ 16
    · have e : whoB k = true := by unfold whoB; simp; omega
      have d2 : (k.size : Int) ≤ 16 := by omega
      rw [e]
      go_wp2_with (first | go_big_skip | (refine zl1 hS ?_) | (refine zlN hS ?_) | (refine zs1 hS ?_; clear hS; intro w hS) | (refine zsN hS ?_; clear hS; intro w hS) | (refine zbx hS ?_; clear hS; intro b w hS) | (refine zal hS ?_; clear hS; intro b w hS))
      go_ret
      exact ⟨rfl, hS⟩
    · have e : whoB k = false := by unfold whoB; simp; omega
      have d2 : decide ((k.size : Int) ≤ 16) = false := by simp; omega
      rw [e]
      go_wp2_with (first | go_big_skip | (refine zl1 hS ?_) | (refine zlN hS ?_) | (refine zs1 hS ?_; clear hS; intro w hS) | (refine zsN hS ?_; clear hS; intro w hS) | (refine zbx hS ?_; clear hS; intro b w hS) | (refine zal hS ?_; clear hS; intro b w hS))
      go_ret
      exact ⟨rfl, hS⟩
theorem add_some {l : List It} {s0 s1 s2 s3 : Int} (h : addL l it0 = some ⟨s0, s1, s2, s3⟩) (v : Value) (W w : World) (R : List HP) (hS : St W (row v 4 29 l.length (l.flatMap It.cells) :: R) w) :
    Calls Tryz.prog 58 #[v] w fun e w' => e = .returned (.tuple #[.agg #[.int .i64 s0, .int .i64 s1, .int .i64 s2, .int .i64 s3], .bool true]) ∧ St W R w' :=
  (add_it l v W w R hS).mono fun e w' ⟨he, hS⟩ => ⟨by rw [he, addF, h]; rfl, hS.drop⟩
theorem add_none {l : List It} (h : addL l it0 = none) (v : Value) (W w : World) (R : List HP) (hS : St W (row v 4 29 l.length (l.flatMap It.cells) :: R) w) :
    Calls Tryz.prog 58 #[v] w fun e w' => e = .returned (.tuple #[.agg #[.int .i64 0, .int .i64 0, .int .i64 0, .int .i64 0], .bool false]) ∧ St W R w' :=
  (add_it l v W w R hS).mono fun e w' ⟨he, hS⟩ => ⟨by rw [he, addF, h]; rfl, hS.drop⟩
theorem sub_yes {x0 x1 x2 x3 y0 y1 y2 y3 : Int} (h : subOk ⟨x0, x1, x2, x3⟩ ⟨y0, y1, y2, y3⟩ = true) (W w : World) (R : List HP) (hS : St W R w) :
    Calls Tryz.prog 166 #[.agg #[.int .i64 x0, .int .i64 x1, .int .i64 x2, .int .i64 x3], .agg #[.int .i64 y0, .int .i64 y1, .int .i64 y2, .int .i64 y3]] w fun e w' => e = .returned (.tuple #[.agg #[.int .i64 (x0 - y0), .int .i64 (x1 - y1), .int .i64 (x2 - y2), .int .i64 (x3 - y3)], .bool true]) ∧ St W R w' :=
  (sub_it ⟨x0, x1, x2, x3⟩ ⟨y0, y1, y2, y3⟩ W w R hS).mono fun e w' ⟨he, hS⟩ => ⟨by rw [he, subF, h]; rfl, hS⟩
theorem sub_no {x0 x1 x2 x3 y0 y1 y2 y3 : Int} (h : subOk ⟨x0, x1, x2, x3⟩ ⟨y0, y1, y2, y3⟩ = false) (W w : World) (R : List HP) (hS : St W R w) :
    Calls Tryz.prog 166 #[.agg #[.int .i64 x0, .int .i64 x1, .int .i64 x2, .int .i64 x3], .agg #[.int .i64 y0, .int .i64 y1, .int .i64 y2, .int .i64 y3]] w fun e w' => e = .returned (.tuple #[.agg #[.int .i64 0, .int .i64 0, .int .i64 0, .int .i64 0], .bool false]) ∧ St W R w' :=
  (sub_it ⟨x0, x1, x2, x3⟩ ⟨y0, y1, y2, y3⟩ W w R hS).mono fun e w' ⟨he, hS⟩ => ⟨by rw [he, subF, h]; rfl, hS⟩
end Go.Proofs.YtlmhakmoioogaaaGreat
end
