/-
  What may be requested: of each kind, through the table of its functions. For every request.
-/
import Derived.Test.YtlmhakmoioogaaaGreatEconSendsM5
import Derived.Test.YtlmhakmoioogaaaGreatEconSendsM21

section
set_option linter.unusedSimpArgs false
set_option linter.unusedVariables false
namespace Go.Sl
open Go.RowKit
section
variable {P : Program} {a : Act} {o : Oper}
/-- A call of a function that a value holds. -/
theorem exec_callT {x : Operand} {f : FuncId} {xs : Array Operand} {ats : Array TypeId} {args : Array Value} (w : World) (ho : o.op = .call { callee := .value x, args := xs, argTypes := ats }) (hf : a.eval x = .func (.func f) #[] #[]) (hb : hasBody P f = true) (hx : xs.map a.eval = args) :
    (execOp a.eval o).run P w = .ok (.enter f args) w := by
  unfold execOp
  simp only [ho, resolve, Sem.run_bind, hf, Deferred.ofValue, hx, Sem.run_pure, Result.andThen_ok]
  simp [invoke, run_callFunc hb]
end
section
variable {P : Program} {ops : Array Oper} {Q : Exit → Act → World → Prop} {a : Act} {w : World} {rest : List Oper} {o : Oper}
def isNilF : Value → Option Bool
  | .nilFunc => some true
  | .func _ _ _ => some false
  | _ => none
/-- Is a function value none? -/
theorem wl_eqF {t t2 : TypeId} {ps rs : Array TypeId} {vd : Bool} {x y : Operand} {v : Value} {r : Bool} (ho : o.op = .binOp .eql t x y t2) (hg : Region.wanted o (yielded ops a.tmps) = true) (hx : a.eval x = v) (hy : a.eval y = .nilFunc) (hv : isNilF v = some r) (ht : P.underlying t = some (.func ps rs vd))
    (h : wpList P ops Q rest (a.put o.dst (.bool r)) w) : wpList P ops Q (o :: rest) a w := by
  refine wpList_run hg (v := .bool r) (w' := w) ?_ h
  have h1 : (binOp .eql t v .nilFunc).run P w = .ok (.bool r) w := by
    have h : ∀ d : Nat, (Op.equalIn (d + 1) t v .nilFunc).run P w = .ok r w := fun d => by
      cases v <;> simp only [isNilF, Option.some.injEq, reduceCtorEq] at hv
      all_goals
        subst hv
        simp [Op.equalIn, run_underlying ht]
    cases v <;> simp only [isNilF, Option.some.injEq, reduceCtorEq] at hv
    all_goals
      simp only [binOp]
      simp [Op.equal, Op.maxDepth, h 9999]
  unfold execOp
  simp [ho, hx, hy, eqGuard, h1]
end
end Go.Sl
namespace Go.Proofs.YtlmhakmoioogaaaGreat
open Go.RowKit Go.Sl
section
variable {kd cl sq : Int} {ak aw tk tw : ByteArray} {it ct pr : Int} {bu : Bool} {i : Int} {r : Bool}
theorem counts_at (h : countsB ⟨kd, cl, sq, ak, aw, tk, tw, it, ct, pr, bu, i⟩ = r) (W w : World) (R : List HP) (hS : St W R w) :
    Calls Tryz.prog 145 #[oV kd cl sq ak aw tk tw it ct pr bu i] w fun e w' => e = .returned (.bool r) ∧ St W R w' := h ▸ counts_spec kd cl sq ak aw tk tw it ct pr bu i W w R hS
end
section
variable (kd cl sq : Int) (ak aw tk tw : ByteArray) (it ct pr : Int) (bu : Bool) (i : Int) (W w : World) (R : List HP)
set_option maxRecDepth 100000 in
set_option maxHeartbeats 2000000 in
theorem sends_spec (hS : St W R w) :
    Calls Tryz.prog 146 #[oV kd cl sq ak aw tk tw it ct pr bu i] w fun e w' => e = .returned (.bool (sendsB ⟨kd, cl, sq, ak, aw, tk, tw, it, ct, pr, bu, i⟩)) ∧ St W R w' := by
  go_enter Tryz.func146, Tryz.ntmps146
  have hc : countsB ⟨kd, cl, sq, ak, aw, ⟨#[]⟩, ⟨#[]⟩, it, ct, pr, bu, i⟩ = (cntB ⟨kd, cl, sq, ak, aw, tk, tw, it, ct, pr, bu, i⟩ && (decide (pr = 0) && (!bu && decide (i = 0)))) := rfl
  cases hp : plcB tk tw with
  | false =>
    have e : sendsB ⟨kd, cl, sq, ak, aw, tk, tw, it, ct, pr, bu, i⟩ = false := by unfold sendsB; rw [hp]; rfl
    rw [e]
    go_wp2_with (first | go_big_skip | (refine zbx hS ?_; clear hS; intro b w hS) | (refine zal hS ?_; clear hS; intro b w hS) | (refine zlN hS ?_) | (refine zlN hS ?_ (vs := [.string tk, .string tw]) (hc := by first | exact Cells.here rfl | exact Cells.there (Cells.here rfl))) | (refine zsN hS ?_; clear hS; intro w hS) | (go_at_call 150; refine (isPl_at hp W _ _ hS).mono ?_; clear hS; rintro e w ⟨rfl, hS⟩) | (go_at_call 145; refine (counts_at hc W _ _ hS).mono ?_; clear hS; rintro e w ⟨rfl, hS⟩))
    go_ret
    exact ⟨rfl, hS.drop.drop⟩
  | true =>
    have e : sendsB ⟨kd, cl, sq, ak, aw, tk, tw, it, ct, pr, bu, i⟩ = (cntB ⟨kd, cl, sq, ak, aw, tk, tw, it, ct, pr, bu, i⟩ && (decide (pr = 0) && (!bu && decide (i = 0)))) := by unfold sendsB; rw [hp]; rfl
    rw [e]
    go_wp2_with (first | go_big_skip | (refine zbx hS ?_; clear hS; intro b w hS) | (refine zal hS ?_; clear hS; intro b w hS) | (refine zlN hS ?_) | (refine zlN hS ?_ (vs := [.string tk, .string tw]) (hc := by first | exact Cells.here rfl | exact Cells.there (Cells.here rfl))) | (refine zsN hS ?_; clear hS; intro w hS) | (go_at_call 150; refine (isPl_at hp W _ _ hS).mono ?_; clear hS; rintro e w ⟨rfl, hS⟩) | (go_at_call 145; refine (counts_at hc W _ _ hS).mono ?_; clear hS; rintro e w ⟨rfl, hS⟩))
    go_ret
    exact ⟨rfl, hS.drop.drop⟩
set_option maxRecDepth 100000 in
set_option maxHeartbeats 2000000 in
theorem orders_spec (hS : St W R w) :
    Calls Tryz.prog 147 #[oV kd cl sq ak aw tk tw it ct pr bu i] w fun e w' => e = .returned (.bool (ordersB ⟨kd, cl, sq, ak, aw, tk, tw, it, ct, pr, bu, i⟩)) ∧ St W R w' := by
  go_enter Tryz.func147, Tryz.ntmps147
  have hc : countsB ⟨kd, cl, sq, ak, aw, tk, tw, it, ct, 0, false, i⟩ = (cntB ⟨kd, cl, sq, ak, aw, tk, tw, it, ct, pr, bu, i⟩ && (noB tk && (noB tw && decide (i = 0)))) := by unfold countsB restB; simp [cntB]
  by_cases h1 : 1 ≤ it
  case neg =>
    have e : ordersB ⟨kd, cl, sq, ak, aw, tk, tw, it, ct, pr, bu, i⟩ = false := by unfold ordersB; simp [h1]
    have d1 : decide (1 ≤ it) = false := by simpa using h1
    rw [e]
    go_wp2_with (first | go_big_skip | (refine zbx hS ?_; clear hS; intro b w hS) | (refine zl1 hS ?_) | (refine zlN hS ?_) | (refine zs1 hS ?_; clear hS; intro w hS) | (go_at_call 145; refine (counts_at hc W _ _ hS).mono ?_; clear hS; rintro e w ⟨rfl, hS⟩))
    go_ret
    exact ⟨rfl, hS.drop⟩
  by_cases h2 : 1 ≤ pr
  case neg =>
    have e : ordersB ⟨kd, cl, sq, ak, aw, tk, tw, it, ct, pr, bu, i⟩ = false := by unfold ordersB; simp [h2]
    have d2 : decide (1 ≤ pr) = false := by simpa using h2
    rw [e]
    go_wp2_with (first | go_big_skip | (refine zbx hS ?_; clear hS; intro b w hS) | (refine zl1 hS ?_) | (refine zlN hS ?_) | (refine zs1 hS ?_; clear hS; intro w hS) | (go_at_call 145; refine (counts_at hc W _ _ hS).mono ?_; clear hS; rintro e w ⟨rfl, hS⟩))
    go_ret
    exact ⟨rfl, hS.drop⟩
  by_cases h3 : pr ≤ 1024
  case neg =>
    have e : ordersB ⟨kd, cl, sq, ak, aw, tk, tw, it, ct, pr, bu, i⟩ = false := by unfold ordersB; simp [h3]
    have d3 : decide (pr ≤ 1024) = false := by simpa using h3
    rw [e]
    go_wp2_with (first | go_big_skip | (refine zbx hS ?_; clear hS; intro b w hS) | (refine zl1 hS ?_) | (refine zlN hS ?_) | (refine zs1 hS ?_; clear hS; intro w hS) | (go_at_call 145; refine (counts_at hc W _ _ hS).mono ?_; clear hS; rintro e w ⟨rfl, hS⟩))
    go_ret
    exact ⟨rfl, hS.drop⟩
  have e : ordersB ⟨kd, cl, sq, ak, aw, tk, tw, it, ct, pr, bu, i⟩ = (cntB ⟨kd, cl, sq, ak, aw, tk, tw, it, ct, pr, bu, i⟩ && (noB tk && (noB tw && decide (i = 0)))) := by unfold ordersB; simp [h1, h2, h3]
  rw [e]
  go_wp2_with (first | go_big_skip | (refine zbx hS ?_; clear hS; intro b w hS) | (refine zl1 hS ?_) | (refine zlN hS ?_) | (refine zs1 hS ?_; clear hS; intro w hS) | (go_at_call 145; refine (counts_at hc W _ _ hS).mono ?_; clear hS; rintro e w ⟨rfl, hS⟩))
  go_ret
  exact ⟨rfl, hS.drop⟩
set_option maxRecDepth 100000 in
set_option maxHeartbeats 2000000 in
theorem cancels_spec (hS : St W R w) :
    Calls Tryz.prog 148 #[oV kd cl sq ak aw tk tw it ct pr bu i] w fun e w' => e = .returned (.bool (cancelsB ⟨kd, cl, sq, ak, aw, tk, tw, it, ct, pr, bu, i⟩)) ∧ St W R w' := by
  go_enter Tryz.func148, Tryz.ntmps148
  by_cases h1 : 1 ≤ i
  case neg =>
    have e : cancelsB ⟨kd, cl, sq, ak, aw, tk, tw, it, ct, pr, bu, i⟩ = false := by unfold cancelsB; simp [h1]
    have d1 : decide (1 ≤ i) = false := by simpa using h1
    rw [e]
    go_wp2_with (first | (refine zbx hS ?_; clear hS; intro b w hS))
    refine wp_region_reads (by kernel_rfl) (by kernel_rfl) hS ?_
    repeat (first | go_big_quiet_skip | (refine zq1 ?_) | (refine zqN ?_) | (apply wq_call; rfl; (intro w; apply exec_callF; (with_reducible rfl); decide +kernel; (focus (simp only [fD, List.map_cons, List.map_nil, Act.eval, fE, fF, fG, fH, Option.getD_some]; try rfl))); (intro w hS; exact rest_spec _ _ _ _ _ _ _ _ _ _ _ _ W w _ hS); (refine frS ?_)) | ((with_reducible apply wq_eqA); (with_reducible rfl); rfl; rfl; rfl; kernel_rfl; exact eq_id tk tw it ct pr bu i; (refine frS ?_)) | (refine wq_pure rfl rfl ?_; intro K hK; go_big_quiet_op; go_big_quiet_on))
    clear hS
    intro w hS
    go_wp2_with fail
    go_ret
    exact ⟨rfl, hS.drop⟩
  by_cases h2 : i ≤ 1099511627776
  case neg =>
    have e : cancelsB ⟨kd, cl, sq, ak, aw, tk, tw, it, ct, pr, bu, i⟩ = false := by unfold cancelsB; simp [h2]
    have d2 : decide (i ≤ 1099511627776) = false := by simpa using h2
    rw [e]
    go_wp2_with (first | (refine zbx hS ?_; clear hS; intro b w hS))
    refine wp_region_reads (by kernel_rfl) (by kernel_rfl) hS ?_
    repeat (first | go_big_quiet_skip | (refine zq1 ?_) | (refine zqN ?_) | (apply wq_call; rfl; (intro w; apply exec_callF; (with_reducible rfl); decide +kernel; (focus (simp only [fD, List.map_cons, List.map_nil, Act.eval, fE, fF, fG, fH, Option.getD_some]; try rfl))); (intro w hS; exact rest_spec _ _ _ _ _ _ _ _ _ _ _ _ W w _ hS); (refine frS ?_)) | ((with_reducible apply wq_eqA); (with_reducible rfl); rfl; rfl; rfl; kernel_rfl; exact eq_id tk tw it ct pr bu i; (refine frS ?_)) | (refine wq_pure rfl rfl ?_; intro K hK; go_big_quiet_op; go_big_quiet_on))
    clear hS
    intro w hS
    go_wp2_with fail
    go_ret
    exact ⟨rfl, hS.drop⟩
  have e : cancelsB ⟨kd, cl, sq, ak, aw, tk, tw, it, ct, pr, bu, i⟩ = (noB tk && (noB tw && (decide (it = 0) && (decide (ct = 0) && (decide (pr = 0) && !bu))))) := by unfold cancelsB; simp [h1, h2]
  rw [e]
  go_wp2_with (first | (refine zbx hS ?_; clear hS; intro b w hS))
  refine wp_region_reads (by kernel_rfl) (by kernel_rfl) hS ?_
  repeat (first | go_big_quiet_skip | (refine zq1 ?_) | (refine zqN ?_) | (apply wq_call; rfl; (intro w; apply exec_callF; (with_reducible rfl); decide +kernel; (focus (simp only [fD, List.map_cons, List.map_nil, Act.eval, fE, fF, fG, fH, Option.getD_some]; try rfl))); (intro w hS; exact rest_spec _ _ _ _ _ _ _ _ _ _ _ _ W w _ hS); (refine frS ?_)) | ((with_reducible apply wq_eqA); (with_reducible rfl); rfl; rfl; rfl; kernel_rfl; exact eq_id tk tw it ct pr bu i; (refine frS ?_)) | (refine wq_pure rfl rfl ?_; intro K hK; go_big_quiet_op; go_big_quiet_on))
  clear hS
  intro w hS
  go_wp2_with fail
  go_ret
  exact ⟨rfl, hS.drop⟩
set_option maxRecDepth 100000 in
set_option maxHeartbeats 2000000 in
theorem bare_spec (hS : St W R w) :
    Calls Tryz.prog 149 #[oV kd cl sq ak aw tk tw it ct pr bu i] w fun e w' => e = .returned (.bool (bareB ⟨kd, cl, sq, ak, aw, tk, tw, it, ct, pr, bu, i⟩)) ∧ St W R w' := by
  go_enter Tryz.func149, Tryz.ntmps149
  go_wp2_with (first | (refine zbx hS ?_; clear hS; intro b w hS) | (refine zlN hS ?_) | (go_at_call 194; refine (rest_spec kd cl sq ak aw tk tw it ct pr bu i W _ _ hS).mono ?_; clear hS; rintro e w ⟨rfl, hS⟩) | ((with_reducible apply wl_eqA); (with_reducible rfl); rfl; rfl; rfl; kernel_rfl; exact eq_bare tk tw it ct pr bu i; (refine frS ?_)))
  go_ret
  exact ⟨rfl, hS.drop⟩
end
end Go.Proofs.YtlmhakmoioogaaaGreat
end
