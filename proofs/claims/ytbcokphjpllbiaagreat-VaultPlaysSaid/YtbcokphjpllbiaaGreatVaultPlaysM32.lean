/-
  The document's vault in terms of the program's purses: Has, set, pays, Put, Take. For every vault.
-/
import Derived.Test.YtbcokphjpllbiaaGreatVaultPlaysM30
import Derived.Test.YtbcokphjpllbiaaGreatVaultPlaysM31

section
set_option linter.unusedSimpArgs false
set_option linter.unusedVariables false
namespace Go.Proofs.YtbcokphjpllbiaaGreat
open Go.RowKit Go.Sl
/-- The document's vault: its block and its row of purses, those of p by names. -/
def xvP (xb : Nat) (vB : Value) (n : Int) (p : Ps) : HP := fun f => ∃ v : Value, sats [blk xb [v, vB, .int .i64 n] 65, hdR v (hdL p)] f
section
variable {W w : World} {xb : Nat} {vB : Value} {n : Int} {p : Ps} {R : List HP} {N : Nat}
theorem xvOpen (h : St W (xvP xb vB n p :: R) w) : ∃ v, St W (xvL xb v vB n (hdL p) R) w := by
  obtain ⟨v, h⟩ := St.ex h
  exact ⟨v, (St.split (St.split h).swap).swap.drop.swap⟩
theorem xvShut {v : Value} (h : St W (xvL xb v vB n (hdL p) R) w) : St W (xvP xb vB n p :: R) w := by
  refine St.mkEx v ?_
  refine St.join ?_
  refine St.swap (St.imp h.swap ?_)
  intro f hf
  exact ⟨fun _ => true, hf, trivial⟩
theorem has8P (hw : PsW p N) {k : ByteArray} {x0 x1 x2 x3 : Int} (hx : purseA p k = ⟨x0, x1, x2, x3⟩) (hS : St W (xvP xb vB n p :: R) w) :
    Calls Tryz.prog 24 #[.pointer (some ⟨xb, 0, none⟩), .string k] w fun e w' => e = .returned (.agg #[.int .i64 x0, .int .i64 x1, .int .i64 x2, .int .i64 x3]) ∧ St W (xvP xb vB n p :: R) w' := by
  obtain ⟨v, hS⟩ := xvOpen hS
  refine (has8 (hdL p) k xb v vB n W w R hS).mono ?_
  rw [hasH_eq hw, hx]
  rintro e w' ⟨rfl, hS⟩
  exact ⟨rfl, xvShut hS⟩
theorem has8_take (hw : PsW p N) {k : ByteArray} {x0 x1 x2 x3 : Int} (hx : purseA p k = ⟨x0, x1, x2, x3⟩) {L1 R1 : List HP} (hS : St W L1 w) (ht : Take L1 (xvP xb vB n p) R1) :
    Calls Tryz.prog 24 #[.pointer (some ⟨xb, 0, none⟩), .string k] w fun e w' => e = .returned (.agg #[.int .i64 x0, .int .i64 x1, .int .i64 x2, .int .i64 x3]) ∧ St W L1 w' := by
  refine (has8P hw hx (hS.take ht)).mono ?_
  rintro e w' ⟨rfl, hS⟩
  exact ⟨rfl, hS.back ht⟩
theorem set8P (hw : PsW p N) (hN : N ≤ 1000000) (k : ByteArray) (i : It) (hS : St W (xvP xb vB n p :: R) w) :
    Calls Tryz.prog 64 #[.pointer (some ⟨xb, 0, none⟩), .string k, .agg i.cells.toArray] w fun e w' => e = .returned (.tuple #[]) ∧ St W (xvP xb vB n (layP p k i) :: R) w' := by
  obtain ⟨v, hS⟩ := xvOpen hS
  have hl := hw.len
  refine (set8 (hdL p) k i (by rw [hdL_len]; omega) xb v vB n W w R hS).mono ?_
  rw [setH_eq hw]
  rintro e w' ⟨rfl, v', hS⟩
  exact ⟨rfl, xvShut hS⟩
theorem add8_some {l : List It} {s0 s1 s2 s3 : Int} (h : addL l it0 = some ⟨s0, s1, s2, s3⟩) (v : Value) (W w : World) (R : List HP) (hS : St W (row v 4 39 l.length (l.flatMap It.cells) :: R) w) :
    Calls Tryz.prog 63 #[v] w fun e w' => e = .returned (.tuple #[.agg #[.int .i64 s0, .int .i64 s1, .int .i64 s2, .int .i64 s3], .bool true]) ∧ St W R w' :=
  (add8 l v W w R hS).mono fun e w' ⟨he, hS⟩ => ⟨by rw [he, addF, h]; rfl, hS.drop⟩
theorem add8_none {l : List It} (h : addL l it0 = none) (v : Value) (W w : World) (R : List HP) (hS : St W (row v 4 39 l.length (l.flatMap It.cells) :: R) w) :
    Calls Tryz.prog 63 #[v] w fun e w' => e = .returned (.tuple #[.agg #[.int .i64 0, .int .i64 0, .int .i64 0, .int .i64 0], .bool false]) ∧ St W R w' :=
  (add8 l v W w R hS).mono fun e w' ⟨he, hS⟩ => ⟨by rw [he, addF, h]; rfl, hS.drop⟩
theorem sub8_yes {x0 x1 x2 x3 y0 y1 y2 y3 : Int} (h : subOk ⟨x0, x1, x2, x3⟩ ⟨y0, y1, y2, y3⟩ = true) (W w : World) (R : List HP) (hS : St W R w) :
    Calls Tryz.prog 66 #[.agg #[.int .i64 x0, .int .i64 x1, .int .i64 x2, .int .i64 x3], .agg #[.int .i64 y0, .int .i64 y1, .int .i64 y2, .int .i64 y3]] w fun e w' => e = .returned (.tuple #[.agg #[.int .i64 (x0 - y0), .int .i64 (x1 - y1), .int .i64 (x2 - y2), .int .i64 (x3 - y3)], .bool true]) ∧ St W R w' :=
  (sub8 ⟨x0, x1, x2, x3⟩ ⟨y0, y1, y2, y3⟩ W w R hS).mono fun e w' ⟨he, hS⟩ => ⟨by rw [he, subF, h]; rfl, hS⟩
theorem sub8_no {x0 x1 x2 x3 y0 y1 y2 y3 : Int} (h : subOk ⟨x0, x1, x2, x3⟩ ⟨y0, y1, y2, y3⟩ = false) (W w : World) (R : List HP) (hS : St W R w) :
    Calls Tryz.prog 66 #[.agg #[.int .i64 x0, .int .i64 x1, .int .i64 x2, .int .i64 x3], .agg #[.int .i64 y0, .int .i64 y1, .int .i64 y2, .int .i64 y3]] w fun e w' => e = .returned (.tuple #[.agg #[.int .i64 0, .int .i64 0, .int .i64 0, .int .i64 0], .bool false]) ∧ St W R w' :=
  (sub8 ⟨x0, x1, x2, x3⟩ ⟨y0, y1, y2, y3⟩ W w R hS).mono fun e w' ⟨he, hS⟩ => ⟨by rw [he, subF, h]; rfl, hS⟩
end
section
variable (xb : Nat) (vB : Value) (n : Int) (p : Ps) (N : Nat) (W w : World) (R : List HP)
set_option maxRecDepth 100000 in
set_option maxHeartbeats 4000000 in
theorem pays8 (hw : PsW p N) (hN : N ≤ 1000000) (who : ByteArray) (k m : Int) (hx : isIt (purseA p who) = true) (hk : 0 ≤ k ∧ k ≤ 3) (hm : 0 ≤ m ∧ m ≤ 1152921504606846976) (hS : St W (xvP xb vB n p :: R) w) :
    Calls Tryz.prog 58 #[.pointer (some ⟨xb, 0, none⟩), .string who, .int .i64 k, .int .i64 m] w fun e w' => e = .returned (.tuple #[]) ∧ St W (xvP xb vB n (giveP p who k m) :: R) w' := by
  obtain ⟨px, hp⟩ : ∃ x, purseA p who = x := ⟨_, rfl⟩
  rw [hp] at hx
  obtain ⟨p0, p1, p2, p3⟩ := px
  have Hx := Lib.hid hp
  have Hw := Lib.hid hw
  clear hp hw
  obtain ⟨a0, a1, a2, a3⟩ := isIt_true.1 hx
  simp only at a0 a1 a2 a3
  clear hx
  have hk4 : k = 0 ∨ k = 1 ∨ k = 2 ∨ k = 3 := by omega
  rcases hk4 with rfl | rfl | rfl | rfl
  · skip
    by_cases hc : p0 + m < 1152921504606846976
    · have hcap : capI (p0 + m) = p0 + m := by unfold capI; rw [if_neg (by omega)]
      have hmin : min (1152921504606846976 : Int) (p0 + m) = p0 + m := by omega
      have e : giveP p who 0 m = layP p who ⟨p0 + m, p1, p2, p3⟩ := by unfold giveP giveI; rw [Hx.out]; simp [setK, getK, hcap]
      rw [e]
      clear e hcap
      go_enter Tryz.func58, Tryz.ntmps58
      go_wp2_with (first | (go_at_call 24; refine (has8P Hw.out Hx.out hS).mono ?_; clear hS; rintro e w ⟨rfl, hS⟩) | (go_at_call 64; refine (set8P Hw.out hN who ⟨p0 + m, p1, p2, p3⟩ (hS.sel (L' := xvP xb vB n p :: blk b8 _ _ :: R) (by (repeat' (first | (with_reducible first | exact Sel.done Suf.refl | exact Sel.done (Suf.tail Suf.refl) | exact Sel.done (Suf.tail (Suf.tail Suf.refl)) | exact Sel.done (Suf.tail (Suf.tail (Suf.tail Suf.refl))) | (apply Sel.done; (focus((repeat(first|exact Suf.refl | apply Suf.tail)); done)))) | (refine Sel.cons (by with_reducible (focus((repeat(first|exact .head|apply Take.tail));done))) ?_)))))).mono ?_; clear hS; rintro e w ⟨rfl, hS⟩) | ((with_reducible apply wl_alloc hS); (with_reducible rfl); rfl; (exact Ty.z39); clear hS; intro b8 w hS; (simp only [Act.put, fA, fB, fC, Nat.reduceAdd])) | ((with_reducible apply wl_stN hS); (with_reducible rfl); rfl; rfl; (focus ((conv => lhs; whnf); try rfl)); kernel_rfl; rfl; ((focus((repeat(first|exact Upd.head | apply Upd.tail)); done))); (simp only [List.length_cons, List.length_nil]; omega); ((simp only [List.set_cons_zero, List.set_cons_succ, setAll]); rfl); clear hS; intro w hS; try (simp only [Act.put, fA, fB, fC, Nat.reduceAdd])) | ((with_reducible apply wl_ldN hS); (with_reducible rfl); rfl; rfl; decide +kernel; (first | (focus((repeat(first|exact Cells.whole | apply Cells.there)); done)) | assumption); kernel_rfl; (simp only [Act.put, fA, fB, fC, Nat.reduceAdd])) | ((with_reducible apply wl_ld1 hS); (with_reducible rfl); rfl; rfl; decide +kernel; (first | (focus((repeat(first|exact Cell.here rfl | apply Cell.there)); done)) | assumption); (simp only [Act.put, fA, fB, fC, Nat.reduceAdd])) | ((with_reducible apply wl_st1 hS); (with_reducible rfl); rfl; rfl; (focus ((conv => lhs; whnf); try rfl)); kernel_rfl; rfl; rfl; ((focus((repeat(first|exact Upd.head | apply Upd.tail)); done))); (simp only [List.length_cons, List.length_nil]; omega); ((simp only [List.set_cons_zero, List.set_cons_succ, setAll]); rfl); clear hS; intro w hS; try (simp only [Act.put, fA, fB, fC, Nat.reduceAdd])))
      go_end0
      exact ⟨rfl, hS.sel (by (repeat' (first | (with_reducible first | exact Sel.done Suf.refl | exact Sel.done (Suf.tail Suf.refl) | exact Sel.done (Suf.tail (Suf.tail Suf.refl)) | exact Sel.done (Suf.tail (Suf.tail (Suf.tail Suf.refl))) | (apply Sel.done; (focus((repeat(first|exact Suf.refl | apply Suf.tail)); done)))) | (refine Sel.cons (by with_reducible (focus((repeat(first|exact .head|apply Take.tail));done))) ?_))))⟩
    · have hcap : capI (p0 + m) = 1152921504606846976 := by unfold capI; split <;> omega
      have hmin : min (1152921504606846976 : Int) (p0 + m) = 1152921504606846976 := by omega
      have e : giveP p who 0 m = layP p who ⟨1152921504606846976, p1, p2, p3⟩ := by unfold giveP giveI; rw [Hx.out]; simp [setK, getK, hcap]
      rw [e]
      clear e hcap
      go_enter Tryz.func58, Tryz.ntmps58
      go_wp2_with (first | (go_at_call 24; refine (has8P Hw.out Hx.out hS).mono ?_; clear hS; rintro e w ⟨rfl, hS⟩) | (go_at_call 64; refine (set8P Hw.out hN who ⟨1152921504606846976, p1, p2, p3⟩ (hS.sel (L' := xvP xb vB n p :: blk b8 _ _ :: R) (by (repeat' (first | (with_reducible first | exact Sel.done Suf.refl | exact Sel.done (Suf.tail Suf.refl) | exact Sel.done (Suf.tail (Suf.tail Suf.refl)) | exact Sel.done (Suf.tail (Suf.tail (Suf.tail Suf.refl))) | (apply Sel.done; (focus((repeat(first|exact Suf.refl | apply Suf.tail)); done)))) | (refine Sel.cons (by with_reducible (focus((repeat(first|exact .head|apply Take.tail));done))) ?_)))))).mono ?_; clear hS; rintro e w ⟨rfl, hS⟩) | ((with_reducible apply wl_alloc hS); (with_reducible rfl); rfl; (exact Ty.z39); clear hS; intro b8 w hS; (simp only [Act.put, fA, fB, fC, Nat.reduceAdd])) | ((with_reducible apply wl_stN hS); (with_reducible rfl); rfl; rfl; (focus ((conv => lhs; whnf); try rfl)); kernel_rfl; rfl; ((focus((repeat(first|exact Upd.head | apply Upd.tail)); done))); (simp only [List.length_cons, List.length_nil]; omega); ((simp only [List.set_cons_zero, List.set_cons_succ, setAll]); rfl); clear hS; intro w hS; try (simp only [Act.put, fA, fB, fC, Nat.reduceAdd])) | ((with_reducible apply wl_ldN hS); (with_reducible rfl); rfl; rfl; decide +kernel; (first | (focus((repeat(first|exact Cells.whole | apply Cells.there)); done)) | assumption); kernel_rfl; (simp only [Act.put, fA, fB, fC, Nat.reduceAdd])) | ((with_reducible apply wl_ld1 hS); (with_reducible rfl); rfl; rfl; decide +kernel; (first | (focus((repeat(first|exact Cell.here rfl | apply Cell.there)); done)) | assumption); (simp only [Act.put, fA, fB, fC, Nat.reduceAdd])) | ((with_reducible apply wl_st1 hS); (with_reducible rfl); rfl; rfl; (focus ((conv => lhs; whnf); try rfl)); kernel_rfl; rfl; rfl; ((focus((repeat(first|exact Upd.head | apply Upd.tail)); done))); (simp only [List.length_cons, List.length_nil]; omega); ((simp only [List.set_cons_zero, List.set_cons_succ, setAll]); rfl); clear hS; intro w hS; try (simp only [Act.put, fA, fB, fC, Nat.reduceAdd])))
      go_end0
      exact ⟨rfl, hS.sel (by (repeat' (first | (with_reducible first | exact Sel.done Suf.refl | exact Sel.done (Suf.tail Suf.refl) | exact Sel.done (Suf.tail (Suf.tail Suf.refl)) | exact Sel.done (Suf.tail (Suf.tail (Suf.tail Suf.refl))) | (apply Sel.done; (focus((repeat(first|exact Suf.refl | apply Suf.tail)); done)))) | (refine Sel.cons (by with_reducible (focus((repeat(first|exact .head|apply Take.tail));done))) ?_))))⟩
  · skip
    by_cases hc : p1 + m < 1152921504606846976
    · have hcap : capI (p1 + m) = p1 + m := by unfold capI; rw [if_neg (by omega)]
      have hmin : min (1152921504606846976 : Int) (p1 + m) = p1 + m := by omega
      have e : giveP p who 1 m = layP p who ⟨p0, p1 + m, p2, p3⟩ := by unfold giveP giveI; rw [Hx.out]; simp [setK, getK, hcap]
      rw [e]
      clear e hcap
      go_enter Tryz.func58, Tryz.ntmps58
      go_wp2_with (first | (go_at_call 24; refine (has8P Hw.out Hx.out hS).mono ?_; clear hS; rintro e w ⟨rfl, hS⟩) | (go_at_call 64; refine (set8P Hw.out hN who ⟨p0, p1 + m, p2, p3⟩ (hS.sel (L' := xvP xb vB n p :: blk b8 _ _ :: R) (by (repeat' (first | (with_reducible first | exact Sel.done Suf.refl | exact Sel.done (Suf.tail Suf.refl) | exact Sel.done (Suf.tail (Suf.tail Suf.refl)) | exact Sel.done (Suf.tail (Suf.tail (Suf.tail Suf.refl))) | (apply Sel.done; (focus((repeat(first|exact Suf.refl | apply Suf.tail)); done)))) | (refine Sel.cons (by with_reducible (focus((repeat(first|exact .head|apply Take.tail));done))) ?_)))))).mono ?_; clear hS; rintro e w ⟨rfl, hS⟩) | ((with_reducible apply wl_alloc hS); (with_reducible rfl); rfl; (exact Ty.z39); clear hS; intro b8 w hS; (simp only [Act.put, fA, fB, fC, Nat.reduceAdd])) | ((with_reducible apply wl_stN hS); (with_reducible rfl); rfl; rfl; (focus ((conv => lhs; whnf); try rfl)); kernel_rfl; rfl; ((focus((repeat(first|exact Upd.head | apply Upd.tail)); done))); (simp only [List.length_cons, List.length_nil]; omega); ((simp only [List.set_cons_zero, List.set_cons_succ, setAll]); rfl); clear hS; intro w hS; try (simp only [Act.put, fA, fB, fC, Nat.reduceAdd])) | ((with_reducible apply wl_ldN hS); (with_reducible rfl); rfl; rfl; decide +kernel; (first | (focus((repeat(first|exact Cells.whole | apply Cells.there)); done)) | assumption); kernel_rfl; (simp only [Act.put, fA, fB, fC, Nat.reduceAdd])) | ((with_reducible apply wl_ld1 hS); (with_reducible rfl); rfl; rfl; decide +kernel; (first | (focus((repeat(first|exact Cell.here rfl | apply Cell.there)); done)) | assumption); (simp only [Act.put, fA, fB, fC, Nat.reduceAdd])) | ((with_reducible apply wl_st1 hS); (with_reducible rfl); rfl; rfl; (focus ((conv => lhs; whnf); try rfl)); kernel_rfl; rfl; rfl; ((focus((repeat(first|exact Upd.head | apply Upd.tail)); done))); (simp only [List.length_cons, List.length_nil]; omega); ((simp only [List.set_cons_zero, List.set_cons_succ, setAll]); rfl); clear hS; intro w hS; try (simp only [Act.put, fA, fB, fC, Nat.reduceAdd])))
      go_end0
      exact ⟨rfl, hS.sel (by (repeat' (first | (with_reducible first | exact Sel.done Suf.refl | exact Sel.done (Suf.tail Suf.refl) | exact Sel.done (Suf.tail (Suf.tail Suf.refl)) | exact Sel.done (Suf.tail (Suf.tail (Suf.tail Suf.refl))) | (apply Sel.done; (focus((repeat(first|exact Suf.refl | apply Suf.tail)); done)))) | (refine Sel.cons (by with_reducible (focus((repeat(first|exact .head|apply Take.tail));done))) ?_))))⟩
    · have hcap : capI (p1 + m) = 1152921504606846976 := by unfold capI; split <;> omega
      have hmin : min (1152921504606846976 : Int) (p1 + m) = 1152921504606846976 := by omega
      have e : giveP p who 1 m = layP p who ⟨p0, 1152921504606846976, p2, p3⟩ := by unfold giveP giveI; rw [Hx.out]; simp [setK, getK, hcap]
      rw [e]
      clear e hcap
      go_enter Tryz.func58, Tryz.ntmps58
      go_wp2_with (first | (go_at_call 24; refine (has8P Hw.out Hx.out hS).mono ?_; clear hS; rintro e w ⟨rfl, hS⟩) | (go_at_call 64; refine (set8P Hw.out hN who ⟨p0, 1152921504606846976, p2, p3⟩ (hS.sel (L' := xvP xb vB n p :: blk b8 _ _ :: R) (by (repeat' (first | (with_reducible first | exact Sel.done Suf.refl | exact Sel.done (Suf.tail Suf.refl) | exact Sel.done (Suf.tail (Suf.tail Suf.refl)) | exact Sel.done (Suf.tail (Suf.tail (Suf.tail Suf.refl))) | (apply Sel.done; (focus((repeat(first|exact Suf.refl | apply Suf.tail)); done)))) | (refine Sel.cons (by with_reducible (focus((repeat(first|exact .head|apply Take.tail));done))) ?_)))))).mono ?_; clear hS; rintro e w ⟨rfl, hS⟩) | ((with_reducible apply wl_alloc hS); (with_reducible rfl); rfl; (exact Ty.z39); clear hS; intro b8 w hS; (simp only [Act.put, fA, fB, fC, Nat.reduceAdd])) | ((with_reducible apply wl_stN hS); (with_reducible rfl); rfl; rfl; (focus ((conv => lhs; whnf); try rfl)); kernel_rfl; rfl; ((focus((repeat(first|exact Upd.head | apply Upd.tail)); done))); (simp only [List.length_cons, List.length_nil]; omega); ((simp only [List.set_cons_zero, List.set_cons_succ, setAll]); rfl); clear hS; intro w hS; try (simp only [Act.put, fA, fB, fC, Nat.reduceAdd])) | ((with_reducible apply wl_ldN hS); (with_reducible rfl); rfl; rfl; decide +kernel; (first | (focus((repeat(first|exact Cells.whole | apply Cells.there)); done)) | assumption); kernel_rfl; (simp only [Act.put, fA, fB, fC, Nat.reduceAdd])) | ((with_reducible apply wl_ld1 hS); (with_reducible rfl); rfl; rfl; decide +kernel; (first | (focus((repeat(first|exact Cell.here rfl | apply Cell.there)); done)) | assumption); (simp only [Act.put, fA, fB, fC, Nat.reduceAdd])) | ((with_reducible apply wl_st1 hS); (with_reducible rfl); rfl; rfl; (focus ((conv => lhs; whnf); try rfl)); kernel_rfl; rfl; rfl; ((focus((repeat(first|exact Upd.head | apply Upd.tail)); done))); (simp only [List.length_cons, List.length_nil]; omega); ((simp only [List.set_cons_zero, List.set_cons_succ, setAll]); rfl); clear hS; intro w hS; try (simp only [Act.put, fA, fB, fC, Nat.reduceAdd])))
      go_end0
      exact ⟨rfl, hS.sel (by (repeat' (first | (with_reducible first | exact Sel.done Suf.refl | exact Sel.done (Suf.tail Suf.refl) | exact Sel.done (Suf.tail (Suf.tail Suf.refl)) | exact Sel.done (Suf.tail (Suf.tail (Suf.tail Suf.refl))) | (apply Sel.done; (focus((repeat(first|exact Suf.refl | apply Suf.tail)); done)))) | (refine Sel.cons (by with_reducible (focus((repeat(first|exact .head|apply Take.tail));done))) ?_))))⟩
  · skip
    by_cases hc : p2 + m < 1152921504606846976
    · have hcap : capI (p2 + m) = p2 + m := by unfold capI; rw [if_neg (by omega)]
      have hmin : min (1152921504606846976 : Int) (p2 + m) = p2 + m := by omega
      have e : giveP p who 2 m = layP p who ⟨p0, p1, p2 + m, p3⟩ := by unfold giveP giveI; rw [Hx.out]; simp [setK, getK, hcap]
      rw [e]
      clear e hcap
      go_enter Tryz.func58, Tryz.ntmps58
      go_wp2_with (first | (go_at_call 24; refine (has8P Hw.out Hx.out hS).mono ?_; clear hS; rintro e w ⟨rfl, hS⟩) | (go_at_call 64; refine (set8P Hw.out hN who ⟨p0, p1, p2 + m, p3⟩ (hS.sel (L' := xvP xb vB n p :: blk b8 _ _ :: R) (by (repeat' (first | (with_reducible first | exact Sel.done Suf.refl | exact Sel.done (Suf.tail Suf.refl) | exact Sel.done (Suf.tail (Suf.tail Suf.refl)) | exact Sel.done (Suf.tail (Suf.tail (Suf.tail Suf.refl))) | (apply Sel.done; (focus((repeat(first|exact Suf.refl | apply Suf.tail)); done)))) | (refine Sel.cons (by with_reducible (focus((repeat(first|exact .head|apply Take.tail));done))) ?_)))))).mono ?_; clear hS; rintro e w ⟨rfl, hS⟩) | ((with_reducible apply wl_alloc hS); (with_reducible rfl); rfl; (exact Ty.z39); clear hS; intro b8 w hS; (simp only [Act.put, fA, fB, fC, Nat.reduceAdd])) | ((with_reducible apply wl_stN hS); (with_reducible rfl); rfl; rfl; (focus ((conv => lhs; whnf); try rfl)); kernel_rfl; rfl; ((focus((repeat(first|exact Upd.head | apply Upd.tail)); done))); (simp only [List.length_cons, List.length_nil]; omega); ((simp only [List.set_cons_zero, List.set_cons_succ, setAll]); rfl); clear hS; intro w hS; try (simp only [Act.put, fA, fB, fC, Nat.reduceAdd])) | ((with_reducible apply wl_ldN hS); (with_reducible rfl); rfl; rfl; decide +kernel; (first | (focus((repeat(first|exact Cells.whole | apply Cells.there)); done)) | assumption); kernel_rfl; (simp only [Act.put, fA, fB, fC, Nat.reduceAdd])) | ((with_reducible apply wl_ld1 hS); (with_reducible rfl); rfl; rfl; decide +kernel; (first | (focus((repeat(first|exact Cell.here rfl | apply Cell.there)); done)) | assumption); (simp only [Act.put, fA, fB, fC, Nat.reduceAdd])) | ((with_reducible apply wl_st1 hS); (with_reducible rfl); rfl; rfl; (focus ((conv => lhs; whnf); try rfl)); kernel_rfl; rfl; rfl; ((focus((repeat(first|exact Upd.head | apply Upd.tail)); done))); (simp only [List.length_cons, List.length_nil]; omega); ((simp only [List.set_cons_zero, List.set_cons_succ, setAll]); rfl); clear hS; intro w hS; try (simp only [Act.put, fA, fB, fC, Nat.reduceAdd])))
      go_end0
      exact ⟨rfl, hS.sel (by (repeat' (first | (with_reducible first | exact Sel.done Suf.refl | exact Sel.done (Suf.tail Suf.refl) | exact Sel.done (Suf.tail (Suf.tail Suf.refl)) | exact Sel.done (Suf.tail (Suf.tail (Suf.tail Suf.refl))) | (apply Sel.done; (focus((repeat(first|exact Suf.refl | apply Suf.tail)); done)))) | (refine Sel.cons (by with_reducible (focus((repeat(first|exact .head|apply Take.tail));done))) ?_))))⟩
    · have hcap : capI (p2 + m) = 1152921504606846976 := by unfold capI; split <;> omega
      have hmin : min (1152921504606846976 : Int) (p2 + m) = 1152921504606846976 := by omega
      have e : giveP p who 2 m = layP p who ⟨p0, p1, 1152921504606846976, p3⟩ := by unfold giveP giveI; rw [Hx.out]; simp [setK, getK, hcap]
      rw [e]
      clear e hcap
      go_enter Tryz.func58, Tryz.ntmps58
      go_wp2_with (first | (go_at_call 24; refine (has8P Hw.out Hx.out hS).mono ?_; clear hS; rintro e w ⟨rfl, hS⟩) | (go_at_call 64; refine (set8P Hw.out hN who ⟨p0, p1, 1152921504606846976, p3⟩ (hS.sel (L' := xvP xb vB n p :: blk b8 _ _ :: R) (by (repeat' (first | (with_reducible first | exact Sel.done Suf.refl | exact Sel.done (Suf.tail Suf.refl) | exact Sel.done (Suf.tail (Suf.tail Suf.refl)) | exact Sel.done (Suf.tail (Suf.tail (Suf.tail Suf.refl))) | (apply Sel.done; (focus((repeat(first|exact Suf.refl | apply Suf.tail)); done)))) | (refine Sel.cons (by with_reducible (focus((repeat(first|exact .head|apply Take.tail));done))) ?_)))))).mono ?_; clear hS; rintro e w ⟨rfl, hS⟩) | ((with_reducible apply wl_alloc hS); (with_reducible rfl); rfl; (exact Ty.z39); clear hS; intro b8 w hS; (simp only [Act.put, fA, fB, fC, Nat.reduceAdd])) | ((with_reducible apply wl_stN hS); (with_reducible rfl); rfl; rfl; (focus ((conv => lhs; whnf); try rfl)); kernel_rfl; rfl; ((focus((repeat(first|exact Upd.head | apply Upd.tail)); done))); (simp only [List.length_cons, List.length_nil]; omega); ((simp only [List.set_cons_zero, List.set_cons_succ, setAll]); rfl); clear hS; intro w hS; try (simp only [Act.put, fA, fB, fC, Nat.reduceAdd])) | ((with_reducible apply wl_ldN hS); (with_reducible rfl); rfl; rfl; decide +kernel; (first | (focus((repeat(first|exact Cells.whole | apply Cells.there)); done)) | assumption); kernel_rfl; (simp only [Act.put, fA, fB, fC, Nat.reduceAdd])) | ((with_reducible apply wl_ld1 hS); (with_reducible rfl); rfl; rfl; decide +kernel; (first | (focus((repeat(first|exact Cell.here rfl | apply Cell.there)); done)) | assumption); (simp only [Act.put, fA, fB, fC, Nat.reduceAdd])) | ((with_reducible apply wl_st1 hS); (with_reducible rfl); rfl; rfl; (focus ((conv => lhs; whnf); try rfl)); kernel_rfl; rfl; rfl; ((focus((repeat(first|exact Upd.head | apply Upd.tail)); done))); (simp only [List.length_cons, List.length_nil]; omega); ((simp only [List.set_cons_zero, List.set_cons_succ, setAll]); rfl); clear hS; intro w hS; try (simp only [Act.put, fA, fB, fC, Nat.reduceAdd])))
      go_end0
      exact ⟨rfl, hS.sel (by (repeat' (first | (with_reducible first | exact Sel.done Suf.refl | exact Sel.done (Suf.tail Suf.refl) | exact Sel.done (Suf.tail (Suf.tail Suf.refl)) | exact Sel.done (Suf.tail (Suf.tail (Suf.tail Suf.refl))) | (apply Sel.done; (focus((repeat(first|exact Suf.refl | apply Suf.tail)); done)))) | (refine Sel.cons (by with_reducible (focus((repeat(first|exact .head|apply Take.tail));done))) ?_))))⟩
  · skip
    by_cases hc : p3 + m < 1152921504606846976
    · have hcap : capI (p3 + m) = p3 + m := by unfold capI; rw [if_neg (by omega)]
      have hmin : min (1152921504606846976 : Int) (p3 + m) = p3 + m := by omega
      have e : giveP p who 3 m = layP p who ⟨p0, p1, p2, p3 + m⟩ := by unfold giveP giveI; rw [Hx.out]; simp [setK, getK, hcap]
      rw [e]
      clear e hcap
      go_enter Tryz.func58, Tryz.ntmps58
      go_wp2_with (first | (go_at_call 24; refine (has8P Hw.out Hx.out hS).mono ?_; clear hS; rintro e w ⟨rfl, hS⟩) | (go_at_call 64; refine (set8P Hw.out hN who ⟨p0, p1, p2, p3 + m⟩ (hS.sel (L' := xvP xb vB n p :: blk b8 _ _ :: R) (by (repeat' (first | (with_reducible first | exact Sel.done Suf.refl | exact Sel.done (Suf.tail Suf.refl) | exact Sel.done (Suf.tail (Suf.tail Suf.refl)) | exact Sel.done (Suf.tail (Suf.tail (Suf.tail Suf.refl))) | (apply Sel.done; (focus((repeat(first|exact Suf.refl | apply Suf.tail)); done)))) | (refine Sel.cons (by with_reducible (focus((repeat(first|exact .head|apply Take.tail));done))) ?_)))))).mono ?_; clear hS; rintro e w ⟨rfl, hS⟩) | ((with_reducible apply wl_alloc hS); (with_reducible rfl); rfl; (exact Ty.z39); clear hS; intro b8 w hS; (simp only [Act.put, fA, fB, fC, Nat.reduceAdd])) | ((with_reducible apply wl_stN hS); (with_reducible rfl); rfl; rfl; (focus ((conv => lhs; whnf); try rfl)); kernel_rfl; rfl; ((focus((repeat(first|exact Upd.head | apply Upd.tail)); done))); (simp only [List.length_cons, List.length_nil]; omega); ((simp only [List.set_cons_zero, List.set_cons_succ, setAll]); rfl); clear hS; intro w hS; try (simp only [Act.put, fA, fB, fC, Nat.reduceAdd])) | ((with_reducible apply wl_ldN hS); (with_reducible rfl); rfl; rfl; decide +kernel; (first | (focus((repeat(first|exact Cells.whole | apply Cells.there)); done)) | assumption); kernel_rfl; (simp only [Act.put, fA, fB, fC, Nat.reduceAdd])) | ((with_reducible apply wl_ld1 hS); (with_reducible rfl); rfl; rfl; decide +kernel; (first | (focus((repeat(first|exact Cell.here rfl | apply Cell.there)); done)) | assumption); (simp only [Act.put, fA, fB, fC, Nat.reduceAdd])) | ((with_reducible apply wl_st1 hS); (with_reducible rfl); rfl; rfl; (focus ((conv => lhs; whnf); try rfl)); kernel_rfl; rfl; rfl; ((focus((repeat(first|exact Upd.head | apply Upd.tail)); done))); (simp only [List.length_cons, List.length_nil]; omega); ((simp only [List.set_cons_zero, List.set_cons_succ, setAll]); rfl); clear hS; intro w hS; try (simp only [Act.put, fA, fB, fC, Nat.reduceAdd])))
      go_end0
      exact ⟨rfl, hS.sel (by (repeat' (first | (with_reducible first | exact Sel.done Suf.refl | exact Sel.done (Suf.tail Suf.refl) | exact Sel.done (Suf.tail (Suf.tail Suf.refl)) | exact Sel.done (Suf.tail (Suf.tail (Suf.tail Suf.refl))) | (apply Sel.done; (focus((repeat(first|exact Suf.refl | apply Suf.tail)); done)))) | (refine Sel.cons (by with_reducible (focus((repeat(first|exact .head|apply Take.tail));done))) ?_))))⟩
    · have hcap : capI (p3 + m) = 1152921504606846976 := by unfold capI; split <;> omega
      have hmin : min (1152921504606846976 : Int) (p3 + m) = 1152921504606846976 := by omega
      have e : giveP p who 3 m = layP p who ⟨p0, p1, p2, 1152921504606846976⟩ := by unfold giveP giveI; rw [Hx.out]; simp [setK, getK, hcap]
      rw [e]
      clear e hcap
      go_enter Tryz.func58, Tryz.ntmps58
      go_wp2_with (first | (go_at_call 24; refine (has8P Hw.out Hx.out hS).mono ?_; clear hS; rintro e w ⟨rfl, hS⟩) | (go_at_call 64; refine (set8P Hw.out hN who ⟨p0, p1, p2, 1152921504606846976⟩ (hS.sel (L' := xvP xb vB n p :: blk b8 _ _ :: R) (by (repeat' (first | (with_reducible first | exact Sel.done Suf.refl | exact Sel.done (Suf.tail Suf.refl) | exact Sel.done (Suf.tail (Suf.tail Suf.refl)) | exact Sel.done (Suf.tail (Suf.tail (Suf.tail Suf.refl))) | (apply Sel.done; (focus((repeat(first|exact Suf.refl | apply Suf.tail)); done)))) | (refine Sel.cons (by with_reducible (focus((repeat(first|exact .head|apply Take.tail));done))) ?_)))))).mono ?_; clear hS; rintro e w ⟨rfl, hS⟩) | ((with_reducible apply wl_alloc hS); (with_reducible rfl); rfl; (exact Ty.z39); clear hS; intro b8 w hS; (simp only [Act.put, fA, fB, fC, Nat.reduceAdd])) | ((with_reducible apply wl_stN hS); (with_reducible rfl); rfl; rfl; (focus ((conv => lhs; whnf); try rfl)); kernel_rfl; rfl; ((focus((repeat(first|exact Upd.head | apply Upd.tail)); done))); (simp only [List.length_cons, List.length_nil]; omega); ((simp only [List.set_cons_zero, List.set_cons_succ, setAll]); rfl); clear hS; intro w hS; try (simp only [Act.put, fA, fB, fC, Nat.reduceAdd])) | ((with_reducible apply wl_ldN hS); (with_reducible rfl); rfl; rfl; decide +kernel; (first | (focus((repeat(first|exact Cells.whole | apply Cells.there)); done)) | assumption); kernel_rfl; (simp only [Act.put, fA, fB, fC, Nat.reduceAdd])) | ((with_reducible apply wl_ld1 hS); (with_reducible rfl); rfl; rfl; decide +kernel; (first | (focus((repeat(first|exact Cell.here rfl | apply Cell.there)); done)) | assumption); (simp only [Act.put, fA, fB, fC, Nat.reduceAdd])) | ((with_reducible apply wl_st1 hS); (with_reducible rfl); rfl; rfl; (focus ((conv => lhs; whnf); try rfl)); kernel_rfl; rfl; rfl; ((focus((repeat(first|exact Upd.head | apply Upd.tail)); done))); (simp only [List.length_cons, List.length_nil]; omega); ((simp only [List.set_cons_zero, List.set_cons_succ, setAll]); rfl); clear hS; intro w hS; try (simp only [Act.put, fA, fB, fC, Nat.reduceAdd])))
      go_end0
      exact ⟨rfl, hS.sel (by (repeat' (first | (with_reducible first | exact Sel.done Suf.refl | exact Sel.done (Suf.tail Suf.refl) | exact Sel.done (Suf.tail (Suf.tail Suf.refl)) | exact Sel.done (Suf.tail (Suf.tail (Suf.tail Suf.refl))) | (apply Sel.done; (focus((repeat(first|exact Suf.refl | apply Suf.tail)); done)))) | (refine Sel.cons (by with_reducible (focus((repeat(first|exact .head|apply Take.tail));done))) ?_))))⟩
end
end Go.Proofs.YtbcokphjpllbiaaGreat
end
