/-
  The program's Writer: numbers, rows of bytes. For all of them.
  The program's Writer: names, all that it laid. For all of them.
-/
import Derived.Test.YtbcokphjpllbiaaGreatVaultPlaysM41
import Derived.Lib.SliceRun
section
set_option linter.unusedSimpArgs false
set_option linter.unusedVariables false
namespace Go.Proofs.YtbcokphjpllbiaaGreat
open Go.RowKit Go.Sl
/-- A Writer that has laid d. -/
def wrR (wb : Nat) (d : List Int) : HP := fun f => ∃ v : Value, sats [blk wb [v] 91, byR v d] f
section
variable {W w : World} {wb : Nat} {d : List Int} {R : List HP}
theorem wrOpen (h : St W (wrR wb d :: R) w) : ∃ a c, St W (blk wb [.slice a d.length c] 91 :: byR (.slice a d.length c) d :: R) w := by
  obtain ⟨v, h⟩ := St.ex h
  have hS := (St.split (St.split h).swap).swap.drop.swap
  obtain ⟨a, c, rfl⟩ := hS.drop.rowVal
  exact ⟨a, c, hS⟩
theorem wrShut {v : Value} (h : St W (blk wb [v] 91 :: byR v d :: R) w) : St W (wrR wb d :: R) w := by
  refine St.mkEx v ?_
  refine St.join ?_
  refine St.swap (St.imp h.swap ?_)
  intro f hf
  exact ⟨fun _ => true, hf, trivial⟩
end
def WnR (W : World) (L : List HP) (wb : Nat) (d : List Int) (ns : List Int) (v : Value) (w : World) : Prop :=
  ∃ i : Nat, v = .int .i64 i ∧ i ≤ ns.length ∧ St W (wrR wb (d ++ (ns.take i).flatMap numB) :: L) w
def WuR (W : World) (L : List HP) (wb : Nat) (t : List Int) (v : Value) (w : World) : Prop :=
  ∃ (f u : Nat) (d : List Int), v = .int .u64 u ∧ u < 128 ^ (f + 1) ∧ u ≤ 4611686018427387904 ∧ d.length ≤ 100000000 + (8 - f) ∧ f ≤ 8 ∧ d ++ encF f u = t ∧ St W (wrR wb d :: L) w
set_option maxRecDepth 100000 in
set_option maxHeartbeats 8000000 in
theorem nums_g (wb : Nat) (d : List Int) (ns : List Int) (g off c : Nat) (hd : d.length ≤ 90000000) (hl : ns.length ≤ 100) (hn : ∀ x ∈ ns, -9223372036854775808 ≤ x ∧ x ≤ 9223372036854775807) (W w : World) (R : List HP) (hcell : ∀ i, ∀ hi : i < ns.length, Cell R g (off + i) (.int .i64 ns[i])) (hS : St W (wrR wb d :: R) w) :
    Calls Tryz.prog 48 #[.pointer (some ⟨wb, 0, none⟩), .slice (some ⟨g, off, none⟩) ns.length c] w fun e w' => e = .returned (.tuple #[]) ∧ St W (wrR wb (d ++ ns.flatMap numB) :: R) w' := by
  have Hcell := Lib.hid hcell
  clear hcell
  have Hn := Lib.hid hn
  clear hn
  go_enter Tryz.func48, Tryz.ntmps48
  go_wp2_with (first | go_big_skip)
  go_loopw [11] (fun v wr => WnR W R wb d ns v wr) (fun v _ => ns.length - (intOf v).toNat)
  case atStart => exact ⟨0, rfl, Nat.zero_le _, by simpa using hS⟩
  case round =>
    clear hS
    obtain ⟨i, rfl, hil, hS⟩ := hrel
    by_cases hin : i = ns.length
    · subst hin
      rw [List.take_length] at hS
      go_wp2_with (first | go_big_skip)
      go_end0
      exact ⟨rfl, hS⟩
    · have hi1 : i < ns.length := by omega
      have hx := Hcell.out i hi1
      have hr := Hn.out _ (List.getElem_mem hi1)
      have hst : d ++ (ns.take (i + 1)).flatMap numB = d ++ (ns.take i).flatMap numB ++ numB ns[i] := by rw [List.take_succ_eq_append_getElem hi1, List.flatMap_append, List.append_assoc]; simp
      have hle := flat_le (ns.take i)
      rw [List.length_take] at hle
      generalize hdd : d ++ (ns.take i).flatMap numB = dd at hS hst
      have hdl : dd.length ≤ 90000900 := by rw [← hdd, List.length_append]; omega
      generalize ns[i] = x at hx hr hst
      obtain ⟨r1, r2⟩ := hr
      have Hst := Lib.hid hst
      clear hst hin hil hdd hle
      go_wp2_with (first | go_big_skip | ((with_reducible apply wl_ld1 hS); (with_reducible rfl); rfl; rfl; decide +kernel; (exact Cell.there hx); (simp only [Act.put, fA, fB, fC, Nat.reduceAdd])))
      have eu : max 0 (min x 4611686018427387904) = ((numU x : Nat) : Int) := by
        unfold numU
        repeat' split
        all_goals omega
      have hul := numU_le x
      have hnb : numB x = encF 8 (numU x) := rfl
      rw [hnb] at Hst
      have Eu := Lib.hid eu
      clear eu hnb
      generalize numU x = u0 at Eu hul Hst
      go_loopw [6] (fun v wr => WuR W R wb (dd ++ encF 8 u0) v wr) (fun v _ => (intOf v).toNat)
      case atStart => exact ⟨8, u0, dd, by rw [Eu.out], lt_pow9 hul, hul, by omega, by omega, rfl, hS⟩
      case round =>
        clear hS
        obtain ⟨f, u, d2, rfl, hu, hu2, hd2, hf, hE, hS⟩ := hrel
        obtain ⟨wa, wc, hS1⟩ := wrOpen hS
        clear hS
        have hS := hS1
        clear hS1
        by_cases h128 : 128 ≤ u
        · obtain ⟨f, rfl⟩ : ∃ f', f = f' + 1 := by
            cases f with
            | zero => simp at hu; omega
            | succ f => exact ⟨f, rfl⟩
          have hu3 : u / 128 < 128 ^ (f + 1) := Nat.div_lt_of_lt_mul (by rw [Nat.pow_succ] at hu; omega)
          rw [encF, if_pos h128] at hE
          have Hu3 := Lib.hid hu3
          have HE := Lib.hid hE
          clear hE hu hu3
          go_wp2_with (first | go_big_skip | ((with_reducible apply wl_ld1 hS); (with_reducible rfl); rfl; rfl; decide +kernel; (first | (focus((repeat(first|exact Cell.here rfl | apply Cell.there)); done)) | assumption); (simp only [Act.put, fA, fB, fC, Nat.reduceAdd])) | ((with_reducible apply wl_bs hS); (with_reducible rfl); rfl; (focus (simp only [fD, List.map_cons, List.map_nil, Act.eval, fE, fF, fG, fH, Option.getD_some]; try rfl)); (exact Ty.e30); (exact Ty.r5); rfl; rfl; rfl; rfl; clear hS; intro bS w hS; (simp only [Act.put, fA, fB, fC, Nat.reduceAdd])) | ((with_reducible apply wl_append hS); (with_reducible rfl); rfl; rfl; rfl; (exact Ty.e30); (exact Ty.r5); rfl; decide; ((focus((repeat(first|exact .head|apply Take.tail));done))); (exact Src.mk Cells.whole); (focus (try rfl)); rfl; (focus (unfold maxLen; omega)); (focus (omega)); clear hS; intro v w hS; (have hv := hS.rowVal; obtain ⟨va, vc, rfl⟩ := hv); (simp only [Act.put, fA, fB, fC, Nat.reduceAdd])) | ((with_reducible apply wl_st1 hS); (with_reducible rfl); rfl; rfl; (focus ((conv => lhs; whnf); try rfl)); kernel_rfl; rfl; rfl; ((focus((repeat(first|exact Upd.head | apply Upd.tail)); done))); (simp only [List.length_cons, List.length_nil]; omega); ((simp only [List.set_cons_zero, List.set_cons_succ, setAll]); rfl); clear hS; intro w hS; try (simp only [Act.put, fA, fB, fC, Nat.reduceAdd])))
          have hS1 := hS.sel (L' := row (.slice va (d2.length + 1) vc) 1 _ _ _ :: blk wb _ _ :: R) (by (repeat' (first | (with_reducible first | exact Sel.done Suf.refl | exact Sel.done (Suf.tail Suf.refl) | exact Sel.done (Suf.tail (Suf.tail Suf.refl)) | exact Sel.done (Suf.tail (Suf.tail (Suf.tail Suf.refl))) | (apply Sel.done; (focus((repeat(first|exact Suf.refl | apply Suf.tail)); done)))) | (refine Sel.cons (by with_reducible (focus((repeat(first|exact .head|apply Take.tail));done))) ?_))))
          have hb := byte_or u
          have h0 : St W (row (.slice va (d2.length + 1) vc) 1 5 (d2.length + 1) (u8s d2 ++ [Value.int .u8 (bits .or .u8 ((u : Int) % 256) 128)]) :: _) w := hS1
          rw [hb, ← u8s_push] at h0
          have h2 := wrShut (byR_of (by rw [List.length_append, List.length_singleton]) h0).swap
          go_roundw
          case rel => exact ⟨f, u / 128, d2 ++ [((u % 128 + 128 : Nat) : Int)], by rw [Int.natCast_ediv]; rfl, Hu3.out, by omega, by rw [List.length_append, List.length_singleton]; omega, by omega, by rw [List.append_assoc]; exact HE.out, h2⟩
          case measure => simp [intOf]; omega
        · have hu4 : u < 128 := by omega
          rw [encF_small hu4] at hE
          have HE := Lib.hid hE
          clear hE hu h128
          go_wp2_with (first | go_big_skip | ((with_reducible apply wl_ld1 hS); (with_reducible rfl); rfl; rfl; decide +kernel; (first | (focus((repeat(first|exact Cell.here rfl | apply Cell.there)); done)) | assumption); (simp only [Act.put, fA, fB, fC, Nat.reduceAdd])) | ((with_reducible apply wl_bs hS); (with_reducible rfl); rfl; (focus (simp only [fD, List.map_cons, List.map_nil, Act.eval, fE, fF, fG, fH, Option.getD_some]; try rfl)); (exact Ty.e30); (exact Ty.r5); rfl; rfl; rfl; rfl; clear hS; intro bS w hS; (simp only [Act.put, fA, fB, fC, Nat.reduceAdd])) | ((with_reducible apply wl_append hS); (with_reducible rfl); rfl; rfl; rfl; (exact Ty.e30); (exact Ty.r5); rfl; decide; ((focus((repeat(first|exact .head|apply Take.tail));done))); (exact Src.mk Cells.whole); (focus (try rfl)); rfl; (focus (unfold maxLen; omega)); (focus (omega)); clear hS; intro v w hS; (have hv := hS.rowVal; obtain ⟨va, vc, rfl⟩ := hv); (simp only [Act.put, fA, fB, fC, Nat.reduceAdd])) | ((with_reducible apply wl_st1 hS); (with_reducible rfl); rfl; rfl; (focus ((conv => lhs; whnf); try rfl)); kernel_rfl; rfl; rfl; ((focus((repeat(first|exact Upd.head | apply Upd.tail)); done))); (simp only [List.length_cons, List.length_nil]; omega); ((simp only [List.set_cons_zero, List.set_cons_succ, setAll]); rfl); clear hS; intro w hS; try (simp only [Act.put, fA, fB, fC, Nat.reduceAdd])))
          have hS1 := hS.sel (L' := row (.slice va (d2.length + 1) vc) 1 _ _ _ :: blk wb _ _ :: R) (by (repeat' (first | (with_reducible first | exact Sel.done Suf.refl | exact Sel.done (Suf.tail Suf.refl) | exact Sel.done (Suf.tail (Suf.tail Suf.refl)) | exact Sel.done (Suf.tail (Suf.tail (Suf.tail Suf.refl))) | (apply Sel.done; (focus((repeat(first|exact Suf.refl | apply Suf.tail)); done)))) | (refine Sel.cons (by with_reducible (focus((repeat(first|exact .head|apply Take.tail));done))) ?_))))
          have h0 : St W (row (.slice va (d2.length + 1) vc) 1 5 (d2.length + 1) (u8s d2 ++ [Value.int .u8 (u : Int)]) :: _) w := hS1
          rw [← u8s_push] at h0
          have h2 := wrShut (byR_of (by rw [List.length_append, List.length_singleton]) h0).swap
          rw [HE.out, ← Hst.out] at h2
          go_roundw
          case rel => exact ⟨i + 1, rfl, hi1, h2⟩
          case measure => simp [intOf]; omega
theorem nums_w (wb : Nat) (d : List Int) (ns : List Int) (b c : Nat) (hd : d.length ≤ 90000000) (hl : ns.length ≤ 100) (hn : ∀ x ∈ ns, -9223372036854775808 ≤ x ∧ x ≤ 9223372036854775807) (W w : World) (R : List HP) (hS : St W (wrR wb d :: blk b (ns.map (Value.int .i64)) 3 :: R) w) :
    Calls Tryz.prog 48 #[.pointer (some ⟨wb, 0, none⟩), .slice (some ⟨b, 0, none⟩) ns.length c] w fun e w' => e = .returned (.tuple #[]) ∧ St W (wrR wb (d ++ ns.flatMap numB) :: blk b (ns.map (Value.int .i64)) 3 :: R) w' :=
  nums_g wb d ns b 0 c hd hl hn W w _ (fun i hi => Cell.here (by rw [Nat.zero_add, List.getElem?_map, List.getElem?_eq_getElem hi]; rfl)) hS
end Go.Proofs.YtbcokphjpllbiaaGreat
end
section
set_option linter.unusedSimpArgs false
set_option linter.unusedVariables false
namespace Go.Sl
open Go.RowKit
section
variable {P : Program} {ops : Array Oper} {Q : Exit → Act → World → Prop} {a : Act} {w : World} {rest : List Oper} {o : Oper}
/-- A slice that is there is not nil. -/
theorem wl_eqSn {t t2 e : TypeId} {x y : Operand} {a0 : Addr} {n c : Nat} (ho : o.op = .binOp .eql t x y t2) (hg : Region.wanted o (yielded ops a.tmps) = true) (hx : a.eval x = .slice (some a0) n c) (hy : a.eval y = .slice none 0 0) (ht : P.underlying t = some (.slice e))
    (h : wpList P ops Q rest (a.put o.dst (.bool false)) w) : wpList P ops Q (o :: rest) a w := by
  refine wpList_run hg (v := .bool false) (w' := w) ?_ h
  have h1 : (binOp .eql t (.slice (some a0) n c) (.slice none 0 0)).run P w = .ok (.bool false) w := Lib.run_eql_slice_nil w t e (some a0) n c 0 0 ht
  unfold execOp
  simp [ho, hx, hy, eqGuard, h1]
end
end Go.Sl
namespace Go.Proofs.YtbcokphjpllbiaaGreat
open Go.RowKit Go.Sl
set_option maxRecDepth 100000 in
set_option maxHeartbeats 4000000 in
theorem raw_w (wb : Nat) (d : List Int) (s : ByteArray) (g c : Nat) (hd : d.length ≤ 90001000) (hs : s.size ≤ 1000000) (W w : World) (R : List HP) (hS : St W (wrR wb d :: sbR g s :: R) w) :
    Calls Tryz.prog 89 #[.pointer (some ⟨wb, 0, none⟩), .slice (some ⟨g, 0, none⟩) s.size c] w fun e w' => e = .returned (.tuple #[]) ∧ St W (wrR wb (d ++ strI s) :: sbR g s :: R) w' := by
  obtain ⟨wa, wc, hS1⟩ := wrOpen hS
  clear hS
  have hS := hS1
  clear hS1
  go_enter Tryz.func89, Tryz.ntmps89
  go_wp2_with (first | go_big_skip | ((with_reducible apply wl_ld1 hS); (with_reducible rfl); rfl; rfl; decide +kernel; (first | (focus((repeat(first|exact Cell.here rfl | apply Cell.there)); done)) | assumption); (simp only [Act.put, fA, fB, fC, Nat.reduceAdd])) | ((with_reducible apply wl_append hS); (with_reducible rfl); rfl; rfl; rfl; (exact Ty.e30); (exact Ty.r5); rfl; decide; ((focus((repeat(first|exact .head|apply Take.tail));done))); exact Src.mk (Cells.there (Cells.there Cells.sb)); (focus (rw [List.length_map, strI_len, Nat.mul_one])); (exact u8_one _); (focus (unfold maxLen; omega)); (focus (omega)); clear hS; intro v w hS; (have hv := hS.rowVal; obtain ⟨va, vc, rfl⟩ := hv); (simp only [Act.put, fA, fB, fC, Nat.reduceAdd])) | ((with_reducible apply wl_st1 hS); (with_reducible rfl); rfl; rfl; (focus ((conv => lhs; whnf); try rfl)); kernel_rfl; rfl; rfl; ((focus((repeat(first|exact Upd.head | apply Upd.tail)); done))); (simp only [List.length_cons, List.length_nil]; omega); ((simp only [List.set_cons_zero, List.set_cons_succ, setAll]); rfl); clear hS; intro w hS; try (simp only [Act.put, fA, fB, fC, Nat.reduceAdd])))
  go_end0
  have hS1 := hS.sel (L' := row (.slice va (d.length + s.size) vc) 1 _ _ _ :: blk wb _ _ :: sbR g s :: R) (by (repeat' (first | (with_reducible first | exact Sel.done Suf.refl | exact Sel.done (Suf.tail Suf.refl) | exact Sel.done (Suf.tail (Suf.tail Suf.refl)) | exact Sel.done (Suf.tail (Suf.tail (Suf.tail Suf.refl))) | (apply Sel.done; (focus((repeat(first|exact Suf.refl | apply Suf.tail)); done)))) | (refine Sel.cons (by with_reducible (focus((repeat(first|exact .head|apply Take.tail));done))) ?_))))
  have h0 : St W (row (.slice va (d.length + s.size) vc) 1 5 (d.length + s.size) (u8s d ++ u8s (strI s)) :: _) w := hS1
  rw [← u8s_app] at h0
  exact ⟨rfl, wrShut (byR_of (by rw [List.length_append, strI_len]) h0).swap⟩
def WbR (W : World) (F : List Int → List HP) (d : List Int) (s : ByteArray) (v : Value) (w : World) : Prop :=
  (v = .int .i64 0 ∧ St W (F d) w) ∨ (v = .int .i64 1 ∧ St W (F (d ++ strE s)) w)
set_option maxRecDepth 100000 in
set_option maxHeartbeats 4000000 in
theorem bytes_w (wb : Nat) (d : List Int) (s : ByteArray) (b g c c1 : Nat) (hd : d.length ≤ 90000000) (hs : s.size ≤ 1000000) (W w : World) (R : List HP) (hS : St W (wrR wb d :: blk b [.slice (some ⟨g, 0, none⟩) s.size c] 30 :: sbR g s :: R) w) :
    Calls Tryz.prog 49 #[.pointer (some ⟨wb, 0, none⟩), .slice (some ⟨b, 0, none⟩) 1 c1] w fun e w' => e = .returned (.tuple #[]) ∧ St W (wrR wb (d ++ strE s) :: blk b [.slice (some ⟨g, 0, none⟩) s.size c] 30 :: sbR g s :: R) w' := by
  have hln := numB_len s.size
  go_enter Tryz.func49, Tryz.ntmps49
  go_wp2_with (first | go_big_skip)
  go_loopw [8] (fun v wr => WbR W (fun q => wrR wb q :: blk b [.slice (some ⟨g, 0, none⟩) s.size c] 30 :: sbR g s :: R) d s v wr) (fun v _ => 1 - (intOf v).toNat)
  case atStart => exact .inl ⟨rfl, hS⟩
  case round =>
    clear hS
    rcases hrel with ⟨rfl, hS⟩ | ⟨rfl, hS⟩
    · have hn : ∀ x ∈ [(s.size : Int)], -9223372036854775808 ≤ x ∧ x ≤ 9223372036854775807 := by
        intro x hx
        rw [List.mem_singleton.1 hx]
        exact ⟨by omega, by omega⟩
      have Hn := Lib.hid hn
      clear hn
      have hdl : (d ++ [(s.size : Int)].flatMap numB).length ≤ 90001000 := by rw [List.length_append]; simp; omega
      have e : d ++ [(s.size : Int)].flatMap numB ++ strI s = d ++ strE s := by unfold strE; rw [List.append_assoc]; simp
      have Hdl := Lib.hid hdl
      have E := Lib.hid e
      clear hdl e
      go_wp2_with (first | go_big_skip | ((with_reducible apply wl_ld1 hS); (with_reducible rfl); rfl; rfl; decide +kernel; (first | (focus((repeat(first|exact Cell.here rfl | apply Cell.there)); done)) | assumption); (simp only [Act.put, fA, fB, fC, Nat.reduceAdd])) | ((with_reducible apply wl_bs hS); (with_reducible rfl); rfl; (focus (simp only [fD, List.map_cons, List.map_nil, Act.eval, fE, fF, fG, fH, Option.getD_some]; try rfl)); (exact Ty.e96); (exact Ty.r3); rfl; rfl; rfl; rfl; clear hS; intro bS w hS; (simp only [Act.put, fA, fB, fC, Nat.reduceAdd])) | (go_at_call 48; refine (nums_w wb d [(s.size : Int)] bS 1 hd (by simp) Hn.out W _ _ (hS.sel (L' := wrR wb d :: blk bS _ _ :: blk b _ _ :: sbR g s :: R) (by (repeat' (first | (with_reducible first | exact Sel.done Suf.refl | exact Sel.done (Suf.tail Suf.refl) | exact Sel.done (Suf.tail (Suf.tail Suf.refl)) | exact Sel.done (Suf.tail (Suf.tail (Suf.tail Suf.refl))) | (apply Sel.done; (focus((repeat(first|exact Suf.refl | apply Suf.tail)); done)))) | (refine Sel.cons (by with_reducible (focus((repeat(first|exact .head|apply Take.tail));done))) ?_)))))).mono ?_; clear hS; rintro e w ⟨rfl, hS⟩) | (go_at_call 89; refine (raw_w wb _ s g c Hdl.out hs W _ _ (hS.sel (L' := wrR wb _ :: sbR g s :: blk b _ _ :: R) (by (repeat' (first | (with_reducible first | exact Sel.done Suf.refl | exact Sel.done (Suf.tail Suf.refl) | exact Sel.done (Suf.tail (Suf.tail Suf.refl)) | exact Sel.done (Suf.tail (Suf.tail (Suf.tail Suf.refl))) | (apply Sel.done; (focus((repeat(first|exact Suf.refl | apply Suf.tail)); done)))) | (refine Sel.cons (by with_reducible (focus((repeat(first|exact .head|apply Take.tail));done))) ?_)))))).mono ?_; clear hS; rw [E.out]; rintro e w ⟨rfl, hS⟩))
      go_roundw
      case rel => exact .inr ⟨rfl, hS.sel (by (repeat' (first | (with_reducible first | exact Sel.done Suf.refl | exact Sel.done (Suf.tail Suf.refl) | exact Sel.done (Suf.tail (Suf.tail Suf.refl)) | exact Sel.done (Suf.tail (Suf.tail (Suf.tail Suf.refl))) | (apply Sel.done; (focus((repeat(first|exact Suf.refl | apply Suf.tail)); done)))) | (refine Sel.cons (by with_reducible (focus((repeat(first|exact .head|apply Take.tail));done))) ?_))))⟩
      case measure => simp [intOf]
    · go_wp2_with (first | go_big_skip)
      go_end0
      exact ⟨rfl, hS⟩
set_option maxRecDepth 100000 in
theorem clone_w (d : List Int) (g c : Nat) (hd : d.length ≤ 100000000) (W w : World) (R : List HP) (hS : St W (byR (.slice (some ⟨g, 0, none⟩) d.length c) d :: R) w) :
    Calls Tryz.prog 79 #[.slice (some ⟨g, 0, none⟩) d.length c] w fun e w' => ∃ v, e = .returned v ∧ St W (byR v d :: byR (.slice (some ⟨g, 0, none⟩) d.length c) d :: R) w' := by
  go_enter Tryz.func79, Tryz.ntmps79
  go_wp2_with (first | go_big_skip | ((with_reducible apply wl_eqSn); (with_reducible rfl); rfl; rfl; rfl; exact Tryz.underlying30; (simp only [Act.put, fA, fB, fC, Nat.reduceAdd])) | ((with_reducible apply wl_bsR (n := 0) hS); (with_reducible rfl); rfl; (focus (simp only [fD, List.map_cons, List.map_nil, Act.eval, fE, fF, fG, fH, Option.getD_some]; try rfl)); (exact Ty.e30); (exact Ty.r5); rfl; rfl; rfl; rfl; rfl; decide; clear hS; intro bv w hS; (simp only [Act.put, fA, fB, fC, Nat.reduceAdd])) | ((with_reducible apply wl_append hS); (with_reducible rfl); rfl; rfl; rfl; (exact Ty.e30); (exact Ty.r5); rfl; decide; ((focus((repeat(first|exact .head|apply Take.tail));done))); exact (St.src (by decide) hS.drop).there; (focus (rw [u8s_len, Nat.mul_one])); (exact u8_one _); (focus (unfold maxLen; omega)); (focus (omega)); clear hS; intro v w hS; (have hv := hS.rowVal; obtain ⟨va, vc, rfl⟩ := hv); (simp only [Act.put, fA, fB, fC, Nat.reduceAdd])))
  go_ret
  refine ⟨_, rfl, ?_⟩
  have h0 : St W (row (.slice va (0 + d.length) vc) 1 5 (0 + d.length) (u8s ([] ++ d)) :: _) w := hS
  have h2 := byR_of (by rw [List.nil_append, Nat.zero_add]) h0
  rw [List.nil_append] at h2
  exact h2
set_option maxRecDepth 100000 in
theorem out_w (wb : Nat) (d : List Int) (hd : d.length ≤ 100000000) (h0 : 0 < d.length) (W w : World) (R : List HP) (hS : St W (wrR wb d :: R) w) :
    Calls Tryz.prog 50 #[.pointer (some ⟨wb, 0, none⟩)] w fun e w' => ∃ v, e = .returned v ∧ St W (byR v d :: wrR wb d :: R) w' := by
  obtain ⟨wa, wc, hS1⟩ := wrOpen hS
  clear hS
  have hS := hS1
  clear hS1
  obtain ⟨⟨g, rfl⟩, hcap, hcn⟩ := St.rowAddr hS.drop (by omega)
  go_enter Tryz.func50, Tryz.ntmps50
  go_wp2_with (first | go_big_skip | ((with_reducible apply wl_ld1 hS); (with_reducible rfl); rfl; rfl; decide +kernel; (first | (focus((repeat(first|exact Cell.here rfl | apply Cell.there)); done)) | assumption); (simp only [Act.put, fA, fB, fC, Nat.reduceAdd])) | (go_at_call 79; refine (clone_w d g wc hd W _ _ hS.swap).mono ?_; clear hS; rintro e w ⟨v, rfl, hS⟩))
  go_ret
  have hS1 := hS.sel (L' := blk wb _ _ :: byR (.slice (some ⟨g, 0, none⟩) d.length wc) d :: byR v d :: R) (by (repeat' (first | (with_reducible first | exact Sel.done Suf.refl | exact Sel.done (Suf.tail Suf.refl) | exact Sel.done (Suf.tail (Suf.tail Suf.refl)) | exact Sel.done (Suf.tail (Suf.tail (Suf.tail Suf.refl))) | (apply Sel.done; (focus((repeat(first|exact Suf.refl | apply Suf.tail)); done)))) | (refine Sel.cons (by with_reducible (focus((repeat(first|exact .head|apply Take.tail));done))) ?_))))
  exact ⟨v, rfl, (wrShut hS1).swap⟩
end Go.Proofs.YtbcokphjpllbiaaGreat
end
