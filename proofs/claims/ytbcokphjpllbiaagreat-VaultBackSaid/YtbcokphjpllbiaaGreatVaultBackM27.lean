/-
  The program's Writer: numbers, rows of bytes. For all of them.
  The program's Writer: names, all that it laid. For all of them.
  The program's vault as bytes. For every vault.
  The vault's Total in all cases. For every vault.
-/
import Derived.Test.YtbcokphjpllbiaaGreatVaultBackM5
import Derived.Test.YtbcokphjpllbiaaGreatVaultBackM26
import Derived.Lib.SliceRun
section
set_option linter.unusedSimpArgs false
set_option linter.unusedVariables false
namespace Go.Proofs.YtbcokphjpllbiaaGreat
open Go.RowKit Go.Sl
/-- A Writer that has laid d. -/
def wrR (wb : Nat) (d : List Int) : HP := fun f => ∃ v : Value, sats [blk wb [v] 91, byR v d] f
section
variable {W w : World} {wb : Nat} {d : List Int} {R : List HP}
theorem wrOpen (h : St W (wrR wb d :: R) w) : ∃ a c, St W (blk wb [.slice a d.length c] 91 :: byR (.slice a d.length c) d :: R) w := by
  obtain ⟨v, h⟩ := St.ex h
  have hS := (St.split (St.split h).swap).swap.drop.swap
  obtain ⟨a, c, rfl⟩ := hS.drop.rowVal
  exact ⟨a, c, hS⟩
theorem wrShut {v : Value} (h : St W (blk wb [v] 91 :: byR v d :: R) w) : St W (wrR wb d :: R) w := by
  refine St.mkEx v ?_
  refine St.join ?_
  refine St.swap (St.imp h.swap ?_)
  intro f hf
  exact ⟨fun _ => true, hf, trivial⟩
end
def WnR (W : World) (L : List HP) (wb : Nat) (d : List Int) (ns : List Int) (v : Value) (w : World) : Prop :=
  ∃ i : Nat, v = .int .i64 i ∧ i ≤ ns.length ∧ St W (wrR wb (d ++ (ns.take i).flatMap numB) :: L) w
def WuR (W : World) (L : List HP) (wb : Nat) (t : List Int) (v : Value) (w : World) : Prop :=
  ∃ (f u : Nat) (d : List Int), v = .int .u64 u ∧ u < 128 ^ (f + 1) ∧ u ≤ 4611686018427387904 ∧ d.length ≤ 100000000 + (8 - f) ∧ f ≤ 8 ∧ d ++ encF f u = t ∧ St W (wrR wb d :: L) w
set_option maxRecDepth 100000 in
set_option maxHeartbeats 8000000 in
theorem nums_g (wb : Nat) (d : List Int) (ns : List Int) (g off c : Nat) (hd : d.length ≤ 90000000) (hl : ns.length ≤ 100) (hn : ∀ x ∈ ns, -9223372036854775808 ≤ x ∧ x ≤ 9223372036854775807) (W w : World) (R : List HP) (hcell : ∀ i, ∀ hi : i < ns.length, Cell R g (off + i) (.int .i64 ns[i])) (hS : St W (wrR wb d :: R) w) :
    Calls Tryz.prog 48 #[.pointer (some ⟨wb, 0, none⟩), .slice (some ⟨g, off, none⟩) ns.length c] w fun e w' => e = .returned (.tuple #[]) ∧ St W (wrR wb (d ++ ns.flatMap numB) :: R) w' := by
  have Hcell := Lib.hid hcell
  clear hcell
  have Hn := Lib.hid hn
  clear hn
  go_enter Tryz.func48, Tryz.ntmps48
  go_wp2_with (first | go_big_skip)
  go_loopw [11] (fun v wr => WnR W R wb d ns v wr) (fun v _ => ns.length - (intOf v).toNat)
  case atStart => exact ⟨0, rfl, Nat.zero_le _, by simpa using hS⟩
  case round =>
    clear hS
    obtain ⟨i, rfl, hil, hS⟩ := hrel
    by_cases hin : i = ns.length
    · subst hin
      rw [List.take_length] at hS
      go_wp2_with (first | go_big_skip)
      go_end0
      exact ⟨rfl, hS⟩
    · have hi1 : i < ns.length := by omega
      have hx := Hcell.out i hi1
      have hr := Hn.out _ (List.getElem_mem hi1)
      have hst : d ++ (ns.take (i + 1)).flatMap numB = d ++ (ns.take i).flatMap numB ++ numB ns[i] := by rw [List.take_succ_eq_append_getElem hi1, List.flatMap_append, List.append_assoc]; simp
      have hle := flat_le (ns.take i)
      rw [List.length_take] at hle
      generalize hdd : d ++ (ns.take i).flatMap numB = dd at hS hst
      have hdl : dd.length ≤ 90000900 := by rw [← hdd, List.length_append]; omega
      generalize ns[i] = x at hx hr hst
      obtain ⟨r1, r2⟩ := hr
      have Hst := Lib.hid hst
      clear hst hin hil hdd hle
      go_wp2_with (first | go_big_skip | (refine zl1 hS ?_ (hc := by exact Cell.there hx)))
      have eu : max 0 (min x 4611686018427387904) = ((numU x : Nat) : Int) := by
        unfold numU
        repeat' split
        all_goals omega
      have hul := numU_le x
      have hnb : numB x = encF 8 (numU x) := rfl
      rw [hnb] at Hst
      have Eu := Lib.hid eu
      clear eu hnb
      generalize numU x = u0 at Eu hul Hst
      go_loopw [6] (fun v wr => WuR W R wb (dd ++ encF 8 u0) v wr) (fun v _ => (intOf v).toNat)
      case atStart => exact ⟨8, u0, dd, by rw [Eu.out], lt_pow9 hul, hul, by omega, by omega, rfl, hS⟩
      case round =>
        clear hS
        obtain ⟨f, u, d2, rfl, hu, hu2, hd2, hf, hE, hS⟩ := hrel
        obtain ⟨wa, wc, hS1⟩ := wrOpen hS
        clear hS
        have hS := hS1
        clear hS1
        by_cases h128 : 128 ≤ u
        · obtain ⟨f, rfl⟩ : ∃ f', f = f' + 1 := by
            cases f with
            | zero => simp at hu; omega
            | succ f => exact ⟨f, rfl⟩
          have hu3 : u / 128 < 128 ^ (f + 1) := Nat.div_lt_of_lt_mul (by rw [Nat.pow_succ] at hu; omega)
          rw [encF, if_pos h128] at hE
          have Hu3 := Lib.hid hu3
          have HE := Lib.hid hE
          clear hE hu hu3
          go_wp2_with (first | go_big_skip | (refine zl1 hS ?_) | (refine zbs hS ?_; clear hS; intro bS w hS) | ((with_reducible apply wl_append hS); (with_reducible rfl); rfl; rfl; rfl; (exact esS); (exact rsS); rfl; decide; (exact takeS); (exact Src.mk Cells.whole); (focus (try rfl)); rfl; (focus (unfold maxLen; omega)); (focus (omega)); clear hS; intro v w hS; (have hv := hS.rowVal; obtain ⟨va, vc, rfl⟩ := hv); (refine frS ?_)) | (refine zs1 hS ?_; clear hS; intro w hS))
          have hS1 := hS.sel (L' := row (.slice va (d2.length + 1) vc) 1 _ _ _ :: blk wb _ _ :: R) (by exact selS)
          have hb := byte_or u
          have h0 : St W (row (.slice va (d2.length + 1) vc) 1 5 (d2.length + 1) (u8s d2 ++ [Value.int .u8 (bits .or .u8 ((u : Int) % 256) 128)]) :: _) w := hS1
          rw [hb, ← u8s_push] at h0
          have h2 := wrShut (byR_of (by rw [List.length_append, List.length_singleton]) h0).swap
          go_roundw
          case rel => exact ⟨f, u / 128, d2 ++ [((u % 128 + 128 : Nat) : Int)], by rw [Int.natCast_ediv]; rfl, Hu3.out, by omega, by rw [List.length_append, List.length_singleton]; omega, by omega, by rw [List.append_assoc]; exact HE.out, h2⟩
          case measure => simp [intOf]; omega
        · have hu4 : u < 128 := by omega
          rw [encF_small hu4] at hE
          have HE := Lib.hid hE
          clear hE hu h128
          go_wp2_with (first | go_big_skip | (refine zl1 hS ?_) | (refine zbs hS ?_; clear hS; intro bS w hS) | ((with_reducible apply wl_append hS); (with_reducible rfl); rfl; rfl; rfl; (exact esS); (exact rsS); rfl; decide; (exact takeS); (exact Src.mk Cells.whole); (focus (try rfl)); rfl; (focus (unfold maxLen; omega)); (focus (omega)); clear hS; intro v w hS; (have hv := hS.rowVal; obtain ⟨va, vc, rfl⟩ := hv); (refine frS ?_)) | (refine zs1 hS ?_; clear hS; intro w hS))
          have hS1 := hS.sel (L' := row (.slice va (d2.length + 1) vc) 1 _ _ _ :: blk wb _ _ :: R) (by exact selS)
          have h0 : St W (row (.slice va (d2.length + 1) vc) 1 5 (d2.length + 1) (u8s d2 ++ [Value.int .u8 (u : Int)]) :: _) w := hS1
          rw [← u8s_push] at h0
          have h2 := wrShut (byR_of (by rw [List.length_append, List.length_singleton]) h0).swap
          rw [HE.out, ← Hst.out] at h2
          go_roundw
          case rel => exact ⟨i + 1, rfl, hi1, h2⟩
          case measure => simp [intOf]; omega
theorem nums_w (wb : Nat) (d : List Int) (ns : List Int) (b c : Nat) (hd : d.length ≤ 90000000) (hl : ns.length ≤ 100) (hn : ∀ x ∈ ns, -9223372036854775808 ≤ x ∧ x ≤ 9223372036854775807) (W w : World) (R : List HP) (hS : St W (wrR wb d :: blk b (ns.map (Value.int .i64)) 3 :: R) w) :
    Calls Tryz.prog 48 #[.pointer (some ⟨wb, 0, none⟩), .slice (some ⟨b, 0, none⟩) ns.length c] w fun e w' => e = .returned (.tuple #[]) ∧ St W (wrR wb (d ++ ns.flatMap numB) :: blk b (ns.map (Value.int .i64)) 3 :: R) w' :=
  nums_g wb d ns b 0 c hd hl hn W w _ (fun i hi => Cell.here (by rw [Nat.zero_add, List.getElem?_map, List.getElem?_eq_getElem hi]; rfl)) hS
end Go.Proofs.YtbcokphjpllbiaaGreat
end
section
set_option linter.unusedSimpArgs false
set_option linter.unusedVariables false
namespace Go.Sl
open Go.RowKit
section
variable {P : Program} {ops : Array Oper} {Q : Exit → Act → World → Prop} {a : Act} {w : World} {rest : List Oper} {o : Oper}
/-- A slice that is there is not nil. -/
theorem wl_eqSn {t t2 e : TypeId} {x y : Operand} {a0 : Addr} {n c : Nat} (ho : o.op = .binOp .eql t x y t2) (hg : Region.wanted o (yielded ops a.tmps) = true) (hx : a.eval x = .slice (some a0) n c) (hy : a.eval y = .slice none 0 0) (ht : P.underlying t = some (.slice e))
    (h : wpList P ops Q rest (a.put o.dst (.bool false)) w) : wpList P ops Q (o :: rest) a w := by
  refine wpList_run hg (v := .bool false) (w' := w) ?_ h
  have h1 : (binOp .eql t (.slice (some a0) n c) (.slice none 0 0)).run P w = .ok (.bool false) w := Lib.run_eql_slice_nil w t e (some a0) n c 0 0 ht
  unfold execOp
  simp [ho, hx, hy, eqGuard, h1]
end
end Go.Sl
namespace Go.Proofs.YtbcokphjpllbiaaGreat
open Go.RowKit Go.Sl
set_option maxRecDepth 100000 in
set_option maxHeartbeats 4000000 in
theorem raw_w (wb : Nat) (d : List Int) (s : ByteArray) (g c : Nat) (hd : d.length ≤ 90001000) (hs : s.size ≤ 1000000) (W w : World) (R : List HP) (hS : St W (wrR wb d :: sbR g s :: R) w) :
    Calls Tryz.prog 89 #[.pointer (some ⟨wb, 0, none⟩), .slice (some ⟨g, 0, none⟩) s.size c] w fun e w' => e = .returned (.tuple #[]) ∧ St W (wrR wb (d ++ strI s) :: sbR g s :: R) w' := by
  obtain ⟨wa, wc, hS1⟩ := wrOpen hS
  clear hS
  have hS := hS1
  clear hS1
  go_enter Tryz.func89, Tryz.ntmps89
  go_wp2_with (first | go_big_skip | (refine zl1 hS ?_) | ((with_reducible apply wl_append hS); (with_reducible rfl); rfl; rfl; rfl; (exact esS); (exact rsS); rfl; decide; (exact takeS); exact Src.mk (Cells.there (Cells.there Cells.sb)); (focus (rw [List.length_map, strI_len, Nat.mul_one])); (exact u8_one _); (focus (unfold maxLen; omega)); (focus (omega)); clear hS; intro v w hS; (have hv := hS.rowVal; obtain ⟨va, vc, rfl⟩ := hv); (refine frS ?_)) | (refine zs1 hS ?_; clear hS; intro w hS))
  go_end0
  have hS1 := hS.sel (L' := row (.slice va (d.length + s.size) vc) 1 _ _ _ :: blk wb _ _ :: sbR g s :: R) (by exact selS)
  have h0 : St W (row (.slice va (d.length + s.size) vc) 1 5 (d.length + s.size) (u8s d ++ u8s (strI s)) :: _) w := hS1
  rw [← u8s_app] at h0
  exact ⟨rfl, wrShut (byR_of (by rw [List.length_append, strI_len]) h0).swap⟩
def WbR (W : World) (F : List Int → List HP) (d : List Int) (s : ByteArray) (v : Value) (w : World) : Prop :=
  (v = .int .i64 0 ∧ St W (F d) w) ∨ (v = .int .i64 1 ∧ St W (F (d ++ strE s)) w)
set_option maxRecDepth 100000 in
set_option maxHeartbeats 4000000 in
theorem bytes_w (wb : Nat) (d : List Int) (s : ByteArray) (b g c c1 : Nat) (hd : d.length ≤ 90000000) (hs : s.size ≤ 1000000) (W w : World) (R : List HP) (hS : St W (wrR wb d :: blk b [.slice (some ⟨g, 0, none⟩) s.size c] 30 :: sbR g s :: R) w) :
    Calls Tryz.prog 49 #[.pointer (some ⟨wb, 0, none⟩), .slice (some ⟨b, 0, none⟩) 1 c1] w fun e w' => e = .returned (.tuple #[]) ∧ St W (wrR wb (d ++ strE s) :: blk b [.slice (some ⟨g, 0, none⟩) s.size c] 30 :: sbR g s :: R) w' := by
  have hln := numB_len s.size
  go_enter Tryz.func49, Tryz.ntmps49
  go_wp2_with (first | go_big_skip)
  go_loopw [8] (fun v wr => WbR W (fun q => wrR wb q :: blk b [.slice (some ⟨g, 0, none⟩) s.size c] 30 :: sbR g s :: R) d s v wr) (fun v _ => 1 - (intOf v).toNat)
  case atStart => exact .inl ⟨rfl, hS⟩
  case round =>
    clear hS
    rcases hrel with ⟨rfl, hS⟩ | ⟨rfl, hS⟩
    · have hn : ∀ x ∈ [(s.size : Int)], -9223372036854775808 ≤ x ∧ x ≤ 9223372036854775807 := by
        intro x hx
        rw [List.mem_singleton.1 hx]
        exact ⟨by omega, by omega⟩
      have Hn := Lib.hid hn
      clear hn
      have hdl : (d ++ [(s.size : Int)].flatMap numB).length ≤ 90001000 := by rw [List.length_append]; simp; omega
      have e : d ++ [(s.size : Int)].flatMap numB ++ strI s = d ++ strE s := by unfold strE; rw [List.append_assoc]; simp
      have Hdl := Lib.hid hdl
      have E := Lib.hid e
      clear hdl e
      go_wp2_with (first | go_big_skip | (refine zl1 hS ?_) | (refine zbs hS ?_; clear hS; intro bS w hS) | (go_at_call 48; refine (nums_w wb d [(s.size : Int)] bS 1 hd (by simp) Hn.out W _ _ (hS.sel (L' := wrR wb d :: blk bS _ _ :: blk b _ _ :: sbR g s :: R) (by exact selS))).mono ?_; clear hS; rintro e w ⟨rfl, hS⟩) | (go_at_call 89; refine (raw_w wb _ s g c Hdl.out hs W _ _ (hS.sel (L' := wrR wb _ :: sbR g s :: blk b _ _ :: R) (by exact selS))).mono ?_; clear hS; rw [E.out]; rintro e w ⟨rfl, hS⟩))
      go_roundw
      case rel => exact .inr ⟨rfl, hS.sel (by exact selS)⟩
      case measure => simp [intOf]
    · go_wp2_with (first | go_big_skip)
      go_end0
      exact ⟨rfl, hS⟩
set_option maxRecDepth 100000 in
theorem clone_w (d : List Int) (g c : Nat) (hd : d.length ≤ 100000000) (W w : World) (R : List HP) (hS : St W (byR (.slice (some ⟨g, 0, none⟩) d.length c) d :: R) w) :
    Calls Tryz.prog 79 #[.slice (some ⟨g, 0, none⟩) d.length c] w fun e w' => ∃ v, e = .returned v ∧ St W (byR v d :: byR (.slice (some ⟨g, 0, none⟩) d.length c) d :: R) w' := by
  go_enter Tryz.func79, Tryz.ntmps79
  go_wp2_with (first | go_big_skip | ((with_reducible apply wl_eqSn); (with_reducible rfl); rfl; rfl; rfl; exact Tryz.underlying30; (refine frS ?_)) | ((with_reducible apply wl_bsR (n := 0) hS); (with_reducible rfl); rfl; (focus (simp only [fD, List.map_cons, List.map_nil, Act.eval, fE, fF, fG, fH, Option.getD_some]; try rfl)); (exact esS); (exact rsS); rfl; rfl; rfl; rfl; rfl; decide; clear hS; intro bv w hS; (refine frS ?_)) | ((with_reducible apply wl_append hS); (with_reducible rfl); rfl; rfl; rfl; (exact esS); (exact rsS); rfl; decide; (exact takeS); exact (St.src (by decide) hS.drop).there; (focus (rw [u8s_len, Nat.mul_one])); (exact u8_one _); (focus (unfold maxLen; omega)); (focus (omega)); clear hS; intro v w hS; (have hv := hS.rowVal; obtain ⟨va, vc, rfl⟩ := hv); (refine frS ?_)))
  go_ret
  refine ⟨_, rfl, ?_⟩
  have h0 : St W (row (.slice va (0 + d.length) vc) 1 5 (0 + d.length) (u8s ([] ++ d)) :: _) w := hS
  have h2 := byR_of (by rw [List.nil_append, Nat.zero_add]) h0
  rw [List.nil_append] at h2
  exact h2
set_option maxRecDepth 100000 in
theorem out_w (wb : Nat) (d : List Int) (hd : d.length ≤ 100000000) (h0 : 0 < d.length) (W w : World) (R : List HP) (hS : St W (wrR wb d :: R) w) :
    Calls Tryz.prog 50 #[.pointer (some ⟨wb, 0, none⟩)] w fun e w' => ∃ v, e = .returned v ∧ St W (byR v d :: wrR wb d :: R) w' := by
  obtain ⟨wa, wc, hS1⟩ := wrOpen hS
  clear hS
  have hS := hS1
  clear hS1
  obtain ⟨⟨g, rfl⟩, hcap, hcn⟩ := St.rowAddr hS.drop (by omega)
  go_enter Tryz.func50, Tryz.ntmps50
  go_wp2_with (first | go_big_skip | (refine zl1 hS ?_) | (go_at_call 79; refine (clone_w d g wc hd W _ _ hS.swap).mono ?_; clear hS; rintro e w ⟨v, rfl, hS⟩))
  go_ret
  have hS1 := hS.sel (L' := blk wb _ _ :: byR (.slice (some ⟨g, 0, none⟩) d.length wc) d :: byR v d :: R) (by exact selS)
  exact ⟨v, rfl, (wrShut hS1).swap⟩
end Go.Proofs.YtbcokphjpllbiaaGreat
end
section
set_option linter.unusedSimpArgs false
set_option linter.unusedVariables false
namespace Go.Proofs.YtbcokphjpllbiaaGreat
open Go.RowKit Go.Sl
theorem wrNew {W w : World} {wb : Nat} {L : List HP} (h : St W (blk wb [.slice none 0 0] 91 :: L) w) : St W (wrR wb [] :: L) w := by
  have h1 := (h.rowNil (k := 1) (T := 5)).swap
  exact wrShut (d := []) h1
theorem numB_pos (n : Int) : 0 < (numB n).length := by
  unfold numB
  rw [show (8 : Nat) = 7 + 1 from rfl, encF]
  split <;> simp
theorem nums1E (wb : Nat) (d : List Int) (x : Int) (b c : Nat) (hd : d.length ≤ 90000000) (hx : -9223372036854775808 ≤ x ∧ x ≤ 9223372036854775807) (W w : World) (R : List HP) (hS : St W (wrR wb d :: blk b [.int .i64 x] 3 :: R) w) :
    Calls Tryz.prog 48 #[.pointer (some ⟨wb, 0, none⟩), .slice (some ⟨b, 0, none⟩) 1 c] w fun e w' => e = .returned (.tuple #[]) ∧ St W (wrR wb (d ++ numB x) :: blk b [.int .i64 x] 3 :: R) w' := by
  have h := nums_w wb d [x] b c hd (by simp) (fun y hy => by rw [List.mem_singleton.1 hy]; exact hx) W w R hS
  simpa using h
theorem nums4E (wb : Nat) (d : List Int) (x0 x1 x2 x3 : Int) (g off c : Nat) (hd : d.length ≤ 90000000) (hn : ∀ x ∈ [x0, x1, x2, x3], -9223372036854775808 ≤ x ∧ x ≤ 9223372036854775807) (W w : World) (R : List HP) (hc0 : Cell R g off (.int .i64 x0)) (hc1 : Cell R g (off + 1) (.int .i64 x1)) (hc2 : Cell R g (off + 2) (.int .i64 x2)) (hc3 : Cell R g (off + 3) (.int .i64 x3)) (hS : St W (wrR wb d :: R) w) :
    Calls Tryz.prog 48 #[.pointer (some ⟨wb, 0, none⟩), .slice (some ⟨g, off, none⟩) 4 c] w fun e w' => e = .returned (.tuple #[]) ∧ St W (wrR wb (d ++ numsB [x0, x1, x2, x3]) :: R) w' :=
  nums_g wb d [x0, x1, x2, x3] g off c hd (by simp) hn W w R (fun i hi => by
    have hi4 : i = 0 ∨ i = 1 ∨ i = 2 ∨ i = 3 := by simp at hi; omega
    rcases hi4 with rfl | rfl | rfl | rfl
    · exact hc0
    · exact hc1
    · exact hc2
    · exact hc3) hS
def CwR {α : Type} (W : World) (F : List HP) (wb : Nat) (f : α → List Int) (base : List Int) (xs : List α) (v : Value) (w : World) : Prop :=
  ∃ k : Nat, v = .int .i64 k ∧ k ≤ xs.length ∧ St W (wrR wb (base ++ (xs.take k).flatMap f) :: F) w
set_option maxRecDepth 100000 in
set_option maxHeartbeats 8000000 in
theorem encodeV (vb mb bb : Nat) (p : Ps) (L : List Ord) (n : Int) {N : Nat} (hp : PsOk p) (hw : PsW p N) (hN : N ≤ 1000000) (hn0 : 1 ≤ n) (hn1 : n ≤ 1099511627777) (W w : World) (R : List HP) (hS : St W (vaultL vb mb bb p L n R) w) :
    Calls Tryz.prog 12 #[.pointer (some ⟨vb, 0, none⟩)] w fun e w' => ∃ v, e = .returned v ∧ St W (byR v (encV p L n) :: vaultL vb mb bb p L n R) w' := by
  have hlh : (hdL p).length ≤ 1000000 := by rw [hdL_len]; exact Nat.le_trans hw.len hN
  have hl32 := bookL_len hS.drop.drop
  have hmay : ∀ x ∈ L, MayP x := fun x hx => (bookL_each hS.drop.drop x hx).1
  have hhw : ∀ x ∈ hdL p, x.who.size ≤ 16 ∧ isIt x.has = true := fun x hx => by
    refine ⟨?_, by rw [hdL_has hx]; exact hp _⟩
    have hk : x.who ∈ (hdL p).map Hd.who := List.mem_map_of_mem hx
    rw [hdL_who] at hk
    obtain ⟨y, hy, e⟩ := kL_mem hk
    rw [← e]
    exact whoB_le (hw.who y hy)
  have hN2 : N ≤ 1000000000 := by omega
  have Hmay := Lib.hid hmay
  have Hhw := Lib.hid hhw
  have Hw := Lib.hid hw
  clear hmay hw hp hhw
  unfold encV
  go_enter Tryz.func12, Tryz.ntmps12
  go_wp2_with (first | go_big_skip | (go_at_call 25; refine (listV_spec vb mb bb p L n Hw.out hN2 W _ _ hS).mono ?_; clear hS; rintro e w ⟨sa, sc, oa, oc, rfl, hS⟩) | ((fail_if_success (have := wb)); (with_reducible apply wl_alloc hS); (with_reducible rfl); rfl; (exact zsS); clear hS; intro wb w hS; (refine frS ?_)) | (refine zbs hS ?_; clear hS; intro bS w hS) | (go_at_call 48; refine (nums1E wb [] ((hdL p).length : Int) bS 1 (by simp) ⟨by omega, by omega⟩ W _ _ (wrNew (hS.sel (L' := blk wb _ _ :: blk bS _ _ :: blk vb _ _ :: amap eS eP mb p :: bookL bb L n :: hdR (.slice sa (hdL p).length sc) (hdL p) :: pileR (.slice oa L.length oc) L :: R) (by exact selS)))).mono ?_; clear hS; rw [List.nil_append]; rintro e w ⟨rfl, hS⟩))
  have hS1 := hS.sel (L' := wrR wb _ :: blk vb _ _ :: amap eS eP mb p :: bookL bb L n :: hdR (.slice sa (hdL p).length sc) (hdL p) :: pileR (.slice oa L.length oc) L :: R) (by exact selS)
  clear hS
  have hS := hS1
  clear hS1
  generalize hhs : hdL p = hs at hS hlh Hhw
  have Hhs := Lib.hid hhs
  clear hhs
  go_loopw [26] (fun v wr => CwR W (vaultL vb mb bb p L n (hdR (.slice sa hs.length sc) hs :: pileR (.slice oa L.length oc) L :: R)) wb encH (numB hs.length) hs v wr) (fun v _ => hs.length - (intOf v).toNat)
  case atStart => exact ⟨0, rfl, Nat.zero_le _, by simpa using hS⟩
  case round =>
    clear hS
    obtain ⟨k, rfl, hkl, hS⟩ := hrel
    by_cases hkn : k = hs.length
    · rw [hkn, List.take_length] at hS
      have hd1 : decide (k < hs.length) = false := by simp; omega
      clear hkl hkn
      have hlkk := numB_len hs.length
      generalize hacc : numB hs.length ++ hs.flatMap encH = acc at hS
      have hal : acc.length ≤ 70000100 := by
        have h1 := cat_len encH hs fun x hx => encH_len x (Hhw.out x hx).1
        rw [← hacc, List.length_append]
        omega
      have Hacc := Lib.hid hacc
      clear hacc hlkk
      have hln := numB_len L.length
      go_wp2_with (first | go_big_skip | (refine zbs hS ?_; clear hS; intro bS w hS) | (go_at_call 48; refine (nums1E wb acc (L.length : Int) bS 1 (by omega) ⟨by omega, by omega⟩ W _ _ (hS.sel (L' := wrR wb acc :: blk bS _ _ :: blk vb _ _ :: amap eS eP mb p :: bookL bb L n :: hdR _ hs :: pileR (.slice oa L.length oc) L :: R) (by exact selS))).mono ?_; clear hS; rintro e w ⟨rfl, hS⟩))
      have hS1 := hS.sel (L' := wrR wb _ :: blk vb _ _ :: amap eS eP mb p :: bookL bb L n :: hdR (.slice sa hs.length sc) hs :: pileR (.slice oa L.length oc) L :: R) (by exact selS)
      clear hS
      have hS := hS1
      clear hS1
      go_loopw [45] (fun v wr => CwR W (vaultL vb mb bb p L n (hdR (.slice sa hs.length sc) hs :: pileR (.slice oa L.length oc) L :: R)) wb encO (acc ++ numB L.length) L v wr) (fun v _ => L.length - (intOf v).toNat)
      case atStart => exact ⟨0, rfl, Nat.zero_le _, by simpa using hS⟩
      case round =>
        clear hS
        obtain ⟨j, rfl, hjl, hS⟩ := hrel
        by_cases hjn : j = L.length
        · rw [hjn, List.take_length] at hS
          have hd2 : decide (j < L.length) = false := by simp; omega
          clear hjl hjn
          have hlo := cat_len encO L fun x hx => encO_len x (Hmay.out x hx).who1
          generalize hd : acc ++ numB L.length ++ L.flatMap encO = d at hS
          have hdl : d.length ≤ 70010000 := by rw [← hd, List.length_append, List.length_append]; omega
          have Hd2 := Lib.hid hd
          have hlq := numB_len n
          have hlz : 0 < (d ++ numB n).length := by
            have : 0 < (numB n).length := numB_pos n
            rw [List.length_append]
            omega
          have hlz2 : (d ++ numB n).length ≤ 100000000 := by rw [List.length_append]; omega
          have Hz := Lib.hid hlz
          have Hz2 := Lib.hid hlz2
          clear hd hlz hlz2
          go_wp2_with (first | go_big_skip | (refine zbs hS ?_; clear hS; intro bS w hS) | (go_at_call 48; refine (nums1E wb d n bS 1 (by omega) ⟨by omega, by omega⟩ W _ _ (hS.sel (L' := wrR wb d :: blk bS _ _ :: blk vb _ _ :: amap eS eP mb p :: bookL bb L n :: hdR _ hs :: pileR (.slice oa L.length oc) L :: R) (by exact selS))).mono ?_; clear hS; rintro e w ⟨rfl, hS⟩) | (go_at_call 50; refine (out_w wb _ Hz2.out Hz.out W _ _ hS).mono ?_; clear hS; rintro e w ⟨vo, rfl, hS⟩))
          go_ret
          refine ⟨vo, rfl, ?_⟩
          rw [Hhs.out, Hacc.out, Hd2.out]
          exact hS.sel (by exact selS)
        · have hj1 : j < L.length := by omega
          obtain ⟨⟨g, rfl⟩, hcap, hcn⟩ := St.rowAddr hS.drop.drop.drop.drop.drop (by omega)
          have hcells : ∀ {K K' : List HP}, Take K (pileR (.slice (some ⟨g, 0, none⟩) L.length oc) L) K' → Cells K g (j * 6) (Ord.cells L[j]) := fun hu => Cells.elemM (enc := Ord.cells) Ord.len hu hj1
          have hst := cat_step encO (acc ++ numB L.length) L hj1
          have hmx := Hmay.out _ (List.getElem_mem hj1)
          have hlt := cat_len encO (L.take j) fun x hx => encO_len x (Hmay.out x (List.mem_of_mem_take hx)).who1
          rw [List.length_take] at hlt
          generalize hd : acc ++ numB L.length ++ (L.take j).flatMap encO = d at hS hst
          have hdl : d.length ≤ 70010000 := by rw [← hd, List.length_append, List.length_append]; omega
          generalize L[j] = x at hcells hst hmx
          obtain ⟨oi, ou, oy, ot, oc2, op⟩ := x
          have i0 : 1 ≤ oi := hmx.id0
          have i1 : oi ≤ 1099511627776 := hmx.id1
          have w1 : ou.size ≤ 16 := hmx.who1
          have t0 : 1 ≤ ot := hmx.item0
          have t1 : ot ≤ 3 := hmx.item1
          have c0 : 1 ≤ oc2 := hmx.cnt0
          have c1 : oc2 ≤ 1048576 := hmx.cnt1
          have p0 : 1 ≤ op := hmx.price0
          have p1 : op ≤ 1024 := hmx.price1
          have l1 := numB_len oi
          have l4 := strE_len ou w1
          have Hst := Lib.hid hst
          clear hst hmx hd hlt hjn hjl
          simp only [Ord.cells] at hcells
          have hq1 : (d ++ numB oi).length ≤ 90000000 := by rw [List.length_append]; omega
          have hq2 : (d ++ numB oi ++ strE ou).length ≤ 90000000 := by rw [List.length_append, List.length_append]; omega
          have Hq1 := Lib.hid hq1
          have Hq2 := Lib.hid hq2
          clear hq1 hq2
          cases oy with
          | false =>
            have Hst2 := Lib.hid (show acc ++ numB L.length ++ (L.take (j + 1)).flatMap encO = d ++ numB oi ++ strE ou ++ numsB [0, ot, oc2, op] by rw [Hst.out]; unfold encO; simp [boolI, List.append_assoc])
            have hn : ∀ x ∈ [(0 : Int), ot, oc2, op], -9223372036854775808 ≤ x ∧ x ≤ 9223372036854775807 := by
              intro x hx
              simp only [List.mem_cons, List.not_mem_nil, or_false] at hx
              rcases hx with rfl | rfl | rfl | rfl
              all_goals exact ⟨by omega, by omega⟩
            have Hn := Lib.hid hn
            clear hn
            go_wp2_with (first | go_big_skip | (refine zlN hS ?_ (hc := by exact hcells (by exact takeS))) | ((fail_if_success (have := b8)); ((have := wb); (with_reducible apply wl_alloc hS); (with_reducible rfl); rfl; (exact zsS); clear hS; intro b8 w hS; (refine frS ?_))) | (refine zsN hS ?_; clear hS; intro w hS) | (refine zl1 hS ?_) | ((with_reducible apply wl_strBytes hS); (with_reducible rfl); rfl; rfl; exact Tryz.underlying9; exact Tryz.underlying30; exact Tryz.underlying5; clear hS; intro g9 c9 w hS; (refine frS ?_)) | (refine zbs hS ?_; clear hS; intro bS w hS) | ((fail_if_success (have := mN1)); go_at_call 48; refine (nums1E wb d oi bS 1 (by omega) ⟨by omega, by omega⟩ W _ _ (hS.sel (L' := wrR wb d :: blk bS _ _ :: blk b8 _ _ :: blk vb _ _ :: amap eS eP mb p :: bookL bb L n :: hdR _ hs :: pileR _ L :: R) (by exact selS))).mono ?_; clear hS; rintro e w ⟨rfl, hS⟩; have mN1 : Nat := 0) | (go_at_call 49; (have hS2 : St W (blk bS [.slice (some ⟨g9, 0, none⟩) ou.size c9] 30 :: _) _ := hS); refine (bytes_w wb (d ++ numB oi) ou bS g9 c9 1 Hq1.out (by omega) W _ _ (hS2.sel (L' := wrR wb _ :: blk bS _ _ :: sbR g9 ou :: blk b8 _ _ :: blk vb _ _ :: amap eS eP mb p :: bookL bb L n :: hdR _ hs :: pileR _ L :: R) (by exact selS))).mono ?_; clear hS hS2; rintro e w ⟨rfl, hS⟩) | ((have := mN1); go_at_call 48; (have hS2 : St W (blk bS [.int .i64 0, .int .i64 ot, .int .i64 oc2, .int .i64 op] 3 :: _) _ := hS); refine (nums4E wb (d ++ numB oi ++ strE ou) 0 ot oc2 op bS 0 4 Hq2.out Hn.out W _ (blk bS [.int .i64 0, .int .i64 ot, .int .i64 oc2, .int .i64 op] 3 :: blk vb _ _ :: amap eS eP mb p :: bookL bb L n :: hdR _ hs :: pileR _ L :: R) (Cell.here rfl) (Cell.here rfl) (Cell.here rfl) (Cell.here rfl) (hS2.sel (by exact selS))).mono ?_; clear hS hS2; rintro e w ⟨rfl, hS⟩))
            go_roundw
            case rel => exact ⟨j + 1, rfl, hj1, by rw [Hst2.out]; exact hS.sel (by exact selS)⟩
            case measure => simp [intOf]; omega
          | true =>
            have Hst2 := Lib.hid (show acc ++ numB L.length ++ (L.take (j + 1)).flatMap encO = d ++ numB oi ++ strE ou ++ numsB [1, ot, oc2, op] by rw [Hst.out]; unfold encO; simp [boolI, List.append_assoc])
            have hn : ∀ x ∈ [(1 : Int), ot, oc2, op], -9223372036854775808 ≤ x ∧ x ≤ 9223372036854775807 := by
              intro x hx
              simp only [List.mem_cons, List.not_mem_nil, or_false] at hx
              rcases hx with rfl | rfl | rfl | rfl
              all_goals exact ⟨by omega, by omega⟩
            have Hn := Lib.hid hn
            clear hn
            go_wp2_with (first | go_big_skip | (refine zlN hS ?_ (hc := by exact hcells (by exact takeS))) | ((fail_if_success (have := b8)); ((have := wb); (with_reducible apply wl_alloc hS); (with_reducible rfl); rfl; (exact zsS); clear hS; intro b8 w hS; (refine frS ?_))) | (refine zsN hS ?_; clear hS; intro w hS) | (refine zl1 hS ?_) | ((with_reducible apply wl_strBytes hS); (with_reducible rfl); rfl; rfl; exact Tryz.underlying9; exact Tryz.underlying30; exact Tryz.underlying5; clear hS; intro g9 c9 w hS; (refine frS ?_)) | (refine zbs hS ?_; clear hS; intro bS w hS) | ((fail_if_success (have := mN1)); go_at_call 48; refine (nums1E wb d oi bS 1 (by omega) ⟨by omega, by omega⟩ W _ _ (hS.sel (L' := wrR wb d :: blk bS _ _ :: blk b8 _ _ :: blk vb _ _ :: amap eS eP mb p :: bookL bb L n :: hdR _ hs :: pileR _ L :: R) (by exact selS))).mono ?_; clear hS; rintro e w ⟨rfl, hS⟩; have mN1 : Nat := 0) | (go_at_call 49; (have hS2 : St W (blk bS [.slice (some ⟨g9, 0, none⟩) ou.size c9] 30 :: _) _ := hS); refine (bytes_w wb (d ++ numB oi) ou bS g9 c9 1 Hq1.out (by omega) W _ _ (hS2.sel (L' := wrR wb _ :: blk bS _ _ :: sbR g9 ou :: blk b8 _ _ :: blk vb _ _ :: amap eS eP mb p :: bookL bb L n :: hdR _ hs :: pileR _ L :: R) (by exact selS))).mono ?_; clear hS hS2; rintro e w ⟨rfl, hS⟩) | ((have := mN1); go_at_call 48; (have hS2 : St W (blk bS [.int .i64 1, .int .i64 ot, .int .i64 oc2, .int .i64 op] 3 :: _) _ := hS); refine (nums4E wb (d ++ numB oi ++ strE ou) 1 ot oc2 op bS 0 4 Hq2.out Hn.out W _ (blk bS [.int .i64 1, .int .i64 ot, .int .i64 oc2, .int .i64 op] 3 :: blk vb _ _ :: amap eS eP mb p :: bookL bb L n :: hdR _ hs :: pileR _ L :: R) (Cell.here rfl) (Cell.here rfl) (Cell.here rfl) (Cell.here rfl) (hS2.sel (by exact selS))).mono ?_; clear hS hS2; rintro e w ⟨rfl, hS⟩))
            go_roundw
            case rel => exact ⟨j + 1, rfl, hj1, by rw [Hst2.out]; exact hS.sel (by exact selS)⟩
            case measure => simp [intOf]; omega
    · have hk1 : k < hs.length := by omega
      obtain ⟨⟨g, rfl⟩, hcap, hcn⟩ := St.rowAddr hS.drop.drop.drop.drop (by omega)
      have hcells : ∀ {K K' : List HP}, Take K (hdR (.slice (some ⟨g, 0, none⟩) hs.length sc) hs) K' → Cells K g (k * 5) (Hd.cells hs[k]) := fun hu => Cells.elemM (enc := Hd.cells) Hd.len hu hk1
      have hst := cat_step encH (numB hs.length) hs hk1
      have hmx := Hhw.out _ (List.getElem_mem hk1)
      have hlt := cat_len encH (hs.take k) fun x hx => encH_len x (Hhw.out x (List.mem_of_mem_take hx)).1
      rw [List.length_take] at hlt
      have hlk := numB_len hs.length
      generalize hd : numB hs.length ++ (hs.take k).flatMap encH = d at hS hst
      have hdl : d.length ≤ 70000100 := by rw [← hd, List.length_append]; omega
      generalize hs[k] = x at hcells hst hmx
      obtain ⟨xw, ⟨x0, x1, x2, x3⟩⟩ := x
      obtain ⟨w1, hit⟩ := hmx
      simp only at w1
      obtain ⟨a0, a1, a2, a3⟩ := isIt_true.1 hit
      simp only at a0 a1 a2 a3
      have hn : ∀ x ∈ [x0, x1, x2, x3], -9223372036854775808 ≤ x ∧ x ≤ 9223372036854775807 := by
        intro x hx
        simp only [List.mem_cons, List.not_mem_nil, or_false] at hx
        rcases hx with rfl | rfl | rfl | rfl
        all_goals exact ⟨by omega, by omega⟩
      have l4 := strE_len xw w1
      have hdl2 : (d ++ strE xw).length ≤ 90000000 := by rw [List.length_append]; omega
      have Hdl2 := Lib.hid hdl2
      have Hn := Lib.hid hn
      have Hst := Lib.hid (show numB hs.length ++ (hs.take (k + 1)).flatMap encH = d ++ strE xw ++ numsB [x0, x1, x2, x3] by rw [hst, List.append_assoc]; rfl)
      clear hst hit hd hlt hkn hkl hdl2 hn
      simp only [Hd.cells, It.cells] at hcells
      go_wp2_with (first | go_big_skip | (refine zlN hS ?_ (hc := by exact hcells (by exact takeS))) | ((fail_if_success (have := b8)); ((have := wb); (with_reducible apply wl_alloc hS); (with_reducible rfl); rfl; (exact zsS); clear hS; intro b8 w hS; (refine frS ?_))) | (refine zsN hS ?_; clear hS; intro w hS) | (refine zl1 hS ?_) | ((with_reducible apply wl_strBytes hS); (with_reducible rfl); rfl; rfl; exact Tryz.underlying9; exact Tryz.underlying30; exact Tryz.underlying5; clear hS; intro g9 c9 w hS; (refine frS ?_)) | ((with_reducible apply wl_bs hS); (with_reducible rfl); rfl; (focus (simp only [fD, List.map_cons, List.map_nil, Act.eval, fE, fF, fG, fH, Option.getD_some]; try rfl)); (exact esS); (exact rsS); rfl; rfl; rfl; rfl; clear hS; intro bT w hS; (refine frS ?_)) | (go_at_call 49; refine (bytes_w wb d xw bT g9 c9 1 (by omega) (by omega) W _ _ (hS.sel (L' := wrR wb d :: blk bT _ _ :: sbR g9 xw :: blk b8 _ _ :: blk vb _ _ :: amap eS eP mb p :: bookL bb L n :: hdR _ hs :: pileR _ L :: R) (by exact selS))).mono ?_; clear hS; rintro e w ⟨rfl, hS⟩) | (go_at_call 48; refine (nums4E wb (d ++ strE xw) x0 x1 x2 x3 b8 1 4 Hdl2.out Hn.out W _ (blk b8 [.string xw, .int .i64 x0, .int .i64 x1, .int .i64 x2, .int .i64 x3] 94 :: blk vb _ _ :: amap eS eP mb p :: bookL bb L n :: hdR _ hs :: pileR _ L :: R) (Cell.here rfl) (Cell.here rfl) (Cell.here rfl) (Cell.here rfl) (hS.sel (by exact selS))).mono ?_; clear hS; rintro e w ⟨rfl, hS⟩))
      go_roundw
      case rel => exact ⟨k + 1, rfl, hk1, by rw [Hst.out]; exact hS.sel (by exact selS)⟩
      case measure => simp [intOf]; omega
end Go.Proofs.YtbcokphjpllbiaaGreat
end
section
set_option linter.unusedSimpArgs false
set_option linter.unusedVariables false
namespace Go.Proofs.YtbcokphjpllbiaaGreat
open Go.RowKit Go.Sl
set_option maxRecDepth 100000 in
set_option maxHeartbeats 4000000 in
theorem totalV_g (vb mb bb : Nat) (p : Ps) (L : List Ord) (n : Int) {N : Nat} (hw : PsW p N) (hN : N ≤ 1000000000) (W w : World) (R : List HP) (hS : St W (vaultL vb mb bb p L n R) w) :
    Calls Tryz.prog 26 #[.pointer (some ⟨vb, 0, none⟩)] w fun e w' => e = .returned (.tuple #[.agg (addF (allV ⟨p, L, n⟩)).cells.toArray, .bool (addL (allV ⟨p, L, n⟩) it0).isSome]) ∧ St W (vaultL vb mb bb p L n R) w' := by
  have hll := bookL_len hS.drop.drop
  have hmay : ∀ x ∈ L, MayP x := fun x hx => (bookL_each hS.drop.drop x hx).1
  have hlh : (hdL p).length ≤ 1000000000 := by rw [hdL_len]; exact Nat.le_trans hw.len hN
  have Hmay := Lib.hid hmay
  have Hw := Lib.hid hw
  clear hmay hw
  go_enter Tryz.func26, Tryz.ntmps26
  go_wp2_with (first | (go_at_call 25; refine (listV_spec vb mb bb p L n Hw.out hN W _ _ (hS.sel (L' := blk vb _ _ :: amap eS eP mb p :: bookL bb L n :: blk b0 _ _ :: R) (by exact selS))).mono ?_; clear hS; rintro e w ⟨sa, sc, oa, oc, rfl, hS⟩) | ((with_reducible apply wl_alloc hS); (with_reducible rfl); rfl; (exact zsS); clear hS; intro b0 w hS; (refine frS ?_)))
  generalize hhs : hdL p = hs at hS hlh
  have Hhs := Lib.hid hhs
  clear hhs
  have hS1 := hS.rowNil (k := 4) (T := 39)
  clear hS
  have hS := hS1
  clear hS1
  go_loopw [7, 22] (fun v7 v22 wr => TtR W (vaultL vb mb bb p L n (hdR (.slice sa hs.length sc) hs :: pileR (.slice oa L.length oc) L :: blk b0 [.int .i64 0, .int .i64 0, .int .i64 0, .int .i64 0] 39 :: R)) hs.length (fun k => (hs.take k).map Hd.has) v7 v22 wr) (fun _ v22 _ => hs.length - (intOf v22).toNat)
  case atStart => exact ⟨0, rfl, Nat.zero_le _, hS⟩
  case round =>
    clear hS
    obtain ⟨k, rfl, hkl, hS⟩ := hrel
    dsimp only at hS
    by_cases hkn : k = hs.length
    · rw [hkn, List.take_length] at hS
      have hd1 : decide (k < hs.length) = false := by simp; omega
      clear hkl hkn
      generalize hacc : hs.map Hd.has = acc at hS
      have hal : acc.length ≤ 1000000000 := by rw [← hacc, List.length_map]; exact hlh
      have Hacc := Lib.hid hacc
      clear hacc
      go_wp2_with (first | go_big_skip)
      go_loopw [7, 34] (fun v7 v34 wr => TtR W (vaultL vb mb bb p L n (hdR (.slice sa hs.length sc) hs :: pileR (.slice oa L.length oc) L :: blk b0 [.int .i64 0, .int .i64 0, .int .i64 0, .int .i64 0] 39 :: R)) L.length (fun k => acc ++ (L.take k).map holdsF) v7 v34 wr) (fun _ v34 _ => L.length - (intOf v34).toNat)
      case atStart => exact ⟨0, rfl, Nat.zero_le _, by simpa using hS⟩
      case round =>
        clear hS
        obtain ⟨j, rfl, hjl, hS⟩ := hrel
        dsimp only at hS
        by_cases hjn : j = L.length
        · rw [hjn, List.take_length] at hS
          have hd2 : decide (j < L.length) = false := by simp; omega
          have eall : allV ⟨p, L, n⟩ = acc ++ L.map holdsF := by
            unfold allV
            rw [Hhs.out, Hacc.out]
          have Eall := Lib.hid eall
          clear eall
          obtain ⟨q, hq⟩ : ∃ q, addF (acc ++ L.map holdsF) = q := ⟨_, rfl⟩
          obtain ⟨s0, s1, s2, s3⟩ := q
          obtain ⟨bo, hbo⟩ : ∃ b, (addL (acc ++ L.map holdsF) it0).isSome = b := ⟨_, rfl⟩
          have Hq := Lib.hid hq
          have Hbo := Lib.hid hbo
          clear hq hbo hjl hjn
          cases bo
          · skip
            go_wp2_with (first | go_big_skip | (go_at_call 60; refine (add_it _ _ W _ _ hS).mono ?_; clear hS; rw [Hq.out, Hbo.out]; simp only [It.cells]; rintro e w ⟨rfl, hS⟩) | ((with_reducible apply wl_alloc hS); (with_reducible rfl); rfl; (exact zsS); clear hS; intro bt w hS; (refine frS ?_)) | (refine zsN hS ?_; clear hS; intro w hS) | (refine zlN hS ?_))
            (apply bp_cell_tmp; rfl; rfl; rfl; rfl; exact hS; decide +kernel; (exact cesS); kernel_rfl)
            rw [Eall.out, Hq.out, Hbo.out]
            exact ⟨rfl, hS.sel (by exact selS)⟩
          · skip
            go_wp2_with (first | go_big_skip | (go_at_call 60; refine (add_it _ _ W _ _ hS).mono ?_; clear hS; rw [Hq.out, Hbo.out]; simp only [It.cells]; rintro e w ⟨rfl, hS⟩) | ((with_reducible apply wl_alloc hS); (with_reducible rfl); rfl; (exact zsS); clear hS; intro bt w hS; (refine frS ?_)) | (refine zsN hS ?_; clear hS; intro w hS) | (refine zlN hS ?_))
            (apply bp_cell_tmp; rfl; rfl; rfl; rfl; exact hS; decide +kernel; (exact cesS); kernel_rfl)
            rw [Eall.out, Hq.out, Hbo.out]
            exact ⟨rfl, hS.sel (by exact selS)⟩
        · have hj1 : j < L.length := by omega
          obtain ⟨⟨g, rfl⟩, hcap, hcn⟩ := St.rowAddr hS.drop.drop.drop.drop.drop (by omega)
          have hcells : ∀ {K K' : List HP}, Take K (pileR (.slice (some ⟨g, 0, none⟩) L.length oc) L) K' → Cells K g (j * 6) (Ord.cells L[j]) := fun hu => Cells.elemM (enc := Ord.cells) Ord.len hu hj1
          have hstep : acc ++ (L.take (j + 1)).map holdsF = (acc ++ (L.take j).map holdsF) ++ [holdsF L[j]] := by rw [maps_step _ _ hj1, List.append_assoc]
          have hmx := Hmay.out _ (List.getElem_mem hj1)
          have hbl : (acc ++ (L.take j).map holdsF).length ≤ 1000000100 := by rw [List.length_append, List.length_map, List.length_take]; omega
          have Hstep := Lib.hid hstep
          clear hstep hjn hjl
          generalize acc ++ (L.take j).map holdsF = accj at hS Hstep hbl
          generalize L[j] = x at hcells Hstep hmx
          obtain ⟨it, hit⟩ : ∃ y, holdsF x = y := ⟨_, rfl⟩
          obtain ⟨oi, ou, oy, ot, oc2, op⟩ := x
          obtain ⟨h0, h1, h2, h3⟩ := it
          have Hit := Lib.hid hit
          have Hm := Lib.hid hmx
          clear hit hmx
          simp only [Ord.cells] at hcells
          go_wp2_with (first | go_big_skip | (refine zlN hS ?_ (hc := by exact hcells (by exact takeS))) | (go_at_call 52; refine (holds_at (o := ⟨oi, ou, oy, ot, oc2, op⟩) Hm.out Hit.out W _ _ hS).mono ?_; clear hS; rintro e w ⟨rfl, hS⟩) | (refine zbs hS ?_; clear hS; intro bS w hS) | (refine zap hS ?_ (h63 := by unfold maxLen; omega) (hb := by omega); clear hS; intro v w hS) | ((with_reducible apply wl_alloc hS); (with_reducible rfl); rfl; (exact zsS); clear hS; intro bx w hS; (refine frS ?_)) | (refine zsN hS ?_; clear hS; intro w hS) | (refine zlN hS ?_))
          go_roundw
          case rel =>
            refine ⟨j + 1, rfl, hj1, ?_⟩
            dsimp only
            rw [Hstep.out, Hit.out]
            unfold itsR
            rw [its_push, List.length_append, List.length_singleton]
            have h0 : St W (row v 4 39 (accj.length + 1) (accj.flatMap It.cells ++ It.cells ⟨h0, h1, h2, h3⟩) :: _) w := hS
            exact h0.sel (by exact selS)
          case measure => simp [intOf]; omega
    · have hk1 : k < hs.length := by omega
      obtain ⟨⟨g, rfl⟩, hcap, hcn⟩ := St.rowAddr hS.drop.drop.drop.drop (by omega)
      have hcells : ∀ {K K' : List HP}, Take K (hdR (.slice (some ⟨g, 0, none⟩) hs.length sc) hs) K' → Cells K g (k * 5) (Hd.cells hs[k]) := fun hu => Cells.elemM (enc := Hd.cells) Hd.len hu hk1
      have hstep := maps_step Hd.has hs hk1
      have hbl : ((hs.take k).map Hd.has).length ≤ 1000000100 := by rw [List.length_map, List.length_take]; omega
      have Hstep := Lib.hid hstep
      clear hstep hkn hkl
      generalize (hs.take k).map Hd.has = accj at hS Hstep hbl
      generalize hs[k] = x at hcells Hstep
      obtain ⟨xw, ⟨x0, x1, x2, x3⟩⟩ := x
      simp only [Hd.cells, It.cells] at hcells
      go_wp2_with (first | go_big_skip | (refine zlN hS ?_ (hc := by exact hcells (by exact takeS))) | (refine zlN hS ?_ (hc := by exact Cells.here (vs := [.int .i64 x0, .int .i64 x1, .int .i64 x2, .int .i64 x3]) rfl)) | (refine zbs hS ?_; clear hS; intro bS w hS) | (refine zap hS ?_ (h63 := by unfold maxLen; omega) (hb := by omega); clear hS; intro v w hS) | ((with_reducible apply wl_alloc hS); (with_reducible rfl); rfl; (exact zsS); clear hS; intro bx w hS; (refine frS ?_)) | (refine zsN hS ?_; clear hS; intro w hS))
      go_roundw
      case rel =>
        refine ⟨k + 1, rfl, hk1, ?_⟩
        dsimp only
        rw [Hstep.out]
        unfold itsR
        rw [its_push, List.length_append, List.length_singleton]
        have h0 : St W (row v 4 39 (accj.length + 1) (accj.flatMap It.cells ++ It.cells ⟨x0, x1, x2, x3⟩) :: _) w := hS
        exact h0.sel (by exact selS)
      case measure => simp [intOf]; omega
end Go.Proofs.YtbcokphjpllbiaaGreat
end
