/-
  The vault's List; are names too long? For every vault, every script.
  The document's vault: where a purse stands, what it has, a purse laid. For every row of purses.
-/
import Derived.Test.YtbcokphjpllbiaaGreatVaultPlaysM12
import Derived.Test.YtbcokphjpllbiaaGreatVaultPlaysM27

section
set_option linter.unusedSimpArgs false
set_option linter.unusedVariables false
namespace Go.Proofs.YtbcokphjpllbiaaGreat
open Go.RowKit Go.Sl
def HvR (W : World) (L : List HP) (n : Nat) (v : Value) (w : World) : Prop := ∃ i : Nat, v = .int .i64 i ∧ i ≤ n ∧ i ≤ 100 ∧ St W L w
set_option maxRecDepth 100000 in
set_option maxHeartbeats 4000000 in
/-- Whatever it finds. -/
theorem heavy_spec (xs : List Vact) (v : Value) (V : World) (hv : SliceV Vact.cells 13 V v xs) (W w : World) (Lr : List HP) (hS : St W (Old V :: Lr) w) :
    Calls Tryz.prog 6 #[v] w fun e w' => ∃ h : Bool, e = .returned (.bool h) ∧ St W (Old V :: Lr) w' := by
  obtain ⟨a, cap, rfl, h63, hact⟩ := hv.vact
  have Ha := Lib.hid hact
  clear hact
  go_enter Tryz.func6, Tryz.ntmps6
  go_wp2_with fail
  go_loopw [3] (fun v wr => HvR W (Old V :: Lr) xs.length v wr) (fun v _ => xs.length - (intOf v).toNat)
  case atStart => exact ⟨0, rfl, by omega, by omega, hS⟩
  case round =>
    clear hS
    obtain ⟨i, rfl, hi, hi2, hS⟩ := hrel
    by_cases hend : i = xs.length ∨ i = 100
    · rcases hend with hend | hend
      · subst hend
        have d1 : decide ((xs.length : Int) < (xs.length : Int)) = false := by simp
        go_wp2_with (first | go_big_skip)
        go_ret
        exact ⟨_, rfl, hS⟩
      · subst hend
        by_cases hlt : 100 < xs.length
        · have d1 : ((100 : Nat) : Int) < (xs.length : Int) := by omega
          go_wp2_with (first | go_big_skip)
          go_ret
          exact ⟨_, rfl, hS⟩
        · have d1 : decide ((100 : Int) < (xs.length : Int)) = false := by simp; omega
          go_wp2_with (first | go_big_skip)
          go_ret
          exact ⟨_, rfl, hS⟩
    · have hil : i < xs.length := by omega
      have hi3 : i < 100 := by omega
      clear hend hi hi2
      obtain ⟨pb, poff, rfl, hA⟩ := Ha.out i hil
      obtain ⟨ck, cn, cw, c0, c1, c2, c3, co, cits, cord, call⟩ := hA
      generalize xs[i] = x at ck cn cw c0 c1 c2 c3 co cits cord call
      obtain ⟨kd, nn, who, ⟨i0, i1, i2, i3⟩, ⟨oi, ou, oy, ot, oc, op⟩⟩ := x
      simp only at ck cn cw c0 c1 c2 c3 co cits cord call
      by_cases h1 : 200 < who.size
      · have d1 : (200 : Int) < (who.size : Int) := by omega
        go_wp2_with (first | go_big_skip | ((with_reducible apply wl_ld1 hS); (with_reducible rfl); rfl; rfl; decide +kernel; (first | exact Cell.old .head cw | exact Cell.old (.tail .head) cw | exact Cell.old (.tail (.tail .head)) cw | exact Cell.old (.tail (.tail (.tail .head))) cw | exact Cell.old (.tail (.tail (.tail (.tail .head)))) cw | exact Cell.old (.tail (.tail (.tail (.tail (.tail .head))))) cw); (simp only [Act.put, fA, fB, fC, Nat.reduceAdd])) | ((with_reducible apply wl_ld1 hS); (with_reducible rfl); rfl; rfl; decide +kernel; (first | exact Cell.old .head co | exact Cell.old (.tail .head) co | exact Cell.old (.tail (.tail .head)) co | exact Cell.old (.tail (.tail (.tail .head))) co | exact Cell.old (.tail (.tail (.tail (.tail .head)))) co | exact Cell.old (.tail (.tail (.tail (.tail (.tail .head))))) co); (simp only [Act.put, fA, fB, fC, Nat.reduceAdd])))
        go_ret
        exact ⟨_, rfl, hS⟩
      · have d1 : decide ((200 : Int) < (who.size : Int)) = false := by simp; omega
        by_cases h2 : 200 < ou.size
        · have d2 : (200 : Int) < (ou.size : Int) := by omega
          go_wp2_with (first | go_big_skip | ((with_reducible apply wl_ld1 hS); (with_reducible rfl); rfl; rfl; decide +kernel; (first | exact Cell.old .head cw | exact Cell.old (.tail .head) cw | exact Cell.old (.tail (.tail .head)) cw | exact Cell.old (.tail (.tail (.tail .head))) cw | exact Cell.old (.tail (.tail (.tail (.tail .head)))) cw | exact Cell.old (.tail (.tail (.tail (.tail (.tail .head))))) cw); (simp only [Act.put, fA, fB, fC, Nat.reduceAdd])) | ((with_reducible apply wl_ld1 hS); (with_reducible rfl); rfl; rfl; decide +kernel; (first | exact Cell.old .head co | exact Cell.old (.tail .head) co | exact Cell.old (.tail (.tail .head)) co | exact Cell.old (.tail (.tail (.tail .head))) co | exact Cell.old (.tail (.tail (.tail (.tail .head)))) co | exact Cell.old (.tail (.tail (.tail (.tail (.tail .head))))) co); (simp only [Act.put, fA, fB, fC, Nat.reduceAdd])))
          go_ret
          exact ⟨_, rfl, hS⟩
        · have d2 : decide ((200 : Int) < (ou.size : Int)) = false := by simp; omega
          go_wp2_with (first | go_big_skip | ((with_reducible apply wl_ld1 hS); (with_reducible rfl); rfl; rfl; decide +kernel; (first | exact Cell.old .head cw | exact Cell.old (.tail .head) cw | exact Cell.old (.tail (.tail .head)) cw | exact Cell.old (.tail (.tail (.tail .head))) cw | exact Cell.old (.tail (.tail (.tail (.tail .head)))) cw | exact Cell.old (.tail (.tail (.tail (.tail (.tail .head))))) cw); (simp only [Act.put, fA, fB, fC, Nat.reduceAdd])) | ((with_reducible apply wl_ld1 hS); (with_reducible rfl); rfl; rfl; decide +kernel; (first | exact Cell.old .head co | exact Cell.old (.tail .head) co | exact Cell.old (.tail (.tail .head)) co | exact Cell.old (.tail (.tail (.tail .head))) co | exact Cell.old (.tail (.tail (.tail (.tail .head)))) co | exact Cell.old (.tail (.tail (.tail (.tail (.tail .head))))) co); (simp only [Act.put, fA, fB, fC, Nat.reduceAdd])))
          go_roundw
          case rel => exact ⟨i + 1, rfl, hil, hi3, hS⟩
          case measure => simp [intOf]; omega
/-- Purses as they are listed. -/
abbrev hdR (v : Value) (l : List Hd) : HP := row v 5 94 l.length (l.flatMap Hd.cells)
def LhR (W : World) (F : List HP) (p : Ps) (v5 v17 : Value) (w : World) : Prop :=
  ∃ k : Nat, v17 = .int .i64 k ∧ k ≤ p.length ∧ St W (row v5 5 94 k (((hdL p).take k).flatMap Hd.cells) :: F) w
/-- What a book's List yields. -/
def liR (bb : Nat) (L : List Ord) (n : Int) (v : Value) : HP := fun f => ∃ (a : Option Addr) (c : Nat), v = .slice a L.length c ∧ sats [bookL bb L n, pileR (.slice a L.length c) L] f
section
variable {W w : World} {bb : Nat} {L : List Ord} {n : Int} {v : Value} {R : List HP}
theorem liOpen (h : St W (liR bb L n v :: R) w) : ∃ a c, v = .slice a L.length c ∧ St W (bookL bb L n :: pileR (.slice a L.length c) L :: R) w := by
  obtain ⟨a, h⟩ := St.ex h
  obtain ⟨c, h⟩ := St.ex h
  obtain ⟨h1, h⟩ := St.and h
  exact ⟨a, c, h1, (St.split (St.split h).swap).swap.drop.swap⟩
theorem liShut {a : Option Addr} {c : Nat} (hv : v = .slice a L.length c) (h : St W (bookL bb L n :: pileR (.slice a L.length c) L :: R) w) : St W (liR bb L n v :: R) w := by
  refine St.mkEx a (St.mkEx c (St.mkAnd hv ?_))
  refine St.join ?_
  refine St.swap (St.imp h.swap ?_)
  intro f hf
  exact ⟨fun _ => true, hf, trivial⟩
theorem listF (hS : St W (bookL bb L n :: R) w) :
    Calls Tryz.prog 68 #[.pointer (some ⟨bb, 0, none⟩)] w fun e w' => ∃ v, e = .returned v ∧ St W (liR bb L n v :: R) w' := by
  refine (listL_spec hS).mono ?_
  rintro e w' ⟨a, c, rfl, hS⟩
  exact ⟨_, rfl, liShut rfl hS⟩
end
set_option maxRecDepth 100000 in
set_option maxHeartbeats 4000000 in
theorem listV_spec (vb mb bb : Nat) (p : Ps) (L : List Ord) (n : Int) {N : Nat} (hw : PsW p N) (hN : N ≤ 1000000000) (W w : World) (R : List HP) (hS : St W (vaultL vb mb bb p L n R) w) :
    Calls Tryz.prog 25 #[.pointer (some ⟨vb, 0, none⟩)] w fun e w' => ∃ a c a2 c2, e = .returned (.tuple #[.slice a (hdL p).length c, .slice a2 L.length c2, .int .i64 n]) ∧
      St W (vaultL vb mb bb p L n (hdR (.slice a (hdL p).length c) (hdL p) :: pileR (.slice a2 L.length c2) L :: R)) w' := by
  have hlen := hw.len
  have Hw := Lib.hid hw
  clear hw
  go_enter Tryz.func25, Tryz.ntmps25
  go_wp2_with (first | (go_at_call 74; refine (keysS_call (some mb) W _ _ (hS.sel (L' := amap eS eP mb p :: blk vb _ _ :: bookL bb L n :: R) (by (repeat' (first | (with_reducible first | exact Sel.done Suf.refl | exact Sel.done (Suf.tail Suf.refl) | exact Sel.done (Suf.tail (Suf.tail Suf.refl)) | exact Sel.done (Suf.tail (Suf.tail (Suf.tail Suf.refl))) | (apply Sel.done; (focus((repeat(first|exact Suf.refl | apply Suf.tail)); done)))) | (refine Sel.cons (by with_reducible (focus((repeat(first|exact .head|apply Take.tail));done))) ?_)))))).mono ?_; clear hS; rintro e w ⟨g, rfl, hS⟩) | (go_at_call 73; refine (sortedS_call (fun x hx => by have := Hw.out.who x hx; unfold maxLen; omega) (by omega) hS).mono ?_; clear hS; rintro e w ⟨v, rfl, hS⟩; (have hv := hS.rowVal; obtain ⟨sa, sc, rfl⟩ := hv)) | ((with_reducible apply wl_ld1 hS); (with_reducible rfl); rfl; rfl; decide +kernel; (first | (focus((repeat(first|exact Cell.here rfl | apply Cell.there)); done)) | assumption); (simp only [Act.put, fA, fB, fC, Nat.reduceAdd])) | ((with_reducible apply wl_ldN hS); (with_reducible rfl); rfl; rfl; decide +kernel; (first | (focus((repeat(first|exact Cells.whole | apply Cells.there)); done)) | assumption); kernel_rfl; (simp only [Act.put, fA, fB, fC, Nat.reduceAdd])) | ((with_reducible apply wl_st1 hS); (with_reducible rfl); rfl; rfl; (focus ((conv => lhs; whnf); try rfl)); kernel_rfl; rfl; rfl; ((focus((repeat(first|exact Upd.head | apply Upd.tail)); done))); (simp only [List.length_cons, List.length_nil]; omega); ((simp only [List.set_cons_zero, List.set_cons_succ, setAll]); rfl); clear hS; intro w hS; try (simp only [Act.put, fA, fB, fC, Nat.reduceAdd])) | ((with_reducible apply wl_stN hS); (with_reducible rfl); rfl; rfl; (focus ((conv => lhs; whnf); try rfl)); kernel_rfl; rfl; ((focus((repeat(first|exact Upd.head | apply Upd.tail)); done))); (simp only [List.length_cons, List.length_nil]; omega); ((simp only [List.set_cons_zero, List.set_cons_succ, setAll]); rfl); clear hS; intro w hS; try (simp only [Act.put, fA, fB, fC, Nat.reduceAdd])) | ((with_reducible apply wl_box hS); (with_reducible rfl); rfl; rfl; rfl; clear hS; intro b w hS; (simp only [Act.put, fA, fB, fC, Nat.reduceAdd])) | ((with_reducible apply wl_alloc hS); (with_reducible rfl); rfl; (fail); clear hS; intro b w hS; (simp only [Act.put, fA, fB, fC, Nat.reduceAdd])))
  have hS1 := hS.rowNil (k := 5) (T := 94)
  clear hS
  have hS := hS1
  clear hS1
  go_loopw [5, 17] (fun v5 v17 wr => LhR W (row (.slice sa p.length sc) 1 9 p.length ((sortB (p.map (·.1))).map eS) :: amap eS eP mb p :: blk vb [.map (some mb), .pointer (some ⟨bb, 0, none⟩), .int .i64 n] 80 :: bookL bb L n :: R) p v5 v17 wr) (fun _ v17 _ => p.length - (intOf v17).toNat)
  case atStart => exact ⟨0, rfl, Nat.zero_le _, hS⟩
  case round =>
    clear hS
    obtain ⟨k, rfl, hkl, hS⟩ := hrel
    have hlk := kL_len p
    have hlh := hdL_len p
    by_cases hkn : k = p.length
    · have e1 : (hdL p).take k = hdL p := List.take_of_length_le (by omega)
      rw [e1] at hS
      have e2 : k = (hdL p).length := by omega
      have hd1 : decide (k < p.length) = false := by simp; omega
      clear e1 hkl hlk
      clear hkn hlh
      subst e2
      go_wp2_with (first | ((with_reducible apply wl_ld1 hS); (with_reducible rfl); rfl; rfl; decide +kernel; (first | (focus((repeat(first|exact Cell.here rfl | apply Cell.there)); done)) | assumption); (simp only [Act.put, fA, fB, fC, Nat.reduceAdd])) | ((with_reducible apply wl_ldN hS); (with_reducible rfl); rfl; rfl; decide +kernel; (first | (focus((repeat(first|exact Cells.whole | apply Cells.there)); done)) | assumption); kernel_rfl; (simp only [Act.put, fA, fB, fC, Nat.reduceAdd])) | ((with_reducible apply wl_st1 hS); (with_reducible rfl); rfl; rfl; (focus ((conv => lhs; whnf); try rfl)); kernel_rfl; rfl; rfl; ((focus((repeat(first|exact Upd.head | apply Upd.tail)); done))); (simp only [List.length_cons, List.length_nil]; omega); ((simp only [List.set_cons_zero, List.set_cons_succ, setAll]); rfl); clear hS; intro w hS; try (simp only [Act.put, fA, fB, fC, Nat.reduceAdd])) | ((with_reducible apply wl_stN hS); (with_reducible rfl); rfl; rfl; (focus ((conv => lhs; whnf); try rfl)); kernel_rfl; rfl; ((focus((repeat(first|exact Upd.head | apply Upd.tail)); done))); (simp only [List.length_cons, List.length_nil]; omega); ((simp only [List.set_cons_zero, List.set_cons_succ, setAll]); rfl); clear hS; intro w hS; try (simp only [Act.put, fA, fB, fC, Nat.reduceAdd])) | ((with_reducible apply wl_box hS); (with_reducible rfl); rfl; rfl; rfl; clear hS; intro b w hS; (simp only [Act.put, fA, fB, fC, Nat.reduceAdd])) | ((with_reducible apply wl_alloc hS); (with_reducible rfl); rfl; (fail); clear hS; intro b w hS; (simp only [Act.put, fA, fB, fC, Nat.reduceAdd])))
      have hS := hS.sel (L' := bookL bb L n :: blk vb _ _ :: amap eS eP mb p :: row u5 5 _ _ _ :: R) (by (repeat' (first | (with_reducible first | exact Sel.done Suf.refl | exact Sel.done (Suf.tail Suf.refl) | exact Sel.done (Suf.tail (Suf.tail Suf.refl)) | exact Sel.done (Suf.tail (Suf.tail (Suf.tail Suf.refl))) | (apply Sel.done; (focus((repeat(first|exact Suf.refl | apply Suf.tail)); done)))) | (refine Sel.cons (by with_reducible (focus((repeat(first|exact .head|apply Take.tail));done))) ?_))))
      refine wp_region_flow3 [0, 0, 2, 6, 14, 30, 0, 64, 192, 448, 63, 1087, 4095] (fun i => i == 5) (fun _ => none) [⟨some 5, none, fun nd => liR bb L n (nd 5)⟩] [some 5, none, none, none] (by kernel_rfl) (by kernel_rfl) rfl hS (CongOk.cons (fun nd nd' h => by dsimp only; rw [h 5 rfl rfl]) CongOk.nil) ?_
      intro nd
      iterate 2 (refine ch_pure rfl (by kernel_rfl) rfl rfl ?_; intro K hK; go_big_quiet_op; go_big_quiet_on)
      (apply ch_nil; rfl; kernel_rfl; (with_reducible rfl); rfl; rfl; (simp only [Act.put, fA, fB, fC, Nat.reduceAdd]))
      (refine ch_pure rfl (by kernel_rfl) rfl rfl ?_; intro K hK; go_big_quiet_op; go_big_quiet_on)
      (apply ch_ld1; rfl; kernel_rfl; (with_reducible rfl); rfl; rfl; decide +kernel; (intro F; first | exact Cell.here rfl | exact Cell.there (Cell.here rfl) | exact Cell.there (Cell.there (Cell.here rfl)) | exact Cell.there (Cell.there (Cell.there (Cell.here rfl))) | exact Cell.there (Cell.there (Cell.there (Cell.there (Cell.here rfl)))) | exact Cell.there (Cell.there (Cell.there (Cell.there (Cell.there (Cell.here rfl))))) | exact Cell.there (Cell.there (Cell.there (Cell.there (Cell.there (Cell.there (Cell.here rfl)))))) | assumption); (simp only [Act.put, fA, fB, fC, Nat.reduceAdd]))
      (apply ch_callN; rfl; rfl; (with_reducible rfl); decide +kernel; (focus (simp only [fD, List.map_cons, List.map_nil, Act.eval, fE, fF, fG, fH, Option.getD_some]; try rfl)); (intro _; rfl); (intro F w hS; exact listF hS); (simp only [Act.put, fA, fB, fC, Nat.reduceAdd]))
      (refine ch_pure rfl (by kernel_rfl) rfl rfl ?_; intro K hK; go_big_quiet_op; go_big_quiet_on)
      (apply ch_nil; rfl; kernel_rfl; (with_reducible rfl); rfl; rfl; (simp only [Act.put, fA, fB, fC, Nat.reduceAdd]))
      (refine ch_pure rfl (by kernel_rfl) rfl rfl ?_; intro K hK; go_big_quiet_op; go_big_quiet_on)
      (apply ch_ld1; rfl; kernel_rfl; (with_reducible rfl); rfl; rfl; decide +kernel; (intro F; first | exact Cell.here rfl | exact Cell.there (Cell.here rfl) | exact Cell.there (Cell.there (Cell.here rfl)) | exact Cell.there (Cell.there (Cell.there (Cell.here rfl))) | exact Cell.there (Cell.there (Cell.there (Cell.there (Cell.here rfl)))) | exact Cell.there (Cell.there (Cell.there (Cell.there (Cell.there (Cell.here rfl))))) | exact Cell.there (Cell.there (Cell.there (Cell.there (Cell.there (Cell.there (Cell.here rfl)))))) | assumption); (simp only [Act.put, fA, fB, fC, Nat.reduceAdd]))
      iterate 3 (refine ch_pure rfl (by kernel_rfl) rfl rfl ?_; intro K hK; go_big_quiet_op; go_big_quiet_on)
      refine ch_end ?_
      clear hS
      intro w hS
      have hS2 : St W [liR bb L n (nd 5), blk vb _ _, amap eS eP mb p, row u5 5 _ _ _, sats R] w := hS
      clear hS
      have hS := hS2.unpack [_, _, _, _]
      clear hS2
      simp only [List.cons_append, List.nil_append] at hS
      generalize nd 5 = v5 at *
      obtain ⟨a2, c2, rfl, hS5⟩ := liOpen hS
      clear hS
      have hv := hS5.drop.drop.drop.drop.rowVal
      obtain ⟨a, c, rfl⟩ := hv
      clear hS
      have hS := hS5
      clear hS5
      go_wp2_with fail
      go_ret3
      exact ⟨a, c, a2, c2, rfl, hS.sel (by (repeat' (first | (with_reducible first | exact Sel.done Suf.refl | exact Sel.done (Suf.tail Suf.refl) | exact Sel.done (Suf.tail (Suf.tail Suf.refl)) | exact Sel.done (Suf.tail (Suf.tail (Suf.tail Suf.refl))) | (apply Sel.done; (focus((repeat(first|exact Suf.refl | apply Suf.tail)); done)))) | (refine Sel.cons (by with_reducible (focus((repeat(first|exact .head|apply Take.tail));done))) ?_))))⟩
    · have hk1 : k < p.length := by omega
      have hks : k < (hdL p).length := by omega
      have hkk : k < (kL p).length := by omega
      have hx1 : ((sortB (p.map (·.1))).map eS)[k]? = some (.string (kL p)[k]) := by
        rw [List.getElem?_map]
        show ((kL p)[k]?).map eS = _
        rw [List.getElem?_eq_getElem hkk]; rfl
      have htk : ((hdL p).take (k + 1)).flatMap Hd.cells = ((hdL p).take k).flatMap Hd.cells ++ (Hd.mk (kL p)[k] (purseA p (kL p)[k])).cells := by
        rw [List.take_succ_eq_append_getElem hks, List.flatMap_append]
        simp [hdL]
      obtain ⟨⟨g2, rfl⟩, hcap, hcn⟩ := St.rowAddr hS.drop (by omega)
      obtain ⟨x, hx⟩ : ∃ x, purseA p (kL p)[k] = x := ⟨_, rfl⟩
      rw [hx] at htk
      generalize (kL p)[k] = key at hx htk hx1
      obtain ⟨x0, x1, x2, x3⟩ := x
      have Hx := Lib.hid hx
      have Htk := Lib.hid htk
      have HX := Lib.hid hx1
      clear hx htk hx1 hkn hkl hlk hlh hks hkk
      go_wp2_with (first | ((with_reducible apply wl_ld1 hS); (with_reducible rfl); rfl; rfl; decide +kernel; (exact Cell.there (Cell.row (by omega) HX.out)); (simp only [Act.put, fA, fB, fC, Nat.reduceAdd])) | ((with_reducible apply wl_alookU (ek := eS) (ev := eP) (k := key) it0 ⟨x0, x1, x2, x3⟩ hS); (with_reducible rfl); rfl; rfl; rfl; ((focus((repeat(first|exact .head|apply Take.tail));done))); exact mP; exact kS; exact zP; rfl; exact Hx.out; (simp only [Act.put, fA, fB, fC, Nat.reduceAdd, eP, It.cells])) | ((with_reducible apply wl_bs hS); (with_reducible rfl); rfl; (focus (simp only [fD, List.map_cons, List.map_nil, Act.eval, fE, fF, fG, fH, Option.getD_some]; try rfl)); (exact Ty.e56); (exact Ty.r94); rfl; rfl; rfl; rfl; clear hS; intro bS w hS; (simp only [Act.put, fA, fB, fC, Nat.reduceAdd])) | ((with_reducible apply wl_append hS); (with_reducible rfl); rfl; rfl; rfl; (exact Ty.e56); (exact Ty.r94); rfl; decide; ((focus((repeat(first|exact .head|apply Take.tail));done))); (exact Src.mk Cells.whole); (focus (try rfl)); rfl; (focus (unfold maxLen; omega)); (focus (omega)); clear hS; intro v w hS; (simp only [Act.put, fA, fB, fC, Nat.reduceAdd])) | ((with_reducible apply wl_ld1 hS); (with_reducible rfl); rfl; rfl; decide +kernel; (first | (focus((repeat(first|exact Cell.here rfl | apply Cell.there)); done)) | assumption); (simp only [Act.put, fA, fB, fC, Nat.reduceAdd])) | ((with_reducible apply wl_ldN hS); (with_reducible rfl); rfl; rfl; decide +kernel; (first | (focus((repeat(first|exact Cells.whole | apply Cells.there)); done)) | assumption); kernel_rfl; (simp only [Act.put, fA, fB, fC, Nat.reduceAdd])) | ((with_reducible apply wl_st1 hS); (with_reducible rfl); rfl; rfl; (focus ((conv => lhs; whnf); try rfl)); kernel_rfl; rfl; rfl; ((focus((repeat(first|exact Upd.head | apply Upd.tail)); done))); (simp only [List.length_cons, List.length_nil]; omega); ((simp only [List.set_cons_zero, List.set_cons_succ, setAll]); rfl); clear hS; intro w hS; try (simp only [Act.put, fA, fB, fC, Nat.reduceAdd])) | ((with_reducible apply wl_stN hS); (with_reducible rfl); rfl; rfl; (focus ((conv => lhs; whnf); try rfl)); kernel_rfl; rfl; ((focus((repeat(first|exact Upd.head | apply Upd.tail)); done))); (simp only [List.length_cons, List.length_nil]; omega); ((simp only [List.set_cons_zero, List.set_cons_succ, setAll]); rfl); clear hS; intro w hS; try (simp only [Act.put, fA, fB, fC, Nat.reduceAdd])) | ((with_reducible apply wl_box hS); (with_reducible rfl); rfl; rfl; rfl; clear hS; intro b w hS; (simp only [Act.put, fA, fB, fC, Nat.reduceAdd])) | ((with_reducible apply wl_alloc hS); (with_reducible rfl); rfl; (fail); clear hS; intro b w hS; (simp only [Act.put, fA, fB, fC, Nat.reduceAdd])))
      go_roundw
      case rel =>
        refine ⟨k + 1, rfl, hk1, ?_⟩
        rw [Htk.out]
        have h0 : St W (row v 5 94 (k + 1) (((hdL p).take k).flatMap Hd.cells ++ (Hd.mk key ⟨x0, x1, x2, x3⟩).cells) :: _) w := hS
        exact h0.sel (by (repeat' (first | (with_reducible first | exact Sel.done Suf.refl | exact Sel.done (Suf.tail Suf.refl) | exact Sel.done (Suf.tail (Suf.tail Suf.refl)) | exact Sel.done (Suf.tail (Suf.tail (Suf.tail Suf.refl))) | (apply Sel.done; (focus((repeat(first|exact Suf.refl | apply Suf.tail)); done)))) | (refine Sel.cons (by with_reducible (focus((repeat(first|exact .head|apply Take.tail));done))) ?_))))
      case measure => simp [intOf]; omega
end Go.Proofs.YtbcokphjpllbiaaGreat
end
section
set_option linter.unusedSimpArgs false
set_option linter.unusedVariables false
namespace Go.Proofs.YtbcokphjpllbiaaGreat
open Go.RowKit Go.Sl
/-- Where a purse stands, or would stand; is it there? -/
def spI : List Hd → ByteArray → Nat
  | [], _ => 0
  | h :: H, k => if Op.bytesLess h.who.toList k.toList = true then spI H k + 1 else 0
def spB : List Hd → ByteArray → Bool
  | [], _ => false
  | h :: H, k => if Op.bytesLess h.who.toList k.toList = true then spB H k else h.who.toList == k.toList
theorem spI_le : ∀ (H : List Hd) (k : ByteArray), spI H k ≤ H.length
  | [], _ => Nat.le_refl _
  | h :: H, k => by
    have := spI_le H k
    rw [spI, List.length_cons]
    split <;> omega
theorem spB_lt : ∀ (H : List Hd) (k : ByteArray), spB H k = true → spI H k < H.length
  | [], _, h => by cases h
  | x :: H, k, h => by
    rw [spB] at h
    rw [spI, List.length_cons]
    split
    · rename_i hc
      rw [if_pos hc] at h
      have := spB_lt H k h
      omega
    · omega
/-- The document's vault: its block, its row of purses. -/
abbrev xvL (xb : Nat) (v vB : Value) (n : Int) (H : List Hd) (R : List HP) : List HP := blk xb [v, vB, .int .i64 n] 65 :: hdR v H :: R
def SpR (W : World) (L : List HP) (H : List Hd) (k : ByteArray) (v : Value) (w : World) : Prop :=
  ∃ i : Nat, v = .int .i64 i ∧ i ≤ H.length ∧ spI H k = i + spI (H.drop i) k ∧ spB H k = spB (H.drop i) k ∧ St W L w
set_option maxRecDepth 100000 in
set_option maxHeartbeats 4000000 in
theorem spot_spec (H : List Hd) (k : ByteArray) (xb : Nat) (v vB : Value) (n : Int) (W w : World) (R : List HP) (hS : St W (xvL xb v vB n H R) w) :
    Calls Tryz.prog 72 #[.pointer (some ⟨xb, 0, none⟩), .string k] w fun e w' => e = .returned (.tuple #[.int .i64 (spI H k), .bool (spB H k)]) ∧ St W (xvL xb v vB n H R) w' := by
  obtain ⟨a, cap, rfl⟩ := hS.drop.rowVal
  have h63 : H.length ≤ 9223372036854775807 := by
    rcases St.rowCase hS.drop with ⟨_, h0, _⟩ | ⟨_, _, h1, h2⟩
    · omega
    · omega
  go_enter Tryz.func72, Tryz.ntmps72
  go_wp2_with fail
  go_loopw [6] (fun v wr => SpR W (xvL xb (.slice a H.length cap) vB n H R) H k v wr) (fun v _ => H.length - (intOf v).toNat)
  case atStart => exact ⟨0, rfl, Nat.zero_le _, by simp, rfl, hS⟩
  case round =>
    clear hS
    obtain ⟨i, rfl, hil, e1, e2, hS⟩ := hrel
    by_cases hin : i = H.length
    · subst hin
      rw [List.drop_length] at e1 e2
      have E1 := Lib.hid (show spI H k = H.length from e1)
      have E2 := Lib.hid (show spB H k = false from e2)
      clear e1 e2
      go_wp2_with (first | go_big_skip | ((with_reducible apply wl_ld1 hS); (with_reducible rfl); rfl; rfl; decide +kernel; (first | (focus((repeat(first|exact Cell.here rfl | apply Cell.there)); done)) | assumption); (simp only [Act.put, fA, fB, fC, Nat.reduceAdd])))
      go_ret2
      rw [E1.out, E2.out]
      exact ⟨rfl, hS⟩
    · have hi1 : i < H.length := by omega
      obtain ⟨⟨g, rfl⟩, hcap, hcn⟩ := St.rowAddr hS.drop (by omega)
      have hname : ∀ {K K' : List HP}, Take K (hdR (.slice (some ⟨g, 0, none⟩) H.length cap) H) K' → Cell K g (i * 5) (.string H[i].who) := fun hu => Cells.elemM (enc := Hd.cells) Hd.len hu hi1 0 _ rfl
      have hdr : H.drop i = H[i] :: H.drop (i + 1) := List.drop_eq_getElem_cons hi1
      rw [hdr] at e1 e2
      generalize H[i] = x at hname e1 e2
      obtain ⟨xw, xi⟩ := x
      simp only at hname
      rw [spI] at e1
      rw [spB] at e2
      simp only at e1 e2
      clear hdr
      cases hb : Op.bytesLess xw.toList k.toList with
      | true =>
        rw [if_pos hb] at e1 e2
        have E1 := Lib.hid e1
        have E2 := Lib.hid e2
        clear e1 e2
        go_wp2_with (first | go_big_skip | ((with_reducible apply wl_ld1 hS); (with_reducible rfl); rfl; rfl; decide +kernel; (first | (focus((repeat(first|exact Cell.here rfl | apply Cell.there)); done)) | assumption); (simp only [Act.put, fA, fB, fC, Nat.reduceAdd])) | ((with_reducible apply wl_ld1 hS); (with_reducible rfl); rfl; rfl; decide +kernel; (exact hname (by (focus((repeat(first|exact .head|apply Take.tail));done)))); (simp only [Act.put, fA, fB, fC, Nat.reduceAdd])))
        go_roundw
        case rel => exact ⟨i + 1, rfl, hi1, by rw [E1.out]; omega, E2.out, hS⟩
        case measure => simp [intOf]; omega
      | false =>
        rw [if_neg (by rw [hb]; simp)] at e1 e2
        have E1 := Lib.hid (show spI H k = i from e1)
        have E2 := Lib.hid e2
        clear e1 e2
        go_wp2_with (first | go_big_skip | ((with_reducible apply wl_ld1 hS); (with_reducible rfl); rfl; rfl; decide +kernel; (first | (focus((repeat(first|exact Cell.here rfl | apply Cell.there)); done)) | assumption); (simp only [Act.put, fA, fB, fC, Nat.reduceAdd])) | ((with_reducible apply wl_ld1 hS); (with_reducible rfl); rfl; rfl; decide +kernel; (exact hname (by (focus((repeat(first|exact .head|apply Take.tail));done)))); (simp only [Act.put, fA, fB, fC, Nat.reduceAdd])))
        refine wp_region_reads (by kernel_rfl) (by kernel_rfl) hS ?_
        iterate 2 (refine wq_pure rfl rfl ?_; intro K hK; go_big_quiet_op; go_big_quiet_on)
        (apply wq_nil; (with_reducible rfl); rfl; rfl; (simp only [Act.put, fA, fB, fC, Nat.reduceAdd]))
        (refine wq_pure rfl rfl ?_; intro K hK; go_big_quiet_op; go_big_quiet_on)
        (apply wq_ld1; (with_reducible rfl); rfl; rfl; decide +kernel; (first | (focus((repeat(first|exact Cell.here rfl | apply Cell.there)); done)) | assumption); (simp only [Act.put, fA, fB, fC, Nat.reduceAdd]))
        iterate 3 (refine wq_pure rfl rfl ?_; intro K hK; go_big_quiet_op; go_big_quiet_on)
        (apply wq_ld1; (with_reducible rfl); rfl; rfl; decide +kernel; (exact hname (by (focus((repeat(first|exact .head|apply Take.tail));done)))); (simp only [Act.put, fA, fB, fC, Nat.reduceAdd]))
        iterate 4 (refine wq_pure rfl rfl ?_; intro K hK; go_big_quiet_op; go_big_quiet_on)
        clear hS
        intro w hS
        go_wp2_with fail
        go_ret2
        rw [E1.out, E2.out]
        exact ⟨rfl, hS⟩
theorem spot_at {H : List Hd} {k : ByteArray} {p : Nat} {b : Bool} (h1 : spI H k = p) (h2 : spB H k = b) (xb : Nat) (v vB : Value) (n : Int) (W w : World) (R : List HP) (hS : St W (xvL xb v vB n H R) w) :
    Calls Tryz.prog 72 #[.pointer (some ⟨xb, 0, none⟩), .string k] w fun e w' => e = .returned (.tuple #[.int .i64 p, .bool b]) ∧ St W (xvL xb v vB n H R) w' :=
  (spot_spec H k xb v vB n W w R hS).mono fun e w' ⟨he, hS⟩ => ⟨by rw [he, h1, h2], hS⟩
def hasH (H : List Hd) (k : ByteArray) : It := if spB H k = true then (H.getD (spI H k) ⟨⟨#[]⟩, it0⟩).has else it0
set_option maxRecDepth 100000 in
set_option maxHeartbeats 4000000 in
theorem has8 (H : List Hd) (k : ByteArray) (xb : Nat) (v vB : Value) (n : Int) (W w : World) (R : List HP) (hS : St W (xvL xb v vB n H R) w) :
    Calls Tryz.prog 24 #[.pointer (some ⟨xb, 0, none⟩), .string k] w fun e w' => e = .returned (eP (hasH H k)) ∧ St W (xvL xb v vB n H R) w' := by
  obtain ⟨a, cap, rfl⟩ := hS.drop.rowVal
  unfold hasH
  cases hb : spB H k with
  | false =>
    obtain ⟨p, hp⟩ : ∃ p, spI H k = p := ⟨_, rfl⟩
    have Hp := Lib.hid hp
    have Hb := Lib.hid hb
    clear hp hb
    rw [if_neg (by simp)]
    go_enter Tryz.func24, Tryz.ntmps24
    go_wp2_with (first | go_big_skip | (go_at_call 72; refine (spot_at Hp.out Hb.out xb _ vB n W _ (_ :: R) (hS.sel (L' := blk xb _ _ :: hdR _ H :: blk b _ _ :: R) (by (repeat' (first | (with_reducible first | exact Sel.done Suf.refl | exact Sel.done (Suf.tail Suf.refl) | exact Sel.done (Suf.tail (Suf.tail Suf.refl)) | exact Sel.done (Suf.tail (Suf.tail (Suf.tail Suf.refl))) | (apply Sel.done; (focus((repeat(first|exact Suf.refl | apply Suf.tail)); done)))) | (refine Sel.cons (by with_reducible (focus((repeat(first|exact .head|apply Take.tail));done))) ?_)))))).mono ?_; clear hS; rintro e w ⟨rfl, hS⟩) | ((with_reducible apply wl_ld1 hS); (with_reducible rfl); rfl; rfl; decide +kernel; (first | (focus((repeat(first|exact Cell.here rfl | apply Cell.there)); done)) | assumption); (simp only [Act.put, fA, fB, fC, Nat.reduceAdd])) | ((with_reducible apply wl_ldN hS); (with_reducible rfl); rfl; rfl; decide +kernel; (first | (focus((repeat(first|exact Cells.whole | apply Cells.there)); done)) | assumption); kernel_rfl; (simp only [Act.put, fA, fB, fC, Nat.reduceAdd])) | ((with_reducible apply wl_st1 hS); (with_reducible rfl); rfl; rfl; (focus ((conv => lhs; whnf); try rfl)); kernel_rfl; rfl; rfl; ((focus((repeat(first|exact Upd.head | apply Upd.tail)); done))); (simp only [List.length_cons, List.length_nil]; omega); ((simp only [List.set_cons_zero, List.set_cons_succ, setAll]); rfl); clear hS; intro w hS; try (simp only [Act.put, fA, fB, fC, Nat.reduceAdd])) | ((with_reducible apply wl_stN hS); (with_reducible rfl); rfl; rfl; (focus ((conv => lhs; whnf); try rfl)); kernel_rfl; rfl; ((focus((repeat(first|exact Upd.head | apply Upd.tail)); done))); (simp only [List.length_cons, List.length_nil]; omega); ((simp only [List.set_cons_zero, List.set_cons_succ, setAll]); rfl); clear hS; intro w hS; try (simp only [Act.put, fA, fB, fC, Nat.reduceAdd])) | ((with_reducible apply wl_box hS); (with_reducible rfl); rfl; rfl; rfl; clear hS; intro b w hS; (simp only [Act.put, fA, fB, fC, Nat.reduceAdd])) | ((with_reducible apply wl_alloc hS); (with_reducible rfl); rfl; (exact Ty.z39); clear hS; intro b w hS; (simp only [Act.put, fA, fB, fC, Nat.reduceAdd])))
    (apply bp_cell; rfl; rfl; rfl; exact hS; decide +kernel; (first | (focus((repeat(first|exact Cells.whole | apply Cells.there)); done)) | assumption); kernel_rfl)
    exact ⟨rfl, hS.sel (by (repeat' (first | (with_reducible first | exact Sel.done Suf.refl | exact Sel.done (Suf.tail Suf.refl) | exact Sel.done (Suf.tail (Suf.tail Suf.refl)) | exact Sel.done (Suf.tail (Suf.tail (Suf.tail Suf.refl))) | (apply Sel.done; (focus((repeat(first|exact Suf.refl | apply Suf.tail)); done)))) | (refine Sel.cons (by with_reducible (focus((repeat(first|exact .head|apply Take.tail));done))) ?_))))⟩
  | true =>
    rw [if_pos rfl]
    have hlt := spB_lt H k hb
    obtain ⟨p, hp⟩ : ∃ p, spI H k = p := ⟨_, rfl⟩
    rw [hp] at hlt ⊢
    have Hp := Lib.hid hp
    have Hb := Lib.hid hb
    clear hp hb
    obtain ⟨⟨g, rfl⟩, hcap, hcn⟩ := St.rowAddr hS.drop (by omega)
    have hitems : ∀ {K K' : List HP}, Take K (hdR (.slice (some ⟨g, 0, none⟩) H.length cap) H) K' → Cells K g (p * 5 + 1) (H[p].has.cells) := fun hu j v hj => by
      have h1 := Cells.elemM (enc := Hd.cells) Hd.len hu hlt (1 + j) v (by rw [Nat.add_comm]; exact hj)
      rwa [← Nat.add_assoc] at h1
    have e : H.getD p ⟨⟨#[]⟩, it0⟩ = H[p] := by simp [List.getD_eq_getElem?_getD, List.getElem?_eq_getElem hlt]
    rw [e]
    clear e
    generalize H[p] = x at hitems
    obtain ⟨xw, ⟨x0, x1, x2, x3⟩⟩ := x
    simp only [It.cells] at hitems
    go_enter Tryz.func24, Tryz.ntmps24
    go_wp2_with (first | go_big_skip | (go_at_call 72; refine (spot_at Hp.out Hb.out xb _ vB n W _ (_ :: R) (hS.sel (L' := blk xb _ _ :: hdR _ H :: blk b _ _ :: R) (by (repeat' (first | (with_reducible first | exact Sel.done Suf.refl | exact Sel.done (Suf.tail Suf.refl) | exact Sel.done (Suf.tail (Suf.tail Suf.refl)) | exact Sel.done (Suf.tail (Suf.tail (Suf.tail Suf.refl))) | (apply Sel.done; (focus((repeat(first|exact Suf.refl | apply Suf.tail)); done)))) | (refine Sel.cons (by with_reducible (focus((repeat(first|exact .head|apply Take.tail));done))) ?_)))))).mono ?_; clear hS; rintro e w ⟨rfl, hS⟩) | ((with_reducible apply wl_ld1 hS); (with_reducible rfl); rfl; rfl; decide +kernel; (first | (focus((repeat(first|exact Cell.here rfl | apply Cell.there)); done)) | assumption); (simp only [Act.put, fA, fB, fC, Nat.reduceAdd])) | ((with_reducible apply wl_ldN hS); (with_reducible rfl); rfl; rfl; decide +kernel; (exact hitems (by (focus((repeat(first|exact .head|apply Take.tail));done)))); kernel_rfl; (simp only [Act.put, fA, fB, fC, Nat.reduceAdd])) | ((with_reducible apply wl_stN hS); (with_reducible rfl); rfl; rfl; (focus ((conv => lhs; whnf); try rfl)); kernel_rfl; rfl; ((focus((repeat(first|exact Upd.head | apply Upd.tail)); done))); (simp only [List.length_cons, List.length_nil]; omega); ((simp only [List.set_cons_zero, List.set_cons_succ, setAll]); rfl); clear hS; intro w hS; try (simp only [Act.put, fA, fB, fC, Nat.reduceAdd])) | ((with_reducible apply wl_alloc hS); (with_reducible rfl); rfl; (exact Ty.z39); clear hS; intro b w hS; (simp only [Act.put, fA, fB, fC, Nat.reduceAdd])))
    (apply bp_cell; rfl; rfl; rfl; exact hS; decide +kernel; (first | (focus((repeat(first|exact Cells.whole | apply Cells.there)); done)) | assumption); kernel_rfl)
    exact ⟨rfl, hS.sel (by (repeat' (first | (with_reducible first | exact Sel.done Suf.refl | exact Sel.done (Suf.tail Suf.refl) | exact Sel.done (Suf.tail (Suf.tail Suf.refl)) | exact Sel.done (Suf.tail (Suf.tail (Suf.tail Suf.refl))) | (apply Sel.done; (focus((repeat(first|exact Suf.refl | apply Suf.tail)); done)))) | (refine Sel.cons (by with_reducible (focus((repeat(first|exact .head|apply Take.tail));done))) ?_))))⟩
end Go.Proofs.YtbcokphjpllbiaaGreat
end
