/-
  The document's book: which two meet, where the best one stands. For every row of orders.
  The document's book: an order goes out of its row; how a row's parts are sources of append. For every row of orders.
  The document's Place: what it computes. For every row of orders and every order.
  A slice of structs that comes in as an argument. For every slice.
-/
import Derived.Test.YtbcokphjpllbiaaGreatVaultDecodesM1
import Derived.Test.YtbcokphjpllbiaaGreatVaultDecodesM5
import Derived.Test.YtbcokphjpllbiaaGreatVaultDecodesM12
import Derived.Test.YtbcokphjpllbiaaGreatVaultDecodesM13
import Derived.Deep.LoopGhost
import Derived.OwnWalk
import Derived.Test.YtbcokphjpllbiaaGreatRows
import Derived.Lib.SmallJoins
import Derived.ChangeArms
import Derived.ProofKit
import Derived.Deep.Slices
import Derived.Deep.Fields
import Derived.ChangeSame
section
set_option linter.unusedSimpArgs false
set_option linter.unusedVariables false
namespace Go.Proofs.YtbcokphjpllbiaaGreat
open Go.RowKit Go.Sl
set_option maxHeartbeats 1000000 in
theorem meetR_spec (o s : Ord) (W w : World) (L : List HP) (hS : St W L w) :
    Calls Tryz.prog 107 #[.agg o.cells.toArray, .agg s.cells.toArray] w fun e w' => e = .returned (.bool (meetR o s)) ∧ St W L w' := by
  obtain ⟨i, u, y, t, c, p⟩ := o
  obtain ⟨i', u', y', t', c', p'⟩ := s
  simp only [Ord.cells]
  by_cases ht : t = t'
  · subst ht
    cases y <;> cases y'
    all_goals go_enter Tryz.func107, Tryz.ntmps107
    all_goals go_wp2_with (first | (refine zbx hS ?_; clear hS; intro b w hS) | (refine zl1 hS ?_) | (refine zlN hS ?_))
    all_goals go_ret
    all_goals exact ⟨by simp [meetR], hS.drop.drop⟩
  · have ht2 : (t != t') = true := by simpa using ht
    have ht3 : (t == t') = false := by simpa using ht
    go_enter Tryz.func107, Tryz.ntmps107
    go_wp2_with (first | (refine zbx hS ?_; clear hS; intro b w hS) | (refine zl1 hS ?_) | (refine zlN hS ?_))
    all_goals go_ret
    all_goals exact ⟨by simp [meetR, ht], hS.drop.drop⟩
theorem meetR_at {o s : Ord} {r : Bool} (h : meetR o s = r) (W w : World) (L : List HP) (hS : St W L w) :
    Calls Tryz.prog 107 #[.agg o.cells.toArray, .agg s.cells.toArray] w fun e w' => e = .returned (.bool r) ∧ St W L w' := h ▸ meetR_spec o s W w L hS
def kI : Option Nat → Int
  | none => -1
  | some k => k
def BestR (W : World) (Lr : List HP) (o : Ord) (L : List Ord) (v5 v6 : Value) (w : World) : Prop :=
  ∃ i : Nat, v5 = .int .i64 (kI (bestTo o L i)) ∧ v6 = .int .i64 i ∧ i ≤ L.length ∧ St W Lr w
theorem bestTo_no {o : Ord} {L : List Ord} {i : Nat} (h : meetR o (at' L i) = false) : bestTo o L (i + 1) = bestTo o L i := by
  rw [bestTo, h]; rfl
theorem bestTo_yes {o : Ord} {L : List Ord} {i : Nat} (h : meetR o (at' L i) = true) (hg : goodR o L i (bestTo o L i) = true) : bestTo o L (i + 1) = some i := by
  rw [bestTo, h, hg]; rfl
theorem bestTo_old {o : Ord} {L : List Ord} {i : Nat} (hg : goodR o L i (bestTo o L i) = false) : bestTo o L (i + 1) = bestTo o L i := by
  rw [bestTo, hg]; simp
set_option maxRecDepth 100000 in
set_option maxHeartbeats 8000000 in
theorem best_ref (o : Ord) (L : List Ord) (xb : Nat) (last : Int) (v : Value) (hlen : L.length ≤ 32) (W w : World) (Lr : List HP) (hS : St W (blk xb [v, .int .i64 last] 68 :: pileR v L :: Lr) w) :
    Calls Tryz.prog 88 #[.pointer (some ⟨xb, 0, none⟩), .agg o.cells.toArray] w fun e w' => e = .returned (.int .i64 (kI (bestTo o L L.length))) ∧ St W (blk xb [v, .int .i64 last] 68 :: pileR v L :: Lr) w' := by
  obtain ⟨a, cap, rfl⟩ := hS.drop.rowVal
  obtain ⟨i, u, y, t, c, p⟩ := o
  simp only [Ord.cells]
  go_enter Tryz.func88, Tryz.ntmps88
  go_wp2_with (first | (refine zbx hS ?_; clear hS; intro b w hS) | (refine zl1 hS ?_) | (refine zlN hS ?_))
  go_loopw [5, 6] (fun v5 v6 wr => BestR W (blk b [.int .i64 i, .string u, .bool y, .int .i64 t, .int .i64 c, .int .i64 p] 41 :: blk xb [.slice a L.length cap, .int .i64 last] 68 :: pileR (.slice a L.length cap) L :: Lr) ⟨i, u, y, t, c, p⟩ L v5 v6 wr) (fun _ v _ => L.length - (intOf v).toNat)
  case atStart => exact ⟨0, rfl, rfl, by omega, hS⟩
  case round =>
    clear hS
    obtain ⟨j, rfl, rfl, hj, hS⟩ := hrel
    by_cases hjn : j = L.length
    · subst hjn
      go_wp2_with (first | (refine zbx hS ?_; clear hS; intro b w hS) | (refine zl1 hS ?_) | (refine zlN hS ?_))
      go_ret
      exact ⟨rfl, hS.drop⟩
    · have hil : j < L.length := by omega
      clear hjn hj
      obtain ⟨⟨g, rfl⟩, hcap, hcn⟩ := St.rowAddr hS.drop.drop (by omega)
      have f5 : (Ord.cells L[j])[5]? = some (.int .i64 L[j].price) := rfl
      cases hm : meetR ⟨i, u, y, t, c, p⟩ L[j]
      · have hb := bestTo_no (i := j) (by rw [at'_get hil]; exact hm)
        go_wp2_with (first | (refine zbx hS ?_; clear hS; intro b w hS) | (refine zl1 hS ?_) | (refine zlN hS ?_))
        refine wp_region_flow3 [0, 0, 2, 6, 14, 0, 62, 126, 255, 511] (fun _ => false) (fun i => if i == 8 then some (.bool false) else none) [] [none, none, none] (by kernel_rfl) (by kernel_rfl) rfl hS CongOk.nil ?_
        intro nd
        (refine zcN ?_)
        (refine ch_pure rfl (by kernel_rfl) rfl rfl ?_; intro K hK; go_big_quiet_op; go_big_quiet_on)
        (refine zcn ?_)
        (refine ch_pure rfl (by kernel_rfl) rfl rfl ?_; intro K hK; go_big_quiet_op; go_big_quiet_on)
        (refine zc1 ?_)
        iterate 2 (refine ch_pure rfl (by kernel_rfl) rfl rfl ?_; intro K hK; go_big_quiet_op; go_big_quiet_on)
        (refine zcN ?_ (hc := by (intro F; exact Cells.there (Cells.there (Cells.rowE Ord.len hil)))))
        (refine zcv ?_ (hs := by (intro F w hS; (try clear hS0); exact meetR_at hm W w _ hS)))
        (refine ch_pure rfl (by kernel_rfl) rfl rfl ?_; intro K hK; go_big_quiet_op; go_big_quiet_on)
        refine ch_end ?_
        clear hS
        intro w hS
        have hS2 : St W [blk b _ _, blk xb _ _, pileR _ _, sats _] w := hS
        clear hS
        have hS := hS2.unpack [_, _, _]
        clear hS2
        simp only [List.cons_append, List.nil_append] at hS
        go_wp2_with (first | (refine zbx hS ?_; clear hS; intro b w hS) | (refine zl1 hS ?_) | (refine zlN hS ?_))
        go_roundw
        case rel => exact ⟨j + 1, by rw [hb], rfl, hil, hS⟩
        case measure => simp [intOf]; omega
      · have hm' : meetR ⟨i, u, y, t, c, p⟩ (at' L j) = true := by rw [at'_get hil]; exact hm
        cases hbt : bestTo ⟨i, u, y, t, c, p⟩ L j with
        | none =>
          have hb := bestTo_yes hm' (by rw [hbt]; rfl)
          have hk1 : kI (none : Option Nat) = -1 := rfl
          go_wp2_with (first | (refine zbx hS ?_; clear hS; intro b w hS) | (refine zl1 hS ?_) | (refine zlN hS ?_))
          refine wp_region_flow3 [0, 0, 2, 6, 14, 0, 62, 126, 255, 511] (fun _ => false) (fun i => if i == 8 then some (.bool true) else none) [] [none, none, none] (by kernel_rfl) (by kernel_rfl) rfl hS CongOk.nil ?_
          intro nd
          (refine zcN ?_)
          (refine ch_pure rfl (by kernel_rfl) rfl rfl ?_; intro K hK; go_big_quiet_op; go_big_quiet_on)
          (refine zcn ?_)
          (refine ch_pure rfl (by kernel_rfl) rfl rfl ?_; intro K hK; go_big_quiet_op; go_big_quiet_on)
          (refine zc1 ?_)
          iterate 2 (refine ch_pure rfl (by kernel_rfl) rfl rfl ?_; intro K hK; go_big_quiet_op; go_big_quiet_on)
          (refine zcN ?_ (hc := by (intro F; exact Cells.there (Cells.there (Cells.rowE Ord.len hil)))))
          (refine zcv ?_ (hs := by (intro F w hS; (try clear hS0); exact meetR_at hm W w _ hS)))
          (refine ch_pure rfl (by kernel_rfl) rfl rfl ?_; intro K hK; go_big_quiet_op; go_big_quiet_on)
          refine ch_end ?_
          clear hS
          intro w hS
          have hS2 : St W [blk b _ _, blk xb _ _, pileR _ _, sats _] w := hS
          clear hS
          have hS := hS2.unpack [_, _, _]
          clear hS2
          simp only [List.cons_append, List.nil_append] at hS
          go_wp2_with (first | (refine zbx hS ?_; clear hS; intro b w hS) | (refine zl1 hS ?_) | (refine zlN hS ?_))
          refine wp_region_flow2 [0, 1, 3, 7, 15, 31, 63, 127, 255, 511, 63, 2047, 4095, 8191, 63, 16447, 49215, 114751, 63, 507967, 1032255, 2080831, 4194303, 8388607, 16777215, 33554431, 67108863, 134217727, 268435455, 536870911, 1073741823, 2147483647, 4294967295, 8589934591, 1073741823, 34359738367, 68719476735, 137438953471, 1073741823, 275951648767, 825707462655, 1925219090431, 1073741823, 8522288857087, 17318381879295, 34910567923711, 70368744177663, 140737488355327, 281474976710655] (fun _ => false) [] [none, none, none] (by kernel_rfl) (by kernel_rfl) rfl hS CongOk.nil ?_
          intro nd
          iterate 3 (refine ch_pure rfl (by kernel_rfl) rfl rfl ?_; intro K hK; go_big_quiet_op; go_big_quiet_on)
          iterate 21 (refine ch_skip (by kernel_rfl) rfl ?_; (refine frS ?_))
          iterate 2 (refine ch_pure rfl (by kernel_rfl) rfl rfl ?_; intro K hK; go_big_quiet_op; go_big_quiet_on)
          iterate 22 (refine ch_skip (by kernel_rfl) rfl ?_; (refine frS ?_))
          (refine ch_pure rfl (by kernel_rfl) rfl rfl ?_; intro K hK; go_big_quiet_op; go_big_quiet_on)
          refine ch_end ?_
          clear hS
          intro w hS
          have hS2 : St W [blk b _ _, blk xb _ _, pileR _ _, sats _] w := hS
          clear hS
          have hS := hS2.unpack [_, _, _]
          clear hS2
          simp only [List.cons_append, List.nil_append] at hS
          go_wp2_with (first | (refine zbx hS ?_; clear hS; intro b w hS) | (refine zl1 hS ?_) | (refine zlN hS ?_))
          go_roundw
          case rel => exact ⟨j + 1, by rw [hb]; rfl, rfl, hil, hS⟩
          case measure => simp [intOf]; omega
        | some k =>
          have hkj := (best_some hbt).1
          have hkl : k < L.length := by omega
          have hk1 : kI (some k) = (k : Int) := rfl
          have g5 : (Ord.cells L[k])[5]? = some (.int .i64 L[k].price) := rfl
          have hgd : goodR ⟨i, u, y, t, c, p⟩ L j (some k) = betterR ⟨i, u, y, t, c, p⟩ L[j] L[k] := by show betterR _ (at' L j) (at' L k) = _; rw [at'_get hil, at'_get hkl]
          unfold betterR at hgd
          generalize L[j].price = pj at f5 hgd
          generalize L[k].price = pk at g5 hgd
          cases y
          · simp only [Bool.false_eq_true, if_false] at hgd
            by_cases hlt : pk < pj
            · have hb := bestTo_yes hm' (by rw [hbt, hgd]; simpa using hlt)
              have hd : decide (pk < pj) = true := by simpa using hlt
              go_wp2_with (first | (refine zbx hS ?_; clear hS; intro b w hS) | (refine zl1 hS ?_) | (refine zlN hS ?_))
              refine wp_region_flow3 [0, 0, 2, 6, 14, 0, 62, 126, 255, 511] (fun _ => false) (fun i => if i == 8 then some (.bool true) else none) [] [none, none, none] (by kernel_rfl) (by kernel_rfl) rfl hS CongOk.nil ?_
              intro nd
              (refine zcN ?_)
              (refine ch_pure rfl (by kernel_rfl) rfl rfl ?_; intro K hK; go_big_quiet_op; go_big_quiet_on)
              (refine zcn ?_)
              (refine ch_pure rfl (by kernel_rfl) rfl rfl ?_; intro K hK; go_big_quiet_op; go_big_quiet_on)
              (refine zc1 ?_)
              iterate 2 (refine ch_pure rfl (by kernel_rfl) rfl rfl ?_; intro K hK; go_big_quiet_op; go_big_quiet_on)
              (refine zcN ?_ (hc := by (intro F; exact Cells.there (Cells.there (Cells.rowE Ord.len hil)))))
              (refine zcv ?_ (hs := by (intro F w hS; (try clear hS0); exact meetR_at hm W w _ hS)))
              (refine ch_pure rfl (by kernel_rfl) rfl rfl ?_; intro K hK; go_big_quiet_op; go_big_quiet_on)
              refine ch_end ?_
              clear hS
              intro w hS
              have hS2 : St W [blk b _ _, blk xb _ _, pileR _ _, sats _] w := hS
              clear hS
              have hS := hS2.unpack [_, _, _]
              clear hS2
              simp only [List.cons_append, List.nil_append] at hS
              go_wp2_with (first | (refine zbx hS ?_; clear hS; intro b w hS) | (refine zl1 hS ?_) | (refine zlN hS ?_))
              refine wp_region_flow2 [0, 1, 3, 7, 15, 31, 63, 127, 255, 511, 63, 2047, 4095, 8191, 63, 16447, 49215, 114751, 63, 507967, 1032255, 2080831, 4194303, 8388607, 16777215, 33554431, 67108863, 134217727, 268435455, 536870911, 1073741823, 2147483647, 4294967295, 8589934591, 1073741823, 34359738367, 68719476735, 137438953471, 1073741823, 275951648767, 825707462655, 1925219090431, 1073741823, 8522288857087, 17318381879295, 34910567923711, 70368744177663, 140737488355327, 281474976710655] (fun _ => false) [] [none, none, none] (by kernel_rfl) (by kernel_rfl) rfl hS CongOk.nil ?_
              intro nd
              iterate 3 (refine ch_pure rfl (by kernel_rfl) rfl rfl ?_; intro K hK; go_big_quiet_op; go_big_quiet_on)
              (refine ch_pure rfl (by kernel_rfl) rfl rfl ?_; intro K hK; go_big_quiet_op; go_big_quiet_on)
              (refine zc1 ?_)
              (refine ch_pure rfl (by kernel_rfl) rfl rfl ?_; intro K hK; go_big_quiet_op; go_big_quiet_on)
              iterate 17 (refine ch_skip (by kernel_rfl) rfl ?_; (refine frS ?_))
              iterate 4 (refine ch_pure rfl (by kernel_rfl) rfl rfl ?_; intro K hK; go_big_quiet_op; go_big_quiet_on)
              (refine zc1 ?_)
              iterate 2 (refine ch_pure rfl (by kernel_rfl) rfl rfl ?_; intro K hK; go_big_quiet_op; go_big_quiet_on)
              iterate 1 (refine ch_pure rfl (by kernel_rfl) rfl rfl ?_; intro K hK; go_big_quiet_op; go_big_quiet_on)
              (refine zcn ?_)
              (refine ch_pure rfl (by kernel_rfl) rfl rfl ?_; intro K hK; go_big_quiet_op; go_big_quiet_on)
              (refine zc1 ?_)
              iterate 3 (refine ch_pure rfl (by kernel_rfl) rfl rfl ?_; intro K hK; go_big_quiet_op; go_big_quiet_on)
              (refine zc1 ?_ (hc := by (intro F; exact Cell.there (Cell.there (Cell.rowE Ord.len hil f5)))))
              (refine ch_pure rfl (by kernel_rfl) rfl rfl ?_; intro K hK; go_big_quiet_op; go_big_quiet_on)
              (refine zcn ?_)
              (refine ch_pure rfl (by kernel_rfl) rfl rfl ?_; intro K hK; go_big_quiet_op; go_big_quiet_on)
              (refine zc1 ?_)
              iterate 3 (refine ch_pure rfl (by kernel_rfl) rfl rfl ?_; intro K hK; go_big_quiet_op; go_big_quiet_on)
              (refine zc1 ?_ (hc := by (intro F; exact Cell.there (Cell.there (Cell.rowE Ord.len hkl g5)))))
              (refine ch_pure rfl (by kernel_rfl) rfl rfl ?_; intro K hK; go_big_quiet_op; go_big_quiet_on)
              iterate 2 (refine ch_pure rfl (by kernel_rfl) rfl rfl ?_; intro K hK; go_big_quiet_op; go_big_quiet_on)
              refine ch_end ?_
              clear hS
              intro w hS
              have hS2 : St W [blk b _ _, blk xb _ _, pileR _ _, sats _] w := hS
              clear hS
              have hS := hS2.unpack [_, _, _]
              clear hS2
              simp only [List.cons_append, List.nil_append] at hS
              go_wp2_with (first | (refine zbx hS ?_; clear hS; intro b w hS) | (refine zl1 hS ?_) | (refine zlN hS ?_))
              go_roundw
              case rel => exact ⟨j + 1, by rw [hb]; rfl, rfl, hil, hS⟩
              case measure => simp [intOf]; omega
            · have hb := bestTo_old (i := j) (o := ⟨i, u, false, t, c, p⟩) (L := L) (by rw [hbt, hgd]; simpa using hlt)
              have hd : decide (pk < pj) = false := by simpa using hlt
              go_wp2_with (first | (refine zbx hS ?_; clear hS; intro b w hS) | (refine zl1 hS ?_) | (refine zlN hS ?_))
              refine wp_region_flow3 [0, 0, 2, 6, 14, 0, 62, 126, 255, 511] (fun _ => false) (fun i => if i == 8 then some (.bool true) else none) [] [none, none, none] (by kernel_rfl) (by kernel_rfl) rfl hS CongOk.nil ?_
              intro nd
              (refine zcN ?_)
              (refine ch_pure rfl (by kernel_rfl) rfl rfl ?_; intro K hK; go_big_quiet_op; go_big_quiet_on)
              (refine zcn ?_)
              (refine ch_pure rfl (by kernel_rfl) rfl rfl ?_; intro K hK; go_big_quiet_op; go_big_quiet_on)
              (refine zc1 ?_)
              iterate 2 (refine ch_pure rfl (by kernel_rfl) rfl rfl ?_; intro K hK; go_big_quiet_op; go_big_quiet_on)
              (refine zcN ?_ (hc := by (intro F; exact Cells.there (Cells.there (Cells.rowE Ord.len hil)))))
              (refine zcv ?_ (hs := by (intro F w hS; (try clear hS0); exact meetR_at hm W w _ hS)))
              (refine ch_pure rfl (by kernel_rfl) rfl rfl ?_; intro K hK; go_big_quiet_op; go_big_quiet_on)
              refine ch_end ?_
              clear hS
              intro w hS
              have hS2 : St W [blk b _ _, blk xb _ _, pileR _ _, sats _] w := hS
              clear hS
              have hS := hS2.unpack [_, _, _]
              clear hS2
              simp only [List.cons_append, List.nil_append] at hS
              go_wp2_with (first | (refine zbx hS ?_; clear hS; intro b w hS) | (refine zl1 hS ?_) | (refine zlN hS ?_))
              refine wp_region_flow2 [0, 1, 3, 7, 15, 31, 63, 127, 255, 511, 63, 2047, 4095, 8191, 63, 16447, 49215, 114751, 63, 507967, 1032255, 2080831, 4194303, 8388607, 16777215, 33554431, 67108863, 134217727, 268435455, 536870911, 1073741823, 2147483647, 4294967295, 8589934591, 1073741823, 34359738367, 68719476735, 137438953471, 1073741823, 275951648767, 825707462655, 1925219090431, 1073741823, 8522288857087, 17318381879295, 34910567923711, 70368744177663, 140737488355327, 281474976710655] (fun _ => false) [] [none, none, none] (by kernel_rfl) (by kernel_rfl) rfl hS CongOk.nil ?_
              intro nd
              iterate 3 (refine ch_pure rfl (by kernel_rfl) rfl rfl ?_; intro K hK; go_big_quiet_op; go_big_quiet_on)
              (refine ch_pure rfl (by kernel_rfl) rfl rfl ?_; intro K hK; go_big_quiet_op; go_big_quiet_on)
              (refine zc1 ?_)
              (refine ch_pure rfl (by kernel_rfl) rfl rfl ?_; intro K hK; go_big_quiet_op; go_big_quiet_on)
              iterate 17 (refine ch_skip (by kernel_rfl) rfl ?_; (refine frS ?_))
              iterate 4 (refine ch_pure rfl (by kernel_rfl) rfl rfl ?_; intro K hK; go_big_quiet_op; go_big_quiet_on)
              (refine zc1 ?_)
              iterate 2 (refine ch_pure rfl (by kernel_rfl) rfl rfl ?_; intro K hK; go_big_quiet_op; go_big_quiet_on)
              iterate 1 (refine ch_pure rfl (by kernel_rfl) rfl rfl ?_; intro K hK; go_big_quiet_op; go_big_quiet_on)
              (refine zcn ?_)
              (refine ch_pure rfl (by kernel_rfl) rfl rfl ?_; intro K hK; go_big_quiet_op; go_big_quiet_on)
              (refine zc1 ?_)
              iterate 3 (refine ch_pure rfl (by kernel_rfl) rfl rfl ?_; intro K hK; go_big_quiet_op; go_big_quiet_on)
              (refine zc1 ?_ (hc := by (intro F; exact Cell.there (Cell.there (Cell.rowE Ord.len hil f5)))))
              (refine ch_pure rfl (by kernel_rfl) rfl rfl ?_; intro K hK; go_big_quiet_op; go_big_quiet_on)
              (refine zcn ?_)
              (refine ch_pure rfl (by kernel_rfl) rfl rfl ?_; intro K hK; go_big_quiet_op; go_big_quiet_on)
              (refine zc1 ?_)
              iterate 3 (refine ch_pure rfl (by kernel_rfl) rfl rfl ?_; intro K hK; go_big_quiet_op; go_big_quiet_on)
              (refine zc1 ?_ (hc := by (intro F; exact Cell.there (Cell.there (Cell.rowE Ord.len hkl g5)))))
              (refine ch_pure rfl (by kernel_rfl) rfl rfl ?_; intro K hK; go_big_quiet_op; go_big_quiet_on)
              iterate 2 (refine ch_pure rfl (by kernel_rfl) rfl rfl ?_; intro K hK; go_big_quiet_op; go_big_quiet_on)
              refine ch_end ?_
              clear hS
              intro w hS
              have hS2 : St W [blk b _ _, blk xb _ _, pileR _ _, sats _] w := hS
              clear hS
              have hS := hS2.unpack [_, _, _]
              clear hS2
              simp only [List.cons_append, List.nil_append] at hS
              go_wp2_with (first | (refine zbx hS ?_; clear hS; intro b w hS) | (refine zl1 hS ?_) | (refine zlN hS ?_))
              go_roundw
              case rel => exact ⟨j + 1, by rw [hb, hbt]; rfl, rfl, hil, hS⟩
              case measure => simp [intOf]; omega
          · simp only [if_true] at hgd
            by_cases hlt : pj < pk
            · have hb := bestTo_yes hm' (by rw [hbt, hgd]; simpa using hlt)
              have hd : decide (pj < pk) = true := by simpa using hlt
              go_wp2_with (first | (refine zbx hS ?_; clear hS; intro b w hS) | (refine zl1 hS ?_) | (refine zlN hS ?_))
              refine wp_region_flow3 [0, 0, 2, 6, 14, 0, 62, 126, 255, 511] (fun _ => false) (fun i => if i == 8 then some (.bool true) else none) [] [none, none, none] (by kernel_rfl) (by kernel_rfl) rfl hS CongOk.nil ?_
              intro nd
              (refine zcN ?_)
              (refine ch_pure rfl (by kernel_rfl) rfl rfl ?_; intro K hK; go_big_quiet_op; go_big_quiet_on)
              (refine zcn ?_)
              (refine ch_pure rfl (by kernel_rfl) rfl rfl ?_; intro K hK; go_big_quiet_op; go_big_quiet_on)
              (refine zc1 ?_)
              iterate 2 (refine ch_pure rfl (by kernel_rfl) rfl rfl ?_; intro K hK; go_big_quiet_op; go_big_quiet_on)
              (refine zcN ?_ (hc := by (intro F; exact Cells.there (Cells.there (Cells.rowE Ord.len hil)))))
              (refine zcv ?_ (hs := by (intro F w hS; (try clear hS0); exact meetR_at hm W w _ hS)))
              (refine ch_pure rfl (by kernel_rfl) rfl rfl ?_; intro K hK; go_big_quiet_op; go_big_quiet_on)
              refine ch_end ?_
              clear hS
              intro w hS
              have hS2 : St W [blk b _ _, blk xb _ _, pileR _ _, sats _] w := hS
              clear hS
              have hS := hS2.unpack [_, _, _]
              clear hS2
              simp only [List.cons_append, List.nil_append] at hS
              go_wp2_with (first | (refine zbx hS ?_; clear hS; intro b w hS) | (refine zl1 hS ?_) | (refine zlN hS ?_))
              refine wp_region_flow2 [0, 1, 3, 7, 15, 31, 63, 127, 255, 511, 63, 2047, 4095, 8191, 63, 16447, 49215, 114751, 63, 507967, 1032255, 2080831, 4194303, 8388607, 16777215, 33554431, 67108863, 134217727, 268435455, 536870911, 1073741823, 2147483647, 4294967295, 8589934591, 1073741823, 34359738367, 68719476735, 137438953471, 1073741823, 275951648767, 825707462655, 1925219090431, 1073741823, 8522288857087, 17318381879295, 34910567923711, 70368744177663, 140737488355327, 281474976710655] (fun _ => false) [] [none, none, none] (by kernel_rfl) (by kernel_rfl) rfl hS CongOk.nil ?_
              intro nd
              iterate 3 (refine ch_pure rfl (by kernel_rfl) rfl rfl ?_; intro K hK; go_big_quiet_op; go_big_quiet_on)
              (refine ch_pure rfl (by kernel_rfl) rfl rfl ?_; intro K hK; go_big_quiet_op; go_big_quiet_on)
              (refine zc1 ?_)
              (refine ch_pure rfl (by kernel_rfl) rfl rfl ?_; intro K hK; go_big_quiet_op; go_big_quiet_on)
              iterate 1 (refine ch_pure rfl (by kernel_rfl) rfl rfl ?_; intro K hK; go_big_quiet_op; go_big_quiet_on)
              (refine zcn ?_)
              (refine ch_pure rfl (by kernel_rfl) rfl rfl ?_; intro K hK; go_big_quiet_op; go_big_quiet_on)
              (refine zc1 ?_)
              iterate 3 (refine ch_pure rfl (by kernel_rfl) rfl rfl ?_; intro K hK; go_big_quiet_op; go_big_quiet_on)
              (refine zc1 ?_ (hc := by (intro F; exact Cell.there (Cell.there (Cell.rowE Ord.len hil f5)))))
              (refine ch_pure rfl (by kernel_rfl) rfl rfl ?_; intro K hK; go_big_quiet_op; go_big_quiet_on)
              (refine zcn ?_)
              (refine ch_pure rfl (by kernel_rfl) rfl rfl ?_; intro K hK; go_big_quiet_op; go_big_quiet_on)
              (refine zc1 ?_)
              iterate 3 (refine ch_pure rfl (by kernel_rfl) rfl rfl ?_; intro K hK; go_big_quiet_op; go_big_quiet_on)
              (refine zc1 ?_ (hc := by (intro F; exact Cell.there (Cell.there (Cell.rowE Ord.len hkl g5)))))
              (refine ch_pure rfl (by kernel_rfl) rfl rfl ?_; intro K hK; go_big_quiet_op; go_big_quiet_on)
              iterate 3 (refine ch_pure rfl (by kernel_rfl) rfl rfl ?_; intro K hK; go_big_quiet_op; go_big_quiet_on)
              iterate 22 (refine ch_skip (by kernel_rfl) rfl ?_; (refine frS ?_))
              (refine ch_pure rfl (by kernel_rfl) rfl rfl ?_; intro K hK; go_big_quiet_op; go_big_quiet_on)
              refine ch_end ?_
              clear hS
              intro w hS
              have hS2 : St W [blk b _ _, blk xb _ _, pileR _ _, sats _] w := hS
              clear hS
              have hS := hS2.unpack [_, _, _]
              clear hS2
              simp only [List.cons_append, List.nil_append] at hS
              go_wp2_with (first | (refine zbx hS ?_; clear hS; intro b w hS) | (refine zl1 hS ?_) | (refine zlN hS ?_))
              go_roundw
              case rel => exact ⟨j + 1, by rw [hb]; rfl, rfl, hil, hS⟩
              case measure => simp [intOf]; omega
            · have hb := bestTo_old (i := j) (o := ⟨i, u, true, t, c, p⟩) (L := L) (by rw [hbt, hgd]; simpa using hlt)
              have hd : decide (pj < pk) = false := by simpa using hlt
              go_wp2_with (first | (refine zbx hS ?_; clear hS; intro b w hS) | (refine zl1 hS ?_) | (refine zlN hS ?_))
              refine wp_region_flow3 [0, 0, 2, 6, 14, 0, 62, 126, 255, 511] (fun _ => false) (fun i => if i == 8 then some (.bool true) else none) [] [none, none, none] (by kernel_rfl) (by kernel_rfl) rfl hS CongOk.nil ?_
              intro nd
              (refine zcN ?_)
              (refine ch_pure rfl (by kernel_rfl) rfl rfl ?_; intro K hK; go_big_quiet_op; go_big_quiet_on)
              (refine zcn ?_)
              (refine ch_pure rfl (by kernel_rfl) rfl rfl ?_; intro K hK; go_big_quiet_op; go_big_quiet_on)
              (refine zc1 ?_)
              iterate 2 (refine ch_pure rfl (by kernel_rfl) rfl rfl ?_; intro K hK; go_big_quiet_op; go_big_quiet_on)
              (refine zcN ?_ (hc := by (intro F; exact Cells.there (Cells.there (Cells.rowE Ord.len hil)))))
              (refine zcv ?_ (hs := by (intro F w hS; (try clear hS0); exact meetR_at hm W w _ hS)))
              (refine ch_pure rfl (by kernel_rfl) rfl rfl ?_; intro K hK; go_big_quiet_op; go_big_quiet_on)
              refine ch_end ?_
              clear hS
              intro w hS
              have hS2 : St W [blk b _ _, blk xb _ _, pileR _ _, sats _] w := hS
              clear hS
              have hS := hS2.unpack [_, _, _]
              clear hS2
              simp only [List.cons_append, List.nil_append] at hS
              go_wp2_with (first | (refine zbx hS ?_; clear hS; intro b w hS) | (refine zl1 hS ?_) | (refine zlN hS ?_))
              refine wp_region_flow2 [0, 1, 3, 7, 15, 31, 63, 127, 255, 511, 63, 2047, 4095, 8191, 63, 16447, 49215, 114751, 63, 507967, 1032255, 2080831, 4194303, 8388607, 16777215, 33554431, 67108863, 134217727, 268435455, 536870911, 1073741823, 2147483647, 4294967295, 8589934591, 1073741823, 34359738367, 68719476735, 137438953471, 1073741823, 275951648767, 825707462655, 1925219090431, 1073741823, 8522288857087, 17318381879295, 34910567923711, 70368744177663, 140737488355327, 281474976710655] (fun _ => false) [] [none, none, none] (by kernel_rfl) (by kernel_rfl) rfl hS CongOk.nil ?_
              intro nd
              iterate 3 (refine ch_pure rfl (by kernel_rfl) rfl rfl ?_; intro K hK; go_big_quiet_op; go_big_quiet_on)
              (refine ch_pure rfl (by kernel_rfl) rfl rfl ?_; intro K hK; go_big_quiet_op; go_big_quiet_on)
              (refine zc1 ?_)
              (refine ch_pure rfl (by kernel_rfl) rfl rfl ?_; intro K hK; go_big_quiet_op; go_big_quiet_on)
              iterate 1 (refine ch_pure rfl (by kernel_rfl) rfl rfl ?_; intro K hK; go_big_quiet_op; go_big_quiet_on)
              (refine zcn ?_)
              (refine ch_pure rfl (by kernel_rfl) rfl rfl ?_; intro K hK; go_big_quiet_op; go_big_quiet_on)
              (refine zc1 ?_)
              iterate 3 (refine ch_pure rfl (by kernel_rfl) rfl rfl ?_; intro K hK; go_big_quiet_op; go_big_quiet_on)
              (refine zc1 ?_ (hc := by (intro F; exact Cell.there (Cell.there (Cell.rowE Ord.len hil f5)))))
              (refine ch_pure rfl (by kernel_rfl) rfl rfl ?_; intro K hK; go_big_quiet_op; go_big_quiet_on)
              (refine zcn ?_)
              (refine ch_pure rfl (by kernel_rfl) rfl rfl ?_; intro K hK; go_big_quiet_op; go_big_quiet_on)
              (refine zc1 ?_)
              iterate 3 (refine ch_pure rfl (by kernel_rfl) rfl rfl ?_; intro K hK; go_big_quiet_op; go_big_quiet_on)
              (refine zc1 ?_ (hc := by (intro F; exact Cell.there (Cell.there (Cell.rowE Ord.len hkl g5)))))
              (refine ch_pure rfl (by kernel_rfl) rfl rfl ?_; intro K hK; go_big_quiet_op; go_big_quiet_on)
              iterate 4 (refine ch_pure rfl (by kernel_rfl) rfl rfl ?_; intro K hK; go_big_quiet_op; go_big_quiet_on)
              (refine zc1 ?_)
              iterate 2 (refine ch_pure rfl (by kernel_rfl) rfl rfl ?_; intro K hK; go_big_quiet_op; go_big_quiet_on)
              iterate 17 (refine ch_skip (by kernel_rfl) rfl ?_; (refine frS ?_))
              iterate 2 (refine ch_pure rfl (by kernel_rfl) rfl rfl ?_; intro K hK; go_big_quiet_op; go_big_quiet_on)
              refine ch_end ?_
              clear hS
              intro w hS
              have hS2 : St W [blk b _ _, blk xb _ _, pileR _ _, sats _] w := hS
              clear hS
              have hS := hS2.unpack [_, _, _]
              clear hS2
              simp only [List.cons_append, List.nil_append] at hS
              go_wp2_with (first | (refine zbx hS ?_; clear hS; intro b w hS) | (refine zl1 hS ?_) | (refine zlN hS ?_))
              go_roundw
              case rel => exact ⟨j + 1, by rw [hb, hbt]; rfl, rfl, hil, hS⟩
              case measure => simp [intOf]; omega
end Go.Proofs.YtbcokphjpllbiaaGreat
end
section
set_option linter.unusedSimpArgs false
set_option linter.unusedVariables false
namespace Go.Proofs.YtbcokphjpllbiaaGreat
open Go.RowKit Go.Sl
def CanRR (W : World) (Lr : List HP) (L : List Ord) (id : Int) (v6 : Value) (w : World) : Prop :=
  ∃ k : Nat, v6 = .int .i64 k ∧ k ≤ L.length ∧ (∀ j, j < k → (at' L j).id ≠ id) ∧ St W Lr w
end Go.Proofs.YtbcokphjpllbiaaGreat
end
section
set_option linter.unusedSimpArgs false
set_option linter.unusedVariables false
namespace Go.Proofs.YtbcokphjpllbiaaGreat
open Go.RowKit Go.Sl
def RefRel (W : World) (Lr : List HP) (ob xb : Nat) (i : Int) (u : ByteArray) (y : Bool) (t p : Int) (r : Ord × List Ord × List Trd) (f : Nat) (v7 : Value) (w : World) : Prop :=
  ∃ (c : Int) (L : List Ord) (ts : List Trd) (v : Value), refLoop f ⟨i, u, y, t, c, p⟩ L ts = r ∧ (L.length < f ∨ (c = 0 ∧ 0 < f)) ∧ L.length ≤ 32 ∧ ts.length + f ≤ 80 ∧ (∀ x ∈ L, 1 ≤ x.cnt ∧ x.cnt ≤ 1048576) ∧ 0 ≤ c ∧ c ≤ 1048576 ∧
    St W (blk xb [v, .int .i64 i] 68 :: pileR v L :: blk ob [.int .i64 i, .string u, .bool y, .int .i64 t, .int .i64 c, .int .i64 p] 41 :: row v7 8 111 ts.length (ts.flatMap Trd.cells) :: Lr) w
end Go.Proofs.YtbcokphjpllbiaaGreat
end
section
set_option linter.unusedSimpArgs false
set_option linter.unusedVariables false
namespace Go.Proofs.YtbcokphjpllbiaaGreat
open Go.Joins Go.ChangeShapes Go.WideShapes Go.RowKit Go.Deep Go.Sl
/-- v is a slice that holds xs in the world w, each element as its cells. -/
def SliceV {α : Type} (enc : α → List Value) (k : Nat) (w : World) (v : Value) (xs : List α) : Prop :=
  ∃ a cap, v = .slice a xs.length cap ∧ xs.length ≤ 9223372036854775807 ∧ ∀ i (h : i < xs.length), ∃ b off, a = some ⟨b, off, none⟩ ∧ ∀ j u, (enc xs[i])[j]? = some u → w.cell? ⟨b, off + i * k + j, none⟩ = some u
section
variable {H : Type} {enc : TypeId × Value → H} {P : Program} {w : World} {base : Nat} {spare : Nat → Bool} {held : Bool}
end
end Go.Proofs.YtbcokphjpllbiaaGreat
end
