/-
  The document's Of: any orders as a book, or refused. For every row of orders.
-/
import Derived.Test.YtbcokphjpllbiaaGreatVaultDecodesM5
import Derived.Test.YtbcokphjpllbiaaGreatVaultDecodesM13
import Derived.Test.YtbcokphjpllbiaaGreatVaultDecodesM14

section
set_option linter.unusedSimpArgs false
set_option linter.unusedVariables false
namespace Go.Proofs.YtbcokphjpllbiaaGreat
open Go.RowKit Go.Sl
def lastOf (l : List Ord) : Nat → Int
  | 0 => 0
  | j + 1 => (at' l j).id
def badAt (l : List Ord) (i : Nat) : Bool := !(mayB (at' l i)) || (decide ((at' l i).id ≤ lastOf l i) || (bestTo (at' l i) (l.take i) (l.take i).length).isSome)
def OkTo (l : List Ord) (i : Nat) : Prop := ∀ j, j < i → badAt l j = false
def Refused (l : List Ord) : Prop := 32 < l.length ∨ ∃ i, i < l.length ∧ badAt l i = true
theorem OkTo.step {l : List Ord} {i : Nat} (h : OkTo l i) (hb : badAt l i = false) : OkTo l (i + 1) := fun j hj => by
  by_cases hji : j = i
  · rw [hji]; exact hb
  · exact h j (by omega)
theorem not_refused {l : List Ord} (h32 : l.length ≤ 32) (h : OkTo l l.length) : ¬ Refused l := by
  rintro (h1 | ⟨i, hi, hb⟩)
  · omega
  · rw [h i hi] at hb; cases hb
theorem take_step {l : List Ord} {i : Nat} (hi : i < l.length) : l.take (i + 1) = l.take i ++ [at' l i] := by rw [List.take_succ_eq_append_getElem hi, at'_get hi]
def OfR (W : World) (Lr : List HP) (l : List Ord) (xb : Nat) (v : Value) (w : World) : Prop :=
  ∃ (i : Nat) (vx : Value), v = .int .i64 i ∧ i ≤ l.length ∧ OkTo l i ∧ St W (blk xb [vx, .int .i64 (lastOf l i)] 68 :: pileR vx (l.take i) :: Lr) w
theorem may_at {o : Ord} {r : Bool} (h : mayB o = r) (W w : World) (L : List HP) (hS : St W L w) :
    Calls Tryz.prog 55 #[.agg o.cells.toArray] w fun e w' => e = .returned (.bool r) ∧ St W L w' := h ▸ refMay_spec o W w L hS
theorem best_at {o : Ord} {L : List Ord} {r : Int} (hr : kI (bestTo o L L.length) = r) (xb : Nat) (last : Int) (v : Value) (hlen : L.length ≤ 32) (W w : World) (Lr : List HP) (hS : St W (blk xb [v, .int .i64 last] 68 :: pileR v L :: Lr) w) :
    Calls Tryz.prog 88 #[.pointer (some ⟨xb, 0, none⟩), .agg o.cells.toArray] w fun e w' => e = .returned (.int .i64 r) ∧ St W (blk xb [v, .int .i64 last] 68 :: pileR v L :: Lr) w' := hr ▸ best_ref o L xb last v hlen W w Lr hS
set_option maxRecDepth 100000 in
set_option maxHeartbeats 8000000 in
theorem refOf_spec (l : List Ord) (v : Value) (V : World) (hv : SliceV Ord.cells 6 V v l) (W w : World) (Lr : List HP) (hS : St W (Old V :: Lr) w) :
    Calls Tryz.prog 47 #[v] w fun e w' => (Refused l ∧ e = .returned (.tuple #[.pointer none, .int .i64 1]) ∧ St W (Old V :: Lr) w') ∨
      (l.length ≤ 32 ∧ OkTo l l.length ∧ ∃ xb vx, e = .returned (.tuple #[.pointer (some ⟨xb, 0, none⟩), .int .i64 0]) ∧ St W (blk xb [vx, .int .i64 (lastOf l l.length)] 68 :: pileR vx l :: Old V :: Lr) w') := by
  obtain ⟨a, cap, rfl, h63, hc⟩ := hv
  have Hc := Lib.hid hc
  clear hc
  by_cases h32 : l.length ≤ 32
  · have hd32 : decide ((32 : Int) < (l.length : Int)) = false := by simp; omega
    go_enter Tryz.func47, Tryz.ntmps47
    go_wp2_with (first | ((with_reducible apply wl_box hS); (with_reducible rfl); rfl; rfl; rfl; clear hS; intro xb w hS; (refine frS ?_)))
    replace hS := (hS.rowNil (k := 6) (T := 41)).swap
    go_loopw [5] (fun v wr => OfR W (Old V :: Lr) l xb v wr) (fun v _ => l.length - (intOf v).toNat)
    case atStart => exact ⟨0, _, rfl, by omega, fun j hj => absurd hj (Nat.not_lt_zero _), hS⟩
    case round =>
      clear hS
      obtain ⟨i, vx, rfl, hi, hok, hS⟩ := hrel
      have Hok := Lib.hid hok
      clear hok
      by_cases hin : i = l.length
      · subst hin
        rw [List.take_length] at hS
        go_wp2_with fail
        go_ret2
        exact .inr ⟨h32, Hok.out, xb, vx, rfl, hS⟩
      · have hil : i < l.length := by omega
        clear hin hi
        obtain ⟨pb, poff, rfl, hj⟩ := Hc.out i hil
        have hxe : l[i] = at' l i := (at'_get hil).symm
        rw [hxe] at hj
        have hbad : badAt l i = (!(mayB (at' l i)) || (decide ((at' l i).id ≤ lastOf l i) || (bestTo (at' l i) (l.take i) (l.take i).length).isSome)) := rfl
        have hts := take_step hil
        have hll : lastOf l (i + 1) = (at' l i).id := rfl
        generalize at' l i = x at hj hbad hts hll
        obtain ⟨xi, xu, xy, xt, xc, xp⟩ := x
        have call : ∀ (j : Nat) (u : Value), [Value.int .i64 xi, .string xu, .bool xy, .int .i64 xt, .int .i64 xc, .int .i64 xp][j]? = some u → V.cell? ⟨pb, poff + i * 6 + j, none⟩ = some u := hj
        have cid : V.cell? ⟨pb, poff + i * 6, none⟩ = some (.int .i64 xi) := hj 0 _ rfl
        have Hts := Lib.hid hts
        have Hll := Lib.hid hll
        clear hj hxe hts hll
        have hl32 : (l.take i).length ≤ 32 := by rw [List.length_take]; omega
        obtain ⟨xa, xcap, rfl⟩ := hS.drop.rowVal
        cases hm : mayB ⟨xi, xu, xy, xt, xc, xp⟩
        · have Hbad := Lib.hid (show badAt l i = true by rw [hbad, hm]; rfl)
          clear hbad
          go_wp2_with fail
          refine wp_region_flow3 [0, 0, 3, 7, 15, 31, 63, 127, 127, 511, 1023, 2047, 127, 4223, 12415, 28799, 65535, 131071, 262143, 524287, 524287, 524287, 3670015, 7864319, 16777215, 33554431, 67108863] (fun _ => false) (fun i => if i == 4 then some (.bool false) else if i == 24 then some (.int .i64 0) else none) [] [none, none, none] (by kernel_rfl) (by kernel_rfl) rfl hS CongOk.nil ?_
          intro nd
          iterate 3 (refine ch_pure rfl (by kernel_rfl) rfl rfl ?_; intro K hK; go_big_quiet_op; go_big_quiet_on)
          (refine zcN ?_ (hc := by (intro F; exact Cells.old (.tail (.tail .head)) call)))
          (refine zcv ?_ (hs := by (intro F w hS; (try clear hS0); exact may_at hm W w _ hS)))
          iterate 2 (refine ch_pure rfl (by kernel_rfl) rfl rfl ?_; intro K hK; go_big_quiet_op; go_big_quiet_on)
          iterate 10 (refine ch_skip (by kernel_rfl) rfl ?_; (refine frS ?_))
          iterate 2 (refine ch_pure rfl (by kernel_rfl) rfl rfl ?_; intro K hK; go_big_quiet_op; go_big_quiet_on)
          iterate 7 (refine ch_skip (by kernel_rfl) rfl ?_; (refine frS ?_))
          (refine ch_pure rfl (by kernel_rfl) rfl rfl ?_; intro K hK; go_big_quiet_op; go_big_quiet_on)
          refine ch_end ?_
          clear hS
          intro w hS
          have hS2 : St W [blk xb _ _, pileR _ _, Old _, sats _] w := hS
          clear hS
          have hS := hS2.unpack [_, _, _]
          clear hS2
          simp only [List.cons_append, List.nil_append] at hS
          go_wp2_with fail
          go_ret2
          exact .inl ⟨.inr ⟨i, hil, Hbad.out⟩, rfl, hS.drop.drop⟩
        · by_cases hle : xi ≤ lastOf l i
          · have Hbad := Lib.hid (show badAt l i = true by rw [hbad, hm]; simp [hle])
            have hd : decide (xi ≤ lastOf l i) = true := by simpa using hle
            clear hbad
            go_wp2_with fail
            refine wp_region_flow3 [0, 0, 3, 7, 15, 31, 63, 127, 127, 511, 1023, 2047, 127, 4223, 12415, 28799, 65535, 131071, 262143, 524287, 524287, 524287, 3670015, 7864319, 16777215, 33554431, 67108863] (fun _ => false) (fun i => if i == 4 then some (.bool true) else if i == 24 then some (.int .i64 0) else none) [] [none, none, none] (by kernel_rfl) (by kernel_rfl) rfl hS CongOk.nil ?_
            intro nd
            iterate 3 (refine ch_pure rfl (by kernel_rfl) rfl rfl ?_; intro K hK; go_big_quiet_op; go_big_quiet_on)
            (refine zcN ?_ (hc := by (intro F; exact Cells.old (.tail (.tail .head)) call)))
            (refine zcv ?_ (hs := by (intro F w hS; (try clear hS0); exact may_at hm W w _ hS)))
            iterate 2 (refine ch_pure rfl (by kernel_rfl) rfl rfl ?_; intro K hK; go_big_quiet_op; go_big_quiet_on)
            iterate 4 (refine ch_pure rfl (by kernel_rfl) rfl rfl ?_; intro K hK; go_big_quiet_op; go_big_quiet_on)
            (apply ch_ld1; rfl; kernel_rfl; (with_reducible rfl); rfl; rfl; decide +kernel; (intro F; first | exact Cell.old .head cid | exact Cell.old (.tail .head) cid | exact Cell.old (.tail (.tail .head)) cid | exact Cell.old (.tail (.tail (.tail .head))) cid); (refine frS ?_))
            (refine ch_pure rfl (by kernel_rfl) rfl rfl ?_; intro K hK; go_big_quiet_op; go_big_quiet_on)
            (refine zcn ?_)
            (refine ch_pure rfl (by kernel_rfl) rfl rfl ?_; intro K hK; go_big_quiet_op; go_big_quiet_on)
            (refine zc1 ?_)
            iterate 3 (refine ch_pure rfl (by kernel_rfl) rfl rfl ?_; intro K hK; go_big_quiet_op; go_big_quiet_on)
            iterate 7 (refine ch_skip (by kernel_rfl) rfl ?_; (refine frS ?_))
            (refine ch_pure rfl (by kernel_rfl) rfl rfl ?_; intro K hK; go_big_quiet_op; go_big_quiet_on)
            refine ch_end ?_
            clear hS
            intro w hS
            have hS2 : St W [blk xb _ _, pileR _ _, Old _, sats _] w := hS
            clear hS
            have hS := hS2.unpack [_, _, _]
            clear hS2
            simp only [List.cons_append, List.nil_append] at hS
            go_wp2_with fail
            go_ret2
            exact .inl ⟨.inr ⟨i, hil, Hbad.out⟩, rfl, hS.drop.drop⟩
          · have hd : decide (xi ≤ lastOf l i) = false := by simpa using hle
            cases hbt : bestTo ⟨xi, xu, xy, xt, xc, xp⟩ (l.take i) (l.take i).length with
            | some k =>
              have Hbad := Lib.hid (show badAt l i = true by rw [hbad, hbt]; simp)
              have hk1 : kI (bestTo ⟨xi, xu, xy, xt, xc, xp⟩ (l.take i) (l.take i).length) = (k : Int) := by rw [hbt]; rfl
              clear hbad hbt
              go_wp2_with fail
              refine wp_region_flow3 [0, 0, 3, 7, 15, 31, 63, 127, 127, 511, 1023, 2047, 127, 4223, 12415, 28799, 65535, 131071, 262143, 524287, 524287, 524287, 3670015, 7864319, 16777215, 33554431, 67108863] (fun _ => false) (fun i => if i == 4 then some (.bool true) else if i == 24 then some (.int .i64 (k : Int)) else none) [] [none, none, none] (by kernel_rfl) (by kernel_rfl) rfl hS CongOk.nil ?_
              intro nd
              iterate 3 (refine ch_pure rfl (by kernel_rfl) rfl rfl ?_; intro K hK; go_big_quiet_op; go_big_quiet_on)
              (refine zcN ?_ (hc := by (intro F; exact Cells.old (.tail (.tail .head)) call)))
              (refine zcv ?_ (hs := by (intro F w hS; (try clear hS0); exact may_at hm W w _ hS)))
              iterate 2 (refine ch_pure rfl (by kernel_rfl) rfl rfl ?_; intro K hK; go_big_quiet_op; go_big_quiet_on)
              iterate 4 (refine ch_pure rfl (by kernel_rfl) rfl rfl ?_; intro K hK; go_big_quiet_op; go_big_quiet_on)
              (apply ch_ld1; rfl; kernel_rfl; (with_reducible rfl); rfl; rfl; decide +kernel; (intro F; first | exact Cell.old .head cid | exact Cell.old (.tail .head) cid | exact Cell.old (.tail (.tail .head)) cid | exact Cell.old (.tail (.tail (.tail .head))) cid); (refine frS ?_))
              (refine ch_pure rfl (by kernel_rfl) rfl rfl ?_; intro K hK; go_big_quiet_op; go_big_quiet_on)
              (refine zcn ?_)
              (refine ch_pure rfl (by kernel_rfl) rfl rfl ?_; intro K hK; go_big_quiet_op; go_big_quiet_on)
              (refine zc1 ?_)
              iterate 3 (refine ch_pure rfl (by kernel_rfl) rfl rfl ?_; intro K hK; go_big_quiet_op; go_big_quiet_on)
              iterate 4 (refine ch_pure rfl (by kernel_rfl) rfl rfl ?_; intro K hK; go_big_quiet_op; go_big_quiet_on)
              (refine zcN ?_ (hc := by (intro F; exact Cells.old (.tail (.tail .head)) call)))
              (refine zcv ?_ (hs := by (intro F w hS; (try clear hS0); exact best_at hk1 xb _ _ hl32 W w _ hS)))
              iterate 2 (refine ch_pure rfl (by kernel_rfl) rfl rfl ?_; intro K hK; go_big_quiet_op; go_big_quiet_on)
              refine ch_end ?_
              clear hS
              intro w hS
              have hS2 : St W [blk xb _ _, pileR _ _, Old _, sats _] w := hS
              clear hS
              have hS := hS2.unpack [_, _, _]
              clear hS2
              simp only [List.cons_append, List.nil_append] at hS
              go_wp2_with fail
              go_ret2
              exact .inl ⟨.inr ⟨i, hil, Hbad.out⟩, rfl, hS.drop.drop⟩
            | none =>
              have Hok2 := Lib.hid (Hok.out.step (show badAt l i = false by rw [hbad, hm, hbt, hd]; rfl))
              have hk1 : kI (bestTo ⟨xi, xu, xy, xt, xc, xp⟩ (l.take i) (l.take i).length) = -1 := by rw [hbt]; rfl
              clear hbad hbt
              go_wp2_with fail
              refine wp_region_flow3 [0, 0, 3, 7, 15, 31, 63, 127, 127, 511, 1023, 2047, 127, 4223, 12415, 28799, 65535, 131071, 262143, 524287, 524287, 524287, 3670015, 7864319, 16777215, 33554431, 67108863] (fun _ => false) (fun i => if i == 4 then some (.bool true) else if i == 24 then some (.int .i64 (-1)) else none) [] [none, none, none] (by kernel_rfl) (by kernel_rfl) rfl hS CongOk.nil ?_
              intro nd
              iterate 3 (refine ch_pure rfl (by kernel_rfl) rfl rfl ?_; intro K hK; go_big_quiet_op; go_big_quiet_on)
              (refine zcN ?_ (hc := by (intro F; exact Cells.old (.tail (.tail .head)) call)))
              (refine zcv ?_ (hs := by (intro F w hS; (try clear hS0); exact may_at hm W w _ hS)))
              iterate 2 (refine ch_pure rfl (by kernel_rfl) rfl rfl ?_; intro K hK; go_big_quiet_op; go_big_quiet_on)
              iterate 4 (refine ch_pure rfl (by kernel_rfl) rfl rfl ?_; intro K hK; go_big_quiet_op; go_big_quiet_on)
              (apply ch_ld1; rfl; kernel_rfl; (with_reducible rfl); rfl; rfl; decide +kernel; (intro F; first | exact Cell.old .head cid | exact Cell.old (.tail .head) cid | exact Cell.old (.tail (.tail .head)) cid | exact Cell.old (.tail (.tail (.tail .head))) cid); (refine frS ?_))
              (refine ch_pure rfl (by kernel_rfl) rfl rfl ?_; intro K hK; go_big_quiet_op; go_big_quiet_on)
              (refine zcn ?_)
              (refine ch_pure rfl (by kernel_rfl) rfl rfl ?_; intro K hK; go_big_quiet_op; go_big_quiet_on)
              (refine zc1 ?_)
              iterate 3 (refine ch_pure rfl (by kernel_rfl) rfl rfl ?_; intro K hK; go_big_quiet_op; go_big_quiet_on)
              iterate 4 (refine ch_pure rfl (by kernel_rfl) rfl rfl ?_; intro K hK; go_big_quiet_op; go_big_quiet_on)
              (refine zcN ?_ (hc := by (intro F; exact Cells.old (.tail (.tail .head)) call)))
              (refine zcv ?_ (hs := by (intro F w hS; (try clear hS0); exact best_at hk1 xb _ _ hl32 W w _ hS)))
              iterate 2 (refine ch_pure rfl (by kernel_rfl) rfl rfl ?_; intro K hK; go_big_quiet_op; go_big_quiet_on)
              refine ch_end ?_
              clear hS
              intro w hS
              have hS2 : St W [blk xb _ _, pileR _ _, Old _, sats _] w := hS
              clear hS
              have hS := hS2.unpack [_, _, _]
              clear hS2
              simp only [List.cons_append, List.nil_append] at hS
              go_wp2_with fail
              refine wp_region_flow2 [0, 0, 2, 6, 14, 0, 0, 96, 224, 480, 1022, 2047, 4095, 8191] (fun i => i == 9 || i == 10) [⟨some 9, none, fun nd => slTo (nd 9) 1 1 [.int .i64 xi, .string xu, .bool xy, .int .i64 xt, .int .i64 xc, .int .i64 xp] 41⟩, ⟨some 10, none, fun nd => row (nd 10) 6 41 ((l.take i).length + 1) ((l.take i).flatMap Ord.cells ++ [.int .i64 xi, .string xu, .bool xy, .int .i64 xt, .int .i64 xc, .int .i64 xp])⟩, ⟨some 13, none, fun nd => blk xb [nd 10, .int .i64 (lastOf l i)] 68⟩] [some 13, some 10, none] (by kernel_rfl) (by kernel_rfl) rfl hS (CongOk.cons (fun nd nd' h => by dsimp only; rw [h 9 rfl rfl]) (CongOk.cons (fun nd nd' h => by dsimp only; rw [h 10 rfl rfl]) (CongOk.cons (fun nd nd' h => by dsimp only; rw [h 10 rfl rfl]) CongOk.nil))) ?_
              intro nd
              iterate 2 (refine ch_pure rfl (by kernel_rfl) rfl rfl ?_; intro K hK; go_big_quiet_op; go_big_quiet_on)
              (refine zcn ?_)
              (refine ch_pure rfl (by kernel_rfl) rfl rfl ?_; intro K hK; go_big_quiet_op; go_big_quiet_on)
              (refine zc1 ?_)
              iterate 3 (refine ch_pure rfl (by kernel_rfl) rfl rfl ?_; intro K hK; go_big_quiet_op; go_big_quiet_on)
              (refine zcN ?_ (hc := by (intro F; exact Cells.old (.tail (.tail .head)) call)))
              (apply ch_bs; rfl; (with_reducible rfl); rfl; (focus (simp only [fD, List.map_cons, List.map_nil, Act.eval, fE, fF, fG, fH, Option.getD_some]; try rfl)); (exact esS); (exact rsS); rfl; rfl; rfl; rfl; (intro _; rfl); rfl; (intro _; rfl); (refine frS ?_))
              (apply ch_append; rfl; (with_reducible rfl); rfl; (focus ((conv => lhs; whnf); try rfl)); (focus ((conv => lhs; whnf); try rfl)); (exact esS); (exact rsS); rfl; decide; rfl; (intro F w hS; exact slTo_src hS (by exact takO)); (focus (try rfl)); rfl; (focus (unfold maxLen; omega)); (focus (omega)); (intro _; rfl); (intro _; rfl); (refine frS ?_))
              (refine zcn ?_)
              (refine ch_pure rfl (by kernel_rfl) rfl rfl ?_; intro K hK; go_big_quiet_op; go_big_quiet_on)
              (apply ch_stV; rfl; (with_reducible rfl); rfl; rfl; (focus ((conv => lhs; whnf); try rfl)); kernel_rfl; rfl; (intro F w hS; exact hS.rowOne (by exact takO)); (focus (simp)); rfl; rfl; try (refine frS ?_))
              refine ch_end ?_
              clear hS
              intro w hS
              have hS2 : St W [slTo (nd 9) _ _ _ _, row (nd 10) 6 _ _ _, blk xb _ _, Old V, sats _] w := hS
              clear hS
              have hS := hS2.unpack [_, _, _, _]
              clear hS2
              simp only [List.cons_append, List.nil_append] at hS
              generalize nd 10 = v10 at *
              replace hS := hS.drop.swap
              go_wp2_with (first | ((with_reducible apply wl_ld1 hS); (with_reducible rfl); rfl; rfl; decide +kernel; (first | exact Cell.old .head cid | exact Cell.old (.tail .head) cid | exact Cell.old (.tail (.tail .head)) cid | exact Cell.old (.tail (.tail (.tail .head))) cid); (refine frS ?_)) | (refine zl1 hS ?_) | (refine zlN hS ?_) | (refine zs1 hS ?_; clear hS; intro w hS) | (refine zsN hS ?_; clear hS; intro w hS) | (refine zbx hS ?_; clear hS; intro b w hS) | (refine zal hS ?_; clear hS; intro b w hS))
              go_roundw
              case rel =>
                refine ⟨i + 1, v10, rfl, hil, Hok2.out, ?_⟩
                rw [Hll.out, Hts.out]
                unfold pileR
                rw [List.length_append, List.flatMap_append]
                exact hS
              case measure => simp [intOf]; omega
  · have h32' : (32 : Int) < (l.length : Int) := by omega
    go_enter Tryz.func47, Tryz.ntmps47
    go_wp2_with fail
    go_ret2
    exact .inl ⟨.inl (by omega), rfl, hS⟩
end Go.Proofs.YtbcokphjpllbiaaGreat
end
