/-
  The document's vault: New, Total; two rows of purses, of orders. For every vault.
  Numbers as bytes: the document's. For every number.
  Numbers and names as bytes: the document's; a string's bytes, a string out of bytes. For all numbers and strings.
-/
import Derived.Test.YtbcokphjpllbiaaGreatVaultDecodesM5
import Derived.Test.YtbcokphjpllbiaaGreatVaultDecodesM19
import Derived.Laws.Bits64b
import Derived.Laws.IdiomStrings
section
set_option linter.unusedSimpArgs false
set_option linter.unusedVariables false
namespace Go.Proofs.YtbcokphjpllbiaaGreat
open Go.RowKit Go.Sl
set_option maxRecDepth 100000 in
theorem new8 (W w : World) (R : List HP) (hS : St W R w) :
    Calls Tryz.prog 16 #[] w fun e w' => ∃ xb xB, e = .returned (.pointer (some ⟨xb, 0, none⟩)) ∧ St W (xvR xb xB [] [] 1 R) w' := by
  go_enter Tryz.func16, Tryz.ntmps16
  go_wp2_with (first | ((fail_if_success (have := bA)); (with_reducible apply wl_box hS); (with_reducible rfl); rfl; rfl; rfl; clear hS; intro bA w hS; (refine frS ?_)) | ((have := bA); (with_reducible apply wl_box hS); (with_reducible rfl); rfl; rfl; rfl; clear hS; intro bB w hS; (refine frS ?_)))
  go_ret
  have hS1 := (hS.rowNil (k := 5) (T := 94)).rowNil (k := 6) (T := 41)
  have e0 : hdL [] = [] := List.eq_nil_of_length_eq_zero (by rw [hdL_len]; rfl)
  have hS2 : St W (pileR (.slice none 0 0) [] :: hdR (.slice none 0 0) [] :: _) _ := hS1
  rw [← e0] at hS2
  have hS3 := xkShut (n := 1) (last := 0) (by decide) (hS2.sel (L' := blk bA _ _ :: pileR _ [] :: blk bB _ _ :: hdR _ (hdL []) :: R) (by exact selS))
  exact ⟨bB, bA, rfl, xvShut (hS3.sel (L' := blk bB _ _ :: hdR _ (hdL []) :: xkP bA [] 1 :: R) (by exact selS))⟩
set_option maxRecDepth 100000 in
set_option maxHeartbeats 4000000 in
theorem total8 (xb xB : Nat) (p : Ps) (L : List Ord) (n : Int) {N : Nat} (hw : PsW p N) (hN : N ≤ 1000000) (hmay : ∀ x ∈ L, MayP x) (hl32 : L.length ≤ 32) (W w : World) (R : List HP) (hS : St W (xvR xb xB p L n R) w) :
    Calls Tryz.prog 27 #[.pointer (some ⟨xb, 0, none⟩)] w fun e w' => e = .returned (.tuple #[.agg (addF (allV ⟨p, L, n⟩)).cells.toArray, .bool (addL (allV ⟨p, L, n⟩) it0).isSome]) ∧ St W (xvR xb xB p L n R) w' := by
  have hlh : (hdL p).length ≤ 1000000 := by rw [hdL_len]; exact Nat.le_trans hw.len hN
  have Hmay := Lib.hid hmay
  clear hmay hw
  obtain ⟨xv, hS1⟩ := xvOpen hS
  obtain ⟨la, lc, last, hlast, hS2⟩ := xkOpen (hS1.sel (L' := xkP xB L n :: blk xb _ _ :: hdR _ (hdL p) :: R) (by exact selS))
  clear hS hS1
  obtain ⟨ha, hc, rfl⟩ := hS2.drop.drop.drop.rowVal
  have hS := hS2
  clear hS2
  unfold allV
  go_enter Tryz.func27, Tryz.ntmps27
  go_wp2_with (first | ((with_reducible apply wl_alloc hS); (with_reducible rfl); rfl; (exact zsS); clear hS; intro b0 w hS; (refine frS ?_)))
  have hS1 := hS.rowNil (k := 4) (T := 39)
  clear hS
  have hS := hS1
  clear hS1
  try dsimp only
  generalize hhs : hdL p = hs at hS hlh ⊢
  have Hhs := Lib.hid hhs
  clear hhs
  go_loopw [4, 5] (fun v4 v5 wr => TtR W (blk b0 [.int .i64 0, .int .i64 0, .int .i64 0, .int .i64 0] 39 :: blk xB [.slice la L.length lc, .int .i64 last] 68 :: pileR (.slice la L.length lc) L :: blk xb [.slice ha hs.length hc, .pointer (some ⟨xB, 0, none⟩), .int .i64 n] 65 :: hdR (.slice ha hs.length hc) hs :: R) hs.length (fun k => (hs.take k).map Hd.has) v4 v5 wr) (fun _ v5 _ => hs.length - (intOf v5).toNat)
  case atStart => exact ⟨0, rfl, Nat.zero_le _, hS⟩
  case round =>
    clear hS
    obtain ⟨k, rfl, hkl, hS⟩ := hrel
    dsimp only at hS
    by_cases hkn : k = hs.length
    · rw [hkn, List.take_length] at hS
      have hd1 : decide (k < hs.length) = false := by simp; omega
      clear hkl hkn
      generalize hacc : hs.map Hd.has = acc at hS ⊢
      have hal : acc.length ≤ 1000000 := by rw [← hacc, List.length_map]; exact hlh
      have Hacc := Lib.hid hacc
      clear hacc
      go_wp2_with (first | go_big_skip | (refine zl1 hS ?_))
      go_loopw [4, 6] (fun v4 v6 wr => TtR W (blk b0 [.int .i64 0, .int .i64 0, .int .i64 0, .int .i64 0] 39 :: blk xB [.slice la L.length lc, .int .i64 last] 68 :: pileR (.slice la L.length lc) L :: blk xb [.slice ha hs.length hc, .pointer (some ⟨xB, 0, none⟩), .int .i64 n] 65 :: hdR (.slice ha hs.length hc) hs :: R) L.length (fun k => acc ++ (L.take k).map holdsF) v4 v6 wr) (fun _ v6 _ => L.length - (intOf v6).toNat)
      case atStart => exact ⟨0, rfl, Nat.zero_le _, by simpa using hS⟩
      case round =>
        clear hS
        obtain ⟨j, rfl, hjl, hS⟩ := hrel
        dsimp only at hS
        by_cases hjn : j = L.length
        · rw [hjn, List.take_length] at hS
          have hd2 : decide (j < L.length) = false := by simp; omega
          clear hjl hjn
          obtain ⟨q, hq⟩ : ∃ q, addF (acc ++ L.map holdsF) = q := ⟨_, rfl⟩
          obtain ⟨s0, s1, s2, s3⟩ := q
          have Hq := Lib.hid hq
          clear hq
          go_wp2_with (first | go_big_skip | (refine zl1 hS ?_) | (go_at_call 63; refine (add8 _ _ W _ _ hS).mono ?_; clear hS; rw [Hq.out]; simp only [It.cells]; rintro e w ⟨rfl, hS⟩) | (refine zsN hS ?_; clear hS; intro w hS))
          (apply bp_cell_tmp; rfl; rfl; rfl; rfl; exact hS; decide +kernel; (exact cesS); kernel_rfl)
          rw [show (hdL p).map Hd.has = acc by rw [Hhs.out, Hacc.out], Hq.out]
          have hS1 := xkShut hlast (hS.sel (L' := blk xB _ _ :: pileR _ L :: blk xb _ _ :: hdR _ hs :: R) (by exact selS))
          rw [← Hhs.out] at hS1
          exact ⟨rfl, xvShut (hS1.sel (L' := blk xb _ _ :: hdR _ (hdL p) :: xkP xB L n :: R) (by exact selS))⟩
        · have hj1 : j < L.length := by omega
          obtain ⟨⟨g, rfl⟩, hcap, hcn⟩ := St.rowAddr hS.drop.drop.drop (by omega)
          have hcells : ∀ {K K' : List HP}, Take K (pileR (.slice (some ⟨g, 0, none⟩) L.length lc) L) K' → Cells K g (j * 6) (Ord.cells L[j]) := fun hu => Cells.elemM (enc := Ord.cells) Ord.len hu hj1
          have hstep : acc ++ (L.take (j + 1)).map holdsF = (acc ++ (L.take j).map holdsF) ++ [holdsF L[j]] := by rw [maps_step _ _ hj1, List.append_assoc]
          have hmx := Hmay.out _ (List.getElem_mem hj1)
          have hbl : (acc ++ (L.take j).map holdsF).length ≤ 1000100 := by rw [List.length_append, List.length_map, List.length_take]; omega
          have Hstep := Lib.hid hstep
          clear hstep hjn hjl
          generalize acc ++ (L.take j).map holdsF = accj at hS Hstep hbl
          generalize L[j] = x at hcells Hstep hmx
          obtain ⟨it, hit⟩ : ∃ y, holdsF x = y := ⟨_, rfl⟩
          obtain ⟨oi, ou, oy, ot, oc2, op⟩ := x
          obtain ⟨h0, h1, h2, h3⟩ := it
          have Hit := Lib.hid hit
          have Hm := Lib.hid hmx
          clear hit hmx
          simp only [Ord.cells] at hcells
          go_wp2_with (first | go_big_skip | (refine zlN hS ?_ (hc := by exact hcells (by exact takeS))) | (refine zl1 hS ?_) | (go_at_call 56; refine (holds8_at (o := ⟨oi, ou, oy, ot, oc2, op⟩) Hm.out Hit.out W _ _ hS).mono ?_; clear hS; rintro e w ⟨rfl, hS⟩) | (refine zbs hS ?_; clear hS; intro bS w hS) | (refine zap hS ?_ (h63 := by unfold maxLen; omega) (hb := by omega); clear hS; intro v w hS))
          go_roundw
          case rel =>
            refine ⟨j + 1, rfl, hj1, ?_⟩
            dsimp only
            rw [Hstep.out, Hit.out]
            unfold itsR
            rw [its_push, List.length_append, List.length_singleton]
            have h0 : St W (row v 4 39 (accj.length + 1) (accj.flatMap It.cells ++ It.cells ⟨h0, h1, h2, h3⟩) :: _) w := hS
            exact h0.sel (by exact selS)
          case measure => simp [intOf]; omega
    · have hk1 : k < hs.length := by omega
      obtain ⟨⟨g, rfl⟩, hcap, hcn⟩ := St.rowAddr hS.drop.drop.drop.drop.drop (by omega)
      have hitems : ∀ {K K' : List HP}, Take K (hdR (.slice (some ⟨g, 0, none⟩) hs.length hc) hs) K' → Cells K g (k * 5 + 1) (hs[k].has.cells) := fun hu j v hj => by
        have h1 := Cells.elemM (enc := Hd.cells) Hd.len hu hk1 (1 + j) v (by rw [Nat.add_comm]; exact hj)
        rwa [← Nat.add_assoc] at h1
      have hstep := maps_step Hd.has hs hk1
      have hbl : ((hs.take k).map Hd.has).length ≤ 1000000 := by rw [List.length_map, List.length_take]; omega
      have Hstep := Lib.hid hstep
      clear hstep hkn hkl
      generalize (hs.take k).map Hd.has = accj at hS Hstep hbl
      generalize hs[k] = x at hitems Hstep
      obtain ⟨xw, ⟨x0, x1, x2, x3⟩⟩ := x
      simp only [It.cells] at hitems
      go_wp2_with (first | go_big_skip | (refine zlN hS ?_ (hc := by exact hitems (by exact takeS))) | (refine zl1 hS ?_) | (refine zbs hS ?_; clear hS; intro bS w hS) | (refine zap hS ?_ (h63 := by unfold maxLen; omega) (hb := by omega); clear hS; intro v w hS))
      go_roundw
      case rel =>
        refine ⟨k + 1, rfl, hk1, ?_⟩
        dsimp only
        rw [Hstep.out]
        unfold itsR
        rw [its_push, List.length_append, List.length_singleton]
        have h0 : St W (row v 4 39 (accj.length + 1) (accj.flatMap It.cells ++ It.cells ⟨x0, x1, x2, x3⟩) :: _) w := hS
        exact h0.sel (by exact selS)
      case measure => simp [intOf]; omega
theorem eqI2 (d : Nat) (x0 x1 x2 x3 y0 y1 y2 y3 : Int) (w : World) : (Op.equalIn (d + 2) 39 (.agg #[.int .i64 x0, .int .i64 x1, .int .i64 x2, .int .i64 x3]) (.agg #[.int .i64 y0, .int .i64 y1, .int .i64 y2, .int .i64 y3])).run Tryz.prog w = .ok (x0 == y0 && (x1 == y1 && (x2 == y2 && x3 == y3))) w := by
  have u3 := Tryz.underlying3
  have a3 := Tryz.isAgg3
  have z3 := Tryz.sizeOf3
  rw [show d + 2 = (d + 1) + 1 from rfl, Op.equalIn]
  simp only [Sem.run_bind, run_underlying Tryz.underlying39, Result.andThen_ok]
  simp only [Std.Legacy.Range.forIn_eq_forIn_range', Std.Legacy.Range.size, Nat.sub_zero, Nat.add_sub_cancel, Nat.div_one, List.range'_succ, List.range'_zero, List.forIn_cons, List.forIn_nil]
  go_simp
  by_cases h1 : x0 = y0 <;> by_cases h2 : x1 = y1 <;> by_cases h3 : x2 = y2 <;> by_cases h4 : x3 = y3 <;> simp [h1, h2, h3, h4]
theorem eqHd (u : ByteArray) (x0 x1 x2 x3 : Int) (w : World) : (Op.equalIn 10000 94 (.agg #[.string u, .int .i64 x0, .int .i64 x1, .int .i64 x2, .int .i64 x3]) (.agg #[.string u, .int .i64 x0, .int .i64 x1, .int .i64 x2, .int .i64 x3])).run Tryz.prog w = .ok true w := by
  have u9 := Tryz.underlying9
  have a9 := Tryz.isAgg9
  have z9 := Tryz.sizeOf9
  have a39 := Tryz.isAgg39
  have z39 := Tryz.sizeOf39
  have hI := eqI2 9997 x0 x1 x2 x3 x0 x1 x2 x3
  rw [show (10000 : Nat) = 9999 + 1 from rfl, Op.equalIn]
  simp only [Sem.run_bind, run_underlying Tryz.underlying94, Result.andThen_ok]
  go_simp
def OrdR (W : World) (Lr : List HP) (n : Nat) (v : Value) (w : World) : Prop := ∃ i : Nat, v = .int .i64 i ∧ i ≤ n ∧ St W Lr w
set_option maxRecDepth 100000 in
set_option maxHeartbeats 4000000 in
theorem orders_spec (L : List Ord) (a1 a2 : Option Addr) (c1 c2 : Nat) (hlen : L.length ≤ 32) (W w : World) (Lr : List HP) (hS : St W (pileR (.slice a1 L.length c1) L :: pileR (.slice a2 L.length c2) L :: Lr) w) :
    Calls Tryz.prog 29 #[.slice a1 L.length c1, .slice a2 L.length c2] w fun e w' => e = .returned (.bool true) ∧ St W (pileR (.slice a1 L.length c1) L :: pileR (.slice a2 L.length c2) L :: Lr) w' := by
  go_enter Tryz.func29, Tryz.ntmps29
  go_wp2_with fail
  go_loopw [5] (fun v wr => OrdR W (pileR (.slice a1 L.length c1) L :: pileR (.slice a2 L.length c2) L :: Lr) L.length v wr) (fun v _ => L.length - (intOf v).toNat)
  case atStart => exact ⟨0, rfl, by omega, hS⟩
  case round =>
    clear hS
    obtain ⟨i, rfl, hi, hS⟩ := hrel
    by_cases hn : i = L.length
    · subst hn
      go_wp2_with fail
      go_ret
      exact ⟨rfl, hS⟩
    · have hil : i < L.length := by omega
      clear hn hi
      obtain ⟨⟨g1, rfl⟩, hc1, hn1⟩ := St.rowAddr hS (by omega)
      obtain ⟨⟨g2, rfl⟩, hc2, hn2⟩ := St.rowAddr hS.drop (by omega)
      have q1 : ∀ {X : List HP}, Cells (pileR (.slice (some ⟨g1, 0, none⟩) L.length c1) L :: X) g1 (i * 6) (Ord.cells L[i]) := fun {X} => Cells.rowE Ord.len hil
      have q2 : ∀ {X : List HP}, Cells (pileR (.slice (some ⟨g2, 0, none⟩) L.length c2) L :: X) g2 (i * 6) (Ord.cells L[i]) := fun {X} => Cells.rowE Ord.len hil
      generalize L[i] = x at q1 q2
      obtain ⟨xi, xu, xy, xt, xc, xp⟩ := x
      simp only [Ord.cells] at q1 q2
      go_wp2_with fail
      refine wp_region_flow2 [0, 0, 3, 7, 0, 0, 48, 112, 255] (fun _ => false) [] [none, none] (by kernel_rfl) (by kernel_rfl) rfl hS CongOk.nil ?_
      intro nd
      iterate 3 (refine ch_pure rfl (by kernel_rfl) rfl rfl ?_; intro K hK; go_big_quiet_op; go_big_quiet_on)
      (refine zcN ?_ (hc := by (intro F; exact q1)))
      iterate 3 (refine ch_pure rfl (by kernel_rfl) rfl rfl ?_; intro K hK; go_big_quiet_op; go_big_quiet_on)
      (refine zcN ?_ (hc := by (intro F; exact Cells.there q2)))
      (refine ch_pure rfl (by kernel_rfl) rfl rfl ?_; intro K hK; go_big_quiet_op; go_big_quiet_on)
      refine ch_end ?_
      clear hS q1 q2
      intro w hS
      have hS2 : St W [pileR _ _, pileR _ _, sats Lr] w := hS
      clear hS
      have hS := hS2.unpack [_, _]
      clear hS2
      simp only [List.cons_append, List.nil_append] at hS
      go_wp2_with fail
      go_roundw
      case rel => exact ⟨i + 1, rfl, hil, hS⟩
      case measure => simp [intOf]; omega
theorem orders_take {L : List Ord} {v1 v2 : Value} (hlen : L.length ≤ 32) {W w : World} {Lr R R2 : List HP} (hS : St W Lr w) (h1 : Take Lr (pileR v1 L) R) (h2 : Take R (pileR v2 L) R2) :
    Calls Tryz.prog 29 #[v1, v2] w fun e w' => e = .returned (.bool true) ∧ St W Lr w' := by
  obtain ⟨a1, c1, rfl⟩ := (hS.take h1).rowVal
  obtain ⟨a2, c2, rfl⟩ := ((hS.take h1).drop.take h2).rowVal
  have h3 : St W (pileR (.slice a2 L.length c2) L :: pileR (.slice a1 L.length c1) L :: R2) w := ⟨hS.os, hS.tape, hS.output, sep_swap (sep_mono (fun _ x => x) (fun _ x => h2.sats x) (h1.sats hS.sat))⟩
  refine (orders_spec L a1 a2 c1 c2 hlen W w R2 h3.swap).mono ?_
  rintro e w' ⟨rfl, h⟩
  refine ⟨rfl, St.back ⟨h.os, h.tape, h.output, sep_mono (fun _ x => x) (fun _ x => h2.back x) h.sat⟩ h1⟩
set_option maxRecDepth 100000 in
set_option maxHeartbeats 4000000 in
theorem holdings_spec (L : List Hd) (a1 a2 : Option Addr) (c1 c2 : Nat) (W w : World) (Lr : List HP) (hS : St W (hdR (.slice a1 L.length c1) L :: hdR (.slice a2 L.length c2) L :: Lr) w) :
    Calls Tryz.prog 28 #[.slice a1 L.length c1, .slice a2 L.length c2] w fun e w' => e = .returned (.bool true) ∧ St W (hdR (.slice a1 L.length c1) L :: hdR (.slice a2 L.length c2) L :: Lr) w' := by
  have h63 : L.length ≤ 9223372036854775807 := by
    rcases St.rowCase hS with ⟨_, h0, _⟩ | ⟨_, _, h1, h2⟩
    · omega
    · omega
  go_enter Tryz.func28, Tryz.ntmps28
  go_wp2_with fail
  go_loopw [5] (fun v wr => OrdR W (hdR (.slice a1 L.length c1) L :: hdR (.slice a2 L.length c2) L :: Lr) L.length v wr) (fun v _ => L.length - (intOf v).toNat)
  case atStart => exact ⟨0, rfl, by omega, hS⟩
  case round =>
    clear hS
    obtain ⟨i, rfl, hi, hS⟩ := hrel
    by_cases hn : i = L.length
    · subst hn
      go_wp2_with fail
      go_ret
      exact ⟨rfl, hS⟩
    · have hil : i < L.length := by omega
      clear hn hi
      obtain ⟨⟨g1, rfl⟩, hc1, hn1⟩ := St.rowAddr hS (by omega)
      obtain ⟨⟨g2, rfl⟩, hc2, hn2⟩ := St.rowAddr hS.drop (by omega)
      have q1 : ∀ {X : List HP}, Cells (hdR (.slice (some ⟨g1, 0, none⟩) L.length c1) L :: X) g1 (i * 5) (Hd.cells L[i]) := fun {X} => Cells.rowE Hd.len hil
      have q2 : ∀ {X : List HP}, Cells (hdR (.slice (some ⟨g2, 0, none⟩) L.length c2) L :: X) g2 (i * 5) (Hd.cells L[i]) := fun {X} => Cells.rowE Hd.len hil
      generalize L[i] = x at q1 q2
      obtain ⟨xu, ⟨x0, x1, x2, x3⟩⟩ := x
      simp only [Hd.cells, It.cells] at q1 q2
      go_wp2_with fail
      refine wp_region_reads (by kernel_rfl) (by kernel_rfl) hS ?_
      iterate 3 (refine wq_pure rfl rfl ?_; intro K hK; go_big_quiet_op; go_big_quiet_on)
      (apply wq_ldN; (with_reducible rfl); rfl; rfl; decide +kernel; (exact q1); kernel_rfl; (refine frS ?_))
      iterate 3 (refine wq_pure rfl rfl ?_; intro K hK; go_big_quiet_op; go_big_quiet_on)
      (apply wq_ldN; (with_reducible rfl); rfl; rfl; decide +kernel; (exact Cells.there q2); kernel_rfl; (refine frS ?_))
      ((with_reducible apply wq_neA); (with_reducible rfl); rfl; rfl; rfl; kernel_rfl; exact eqHd _ _ _ _ _; (simp only [Bool.not_true]); (simp only [Act.put, fA, fB, fC, Nat.reduceAdd, eP, It.cells]))
      clear hS q1 q2
      intro w hS
      go_wp2_with fail
      go_roundw
      case rel => exact ⟨i + 1, rfl, hil, hS⟩
      case measure => simp [intOf]; omega
theorem holdings_take {L : List Hd} {v1 v2 : Value} {W w : World} {Lr R R2 : List HP} (hS : St W Lr w) (h1 : Take Lr (hdR v1 L) R) (h2 : Take R (hdR v2 L) R2) :
    Calls Tryz.prog 28 #[v1, v2] w fun e w' => e = .returned (.bool true) ∧ St W Lr w' := by
  obtain ⟨a1, c1, rfl⟩ := (hS.take h1).rowVal
  obtain ⟨a2, c2, rfl⟩ := ((hS.take h1).drop.take h2).rowVal
  have h3 : St W (hdR (.slice a2 L.length c2) L :: hdR (.slice a1 L.length c1) L :: R2) w := ⟨hS.os, hS.tape, hS.output, sep_swap (sep_mono (fun _ x => x) (fun _ x => h2.sats x) (h1.sats hS.sat))⟩
  refine (holdings_spec L a1 a2 c1 c2 W w R2 h3.swap).mono ?_
  rintro e w' ⟨rfl, h⟩
  refine ⟨rfl, St.back ⟨h.os, h.tape, h.output, sep_mono (fun _ x => x) (fun _ x => h2.back x) h.sat⟩ h1⟩
end Go.Proofs.YtbcokphjpllbiaaGreat
end
section
set_option linter.unusedSimpArgs false
set_option linter.unusedVariables false
namespace Go.Proofs.YtbcokphjpllbiaaGreat
open Go.RowKit Go.Sl
def encF : Nat → Nat → List Int
  | 0, u => [(u : Int)]
  | f + 1, u => if 128 ≤ u then ((u % 128 + 128 : Nat) : Int) :: encF f (u / 128) else [(u : Int)]
def numU (n : Int) : Nat := if 4611686018427387904 < n then 4611686018427387904 else if 0 < n then n.toNat else 0
def numB (n : Int) : List Int := encF 8 (numU n)
theorem encF_small {f u : Nat} (h : u < 128) : encF f u = [(u : Int)] := by
  cases f with
  | zero => rfl
  | succ f => rw [encF, if_neg (by omega)]
theorem encF_len : ∀ f u, (encF f u).length ≤ f + 1
  | 0, u => Nat.le_refl _
  | f + 1, u => by
    rw [encF]
    split
    · have := encF_len f (u / 128)
      rw [List.length_cons]
      omega
    · simp
theorem numU_le (n : Int) : numU n ≤ 4611686018427387904 := by
  unfold numU
  repeat' split
  all_goals omega
theorem numB_len (n : Int) : (numB n).length ≤ 9 := encF_len _ _
theorem or_128 : ∀ v : Fin 256, bits .or .u8 ((v.val : Nat) : Int) 128 = ((v.val % 128 + 128 : Nat) : Int) := by decide +kernel
theorem byte_or (u : Nat) : bits .or .u8 ((u : Int) % 256) 128 = ((u % 128 + 128 : Nat) : Int) := by
  have h := or_128 ⟨u % 256, Nat.mod_lt _ (by decide)⟩
  have e : ((u : Int) % 256) = ((u % 256 : Nat) : Int) := by omega
  rw [e, h]
  have : u % 256 % 128 = u % 128 := Nat.mod_mod_of_dvd _ (by decide)
  simp only [this]
theorem byte_and {u : Nat} (hu : u ≤ 4611686018427387904) : bits .or .u8 (bits .and .u64 (u : Int) 127 % 256) 128 = ((u % 128 + 128 : Nat) : Int) := by
  have h := bits_and_u64_nat u 127 (by omega) (by decide)
  have e : u &&& 127 = u % 128 := Nat.and_two_pow_sub_one_eq_mod u 7
  have h2 : bits .and .u64 (u : Int) 127 = ((u % 128 : Nat) : Int) := by
    rw [← e]
    exact h
  rw [h2, byte_or, Nat.mod_mod]
theorem lt_pow9 {u : Nat} (h : u ≤ 4611686018427387904) : u < 128 ^ (8 + 1) := by
  have : (128 : Nat) ^ (8 + 1) = 9223372036854775808 := by decide
  omega
abbrev u8s (l : List Int) : List Value := l.map (Value.int .u8)
abbrev byR (v : Value) (l : List Int) : HP := row v 1 5 l.length (u8s l)
def NmR (W : World) (L : List HP) (t : List Int) (v3 v4 : Value) (w : World) : Prop :=
  ∃ (f u : Nat) (d : List Int), v3 = .int .u64 u ∧ u < 128 ^ (f + 1) ∧ u ≤ 4611686018427387904 ∧ f ≤ 8 ∧ d.length ≤ 8 - f ∧ d ++ encF f u = t ∧ St W (byR v4 d :: L) w
theorem u8s_push (d : List Int) (x : Int) : u8s (d ++ [x]) = u8s d ++ [Value.int .u8 x] := by unfold u8s; rw [List.map_append]; rfl
theorem byR_of {v : Value} {n : Nat} {l : List Int} {L : List HP} {W w : World} (hl : l.length = n) (h : St W (row v 1 5 n (u8s l) :: L) w) : St W (byR v l :: L) w := by
  unfold byR
  rw [hl]
  exact h
set_option maxRecDepth 100000 in
set_option maxHeartbeats 4000000 in
theorem num8 (n : Int) (hn : -9223372036854775808 ≤ n ∧ n ≤ 9223372036854775807) (W w : World) (R : List HP) (hS : St W R w) :
    Calls Tryz.prog 75 #[.int .i64 n] w fun e w' => ∃ v, e = .returned v ∧ St W (byR v (numB n) :: R) w' := by
  obtain ⟨u0, hu0⟩ : ∃ u, numU n = u := ⟨_, rfl⟩
  have hul : u0 ≤ 4611686018427387904 := by rw [← hu0]; exact numU_le n
  unfold numB
  rw [hu0]
  by_cases h1 : 4611686018427387904 < n
  · have e : numU n = 4611686018427387904 := by unfold numU; rw [if_pos h1]
    have eu : u0 = 4611686018427387904 := hu0.symm.trans e
    have Eu := Lib.hid eu
    clear hu0 e eu
    go_enter Tryz.func75, Tryz.ntmps75
    go_wp2_with (first | go_big_skip)
    have hS1 := hS.rowNil (k := 1) (T := 5)
    clear hS
    have hS := hS1
    clear hS1
    go_loopw [3, 4] (fun v3 v4 wr => NmR W R (encF 8 u0) v3 v4 wr) (fun v3 _ _ => (intOf v3).toNat)
    case atStart => exact ⟨8, u0, [], by rw [Eu.out]; rfl, lt_pow9 hul, hul, by omega, by simp, rfl, hS⟩
    case round =>
      clear hS
      obtain ⟨f, u, d, rfl, hu, hu2, hf, hd, hE, hS⟩ := hrel
      by_cases h128 : 128 ≤ u
      · obtain ⟨f, rfl⟩ : ∃ f', f = f' + 1 := by
          cases f with
          | zero => simp at hu; omega
          | succ f => exact ⟨f, rfl⟩
        have hu3 : u / 128 < 128 ^ (f + 1) := Nat.div_lt_of_lt_mul (by rw [Nat.pow_succ] at hu; omega)
        rw [encF, if_pos h128] at hE
        have Hu3 := Lib.hid hu3
        have HE := Lib.hid hE
        clear hE hu hu3
        go_wp2_with (first | go_big_skip | (refine zbs hS ?_; clear hS; intro bS w hS) | (refine zap hS ?_ (h63 := by unfold maxLen; omega) (hb := by omega); clear hS; intro v w hS))
        have hb := byte_and hu2
        have h0 : St W (row v 1 5 (d.length + 1) (u8s d ++ [Value.int .u8 (bits .or .u8 (bits .and .u64 (u : Int) 127 % 256) 128)]) :: _) w := hS
        rw [hb, ← u8s_push] at h0
        have h2 := byR_of (by rw [List.length_append, List.length_singleton]) h0
        go_roundw
        case rel => exact ⟨f, u / 128, d ++ [((u % 128 + 128 : Nat) : Int)], by rw [Int.natCast_ediv]; rfl, Hu3.out, by omega, by omega, by rw [List.length_append, List.length_singleton]; omega, by rw [List.append_assoc]; exact HE.out, h2.sel (by exact selS)⟩
        case measure => simp [intOf]; omega
      · have hu4 : u < 128 := by omega
        rw [encF_small hu4] at hE
        have HE := Lib.hid hE
        clear hE hu h128
        go_wp2_with (first | go_big_skip | (refine zbs hS ?_; clear hS; intro bS w hS) | (refine zap hS ?_ (h63 := by unfold maxLen; omega) (hb := by omega); clear hS; intro v w hS))
        go_ret
        refine ⟨v, rfl, ?_⟩
        have h0 : St W (row v 1 5 (d.length + 1) (u8s d ++ [Value.int .u8 (u : Int)]) :: _) w := hS
        rw [← u8s_push, HE.out] at h0
        have h2 := byR_of (by rw [← HE.out, List.length_append, List.length_singleton]) h0
        exact h2.sel (by exact selS)
  · have d1 : decide (4611686018427387904 < n) = false := by simpa using h1
    by_cases h2 : 0 < n
    · have e : numU n = n.toNat := by unfold numU; rw [if_neg h1, if_pos h2]
      obtain ⟨m, rfl⟩ : ∃ m : Nat, n = m := ⟨n.toNat, by omega⟩
      have eu : u0 = m := hu0.symm.trans (by rw [e]; simp)
      subst eu
      clear hu0 e
      go_enter Tryz.func75, Tryz.ntmps75
      go_wp2_with (first | go_big_skip)
      have hS1 := hS.rowNil (k := 1) (T := 5)
      clear hS
      have hS := hS1
      clear hS1
      go_loopw [3, 4] (fun v3 v4 wr => NmR W R (encF 8 u0) v3 v4 wr) (fun v3 _ _ => (intOf v3).toNat)
      case atStart => exact ⟨8, u0, [], rfl, lt_pow9 hul, hul, by omega, by simp, rfl, hS⟩
      case round =>
        clear hS
        obtain ⟨f, u, d, rfl, hu, hu2, hf, hd, hE, hS⟩ := hrel
        by_cases h128 : 128 ≤ u
        · obtain ⟨f, rfl⟩ : ∃ f', f = f' + 1 := by
            cases f with
            | zero => simp at hu; omega
            | succ f => exact ⟨f, rfl⟩
          have hu3 : u / 128 < 128 ^ (f + 1) := Nat.div_lt_of_lt_mul (by rw [Nat.pow_succ] at hu; omega)
          rw [encF, if_pos h128] at hE
          have Hu3 := Lib.hid hu3
          have HE := Lib.hid hE
          clear hE hu hu3
          go_wp2_with (first | go_big_skip | (refine zbs hS ?_; clear hS; intro bS w hS) | (refine zap hS ?_ (h63 := by unfold maxLen; omega) (hb := by omega); clear hS; intro v w hS))
          have hb := byte_and hu2
          have h0 : St W (row v 1 5 (d.length + 1) (u8s d ++ [Value.int .u8 (bits .or .u8 (bits .and .u64 (u : Int) 127 % 256) 128)]) :: _) w := hS
          rw [hb, ← u8s_push] at h0
          have h2 := byR_of (by rw [List.length_append, List.length_singleton]) h0
          go_roundw
          case rel => exact ⟨f, u / 128, d ++ [((u % 128 + 128 : Nat) : Int)], by rw [Int.natCast_ediv]; rfl, Hu3.out, by omega, by omega, by rw [List.length_append, List.length_singleton]; omega, by rw [List.append_assoc]; exact HE.out, h2.sel (by exact selS)⟩
          case measure => simp [intOf]; omega
        · have hu4 : u < 128 := by omega
          rw [encF_small hu4] at hE
          have HE := Lib.hid hE
          clear hE hu h128
          go_wp2_with (first | go_big_skip | (refine zbs hS ?_; clear hS; intro bS w hS) | (refine zap hS ?_ (h63 := by unfold maxLen; omega) (hb := by omega); clear hS; intro v w hS))
          go_ret
          refine ⟨v, rfl, ?_⟩
          have h0 : St W (row v 1 5 (d.length + 1) (u8s d ++ [Value.int .u8 (u : Int)]) :: _) w := hS
          rw [← u8s_push, HE.out] at h0
          have h2 := byR_of (by rw [← HE.out, List.length_append, List.length_singleton]) h0
          exact h2.sel (by exact selS)
    · have d2 : decide (0 < n) = false := by simpa using h2
      have e : numU n = 0 := by unfold numU; rw [if_neg h1, if_neg h2]
      have eu : u0 = 0 := hu0.symm.trans e
      have Eu := Lib.hid eu
      clear hu0 e eu
      go_enter Tryz.func75, Tryz.ntmps75
      go_wp2_with (first | go_big_skip)
      have hS1 := hS.rowNil (k := 1) (T := 5)
      clear hS
      have hS := hS1
      clear hS1
      go_loopw [3, 4] (fun v3 v4 wr => NmR W R (encF 8 u0) v3 v4 wr) (fun v3 _ _ => (intOf v3).toNat)
      case atStart => exact ⟨8, u0, [], by rw [Eu.out]; rfl, lt_pow9 hul, hul, by omega, by simp, rfl, hS⟩
      case round =>
        clear hS
        obtain ⟨f, u, d, rfl, hu, hu2, hf, hd, hE, hS⟩ := hrel
        by_cases h128 : 128 ≤ u
        · obtain ⟨f, rfl⟩ : ∃ f', f = f' + 1 := by
            cases f with
            | zero => simp at hu; omega
            | succ f => exact ⟨f, rfl⟩
          have hu3 : u / 128 < 128 ^ (f + 1) := Nat.div_lt_of_lt_mul (by rw [Nat.pow_succ] at hu; omega)
          rw [encF, if_pos h128] at hE
          have Hu3 := Lib.hid hu3
          have HE := Lib.hid hE
          clear hE hu hu3
          go_wp2_with (first | go_big_skip | (refine zbs hS ?_; clear hS; intro bS w hS) | (refine zap hS ?_ (h63 := by unfold maxLen; omega) (hb := by omega); clear hS; intro v w hS))
          have hb := byte_and hu2
          have h0 : St W (row v 1 5 (d.length + 1) (u8s d ++ [Value.int .u8 (bits .or .u8 (bits .and .u64 (u : Int) 127 % 256) 128)]) :: _) w := hS
          rw [hb, ← u8s_push] at h0
          have h2 := byR_of (by rw [List.length_append, List.length_singleton]) h0
          go_roundw
          case rel => exact ⟨f, u / 128, d ++ [((u % 128 + 128 : Nat) : Int)], by rw [Int.natCast_ediv]; rfl, Hu3.out, by omega, by omega, by rw [List.length_append, List.length_singleton]; omega, by rw [List.append_assoc]; exact HE.out, h2.sel (by exact selS)⟩
          case measure => simp [intOf]; omega
        · have hu4 : u < 128 := by omega
          rw [encF_small hu4] at hE
          have HE := Lib.hid hE
          clear hE hu h128
          go_wp2_with (first | go_big_skip | (refine zbs hS ?_; clear hS; intro bS w hS) | (refine zap hS ?_ (h63 := by unfold maxLen; omega) (hb := by omega); clear hS; intro v w hS))
          go_ret
          refine ⟨v, rfl, ?_⟩
          have h0 : St W (row v 1 5 (d.length + 1) (u8s d ++ [Value.int .u8 (u : Int)]) :: _) w := hS
          rw [← u8s_push, HE.out] at h0
          have h2 := byR_of (by rw [← HE.out, List.length_append, List.length_singleton]) h0
          exact h2.sel (by exact selS)
end Go.Proofs.YtbcokphjpllbiaaGreat
end
section
set_option linter.unusedSimpArgs false
set_option linter.unusedVariables false
namespace Go.Sl
open Go.RowKit
def strI (s : ByteArray) : List Int := s.data.toList.map fun b => (b.toNat : Int)
theorem strI_len (s : ByteArray) : (strI s).length = s.size := by unfold strI; rw [List.length_map]; rfl
/-- Block g holds a string's bytes, to be read. -/
def sbR (g : Nat) (s : ByteArray) : HP := fun f => ∃ o : Obj, (∀ w : World, w.heap[g]? = some o → ∀ (j : Nat) (u : Value), ((strI s).map (Value.int .u8))[j]? = some u → w.cell? ⟨g, j, none⟩ = some u) ∧ blkO g o f
section
variable {P : Program} {ops : Array Oper} {Q : Exit → Act → World → Prop} {a : Act} {w : World} {W : World} {L : List HP} {rest : List Oper} {o : Oper}
theorem Cells.sb {g : Nat} {s : ByteArray} : Cells (sbR g s :: L) g 0 ((strI s).map (Value.int .u8)) := fun j v hj W w hS => by
  obtain ⟨o, hS⟩ := St.ex hS
  obtain ⟨h1, hS⟩ := St.and hS
  rw [Nat.zero_add]
  exact h1 w (hS.get .head) j v hj
theorem wl_strBytes {src dst e : TypeId} {x : Operand} {s : ByteArray} (hS : St W L w) (ho : o.op = .convert src dst x) (hg : Region.wanted o (yielded ops a.tmps) = true) (hx : a.eval x = .string s)
    (hs : P.underlying src = some .string) (hd : P.underlying dst = some (.slice e)) (he : P.underlying e = some (.int .u8))
    (h : ∀ g c w', St W (sbR g s :: L) w' → wpList P ops Q rest (a.put o.dst (.slice (some ⟨g, 0, none⟩) s.size c)) w') : wpList P ops Q (o :: rest) a w := by
  have h1 := run_bytes_of_string (P := P) w src dst e s hs hd he
  refine wpList_run hg (v := .slice (some ⟨w.heap.size, 0, none⟩) s.size (grownCap w s.size 0 e)) (w' := w.drew.alloc (.cells (bytesRow s (grownCap w s.size 0 e)) e ((bytesRow s (grownCap w s.size 0 e)).size, (bytesRow s (grownCap w s.size 0 e)).size + 1))) ?_ (h _ _ _ ?_)
  · unfold execOp
    simp [ho, hx, h1]
  · have h2 := (hS.drawn (w.drawn + 1)).alloc (.cells (bytesRow s (grownCap w s.size 0 e)) e ((bytesRow s (grownCap w s.size 0 e)).size, (bytesRow s (grownCap w s.size 0 e)).size + 1))
    refine St.mkEx _ (St.mkAnd ?_ h2)
    intro w' hw j u hj
    rw [List.getElem?_map] at hj
    unfold strI at hj
    rw [List.getElem?_map] at hj
    have hw2 : w'.heap[w.heap.size]? = some (.cells (bytesRow s (grownCap w s.size 0 e)) e ((bytesRow s (grownCap w s.size 0 e)).size, (bytesRow s (grownCap w s.size 0 e)).size + 1)) := hw
    cases hb : s.data.toList[j]? with
    | none => rw [hb] at hj; cases hj
    | some b =>
      rw [hb] at hj
      simp only [Option.map_some, Option.some.injEq] at hj
      have hb2 : s.data[j]? = some b := by rw [← hb]; simp
      have hjl : j < s.data.size := (Array.getElem?_eq_some_iff.1 hb2).1
      have h3 : (bytesRow s (grownCap w s.size 0 e))[j]? = some u := by
        unfold bytesRow
        rw [Array.getElem?_append_left (by simpa using hjl), Array.getElem?_map, hb2, ← hj]
        rfl
      show w'.cell? ⟨w.heap.size, j, none⟩ = some u
      simp [World.cell?, hw2, h3]
end
end Go.Sl
namespace Go.Proofs.YtbcokphjpllbiaaGreat
open Go.RowKit Go.Sl
theorem u8_one (l : List Int) : (u8s l).all (·.oneCell') = true := by
  rw [List.all_eq_true]
  intro v hv
  obtain ⟨x, _, rfl⟩ := List.mem_map.1 hv
  rfl
theorem u8s_app (a b : List Int) : u8s (a ++ b) = u8s a ++ u8s b := List.map_append
theorem u8s_len (a : List Int) : (u8s a).length = a.length := List.length_map ..
set_option maxRecDepth 100000 in
set_option maxHeartbeats 4000000 in
theorem bytes8 (g c : Nat) (s : ByteArray) (hs : s.size ≤ 1000000) (W w : World) (R : List HP) (hS : St W (sbR g s :: R) w) :
    Calls Tryz.prog 76 #[.slice (some ⟨g, 0, none⟩) s.size c] w fun e w' => ∃ v, e = .returned v ∧ St W (byR v (numB s.size ++ strI s) :: R) w' := by
  have hln := numB_len s.size
  go_enter Tryz.func76, Tryz.ntmps76
  go_wp2_with (first | go_big_skip | (go_at_call 75; refine (num8 _ ⟨by omega, by omega⟩ W _ _ hS).mono ?_; clear hS; rintro e w ⟨vn, rfl, hS⟩; (have hv := hS.rowVal; obtain ⟨na, nc, rfl⟩ := hv)) | ((with_reducible apply wl_append hS); (with_reducible rfl); rfl; rfl; rfl; (exact esS); (exact rsS); rfl; decide; (exact takeS); exact Src.mk (Cells.there Cells.sb); (focus (rw [List.length_map, strI_len, Nat.mul_one])); (exact u8_one _); (focus (unfold maxLen; omega)); (focus (omega)); clear hS; intro v w hS; (refine frS ?_)))
  go_ret
  refine ⟨v, rfl, ?_⟩
  have h0 : St W (row v 1 5 ((numB s.size).length + s.size) (u8s (numB s.size) ++ u8s (strI s)) :: _) w := hS
  rw [← u8s_app] at h0
  have h2 := byR_of (by rw [List.length_append, strI_len]) h0
  exact h2.sel (by exact selS)
def NsR (W : World) (L : List HP) (ns : List Int) (v3 v4 : Value) (w : World) : Prop :=
  ∃ i : Nat, v4 = .int .i64 i ∧ i ≤ ns.length ∧ St W (byR v3 ((ns.take i).flatMap numB) :: L) w
theorem flat_le (ns : List Int) : (ns.flatMap numB).length ≤ 9 * ns.length := by
  induction ns with
  | nil => simp
  | cons n ns ih =>
    have := numB_len n
    rw [List.flatMap_cons, List.length_append, List.length_cons]
    omega
set_option maxRecDepth 100000 in
set_option maxHeartbeats 4000000 in
theorem nums8 (ns : List Int) (b c : Nat) (hl : ns.length ≤ 100) (hn : ∀ x ∈ ns, -9223372036854775808 ≤ x ∧ x ≤ 9223372036854775807) (W w : World) (R : List HP) (hS : St W (blk b (ns.map (Value.int .i64)) 3 :: R) w) :
    Calls Tryz.prog 78 #[.slice (some ⟨b, 0, none⟩) ns.length c] w fun e w' => ∃ v, e = .returned v ∧ St W (byR v (ns.flatMap numB) :: R) w' := by
  have Hn := Lib.hid hn
  clear hn
  go_enter Tryz.func78, Tryz.ntmps78
  go_wp2_with (first | go_big_skip)
  have hS1 := hS.rowNil (k := 1) (T := 5)
  clear hS
  have hS := hS1
  clear hS1
  go_loopw [3, 4] (fun v3 v4 wr => NsR W (blk b (ns.map (Value.int .i64)) 3 :: R) ns v3 v4 wr) (fun _ v4 _ => ns.length - (intOf v4).toNat)
  case atStart => exact ⟨0, rfl, Nat.zero_le _, hS⟩
  case round =>
    clear hS
    obtain ⟨i, rfl, hil, hS⟩ := hrel
    by_cases hin : i = ns.length
    · subst hin
      rw [List.take_length] at hS
      go_wp2_with (first | go_big_skip)
      go_ret
      exact ⟨u3, rfl, hS.sel (by exact selS)⟩
    · have hi1 : i < ns.length := by omega
      have hx : (ns.map (Value.int .i64))[i]? = some (.int .i64 ns[i]) := by rw [List.getElem?_map, List.getElem?_eq_getElem hi1]; rfl
      have hr := Hn.out _ (List.getElem_mem hi1)
      have hst : (ns.take (i + 1)).flatMap numB = (ns.take i).flatMap numB ++ numB ns[i] := by rw [List.take_succ_eq_append_getElem hi1, List.flatMap_append]; simp
      have hle := flat_le (ns.take i)
      rw [List.length_take] at hle
      generalize ns[i] = x at hx hr hst
      obtain ⟨r1, r2⟩ := hr
      have hlx := numB_len x
      have Hst := Lib.hid hst
      clear hst hin hil
      generalize (ns.take i).flatMap numB = d at hS Hst hle
      go_wp2_with (first | go_big_skip | (refine zl1 hS ?_ (hc := by exact Cell.there (Cell.here hx))) | (refine zl1 hS ?_ (hc := by exact Cell.here hx)) | (go_at_call 75; refine (num8 _ ⟨by omega, by omega⟩ W _ _ hS).mono ?_; clear hS; rintro e w ⟨vn, rfl, hS⟩; (have hv := hS.rowVal; obtain ⟨na, nc, rfl⟩ := hv)) | ((with_reducible apply wl_append hS); (with_reducible rfl); rfl; rfl; rfl; (exact esS); (exact rsS); rfl; decide; (exact takeS); exact St.src (by decide) hS; (focus (rw [u8s_len, Nat.mul_one])); (exact u8_one _); (focus (unfold maxLen; omega)); (focus (omega)); clear hS; intro v w hS; (refine frS ?_)))
      go_roundw
      case rel =>
        refine ⟨i + 1, rfl, hi1, ?_⟩
        rw [Hst.out]
        have h0 : St W (row v 1 5 (d.length + (numB x).length) (u8s d ++ u8s (numB x)) :: _) w := hS
        rw [← u8s_app] at h0
        have h2 := byR_of (by rw [List.length_append]) h0
        exact h2.sel (by exact selS)
      case measure => simp [intOf]; omega
end Go.Proofs.YtbcokphjpllbiaaGreat
end
