/-
  The vault's Total in all cases. For every vault.
-/
import Derived.Test.YtbcokphjpllbiaaGreatVaultPlaysM43

section
set_option linter.unusedSimpArgs false
set_option linter.unusedVariables false
namespace Go.Proofs.YtbcokphjpllbiaaGreat
open Go.RowKit Go.Sl
set_option maxRecDepth 100000 in
set_option maxHeartbeats 4000000 in
theorem totalV_g (vb mb bb : Nat) (p : Ps) (L : List Ord) (n : Int) {N : Nat} (hw : PsW p N) (hN : N ≤ 1000000000) (W w : World) (R : List HP) (hS : St W (vaultL vb mb bb p L n R) w) :
    Calls Tryz.prog 26 #[.pointer (some ⟨vb, 0, none⟩)] w fun e w' => e = .returned (.tuple #[.agg (addF (allV ⟨p, L, n⟩)).cells.toArray, .bool (addL (allV ⟨p, L, n⟩) it0).isSome]) ∧ St W (vaultL vb mb bb p L n R) w' := by
  have hll := bookL_len hS.drop.drop
  have hmay : ∀ x ∈ L, MayP x := fun x hx => (bookL_each hS.drop.drop x hx).1
  have hlh : (hdL p).length ≤ 1000000000 := by rw [hdL_len]; exact Nat.le_trans hw.len hN
  have Hmay := Lib.hid hmay
  have Hw := Lib.hid hw
  clear hmay hw
  go_enter Tryz.func26, Tryz.ntmps26
  go_wp2_with (first | (go_at_call 25; refine (listV_spec vb mb bb p L n Hw.out hN W _ _ (hS.sel (L' := blk vb _ _ :: amap eS eP mb p :: bookL bb L n :: blk b0 _ _ :: R) (by (repeat' (first | (with_reducible first | exact Sel.done Suf.refl | exact Sel.done (Suf.tail Suf.refl) | exact Sel.done (Suf.tail (Suf.tail Suf.refl)) | exact Sel.done (Suf.tail (Suf.tail (Suf.tail Suf.refl))) | (apply Sel.done; (focus((repeat(first|exact Suf.refl | apply Suf.tail)); done)))) | (refine Sel.cons (by with_reducible (focus((repeat(first|exact .head|apply Take.tail));done))) ?_)))))).mono ?_; clear hS; rintro e w ⟨sa, sc, oa, oc, rfl, hS⟩) | ((with_reducible apply wl_alloc hS); (with_reducible rfl); rfl; (with_reducible first | exact Ty.z39 | exact Ty.z41 | exact Ty.z94); clear hS; intro b0 w hS; (simp only [Act.put, fA, fB, fC, Nat.reduceAdd])))
  generalize hhs : hdL p = hs at hS hlh
  have Hhs := Lib.hid hhs
  clear hhs
  have hS1 := hS.rowNil (k := 4) (T := 39)
  clear hS
  have hS := hS1
  clear hS1
  go_loopw [7, 22] (fun v7 v22 wr => TtR W (vaultL vb mb bb p L n (hdR (.slice sa hs.length sc) hs :: pileR (.slice oa L.length oc) L :: blk b0 [.int .i64 0, .int .i64 0, .int .i64 0, .int .i64 0] 39 :: R)) hs.length (fun k => (hs.take k).map Hd.has) v7 v22 wr) (fun _ v22 _ => hs.length - (intOf v22).toNat)
  case atStart => exact ⟨0, rfl, Nat.zero_le _, hS⟩
  case round =>
    clear hS
    obtain ⟨k, rfl, hkl, hS⟩ := hrel
    dsimp only at hS
    by_cases hkn : k = hs.length
    · rw [hkn, List.take_length] at hS
      have hd1 : decide (k < hs.length) = false := by simp; omega
      clear hkl hkn
      generalize hacc : hs.map Hd.has = acc at hS
      have hal : acc.length ≤ 1000000000 := by rw [← hacc, List.length_map]; exact hlh
      have Hacc := Lib.hid hacc
      clear hacc
      go_wp2_with (first | go_big_skip)
      go_loopw [7, 34] (fun v7 v34 wr => TtR W (vaultL vb mb bb p L n (hdR (.slice sa hs.length sc) hs :: pileR (.slice oa L.length oc) L :: blk b0 [.int .i64 0, .int .i64 0, .int .i64 0, .int .i64 0] 39 :: R)) L.length (fun k => acc ++ (L.take k).map holdsF) v7 v34 wr) (fun _ v34 _ => L.length - (intOf v34).toNat)
      case atStart => exact ⟨0, rfl, Nat.zero_le _, by simpa using hS⟩
      case round =>
        clear hS
        obtain ⟨j, rfl, hjl, hS⟩ := hrel
        dsimp only at hS
        by_cases hjn : j = L.length
        · rw [hjn, List.take_length] at hS
          have hd2 : decide (j < L.length) = false := by simp; omega
          have eall : allV ⟨p, L, n⟩ = acc ++ L.map holdsF := by
            unfold allV
            rw [Hhs.out, Hacc.out]
          have Eall := Lib.hid eall
          clear eall
          obtain ⟨q, hq⟩ : ∃ q, addF (acc ++ L.map holdsF) = q := ⟨_, rfl⟩
          obtain ⟨s0, s1, s2, s3⟩ := q
          obtain ⟨bo, hbo⟩ : ∃ b, (addL (acc ++ L.map holdsF) it0).isSome = b := ⟨_, rfl⟩
          have Hq := Lib.hid hq
          have Hbo := Lib.hid hbo
          clear hq hbo hjl hjn
          cases bo
          · skip
            go_wp2_with (first | go_big_skip | (go_at_call 60; refine (add_it _ _ W _ _ hS).mono ?_; clear hS; rw [Hq.out, Hbo.out]; simp only [It.cells]; rintro e w ⟨rfl, hS⟩) | ((with_reducible apply wl_alloc hS); (with_reducible rfl); rfl; (with_reducible first | exact Ty.z39 | exact Ty.z41 | exact Ty.z94); clear hS; intro bt w hS; (simp only [Act.put, fA, fB, fC, Nat.reduceAdd])) | ((with_reducible apply wl_stN hS); (with_reducible rfl); rfl; rfl; (focus ((conv => lhs; whnf); try rfl)); kernel_rfl; rfl; ((focus((repeat(first|exact Upd.head | apply Upd.tail)); done))); (simp only [List.length_cons, List.length_nil]; omega); ((simp only [List.set_cons_zero, List.set_cons_succ, setAll]); rfl); clear hS; intro w hS; try (simp only [Act.put, fA, fB, fC, Nat.reduceAdd])) | ((with_reducible apply wl_ldN hS); (with_reducible rfl); rfl; rfl; decide +kernel; (first | (focus((repeat(first|exact Cells.whole | apply Cells.there)); done)) | assumption); kernel_rfl; (simp only [Act.put, fA, fB, fC, Nat.reduceAdd])))
            (apply bp_cell_tmp; rfl; rfl; rfl; rfl; exact hS; decide +kernel; (first | (focus((repeat(first|exact Cells.whole | apply Cells.there)); done)) | assumption); kernel_rfl)
            rw [Eall.out, Hq.out, Hbo.out]
            exact ⟨rfl, hS.sel (by (repeat' (first | (with_reducible first | exact Sel.done Suf.refl | exact Sel.done (Suf.tail Suf.refl) | exact Sel.done (Suf.tail (Suf.tail Suf.refl)) | exact Sel.done (Suf.tail (Suf.tail (Suf.tail Suf.refl))) | (apply Sel.done; (focus((repeat(first|exact Suf.refl | apply Suf.tail)); done)))) | (refine Sel.cons (by with_reducible (focus((repeat(first|exact .head|apply Take.tail));done))) ?_))))⟩
          · skip
            go_wp2_with (first | go_big_skip | (go_at_call 60; refine (add_it _ _ W _ _ hS).mono ?_; clear hS; rw [Hq.out, Hbo.out]; simp only [It.cells]; rintro e w ⟨rfl, hS⟩) | ((with_reducible apply wl_alloc hS); (with_reducible rfl); rfl; (with_reducible first | exact Ty.z39 | exact Ty.z41 | exact Ty.z94); clear hS; intro bt w hS; (simp only [Act.put, fA, fB, fC, Nat.reduceAdd])) | ((with_reducible apply wl_stN hS); (with_reducible rfl); rfl; rfl; (focus ((conv => lhs; whnf); try rfl)); kernel_rfl; rfl; ((focus((repeat(first|exact Upd.head | apply Upd.tail)); done))); (simp only [List.length_cons, List.length_nil]; omega); ((simp only [List.set_cons_zero, List.set_cons_succ, setAll]); rfl); clear hS; intro w hS; try (simp only [Act.put, fA, fB, fC, Nat.reduceAdd])) | ((with_reducible apply wl_ldN hS); (with_reducible rfl); rfl; rfl; decide +kernel; (first | (focus((repeat(first|exact Cells.whole | apply Cells.there)); done)) | assumption); kernel_rfl; (simp only [Act.put, fA, fB, fC, Nat.reduceAdd])))
            (apply bp_cell_tmp; rfl; rfl; rfl; rfl; exact hS; decide +kernel; (first | (focus((repeat(first|exact Cells.whole | apply Cells.there)); done)) | assumption); kernel_rfl)
            rw [Eall.out, Hq.out, Hbo.out]
            exact ⟨rfl, hS.sel (by (repeat' (first | (with_reducible first | exact Sel.done Suf.refl | exact Sel.done (Suf.tail Suf.refl) | exact Sel.done (Suf.tail (Suf.tail Suf.refl)) | exact Sel.done (Suf.tail (Suf.tail (Suf.tail Suf.refl))) | (apply Sel.done; (focus((repeat(first|exact Suf.refl | apply Suf.tail)); done)))) | (refine Sel.cons (by with_reducible (focus((repeat(first|exact .head|apply Take.tail));done))) ?_))))⟩
        · have hj1 : j < L.length := by omega
          obtain ⟨⟨g, rfl⟩, hcap, hcn⟩ := St.rowAddr hS.drop.drop.drop.drop.drop (by omega)
          have hcells : ∀ {K K' : List HP}, Take K (pileR (.slice (some ⟨g, 0, none⟩) L.length oc) L) K' → Cells K g (j * 6) (Ord.cells L[j]) := fun hu => Cells.elemM (enc := Ord.cells) Ord.len hu hj1
          have hstep : acc ++ (L.take (j + 1)).map holdsF = (acc ++ (L.take j).map holdsF) ++ [holdsF L[j]] := by rw [maps_step _ _ hj1, List.append_assoc]
          have hmx := Hmay.out _ (List.getElem_mem hj1)
          have hbl : (acc ++ (L.take j).map holdsF).length ≤ 1000000100 := by rw [List.length_append, List.length_map, List.length_take]; omega
          have Hstep := Lib.hid hstep
          clear hstep hjn hjl
          generalize acc ++ (L.take j).map holdsF = accj at hS Hstep hbl
          generalize L[j] = x at hcells Hstep hmx
          obtain ⟨it, hit⟩ : ∃ y, holdsF x = y := ⟨_, rfl⟩
          obtain ⟨oi, ou, oy, ot, oc2, op⟩ := x
          obtain ⟨h0, h1, h2, h3⟩ := it
          have Hit := Lib.hid hit
          have Hm := Lib.hid hmx
          clear hit hmx
          simp only [Ord.cells] at hcells
          go_wp2_with (first | go_big_skip | ((with_reducible apply wl_ldN hS); (with_reducible rfl); rfl; rfl; decide +kernel; (exact hcells (by (focus((repeat(first|exact .head|apply Take.tail));done)))); kernel_rfl; (simp only [Act.put, fA, fB, fC, Nat.reduceAdd])) | (go_at_call 52; refine (holds_at (o := ⟨oi, ou, oy, ot, oc2, op⟩) Hm.out Hit.out W _ _ hS).mono ?_; clear hS; rintro e w ⟨rfl, hS⟩) | ((with_reducible apply wl_bs hS); (with_reducible rfl); rfl; (focus (simp only [fD, List.map_cons, List.map_nil, Act.eval, fE, fF, fG, fH, Option.getD_some]; try rfl)); (exact Ty.e128); (exact Ty.r39); rfl; rfl; rfl; rfl; clear hS; intro bS w hS; (simp only [Act.put, fA, fB, fC, Nat.reduceAdd])) | ((with_reducible apply wl_append hS); (with_reducible rfl); rfl; rfl; rfl; (exact Ty.e128); (exact Ty.r39); rfl; decide; ((focus((repeat(first|exact .head|apply Take.tail));done))); (exact Src.mk Cells.whole); (focus (try rfl)); rfl; (focus (unfold maxLen; omega)); (focus (omega)); clear hS; intro v w hS; (simp only [Act.put, fA, fB, fC, Nat.reduceAdd])) | ((with_reducible apply wl_alloc hS); (with_reducible rfl); rfl; (with_reducible first | exact Ty.z39 | exact Ty.z41 | exact Ty.z94); clear hS; intro bx w hS; (simp only [Act.put, fA, fB, fC, Nat.reduceAdd])) | ((with_reducible apply wl_stN hS); (with_reducible rfl); rfl; rfl; (focus ((conv => lhs; whnf); try rfl)); kernel_rfl; rfl; ((focus((repeat(first|exact Upd.head | apply Upd.tail)); done))); (simp only [List.length_cons, List.length_nil]; omega); ((simp only [List.set_cons_zero, List.set_cons_succ, setAll]); rfl); clear hS; intro w hS; try (simp only [Act.put, fA, fB, fC, Nat.reduceAdd])) | ((with_reducible apply wl_ldN hS); (with_reducible rfl); rfl; rfl; decide +kernel; (first | (focus((repeat(first|exact Cells.whole | apply Cells.there)); done)) | assumption); kernel_rfl; (simp only [Act.put, fA, fB, fC, Nat.reduceAdd])))
          go_roundw
          case rel =>
            refine ⟨j + 1, rfl, hj1, ?_⟩
            dsimp only
            rw [Hstep.out, Hit.out]
            unfold itsR
            rw [its_push, List.length_append, List.length_singleton]
            have h0 : St W (row v 4 39 (accj.length + 1) (accj.flatMap It.cells ++ It.cells ⟨h0, h1, h2, h3⟩) :: _) w := hS
            exact h0.sel (by (repeat' (first | (with_reducible first | exact Sel.done Suf.refl | exact Sel.done (Suf.tail Suf.refl) | exact Sel.done (Suf.tail (Suf.tail Suf.refl)) | exact Sel.done (Suf.tail (Suf.tail (Suf.tail Suf.refl))) | (apply Sel.done; (focus((repeat(first|exact Suf.refl | apply Suf.tail)); done)))) | (refine Sel.cons (by with_reducible (focus((repeat(first|exact .head|apply Take.tail));done))) ?_))))
          case measure => simp [intOf]; omega
    · have hk1 : k < hs.length := by omega
      obtain ⟨⟨g, rfl⟩, hcap, hcn⟩ := St.rowAddr hS.drop.drop.drop.drop (by omega)
      have hcells : ∀ {K K' : List HP}, Take K (hdR (.slice (some ⟨g, 0, none⟩) hs.length sc) hs) K' → Cells K g (k * 5) (Hd.cells hs[k]) := fun hu => Cells.elemM (enc := Hd.cells) Hd.len hu hk1
      have hstep := maps_step Hd.has hs hk1
      have hbl : ((hs.take k).map Hd.has).length ≤ 1000000100 := by rw [List.length_map, List.length_take]; omega
      have Hstep := Lib.hid hstep
      clear hstep hkn hkl
      generalize (hs.take k).map Hd.has = accj at hS Hstep hbl
      generalize hs[k] = x at hcells Hstep
      obtain ⟨xw, ⟨x0, x1, x2, x3⟩⟩ := x
      simp only [Hd.cells, It.cells] at hcells
      go_wp2_with (first | go_big_skip | ((with_reducible apply wl_ldN hS); (with_reducible rfl); rfl; rfl; decide +kernel; (exact hcells (by (focus((repeat(first|exact .head|apply Take.tail));done)))); kernel_rfl; (simp only [Act.put, fA, fB, fC, Nat.reduceAdd])) | ((with_reducible apply wl_ldN hS); (with_reducible rfl); rfl; rfl; decide +kernel; (exact Cells.here (vs := [.int .i64 x0, .int .i64 x1, .int .i64 x2, .int .i64 x3]) rfl); kernel_rfl; (simp only [Act.put, fA, fB, fC, Nat.reduceAdd])) | ((with_reducible apply wl_bs hS); (with_reducible rfl); rfl; (focus (simp only [fD, List.map_cons, List.map_nil, Act.eval, fE, fF, fG, fH, Option.getD_some]; try rfl)); (exact Ty.e128); (exact Ty.r39); rfl; rfl; rfl; rfl; clear hS; intro bS w hS; (simp only [Act.put, fA, fB, fC, Nat.reduceAdd])) | ((with_reducible apply wl_append hS); (with_reducible rfl); rfl; rfl; rfl; (exact Ty.e128); (exact Ty.r39); rfl; decide; ((focus((repeat(first|exact .head|apply Take.tail));done))); (exact Src.mk Cells.whole); (focus (try rfl)); rfl; (focus (unfold maxLen; omega)); (focus (omega)); clear hS; intro v w hS; (simp only [Act.put, fA, fB, fC, Nat.reduceAdd])) | ((with_reducible apply wl_alloc hS); (with_reducible rfl); rfl; (with_reducible first | exact Ty.z39 | exact Ty.z41 | exact Ty.z94); clear hS; intro bx w hS; (simp only [Act.put, fA, fB, fC, Nat.reduceAdd])) | ((with_reducible apply wl_stN hS); (with_reducible rfl); rfl; rfl; (focus ((conv => lhs; whnf); try rfl)); kernel_rfl; rfl; ((focus((repeat(first|exact Upd.head | apply Upd.tail)); done))); (simp only [List.length_cons, List.length_nil]; omega); ((simp only [List.set_cons_zero, List.set_cons_succ, setAll]); rfl); clear hS; intro w hS; try (simp only [Act.put, fA, fB, fC, Nat.reduceAdd])))
      go_roundw
      case rel =>
        refine ⟨k + 1, rfl, hk1, ?_⟩
        dsimp only
        rw [Hstep.out]
        unfold itsR
        rw [its_push, List.length_append, List.length_singleton]
        have h0 : St W (row v 4 39 (accj.length + 1) (accj.flatMap It.cells ++ It.cells ⟨x0, x1, x2, x3⟩) :: _) w := hS
        exact h0.sel (by (repeat' (first | (with_reducible first | exact Sel.done Suf.refl | exact Sel.done (Suf.tail Suf.refl) | exact Sel.done (Suf.tail (Suf.tail Suf.refl)) | exact Sel.done (Suf.tail (Suf.tail (Suf.tail Suf.refl))) | (apply Sel.done; (focus((repeat(first|exact Suf.refl | apply Suf.tail)); done)))) | (refine Sel.cons (by with_reducible (focus((repeat(first|exact .head|apply Take.tail));done))) ?_))))
      case measure => simp [intOf]; omega
end Go.Proofs.YtbcokphjpllbiaaGreat
end
