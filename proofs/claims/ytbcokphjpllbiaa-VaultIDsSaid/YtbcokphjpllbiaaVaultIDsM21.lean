/-
  VaultIDs: the walk. For every script.
-/
import Derived.Test.YtbcokphjpllbiaaVaultIDsM20

section
set_option linter.unusedSimpArgs false
set_option linter.unusedVariables false
namespace Go.Proofs.Ytbcokphjpllbiaa
open Go.RowKit Go.Sl
def IkR (W : World) (F : List HP) (m : Nat) (v : Value) (w : World) : Prop := ∃ k : Nat, v = .int .i64 k ∧ k ≤ m ∧ St W F w
def IdR (W : World) (Lr : List HP) (m vb mb bb : Nat) (v4 v5 : Value) (w : World) : Prop :=
  ∃ (i : Nat) (p : Ps) (L : List Ord) (n : Int), v5 = .int .i64 i ∧ v4 = .int .i64 n ∧ i ≤ m ∧ i ≤ 100 ∧ VOk p n i ∧ St W (vaultL vb mb bb p L n Lr) w
set_option maxRecDepth 100000 in
set_option maxHeartbeats 8000000 in
theorem ids_spec (xs : List Vact) (v : Value) (V : World) (hv : SliceV Vact.cells 13 V v xs) (W w : World) (Lr : List HP) (hS : St W (Old V :: Lr) w) :
    Calls Try.prog 5 #[v] w fun e w' => e = .returned (.bool true) ∧ St W (Old V :: Lr) w' := by
  have Hv := Lib.hid hv
  obtain ⟨a, cap, rfl, h63, hact⟩ := hv.vact
  have Ha := Lib.hid hact
  clear hact hv
  go_enter Try.func5, Try.ntmps5
  go_wp2_with (first | (go_at_call 15; refine (heavy_spec xs _ V Hv.out W _ _ hS).mono ?_; clear hS; rintro e w ⟨hvy, rfl, hS⟩) | (go_at_call 9; refine (newV_spec W _ _ hS).mono ?_; clear hS; rintro e w ⟨vb, mb, bb, rfl, hS⟩))
  · go_ret
    exact ⟨rfl, hS⟩
  go_loopw [4, 5] (fun v4 v5 wr => IdR W (Old V :: Lr) xs.length vb mb bb v4 v5 wr) (fun _ v5 _ => xs.length - (intOf v5).toNat)
  case atStart => exact ⟨0, [], [], 1, rfl, rfl, by omega, by omega, vOk0, hS⟩
  case round =>
    clear hS
    obtain ⟨i, p, L, n, rfl, rfl, hi, hi2, hok, hS⟩ := hrel
    have Hok := Lib.hid hok
    obtain ⟨_, _, n0, n1⟩ := hok
    by_cases hend : i = xs.length ∨ i = 100
    · rcases hend with hend | hend
      · subst hend
        go_wp2_with (first | go_big_skip | (go_at_call 8; refine (knownV_spec W _ _ hS).mono ?_; clear hS; rintro e w ⟨rfl, hS⟩))
        go_ret
        exact ⟨rfl, hS.drop.drop.drop⟩
      · subst hend
        by_cases hlt : 100 < xs.length
        · go_wp2_with (first | go_big_skip | (go_at_call 8; refine (knownV_spec W _ _ hS).mono ?_; clear hS; rintro e w ⟨rfl, hS⟩))
          go_ret
          exact ⟨rfl, hS.drop.drop.drop⟩
        · have d1 : decide ((100 : Int) < (xs.length : Int)) = false := by simp; omega
          go_wp2_with (first | go_big_skip | (go_at_call 8; refine (knownV_spec W _ _ hS).mono ?_; clear hS; rintro e w ⟨rfl, hS⟩))
          go_ret
          exact ⟨rfl, hS.drop.drop.drop⟩
    · have hil : i < xs.length := by omega
      have hi3 : i < 100 := by omega
      have hN : 200 * (i + 1) ≤ 1000000000 := by omega
      clear hend hi hi2
      obtain ⟨pb, poff, rfl, hA⟩ := Ha.out i hil
      obtain ⟨ck, cn, cw, c0, c1, c2, c3, co, cits, cord, call⟩ := hA
      generalize xs[i] = x at ck cn cw c0 c1 c2 c3 co cits cord call
      obtain ⟨kd, nn, who, ⟨i0, i1, i2, i3⟩, ⟨oi, ou, oy, ot, oc, op⟩⟩ := x
      simp only at ck cn cw c0 c1 c2 c3 co cits cord call
      clear c0 c1 c2 c3 co call
      by_cases hk1 : kd = 1
      · subst hk1
        go_wp2_with (first | ((with_reducible apply wl_ld1 hS); (with_reducible rfl); rfl; rfl; decide +kernel; (first | exact Cell.old .head ck | exact Cell.old (.tail .head) ck | exact Cell.old (.tail (.tail .head)) ck | exact Cell.old (.tail (.tail (.tail .head))) ck | exact Cell.old (.tail (.tail (.tail (.tail .head)))) ck | exact Cell.old (.tail (.tail (.tail (.tail (.tail .head))))) ck); (simp only [Act.put, List.setIfInBounds_toArray, List.set_cons_succ, List.set_cons_zero, Nat.reduceAdd])))
        refine wp_region_tail 11 (by kernel_rfl) (by kernel_rfl) hS ?_
        repeat (first | go_big_quiet_skip | (apply wq_ld1; (with_reducible rfl); rfl; rfl; decide +kernel; (first | exact Cell.old .head cw | exact Cell.old (.tail .head) cw | exact Cell.old (.tail (.tail .head)) cw | exact Cell.old (.tail (.tail (.tail .head))) cw | exact Cell.old (.tail (.tail (.tail (.tail .head)))) cw | exact Cell.old (.tail (.tail (.tail (.tail (.tail .head))))) cw); (simp only [Act.put, List.setIfInBounds_toArray, List.set_cons_succ, List.set_cons_zero, Nat.reduceAdd])) | (apply wq_ldN; (with_reducible rfl); rfl; rfl; decide +kernel; (first | exact Cells.old .head cits | exact Cells.old (.tail .head) cits | exact Cells.old (.tail (.tail .head)) cits | exact Cells.old (.tail (.tail (.tail .head))) cits); kernel_rfl; (simp only [Act.put, List.setIfInBounds_toArray, List.set_cons_succ, List.set_cons_zero, Nat.reduceAdd])) | (refine wq_pure rfl rfl ?_; intro K hK; go_big_quiet_op; go_big_quiet_on))
        clear hS
        intro w hS
        simp only [List.drop_succ_cons, List.drop_zero]
        have hnn : (n != n) = false := by simp
        go_wp2_with (first | (go_at_call 10; refine (put_st vb mb bb W _ _ Hok.out who ⟨i0, i1, i2, i3⟩ hS).mono ?_; clear hS; generalize putP p who ⟨i0, i1, i2, i3⟩ = p2; rintro e w ⟨rfl, hok2, hS⟩; have Hok2 := Lib.hid hok2; clear hok2) | (go_at_call 16; refine (listV_spec vb mb bb _ _ _ Hok2.out.w hN W _ _ hS).mono ?_; clear hS; rintro e w ⟨sa, sc, oa, oc, rfl, hS⟩))
        generalize L = L2 at hS
        go_loopw [11] (fun v wr => IkR W (vaultL vb mb bb p2 L2 n (hdR (.slice sa (hdL p2).length sc) (hdL p2) :: pileR (.slice oa L2.length oc) L2 :: Old V :: Lr)) (hdL p2).length v wr) (fun v _ => (hdL p2).length - (intOf v).toNat)
        case atStart => exact ⟨0, rfl, Nat.zero_le _, hS⟩
        case round =>
          clear hS
          obtain ⟨k, rfl, hkl, hS⟩ := hrel
          by_cases hkn : k = (hdL p2).length
          · subst hkn
            go_wp2_with fail
            first | (go_roundw; (case rel => exact ⟨i + 1, p2, L2, n, rfl, rfl, hil, hi3, Hok2.out, hS.sel (by (repeat' (first | (with_reducible first | exact Sel.done Suf.refl | exact Sel.done (Suf.tail Suf.refl) | exact Sel.done (Suf.tail (Suf.tail Suf.refl)) | exact Sel.done (Suf.tail (Suf.tail (Suf.tail Suf.refl))) | (apply Sel.done; (focus ((repeat (first | exact Suf.refl | apply Suf.tail)); done)))) | (refine Sel.cons (by with_reducible (focus ((repeat (first | exact Take.head | apply Take.tail)); done))) ?_))))⟩); (case measure => simp [intOf]; omega)) | (refine ⟨?_, ?measure⟩; (repeat apply Exists.intro); refine ⟨?rel, rfl⟩; (case rel => exact ⟨i + 1, p2, L2, n, rfl, rfl, hil, hi3, Hok2.out, hS.sel (by (repeat' (first | (with_reducible first | exact Sel.done Suf.refl | exact Sel.done (Suf.tail Suf.refl) | exact Sel.done (Suf.tail (Suf.tail Suf.refl)) | exact Sel.done (Suf.tail (Suf.tail (Suf.tail Suf.refl))) | (apply Sel.done; (focus ((repeat (first | exact Suf.refl | apply Suf.tail)); done)))) | (refine Sel.cons (by with_reducible (focus ((repeat (first | exact Take.head | apply Take.tail)); done))) ?_))))⟩); (case measure => simp [intOf]; omega))
          · have hk1 : k < (hdL p2).length := by omega
            obtain ⟨⟨hg, rfl⟩, hcap, hcn⟩ := St.rowAddr hS.drop.drop.drop (by omega)
            obtain ⟨hhas, hnz, hlt⟩ := hdL_at Hok2.out.w hk1
            have hcells : ∀ {K K' : List HP}, Take K (hdR (.slice (some ⟨hg, 0, none⟩) (hdL p2).length sc) (hdL p2)) K' → ∀ m, ∀ hm : m < (hdL p2).length, Cells K hg (m * 5) (Hd.cells (hdL p2)[m]) := fun hu m hm => Cells.elemM (enc := Hd.cells) Hd.len hu hm
            have hitems : ∀ {K K' : List HP}, Take K (hdR (.slice (some ⟨hg, 0, none⟩) (hdL p2).length sc) (hdL p2)) K' → Cells K hg (k * 5 + 1) ((hdL p2)[k].has.cells) := fun hu j v hj => by
              have h1 := hcells hu k hk1 (1 + j) v (by rw [Nat.add_comm]; exact hj)
              rwa [← Nat.add_assoc] at h1
            have hname : ∀ {K K' : List HP}, Take K (hdR (.slice (some ⟨hg, 0, none⟩) (hdL p2).length sc) (hdL p2)) K' → Cell K hg (k * 5) (.string (hdL p2)[k].who) := fun hu => hcells hu k hk1 0 _ rfl
            by_cases hk0 : k = 0
            · subst hk0
              clear hlt hcells
              generalize (hdL p2)[0] = x at hhas hnz hitems hname
              obtain ⟨xw, ⟨x0, x1, x2, x3⟩⟩ := x
              simp only at hhas hnz hitems hname
              have hz : (x0 == 0 && (x1 == 0 && (x2 == 0 && x3 == 0))) = false := hnz
              have he : ((x0 == x0) && ((x1 == x1) && ((x2 == x2) && (x3 == x3)))) = true := by simp
              have Hhas := Lib.hid hhas.symm
              clear hhas hnz
              simp only [It.cells] at hitems
              go_wp2_with fail
              refine wp_region_reads (by kernel_rfl) (by kernel_rfl) hS ?_
              iterate 4 (refine wq_pure rfl rfl ?_; intro K hK; go_big_quiet_op; go_big_quiet_on)
              (apply wq_ldN; (with_reducible rfl); rfl; rfl; decide +kernel; (exact hitems (by (focus ((repeat (first | exact Take.head | apply Take.tail)); done)))); kernel_rfl; (simp only [Act.put, List.setIfInBounds_toArray, List.set_cons_succ, List.set_cons_zero, Nat.reduceAdd]))
              (refine wq_pure rfl rfl ?_; intro K hK; go_big_quiet_op; go_big_quiet_on)
              ((with_reducible apply wq_eqA); (with_reducible rfl); rfl; rfl; rfl; kernel_rfl; exact eqI _ _ _ _ _ _ _ _; (rw [hz]); (simp only [Act.put, List.setIfInBounds_toArray, List.set_cons_succ, List.set_cons_zero, Nat.reduceAdd, eP, It.cells]))
              iterate 4 (refine wq_pure rfl rfl ?_; intro K hK; go_big_quiet_op; go_big_quiet_on)
              iterate 12 go_big_quiet_skip
              iterate 8 (refine wq_pure rfl rfl ?_; intro K hK; go_big_quiet_op; go_big_quiet_on)
              (apply wq_ld1; (with_reducible rfl); rfl; rfl; decide +kernel; (exact hname (by (focus ((repeat (first | exact Take.head | apply Take.tail)); done)))); (simp only [Act.put, List.setIfInBounds_toArray, List.set_cons_succ, List.set_cons_zero, Nat.reduceAdd]))
              (apply wq_call; rfl; (intro w; apply exec_callF; (with_reducible rfl); decide +kernel; (focus (simp only [List.map_toArray, List.map_cons, List.map_nil, Act.eval, Array.getD_eq_getD_getElem?, List.getElem?_toArray, List.getElem?_cons_succ, List.getElem?_cons_zero, Option.getD_some]; try rfl))); (intro w hS; exact has_at vb mb W w _ _ _ Hhas.out hS); (simp only [Act.put, List.setIfInBounds_toArray, List.set_cons_succ, List.set_cons_zero, Nat.reduceAdd]))
              iterate 4 (refine wq_pure rfl rfl ?_; intro K hK; go_big_quiet_op; go_big_quiet_on)
              (apply wq_ldN; (with_reducible rfl); rfl; rfl; decide +kernel; (exact hitems (by (focus ((repeat (first | exact Take.head | apply Take.tail)); done)))); kernel_rfl; (simp only [Act.put, List.setIfInBounds_toArray, List.set_cons_succ, List.set_cons_zero, Nat.reduceAdd]))
              ((with_reducible apply wq_neA); (with_reducible rfl); rfl; rfl; rfl; kernel_rfl; exact eqI _ _ _ _ _ _ _ _; (rw [he]); (simp only [Bool.not_true]); (simp only [Act.put, List.setIfInBounds_toArray, List.set_cons_succ, List.set_cons_zero, Nat.reduceAdd, eP, It.cells]))
              (refine wq_pure rfl rfl ?_; intro K hK; go_big_quiet_op; go_big_quiet_on)
              clear hS
              intro w hS
              go_wp2_with fail
              first | (go_roundw; (case rel => exact ⟨0 + 1, rfl, hk1, hS⟩); (case measure => simp [intOf]; omega)) | (refine ⟨?_, ?measure⟩; (repeat apply Exists.intro); refine ⟨?rel, rfl⟩; (case rel => exact ⟨0 + 1, rfl, hk1, hS⟩); (case measure => simp [intOf]; omega))
            · obtain ⟨m, rfl⟩ : ∃ m, k = m + 1 := ⟨k - 1, by omega⟩
              have hle := hlt m (Nat.lt_succ_self m)
              have hnam2 : ∀ {K K' : List HP}, Take K (hdR (.slice (some ⟨hg, 0, none⟩) (hdL p2).length sc) (hdL p2)) K' → Cell K hg (m * 5) (.string ((hdL p2)[m]'(by omega)).who) := fun hu => hcells hu m (by omega) 0 _ rfl
              have hm1 : ((m + 1 : Nat) : Int) - 1 = (m : Int) := by omega
              have hm2 : ((m : Int) + 1) - 1 = (m : Int) := by omega
              clear hlt hcells hk0
              generalize (hdL p2)[m + 1] = x at hhas hnz hitems hname hle
              generalize (hdL p2)[m]'(by omega) = y at hle hnam2
              obtain ⟨xw, ⟨x0, x1, x2, x3⟩⟩ := x
              obtain ⟨yw, yi⟩ := y
              simp only at hhas hnz hitems hname hnam2 hle
              have hz : (x0 == 0 && (x1 == 0 && (x2 == 0 && x3 == 0))) = false := hnz
              have he : ((x0 == x0) && ((x1 == x1) && ((x2 == x2) && (x3 == x3)))) = true := by simp
              have Hhas := Lib.hid hhas.symm
              clear hhas hnz
              simp only [It.cells] at hitems
              go_wp2_with fail
              refine wp_region_reads (by kernel_rfl) (by kernel_rfl) hS ?_
              iterate 4 (refine wq_pure rfl rfl ?_; intro K hK; go_big_quiet_op; go_big_quiet_on)
              (apply wq_ldN; (with_reducible rfl); rfl; rfl; decide +kernel; (exact hitems (by (focus ((repeat (first | exact Take.head | apply Take.tail)); done)))); kernel_rfl; (simp only [Act.put, List.setIfInBounds_toArray, List.set_cons_succ, List.set_cons_zero, Nat.reduceAdd]))
              (refine wq_pure rfl rfl ?_; intro K hK; go_big_quiet_op; go_big_quiet_on)
              ((with_reducible apply wq_eqA); (with_reducible rfl); rfl; rfl; rfl; kernel_rfl; exact eqI _ _ _ _ _ _ _ _; (rw [hz]); (simp only [Act.put, List.setIfInBounds_toArray, List.set_cons_succ, List.set_cons_zero, Nat.reduceAdd, eP, It.cells]))
              iterate 9 (refine wq_pure rfl rfl ?_; intro K hK; go_big_quiet_op; go_big_quiet_on)
              (apply wq_ld1; (with_reducible rfl); rfl; rfl; decide +kernel; (exact hnam2 (by (focus ((repeat (first | exact Take.head | apply Take.tail)); done)))); (simp only [Act.put, List.setIfInBounds_toArray, List.set_cons_succ, List.set_cons_zero, Nat.reduceAdd]))
              iterate 4 (refine wq_pure rfl rfl ?_; intro K hK; go_big_quiet_op; go_big_quiet_on)
              (apply wq_ld1; (with_reducible rfl); rfl; rfl; decide +kernel; (exact hname (by (focus ((repeat (first | exact Take.head | apply Take.tail)); done)))); (simp only [Act.put, List.setIfInBounds_toArray, List.set_cons_succ, List.set_cons_zero, Nat.reduceAdd]))
              iterate 9 (refine wq_pure rfl rfl ?_; intro K hK; go_big_quiet_op; go_big_quiet_on)
              (apply wq_ld1; (with_reducible rfl); rfl; rfl; decide +kernel; (exact hname (by (focus ((repeat (first | exact Take.head | apply Take.tail)); done)))); (simp only [Act.put, List.setIfInBounds_toArray, List.set_cons_succ, List.set_cons_zero, Nat.reduceAdd]))
              (apply wq_call; rfl; (intro w; apply exec_callF; (with_reducible rfl); decide +kernel; (focus (simp only [List.map_toArray, List.map_cons, List.map_nil, Act.eval, Array.getD_eq_getD_getElem?, List.getElem?_toArray, List.getElem?_cons_succ, List.getElem?_cons_zero, Option.getD_some]; try rfl))); (intro w hS; exact has_at vb mb W w _ _ _ Hhas.out hS); (simp only [Act.put, List.setIfInBounds_toArray, List.set_cons_succ, List.set_cons_zero, Nat.reduceAdd]))
              iterate 4 (refine wq_pure rfl rfl ?_; intro K hK; go_big_quiet_op; go_big_quiet_on)
              (apply wq_ldN; (with_reducible rfl); rfl; rfl; decide +kernel; (exact hitems (by (focus ((repeat (first | exact Take.head | apply Take.tail)); done)))); kernel_rfl; (simp only [Act.put, List.setIfInBounds_toArray, List.set_cons_succ, List.set_cons_zero, Nat.reduceAdd]))
              ((with_reducible apply wq_neA); (with_reducible rfl); rfl; rfl; rfl; kernel_rfl; exact eqI _ _ _ _ _ _ _ _; (rw [he]); (simp only [Bool.not_true]); (simp only [Act.put, List.setIfInBounds_toArray, List.set_cons_succ, List.set_cons_zero, Nat.reduceAdd, eP, It.cells]))
              (refine wq_pure rfl rfl ?_; intro K hK; go_big_quiet_op; go_big_quiet_on)
              clear hS
              intro w hS
              go_wp2_with fail
              first | (go_roundw; (case rel => exact ⟨m + 1 + 1, rfl, hk1, hS⟩); (case measure => simp [intOf]; omega)) | (refine ⟨?_, ?measure⟩; (repeat apply Exists.intro); refine ⟨?rel, rfl⟩; (case rel => exact ⟨m + 1 + 1, rfl, hk1, hS⟩); (case measure => simp [intOf]; omega))
      · have hk1f : (kd == 1) = false := by simpa using hk1
        by_cases hk3 : kd = 3
        · subst hk3
          have hnn : (n != n) = false := by simp
          rcases Classical.em ((ordV ⟨p, L, n⟩ ⟨oi, ou, oy, ot, oc, op⟩).2.1 = 0) with hr | hr
          · have Hr := Lib.hid hr
            clear hr
            have hnn2 : (n + 1 != n + 1) = false := by simp
            have hn2 : n + 1 ≤ 9223372036854775807 := by omega
            have hn3 : -9223372036854775808 ≤ n + 1 := by omega
            go_wp2_with (first | go_big_skip | ((with_reducible apply wl_ld1 hS); (with_reducible rfl); rfl; rfl; decide +kernel; (first | exact Cell.old .head ck | exact Cell.old (.tail .head) ck | exact Cell.old (.tail (.tail .head)) ck | exact Cell.old (.tail (.tail (.tail .head))) ck | exact Cell.old (.tail (.tail (.tail (.tail .head)))) ck | exact Cell.old (.tail (.tail (.tail (.tail (.tail .head))))) ck); (simp only [Act.put, List.setIfInBounds_toArray, List.set_cons_succ, List.set_cons_zero, Nat.reduceAdd])) | ((with_reducible apply wl_ldN hS); (with_reducible rfl); rfl; rfl; decide +kernel; (first | exact Cells.old .head cord | exact Cells.old (.tail .head) cord | exact Cells.old (.tail (.tail .head)) cord | exact Cells.old (.tail (.tail (.tail .head))) cord); kernel_rfl; (simp only [Act.put, List.setIfInBounds_toArray, List.set_cons_succ, List.set_cons_zero, Nat.reduceAdd])) | (go_at_call 11; refine (ord_yes vb mb bb W _ _ Hok.out (o := ⟨oi, ou, oy, ot, oc, op⟩) Hr.out hS).mono ?_; clear hS; rintro e w ⟨p2, L2, hok2, rfl, hS⟩; have Hok2 := Lib.hid hok2; clear hok2) | (go_at_call 16; refine (listV_spec vb mb bb _ _ _ Hok2.out.w hN W _ _ hS).mono ?_; clear hS; rintro e w ⟨sa, sc, oa, oc, rfl, hS⟩))
            go_loopw [11] (fun v wr => IkR W (vaultL vb mb bb p2 L2 (n + 1) (hdR (.slice sa (hdL p2).length sc) (hdL p2) :: pileR (.slice oa L2.length oc) L2 :: Old V :: Lr)) (hdL p2).length v wr) (fun v _ => (hdL p2).length - (intOf v).toNat)
            case atStart => exact ⟨0, rfl, Nat.zero_le _, hS⟩
            case round =>
              clear hS
              obtain ⟨k, rfl, hkl, hS⟩ := hrel
              by_cases hkn : k = (hdL p2).length
              · subst hkn
                go_wp2_with fail
                first | (go_roundw; (case rel => exact ⟨i + 1, p2, L2, (n + 1), rfl, rfl, hil, hi3, Hok2.out, hS.sel (by (repeat' (first | (with_reducible first | exact Sel.done Suf.refl | exact Sel.done (Suf.tail Suf.refl) | exact Sel.done (Suf.tail (Suf.tail Suf.refl)) | exact Sel.done (Suf.tail (Suf.tail (Suf.tail Suf.refl))) | (apply Sel.done; (focus ((repeat (first | exact Suf.refl | apply Suf.tail)); done)))) | (refine Sel.cons (by with_reducible (focus ((repeat (first | exact Take.head | apply Take.tail)); done))) ?_))))⟩); (case measure => simp [intOf]; omega)) | (refine ⟨?_, ?measure⟩; (repeat apply Exists.intro); refine ⟨?rel, rfl⟩; (case rel => exact ⟨i + 1, p2, L2, (n + 1), rfl, rfl, hil, hi3, Hok2.out, hS.sel (by (repeat' (first | (with_reducible first | exact Sel.done Suf.refl | exact Sel.done (Suf.tail Suf.refl) | exact Sel.done (Suf.tail (Suf.tail Suf.refl)) | exact Sel.done (Suf.tail (Suf.tail (Suf.tail Suf.refl))) | (apply Sel.done; (focus ((repeat (first | exact Suf.refl | apply Suf.tail)); done)))) | (refine Sel.cons (by with_reducible (focus ((repeat (first | exact Take.head | apply Take.tail)); done))) ?_))))⟩); (case measure => simp [intOf]; omega))
              · have hk1 : k < (hdL p2).length := by omega
                obtain ⟨⟨hg, rfl⟩, hcap, hcn⟩ := St.rowAddr hS.drop.drop.drop (by omega)
                obtain ⟨hhas, hnz, hlt⟩ := hdL_at Hok2.out.w hk1
                have hcells : ∀ {K K' : List HP}, Take K (hdR (.slice (some ⟨hg, 0, none⟩) (hdL p2).length sc) (hdL p2)) K' → ∀ m, ∀ hm : m < (hdL p2).length, Cells K hg (m * 5) (Hd.cells (hdL p2)[m]) := fun hu m hm => Cells.elemM (enc := Hd.cells) Hd.len hu hm
                have hitems : ∀ {K K' : List HP}, Take K (hdR (.slice (some ⟨hg, 0, none⟩) (hdL p2).length sc) (hdL p2)) K' → Cells K hg (k * 5 + 1) ((hdL p2)[k].has.cells) := fun hu j v hj => by
                  have h1 := hcells hu k hk1 (1 + j) v (by rw [Nat.add_comm]; exact hj)
                  rwa [← Nat.add_assoc] at h1
                have hname : ∀ {K K' : List HP}, Take K (hdR (.slice (some ⟨hg, 0, none⟩) (hdL p2).length sc) (hdL p2)) K' → Cell K hg (k * 5) (.string (hdL p2)[k].who) := fun hu => hcells hu k hk1 0 _ rfl
                by_cases hk0 : k = 0
                · subst hk0
                  clear hlt hcells
                  generalize (hdL p2)[0] = x at hhas hnz hitems hname
                  obtain ⟨xw, ⟨x0, x1, x2, x3⟩⟩ := x
                  simp only at hhas hnz hitems hname
                  have hz : (x0 == 0 && (x1 == 0 && (x2 == 0 && x3 == 0))) = false := hnz
                  have he : ((x0 == x0) && ((x1 == x1) && ((x2 == x2) && (x3 == x3)))) = true := by simp
                  have Hhas := Lib.hid hhas.symm
                  clear hhas hnz
                  simp only [It.cells] at hitems
                  go_wp2_with fail
                  refine wp_region_reads (by kernel_rfl) (by kernel_rfl) hS ?_
                  iterate 4 (refine wq_pure rfl rfl ?_; intro K hK; go_big_quiet_op; go_big_quiet_on)
                  (apply wq_ldN; (with_reducible rfl); rfl; rfl; decide +kernel; (exact hitems (by (focus ((repeat (first | exact Take.head | apply Take.tail)); done)))); kernel_rfl; (simp only [Act.put, List.setIfInBounds_toArray, List.set_cons_succ, List.set_cons_zero, Nat.reduceAdd]))
                  (refine wq_pure rfl rfl ?_; intro K hK; go_big_quiet_op; go_big_quiet_on)
                  ((with_reducible apply wq_eqA); (with_reducible rfl); rfl; rfl; rfl; kernel_rfl; exact eqI _ _ _ _ _ _ _ _; (rw [hz]); (simp only [Act.put, List.setIfInBounds_toArray, List.set_cons_succ, List.set_cons_zero, Nat.reduceAdd, eP, It.cells]))
                  iterate 4 (refine wq_pure rfl rfl ?_; intro K hK; go_big_quiet_op; go_big_quiet_on)
                  iterate 12 go_big_quiet_skip
                  iterate 8 (refine wq_pure rfl rfl ?_; intro K hK; go_big_quiet_op; go_big_quiet_on)
                  (apply wq_ld1; (with_reducible rfl); rfl; rfl; decide +kernel; (exact hname (by (focus ((repeat (first | exact Take.head | apply Take.tail)); done)))); (simp only [Act.put, List.setIfInBounds_toArray, List.set_cons_succ, List.set_cons_zero, Nat.reduceAdd]))
                  (apply wq_call; rfl; (intro w; apply exec_callF; (with_reducible rfl); decide +kernel; (focus (simp only [List.map_toArray, List.map_cons, List.map_nil, Act.eval, Array.getD_eq_getD_getElem?, List.getElem?_toArray, List.getElem?_cons_succ, List.getElem?_cons_zero, Option.getD_some]; try rfl))); (intro w hS; exact has_at vb mb W w _ _ _ Hhas.out hS); (simp only [Act.put, List.setIfInBounds_toArray, List.set_cons_succ, List.set_cons_zero, Nat.reduceAdd]))
                  iterate 4 (refine wq_pure rfl rfl ?_; intro K hK; go_big_quiet_op; go_big_quiet_on)
                  (apply wq_ldN; (with_reducible rfl); rfl; rfl; decide +kernel; (exact hitems (by (focus ((repeat (first | exact Take.head | apply Take.tail)); done)))); kernel_rfl; (simp only [Act.put, List.setIfInBounds_toArray, List.set_cons_succ, List.set_cons_zero, Nat.reduceAdd]))
                  ((with_reducible apply wq_neA); (with_reducible rfl); rfl; rfl; rfl; kernel_rfl; exact eqI _ _ _ _ _ _ _ _; (rw [he]); (simp only [Bool.not_true]); (simp only [Act.put, List.setIfInBounds_toArray, List.set_cons_succ, List.set_cons_zero, Nat.reduceAdd, eP, It.cells]))
                  (refine wq_pure rfl rfl ?_; intro K hK; go_big_quiet_op; go_big_quiet_on)
                  clear hS
                  intro w hS
                  go_wp2_with fail
                  first | (go_roundw; (case rel => exact ⟨0 + 1, rfl, hk1, hS⟩); (case measure => simp [intOf]; omega)) | (refine ⟨?_, ?measure⟩; (repeat apply Exists.intro); refine ⟨?rel, rfl⟩; (case rel => exact ⟨0 + 1, rfl, hk1, hS⟩); (case measure => simp [intOf]; omega))
                · obtain ⟨m, rfl⟩ : ∃ m, k = m + 1 := ⟨k - 1, by omega⟩
                  have hle := hlt m (Nat.lt_succ_self m)
                  have hnam2 : ∀ {K K' : List HP}, Take K (hdR (.slice (some ⟨hg, 0, none⟩) (hdL p2).length sc) (hdL p2)) K' → Cell K hg (m * 5) (.string ((hdL p2)[m]'(by omega)).who) := fun hu => hcells hu m (by omega) 0 _ rfl
                  have hm1 : ((m + 1 : Nat) : Int) - 1 = (m : Int) := by omega
                  have hm2 : ((m : Int) + 1) - 1 = (m : Int) := by omega
                  clear hlt hcells hk0
                  generalize (hdL p2)[m + 1] = x at hhas hnz hitems hname hle
                  generalize (hdL p2)[m]'(by omega) = y at hle hnam2
                  obtain ⟨xw, ⟨x0, x1, x2, x3⟩⟩ := x
                  obtain ⟨yw, yi⟩ := y
                  simp only at hhas hnz hitems hname hnam2 hle
                  have hz : (x0 == 0 && (x1 == 0 && (x2 == 0 && x3 == 0))) = false := hnz
                  have he : ((x0 == x0) && ((x1 == x1) && ((x2 == x2) && (x3 == x3)))) = true := by simp
                  have Hhas := Lib.hid hhas.symm
                  clear hhas hnz
                  simp only [It.cells] at hitems
                  go_wp2_with fail
                  refine wp_region_reads (by kernel_rfl) (by kernel_rfl) hS ?_
                  iterate 4 (refine wq_pure rfl rfl ?_; intro K hK; go_big_quiet_op; go_big_quiet_on)
                  (apply wq_ldN; (with_reducible rfl); rfl; rfl; decide +kernel; (exact hitems (by (focus ((repeat (first | exact Take.head | apply Take.tail)); done)))); kernel_rfl; (simp only [Act.put, List.setIfInBounds_toArray, List.set_cons_succ, List.set_cons_zero, Nat.reduceAdd]))
                  (refine wq_pure rfl rfl ?_; intro K hK; go_big_quiet_op; go_big_quiet_on)
                  ((with_reducible apply wq_eqA); (with_reducible rfl); rfl; rfl; rfl; kernel_rfl; exact eqI _ _ _ _ _ _ _ _; (rw [hz]); (simp only [Act.put, List.setIfInBounds_toArray, List.set_cons_succ, List.set_cons_zero, Nat.reduceAdd, eP, It.cells]))
                  iterate 9 (refine wq_pure rfl rfl ?_; intro K hK; go_big_quiet_op; go_big_quiet_on)
                  (apply wq_ld1; (with_reducible rfl); rfl; rfl; decide +kernel; (exact hnam2 (by (focus ((repeat (first | exact Take.head | apply Take.tail)); done)))); (simp only [Act.put, List.setIfInBounds_toArray, List.set_cons_succ, List.set_cons_zero, Nat.reduceAdd]))
                  iterate 4 (refine wq_pure rfl rfl ?_; intro K hK; go_big_quiet_op; go_big_quiet_on)
                  (apply wq_ld1; (with_reducible rfl); rfl; rfl; decide +kernel; (exact hname (by (focus ((repeat (first | exact Take.head | apply Take.tail)); done)))); (simp only [Act.put, List.setIfInBounds_toArray, List.set_cons_succ, List.set_cons_zero, Nat.reduceAdd]))
                  iterate 9 (refine wq_pure rfl rfl ?_; intro K hK; go_big_quiet_op; go_big_quiet_on)
                  (apply wq_ld1; (with_reducible rfl); rfl; rfl; decide +kernel; (exact hname (by (focus ((repeat (first | exact Take.head | apply Take.tail)); done)))); (simp only [Act.put, List.setIfInBounds_toArray, List.set_cons_succ, List.set_cons_zero, Nat.reduceAdd]))
                  (apply wq_call; rfl; (intro w; apply exec_callF; (with_reducible rfl); decide +kernel; (focus (simp only [List.map_toArray, List.map_cons, List.map_nil, Act.eval, Array.getD_eq_getD_getElem?, List.getElem?_toArray, List.getElem?_cons_succ, List.getElem?_cons_zero, Option.getD_some]; try rfl))); (intro w hS; exact has_at vb mb W w _ _ _ Hhas.out hS); (simp only [Act.put, List.setIfInBounds_toArray, List.set_cons_succ, List.set_cons_zero, Nat.reduceAdd]))
                  iterate 4 (refine wq_pure rfl rfl ?_; intro K hK; go_big_quiet_op; go_big_quiet_on)
                  (apply wq_ldN; (with_reducible rfl); rfl; rfl; decide +kernel; (exact hitems (by (focus ((repeat (first | exact Take.head | apply Take.tail)); done)))); kernel_rfl; (simp only [Act.put, List.setIfInBounds_toArray, List.set_cons_succ, List.set_cons_zero, Nat.reduceAdd]))
                  ((with_reducible apply wq_neA); (with_reducible rfl); rfl; rfl; rfl; kernel_rfl; exact eqI _ _ _ _ _ _ _ _; (rw [he]); (simp only [Bool.not_true]); (simp only [Act.put, List.setIfInBounds_toArray, List.set_cons_succ, List.set_cons_zero, Nat.reduceAdd, eP, It.cells]))
                  (refine wq_pure rfl rfl ?_; intro K hK; go_big_quiet_op; go_big_quiet_on)
                  clear hS
                  intro w hS
                  go_wp2_with fail
                  first | (go_roundw; (case rel => exact ⟨m + 1 + 1, rfl, hk1, hS⟩); (case measure => simp [intOf]; omega)) | (refine ⟨?_, ?measure⟩; (repeat apply Exists.intro); refine ⟨?rel, rfl⟩; (case rel => exact ⟨m + 1 + 1, rfl, hk1, hS⟩); (case measure => simp [intOf]; omega))
          · obtain ⟨r, hre⟩ : ∃ r, (ordV ⟨p, L, n⟩ ⟨oi, ou, oy, ot, oc, op⟩).2.1 = r := ⟨_, rfl⟩
            rw [hre] at hr
            have Hre := Lib.hid hre
            have Hr0 := Lib.hid hr
            have hrf : (r == 0) = false := by simpa using hr
            have hrt : (r != 0) = true := by simpa using hr
            clear hre hr
            go_wp2_with (first | go_big_skip | ((with_reducible apply wl_ld1 hS); (with_reducible rfl); rfl; rfl; decide +kernel; (first | exact Cell.old .head ck | exact Cell.old (.tail .head) ck | exact Cell.old (.tail (.tail .head)) ck | exact Cell.old (.tail (.tail (.tail .head))) ck | exact Cell.old (.tail (.tail (.tail (.tail .head)))) ck | exact Cell.old (.tail (.tail (.tail (.tail (.tail .head))))) ck); (simp only [Act.put, List.setIfInBounds_toArray, List.set_cons_succ, List.set_cons_zero, Nat.reduceAdd])) | ((with_reducible apply wl_ldN hS); (with_reducible rfl); rfl; rfl; decide +kernel; (first | exact Cells.old .head cord | exact Cells.old (.tail .head) cord | exact Cells.old (.tail (.tail .head)) cord | exact Cells.old (.tail (.tail (.tail .head))) cord); kernel_rfl; (simp only [Act.put, List.setIfInBounds_toArray, List.set_cons_succ, List.set_cons_zero, Nat.reduceAdd])) | (go_at_call 11; refine (ord_no vb mb bb W _ _ Hok.out (o := ⟨oi, ou, oy, ot, oc, op⟩) Hre.out Hr0.out hS).mono ?_; clear hS; rintro e w ⟨p2, L2, hok2, rfl, hS⟩; have Hok2 := Lib.hid hok2; clear hok2) | (go_at_call 16; refine (listV_spec vb mb bb _ _ _ Hok2.out.w hN W _ _ hS).mono ?_; clear hS; rintro e w ⟨sa, sc, oa, oc, rfl, hS⟩))
            go_loopw [11] (fun v wr => IkR W (vaultL vb mb bb p2 L2 n (hdR (.slice sa (hdL p2).length sc) (hdL p2) :: pileR (.slice oa L2.length oc) L2 :: Old V :: Lr)) (hdL p2).length v wr) (fun v _ => (hdL p2).length - (intOf v).toNat)
            case atStart => exact ⟨0, rfl, Nat.zero_le _, hS⟩
            case round =>
              clear hS
              obtain ⟨k, rfl, hkl, hS⟩ := hrel
              by_cases hkn : k = (hdL p2).length
              · subst hkn
                go_wp2_with fail
                first | (go_roundw; (case rel => exact ⟨i + 1, p2, L2, n, rfl, rfl, hil, hi3, Hok2.out, hS.sel (by (repeat' (first | (with_reducible first | exact Sel.done Suf.refl | exact Sel.done (Suf.tail Suf.refl) | exact Sel.done (Suf.tail (Suf.tail Suf.refl)) | exact Sel.done (Suf.tail (Suf.tail (Suf.tail Suf.refl))) | (apply Sel.done; (focus ((repeat (first | exact Suf.refl | apply Suf.tail)); done)))) | (refine Sel.cons (by with_reducible (focus ((repeat (first | exact Take.head | apply Take.tail)); done))) ?_))))⟩); (case measure => simp [intOf]; omega)) | (refine ⟨?_, ?measure⟩; (repeat apply Exists.intro); refine ⟨?rel, rfl⟩; (case rel => exact ⟨i + 1, p2, L2, n, rfl, rfl, hil, hi3, Hok2.out, hS.sel (by (repeat' (first | (with_reducible first | exact Sel.done Suf.refl | exact Sel.done (Suf.tail Suf.refl) | exact Sel.done (Suf.tail (Suf.tail Suf.refl)) | exact Sel.done (Suf.tail (Suf.tail (Suf.tail Suf.refl))) | (apply Sel.done; (focus ((repeat (first | exact Suf.refl | apply Suf.tail)); done)))) | (refine Sel.cons (by with_reducible (focus ((repeat (first | exact Take.head | apply Take.tail)); done))) ?_))))⟩); (case measure => simp [intOf]; omega))
              · have hk1 : k < (hdL p2).length := by omega
                obtain ⟨⟨hg, rfl⟩, hcap, hcn⟩ := St.rowAddr hS.drop.drop.drop (by omega)
                obtain ⟨hhas, hnz, hlt⟩ := hdL_at Hok2.out.w hk1
                have hcells : ∀ {K K' : List HP}, Take K (hdR (.slice (some ⟨hg, 0, none⟩) (hdL p2).length sc) (hdL p2)) K' → ∀ m, ∀ hm : m < (hdL p2).length, Cells K hg (m * 5) (Hd.cells (hdL p2)[m]) := fun hu m hm => Cells.elemM (enc := Hd.cells) Hd.len hu hm
                have hitems : ∀ {K K' : List HP}, Take K (hdR (.slice (some ⟨hg, 0, none⟩) (hdL p2).length sc) (hdL p2)) K' → Cells K hg (k * 5 + 1) ((hdL p2)[k].has.cells) := fun hu j v hj => by
                  have h1 := hcells hu k hk1 (1 + j) v (by rw [Nat.add_comm]; exact hj)
                  rwa [← Nat.add_assoc] at h1
                have hname : ∀ {K K' : List HP}, Take K (hdR (.slice (some ⟨hg, 0, none⟩) (hdL p2).length sc) (hdL p2)) K' → Cell K hg (k * 5) (.string (hdL p2)[k].who) := fun hu => hcells hu k hk1 0 _ rfl
                by_cases hk0 : k = 0
                · subst hk0
                  clear hlt hcells
                  generalize (hdL p2)[0] = x at hhas hnz hitems hname
                  obtain ⟨xw, ⟨x0, x1, x2, x3⟩⟩ := x
                  simp only at hhas hnz hitems hname
                  have hz : (x0 == 0 && (x1 == 0 && (x2 == 0 && x3 == 0))) = false := hnz
                  have he : ((x0 == x0) && ((x1 == x1) && ((x2 == x2) && (x3 == x3)))) = true := by simp
                  have Hhas := Lib.hid hhas.symm
                  clear hhas hnz
                  simp only [It.cells] at hitems
                  go_wp2_with fail
                  refine wp_region_reads (by kernel_rfl) (by kernel_rfl) hS ?_
                  iterate 4 (refine wq_pure rfl rfl ?_; intro K hK; go_big_quiet_op; go_big_quiet_on)
                  (apply wq_ldN; (with_reducible rfl); rfl; rfl; decide +kernel; (exact hitems (by (focus ((repeat (first | exact Take.head | apply Take.tail)); done)))); kernel_rfl; (simp only [Act.put, List.setIfInBounds_toArray, List.set_cons_succ, List.set_cons_zero, Nat.reduceAdd]))
                  (refine wq_pure rfl rfl ?_; intro K hK; go_big_quiet_op; go_big_quiet_on)
                  ((with_reducible apply wq_eqA); (with_reducible rfl); rfl; rfl; rfl; kernel_rfl; exact eqI _ _ _ _ _ _ _ _; (rw [hz]); (simp only [Act.put, List.setIfInBounds_toArray, List.set_cons_succ, List.set_cons_zero, Nat.reduceAdd, eP, It.cells]))
                  iterate 4 (refine wq_pure rfl rfl ?_; intro K hK; go_big_quiet_op; go_big_quiet_on)
                  iterate 12 go_big_quiet_skip
                  iterate 8 (refine wq_pure rfl rfl ?_; intro K hK; go_big_quiet_op; go_big_quiet_on)
                  (apply wq_ld1; (with_reducible rfl); rfl; rfl; decide +kernel; (exact hname (by (focus ((repeat (first | exact Take.head | apply Take.tail)); done)))); (simp only [Act.put, List.setIfInBounds_toArray, List.set_cons_succ, List.set_cons_zero, Nat.reduceAdd]))
                  (apply wq_call; rfl; (intro w; apply exec_callF; (with_reducible rfl); decide +kernel; (focus (simp only [List.map_toArray, List.map_cons, List.map_nil, Act.eval, Array.getD_eq_getD_getElem?, List.getElem?_toArray, List.getElem?_cons_succ, List.getElem?_cons_zero, Option.getD_some]; try rfl))); (intro w hS; exact has_at vb mb W w _ _ _ Hhas.out hS); (simp only [Act.put, List.setIfInBounds_toArray, List.set_cons_succ, List.set_cons_zero, Nat.reduceAdd]))
                  iterate 4 (refine wq_pure rfl rfl ?_; intro K hK; go_big_quiet_op; go_big_quiet_on)
                  (apply wq_ldN; (with_reducible rfl); rfl; rfl; decide +kernel; (exact hitems (by (focus ((repeat (first | exact Take.head | apply Take.tail)); done)))); kernel_rfl; (simp only [Act.put, List.setIfInBounds_toArray, List.set_cons_succ, List.set_cons_zero, Nat.reduceAdd]))
                  ((with_reducible apply wq_neA); (with_reducible rfl); rfl; rfl; rfl; kernel_rfl; exact eqI _ _ _ _ _ _ _ _; (rw [he]); (simp only [Bool.not_true]); (simp only [Act.put, List.setIfInBounds_toArray, List.set_cons_succ, List.set_cons_zero, Nat.reduceAdd, eP, It.cells]))
                  (refine wq_pure rfl rfl ?_; intro K hK; go_big_quiet_op; go_big_quiet_on)
                  clear hS
                  intro w hS
                  go_wp2_with fail
                  first | (go_roundw; (case rel => exact ⟨0 + 1, rfl, hk1, hS⟩); (case measure => simp [intOf]; omega)) | (refine ⟨?_, ?measure⟩; (repeat apply Exists.intro); refine ⟨?rel, rfl⟩; (case rel => exact ⟨0 + 1, rfl, hk1, hS⟩); (case measure => simp [intOf]; omega))
                · obtain ⟨m, rfl⟩ : ∃ m, k = m + 1 := ⟨k - 1, by omega⟩
                  have hle := hlt m (Nat.lt_succ_self m)
                  have hnam2 : ∀ {K K' : List HP}, Take K (hdR (.slice (some ⟨hg, 0, none⟩) (hdL p2).length sc) (hdL p2)) K' → Cell K hg (m * 5) (.string ((hdL p2)[m]'(by omega)).who) := fun hu => hcells hu m (by omega) 0 _ rfl
                  have hm1 : ((m + 1 : Nat) : Int) - 1 = (m : Int) := by omega
                  have hm2 : ((m : Int) + 1) - 1 = (m : Int) := by omega
                  clear hlt hcells hk0
                  generalize (hdL p2)[m + 1] = x at hhas hnz hitems hname hle
                  generalize (hdL p2)[m]'(by omega) = y at hle hnam2
                  obtain ⟨xw, ⟨x0, x1, x2, x3⟩⟩ := x
                  obtain ⟨yw, yi⟩ := y
                  simp only at hhas hnz hitems hname hnam2 hle
                  have hz : (x0 == 0 && (x1 == 0 && (x2 == 0 && x3 == 0))) = false := hnz
                  have he : ((x0 == x0) && ((x1 == x1) && ((x2 == x2) && (x3 == x3)))) = true := by simp
                  have Hhas := Lib.hid hhas.symm
                  clear hhas hnz
                  simp only [It.cells] at hitems
                  go_wp2_with fail
                  refine wp_region_reads (by kernel_rfl) (by kernel_rfl) hS ?_
                  iterate 4 (refine wq_pure rfl rfl ?_; intro K hK; go_big_quiet_op; go_big_quiet_on)
                  (apply wq_ldN; (with_reducible rfl); rfl; rfl; decide +kernel; (exact hitems (by (focus ((repeat (first | exact Take.head | apply Take.tail)); done)))); kernel_rfl; (simp only [Act.put, List.setIfInBounds_toArray, List.set_cons_succ, List.set_cons_zero, Nat.reduceAdd]))
                  (refine wq_pure rfl rfl ?_; intro K hK; go_big_quiet_op; go_big_quiet_on)
                  ((with_reducible apply wq_eqA); (with_reducible rfl); rfl; rfl; rfl; kernel_rfl; exact eqI _ _ _ _ _ _ _ _; (rw [hz]); (simp only [Act.put, List.setIfInBounds_toArray, List.set_cons_succ, List.set_cons_zero, Nat.reduceAdd, eP, It.cells]))
                  iterate 9 (refine wq_pure rfl rfl ?_; intro K hK; go_big_quiet_op; go_big_quiet_on)
                  (apply wq_ld1; (with_reducible rfl); rfl; rfl; decide +kernel; (exact hnam2 (by (focus ((repeat (first | exact Take.head | apply Take.tail)); done)))); (simp only [Act.put, List.setIfInBounds_toArray, List.set_cons_succ, List.set_cons_zero, Nat.reduceAdd]))
                  iterate 4 (refine wq_pure rfl rfl ?_; intro K hK; go_big_quiet_op; go_big_quiet_on)
                  (apply wq_ld1; (with_reducible rfl); rfl; rfl; decide +kernel; (exact hname (by (focus ((repeat (first | exact Take.head | apply Take.tail)); done)))); (simp only [Act.put, List.setIfInBounds_toArray, List.set_cons_succ, List.set_cons_zero, Nat.reduceAdd]))
                  iterate 9 (refine wq_pure rfl rfl ?_; intro K hK; go_big_quiet_op; go_big_quiet_on)
                  (apply wq_ld1; (with_reducible rfl); rfl; rfl; decide +kernel; (exact hname (by (focus ((repeat (first | exact Take.head | apply Take.tail)); done)))); (simp only [Act.put, List.setIfInBounds_toArray, List.set_cons_succ, List.set_cons_zero, Nat.reduceAdd]))
                  (apply wq_call; rfl; (intro w; apply exec_callF; (with_reducible rfl); decide +kernel; (focus (simp only [List.map_toArray, List.map_cons, List.map_nil, Act.eval, Array.getD_eq_getD_getElem?, List.getElem?_toArray, List.getElem?_cons_succ, List.getElem?_cons_zero, Option.getD_some]; try rfl))); (intro w hS; exact has_at vb mb W w _ _ _ Hhas.out hS); (simp only [Act.put, List.setIfInBounds_toArray, List.set_cons_succ, List.set_cons_zero, Nat.reduceAdd]))
                  iterate 4 (refine wq_pure rfl rfl ?_; intro K hK; go_big_quiet_op; go_big_quiet_on)
                  (apply wq_ldN; (with_reducible rfl); rfl; rfl; decide +kernel; (exact hitems (by (focus ((repeat (first | exact Take.head | apply Take.tail)); done)))); kernel_rfl; (simp only [Act.put, List.setIfInBounds_toArray, List.set_cons_succ, List.set_cons_zero, Nat.reduceAdd]))
                  ((with_reducible apply wq_neA); (with_reducible rfl); rfl; rfl; rfl; kernel_rfl; exact eqI _ _ _ _ _ _ _ _; (rw [he]); (simp only [Bool.not_true]); (simp only [Act.put, List.setIfInBounds_toArray, List.set_cons_succ, List.set_cons_zero, Nat.reduceAdd, eP, It.cells]))
                  (refine wq_pure rfl rfl ?_; intro K hK; go_big_quiet_op; go_big_quiet_on)
                  clear hS
                  intro w hS
                  go_wp2_with fail
                  first | (go_roundw; (case rel => exact ⟨m + 1 + 1, rfl, hk1, hS⟩); (case measure => simp [intOf]; omega)) | (refine ⟨?_, ?measure⟩; (repeat apply Exists.intro); refine ⟨?rel, rfl⟩; (case rel => exact ⟨m + 1 + 1, rfl, hk1, hS⟩); (case measure => simp [intOf]; omega))
        · have hk3f : (kd == 3) = false := by simpa using hk3
          have hnn : (n != n) = false := by simp
          by_cases hk4 : kd = 4
          · subst hk4
            go_wp2_with (first | go_big_skip | ((with_reducible apply wl_ld1 hS); (with_reducible rfl); rfl; rfl; decide +kernel; (first | exact Cell.old .head ck | exact Cell.old (.tail .head) ck | exact Cell.old (.tail (.tail .head)) ck | exact Cell.old (.tail (.tail (.tail .head))) ck | exact Cell.old (.tail (.tail (.tail (.tail .head)))) ck | exact Cell.old (.tail (.tail (.tail (.tail (.tail .head))))) ck); (simp only [Act.put, List.setIfInBounds_toArray, List.set_cons_succ, List.set_cons_zero, Nat.reduceAdd])))
            refine wp_region_tail 11 (by kernel_rfl) (by kernel_rfl) hS ?_
            repeat (first | go_big_quiet_skip | (apply wq_ld1; (with_reducible rfl); rfl; rfl; decide +kernel; (first | exact Cell.old .head cw | exact Cell.old (.tail .head) cw | exact Cell.old (.tail (.tail .head)) cw | exact Cell.old (.tail (.tail (.tail .head))) cw | exact Cell.old (.tail (.tail (.tail (.tail .head)))) cw | exact Cell.old (.tail (.tail (.tail (.tail (.tail .head))))) cw); (simp only [Act.put, List.setIfInBounds_toArray, List.set_cons_succ, List.set_cons_zero, Nat.reduceAdd])) | (apply wq_ld1; (with_reducible rfl); rfl; rfl; decide +kernel; (first | exact Cell.old .head cn | exact Cell.old (.tail .head) cn | exact Cell.old (.tail (.tail .head)) cn | exact Cell.old (.tail (.tail (.tail .head))) cn | exact Cell.old (.tail (.tail (.tail (.tail .head)))) cn | exact Cell.old (.tail (.tail (.tail (.tail (.tail .head))))) cn); (simp only [Act.put, List.setIfInBounds_toArray, List.set_cons_succ, List.set_cons_zero, Nat.reduceAdd])) | (refine wq_pure rfl rfl ?_; intro K hK; go_big_quiet_op; go_big_quiet_on))
            clear hS
            intro w hS
            simp only [List.drop_succ_cons, List.drop_zero]
            go_wp2_with (first | (go_at_call 13; refine (can_all vb mb bb W _ _ Hok.out who nn hS).mono ?_; clear hS; generalize (canV ⟨p, L, n⟩ who nn).2.ps = p2; generalize (canV ⟨p, L, n⟩ who nn).2.L = L2; rintro e w ⟨rfl, hok2, hS⟩; have Hok2 := Lib.hid hok2; clear hok2) | (go_at_call 16; refine (listV_spec vb mb bb _ _ _ Hok2.out.w hN W _ _ hS).mono ?_; clear hS; rintro e w ⟨sa, sc, oa, oc, rfl, hS⟩))
            go_loopw [11] (fun v wr => IkR W (vaultL vb mb bb p2 L2 n (hdR (.slice sa (hdL p2).length sc) (hdL p2) :: pileR (.slice oa L2.length oc) L2 :: Old V :: Lr)) (hdL p2).length v wr) (fun v _ => (hdL p2).length - (intOf v).toNat)
            case atStart => exact ⟨0, rfl, Nat.zero_le _, hS⟩
            case round =>
              clear hS
              obtain ⟨k, rfl, hkl, hS⟩ := hrel
              by_cases hkn : k = (hdL p2).length
              · subst hkn
                go_wp2_with fail
                first | (go_roundw; (case rel => exact ⟨i + 1, p2, L2, n, rfl, rfl, hil, hi3, Hok2.out, hS.sel (by (repeat' (first | (with_reducible first | exact Sel.done Suf.refl | exact Sel.done (Suf.tail Suf.refl) | exact Sel.done (Suf.tail (Suf.tail Suf.refl)) | exact Sel.done (Suf.tail (Suf.tail (Suf.tail Suf.refl))) | (apply Sel.done; (focus ((repeat (first | exact Suf.refl | apply Suf.tail)); done)))) | (refine Sel.cons (by with_reducible (focus ((repeat (first | exact Take.head | apply Take.tail)); done))) ?_))))⟩); (case measure => simp [intOf]; omega)) | (refine ⟨?_, ?measure⟩; (repeat apply Exists.intro); refine ⟨?rel, rfl⟩; (case rel => exact ⟨i + 1, p2, L2, n, rfl, rfl, hil, hi3, Hok2.out, hS.sel (by (repeat' (first | (with_reducible first | exact Sel.done Suf.refl | exact Sel.done (Suf.tail Suf.refl) | exact Sel.done (Suf.tail (Suf.tail Suf.refl)) | exact Sel.done (Suf.tail (Suf.tail (Suf.tail Suf.refl))) | (apply Sel.done; (focus ((repeat (first | exact Suf.refl | apply Suf.tail)); done)))) | (refine Sel.cons (by with_reducible (focus ((repeat (first | exact Take.head | apply Take.tail)); done))) ?_))))⟩); (case measure => simp [intOf]; omega))
              · have hk1 : k < (hdL p2).length := by omega
                obtain ⟨⟨hg, rfl⟩, hcap, hcn⟩ := St.rowAddr hS.drop.drop.drop (by omega)
                obtain ⟨hhas, hnz, hlt⟩ := hdL_at Hok2.out.w hk1
                have hcells : ∀ {K K' : List HP}, Take K (hdR (.slice (some ⟨hg, 0, none⟩) (hdL p2).length sc) (hdL p2)) K' → ∀ m, ∀ hm : m < (hdL p2).length, Cells K hg (m * 5) (Hd.cells (hdL p2)[m]) := fun hu m hm => Cells.elemM (enc := Hd.cells) Hd.len hu hm
                have hitems : ∀ {K K' : List HP}, Take K (hdR (.slice (some ⟨hg, 0, none⟩) (hdL p2).length sc) (hdL p2)) K' → Cells K hg (k * 5 + 1) ((hdL p2)[k].has.cells) := fun hu j v hj => by
                  have h1 := hcells hu k hk1 (1 + j) v (by rw [Nat.add_comm]; exact hj)
                  rwa [← Nat.add_assoc] at h1
                have hname : ∀ {K K' : List HP}, Take K (hdR (.slice (some ⟨hg, 0, none⟩) (hdL p2).length sc) (hdL p2)) K' → Cell K hg (k * 5) (.string (hdL p2)[k].who) := fun hu => hcells hu k hk1 0 _ rfl
                by_cases hk0 : k = 0
                · subst hk0
                  clear hlt hcells
                  generalize (hdL p2)[0] = x at hhas hnz hitems hname
                  obtain ⟨xw, ⟨x0, x1, x2, x3⟩⟩ := x
                  simp only at hhas hnz hitems hname
                  have hz : (x0 == 0 && (x1 == 0 && (x2 == 0 && x3 == 0))) = false := hnz
                  have he : ((x0 == x0) && ((x1 == x1) && ((x2 == x2) && (x3 == x3)))) = true := by simp
                  have Hhas := Lib.hid hhas.symm
                  clear hhas hnz
                  simp only [It.cells] at hitems
                  go_wp2_with fail
                  refine wp_region_reads (by kernel_rfl) (by kernel_rfl) hS ?_
                  iterate 4 (refine wq_pure rfl rfl ?_; intro K hK; go_big_quiet_op; go_big_quiet_on)
                  (apply wq_ldN; (with_reducible rfl); rfl; rfl; decide +kernel; (exact hitems (by (focus ((repeat (first | exact Take.head | apply Take.tail)); done)))); kernel_rfl; (simp only [Act.put, List.setIfInBounds_toArray, List.set_cons_succ, List.set_cons_zero, Nat.reduceAdd]))
                  (refine wq_pure rfl rfl ?_; intro K hK; go_big_quiet_op; go_big_quiet_on)
                  ((with_reducible apply wq_eqA); (with_reducible rfl); rfl; rfl; rfl; kernel_rfl; exact eqI _ _ _ _ _ _ _ _; (rw [hz]); (simp only [Act.put, List.setIfInBounds_toArray, List.set_cons_succ, List.set_cons_zero, Nat.reduceAdd, eP, It.cells]))
                  iterate 4 (refine wq_pure rfl rfl ?_; intro K hK; go_big_quiet_op; go_big_quiet_on)
                  iterate 12 go_big_quiet_skip
                  iterate 8 (refine wq_pure rfl rfl ?_; intro K hK; go_big_quiet_op; go_big_quiet_on)
                  (apply wq_ld1; (with_reducible rfl); rfl; rfl; decide +kernel; (exact hname (by (focus ((repeat (first | exact Take.head | apply Take.tail)); done)))); (simp only [Act.put, List.setIfInBounds_toArray, List.set_cons_succ, List.set_cons_zero, Nat.reduceAdd]))
                  (apply wq_call; rfl; (intro w; apply exec_callF; (with_reducible rfl); decide +kernel; (focus (simp only [List.map_toArray, List.map_cons, List.map_nil, Act.eval, Array.getD_eq_getD_getElem?, List.getElem?_toArray, List.getElem?_cons_succ, List.getElem?_cons_zero, Option.getD_some]; try rfl))); (intro w hS; exact has_at vb mb W w _ _ _ Hhas.out hS); (simp only [Act.put, List.setIfInBounds_toArray, List.set_cons_succ, List.set_cons_zero, Nat.reduceAdd]))
                  iterate 4 (refine wq_pure rfl rfl ?_; intro K hK; go_big_quiet_op; go_big_quiet_on)
                  (apply wq_ldN; (with_reducible rfl); rfl; rfl; decide +kernel; (exact hitems (by (focus ((repeat (first | exact Take.head | apply Take.tail)); done)))); kernel_rfl; (simp only [Act.put, List.setIfInBounds_toArray, List.set_cons_succ, List.set_cons_zero, Nat.reduceAdd]))
                  ((with_reducible apply wq_neA); (with_reducible rfl); rfl; rfl; rfl; kernel_rfl; exact eqI _ _ _ _ _ _ _ _; (rw [he]); (simp only [Bool.not_true]); (simp only [Act.put, List.setIfInBounds_toArray, List.set_cons_succ, List.set_cons_zero, Nat.reduceAdd, eP, It.cells]))
                  (refine wq_pure rfl rfl ?_; intro K hK; go_big_quiet_op; go_big_quiet_on)
                  clear hS
                  intro w hS
                  go_wp2_with fail
                  first | (go_roundw; (case rel => exact ⟨0 + 1, rfl, hk1, hS⟩); (case measure => simp [intOf]; omega)) | (refine ⟨?_, ?measure⟩; (repeat apply Exists.intro); refine ⟨?rel, rfl⟩; (case rel => exact ⟨0 + 1, rfl, hk1, hS⟩); (case measure => simp [intOf]; omega))
                · obtain ⟨m, rfl⟩ : ∃ m, k = m + 1 := ⟨k - 1, by omega⟩
                  have hle := hlt m (Nat.lt_succ_self m)
                  have hnam2 : ∀ {K K' : List HP}, Take K (hdR (.slice (some ⟨hg, 0, none⟩) (hdL p2).length sc) (hdL p2)) K' → Cell K hg (m * 5) (.string ((hdL p2)[m]'(by omega)).who) := fun hu => hcells hu m (by omega) 0 _ rfl
                  have hm1 : ((m + 1 : Nat) : Int) - 1 = (m : Int) := by omega
                  have hm2 : ((m : Int) + 1) - 1 = (m : Int) := by omega
                  clear hlt hcells hk0
                  generalize (hdL p2)[m + 1] = x at hhas hnz hitems hname hle
                  generalize (hdL p2)[m]'(by omega) = y at hle hnam2
                  obtain ⟨xw, ⟨x0, x1, x2, x3⟩⟩ := x
                  obtain ⟨yw, yi⟩ := y
                  simp only at hhas hnz hitems hname hnam2 hle
                  have hz : (x0 == 0 && (x1 == 0 && (x2 == 0 && x3 == 0))) = false := hnz
                  have he : ((x0 == x0) && ((x1 == x1) && ((x2 == x2) && (x3 == x3)))) = true := by simp
                  have Hhas := Lib.hid hhas.symm
                  clear hhas hnz
                  simp only [It.cells] at hitems
                  go_wp2_with fail
                  refine wp_region_reads (by kernel_rfl) (by kernel_rfl) hS ?_
                  iterate 4 (refine wq_pure rfl rfl ?_; intro K hK; go_big_quiet_op; go_big_quiet_on)
                  (apply wq_ldN; (with_reducible rfl); rfl; rfl; decide +kernel; (exact hitems (by (focus ((repeat (first | exact Take.head | apply Take.tail)); done)))); kernel_rfl; (simp only [Act.put, List.setIfInBounds_toArray, List.set_cons_succ, List.set_cons_zero, Nat.reduceAdd]))
                  (refine wq_pure rfl rfl ?_; intro K hK; go_big_quiet_op; go_big_quiet_on)
                  ((with_reducible apply wq_eqA); (with_reducible rfl); rfl; rfl; rfl; kernel_rfl; exact eqI _ _ _ _ _ _ _ _; (rw [hz]); (simp only [Act.put, List.setIfInBounds_toArray, List.set_cons_succ, List.set_cons_zero, Nat.reduceAdd, eP, It.cells]))
                  iterate 9 (refine wq_pure rfl rfl ?_; intro K hK; go_big_quiet_op; go_big_quiet_on)
                  (apply wq_ld1; (with_reducible rfl); rfl; rfl; decide +kernel; (exact hnam2 (by (focus ((repeat (first | exact Take.head | apply Take.tail)); done)))); (simp only [Act.put, List.setIfInBounds_toArray, List.set_cons_succ, List.set_cons_zero, Nat.reduceAdd]))
                  iterate 4 (refine wq_pure rfl rfl ?_; intro K hK; go_big_quiet_op; go_big_quiet_on)
                  (apply wq_ld1; (with_reducible rfl); rfl; rfl; decide +kernel; (exact hname (by (focus ((repeat (first | exact Take.head | apply Take.tail)); done)))); (simp only [Act.put, List.setIfInBounds_toArray, List.set_cons_succ, List.set_cons_zero, Nat.reduceAdd]))
                  iterate 9 (refine wq_pure rfl rfl ?_; intro K hK; go_big_quiet_op; go_big_quiet_on)
                  (apply wq_ld1; (with_reducible rfl); rfl; rfl; decide +kernel; (exact hname (by (focus ((repeat (first | exact Take.head | apply Take.tail)); done)))); (simp only [Act.put, List.setIfInBounds_toArray, List.set_cons_succ, List.set_cons_zero, Nat.reduceAdd]))
                  (apply wq_call; rfl; (intro w; apply exec_callF; (with_reducible rfl); decide +kernel; (focus (simp only [List.map_toArray, List.map_cons, List.map_nil, Act.eval, Array.getD_eq_getD_getElem?, List.getElem?_toArray, List.getElem?_cons_succ, List.getElem?_cons_zero, Option.getD_some]; try rfl))); (intro w hS; exact has_at vb mb W w _ _ _ Hhas.out hS); (simp only [Act.put, List.setIfInBounds_toArray, List.set_cons_succ, List.set_cons_zero, Nat.reduceAdd]))
                  iterate 4 (refine wq_pure rfl rfl ?_; intro K hK; go_big_quiet_op; go_big_quiet_on)
                  (apply wq_ldN; (with_reducible rfl); rfl; rfl; decide +kernel; (exact hitems (by (focus ((repeat (first | exact Take.head | apply Take.tail)); done)))); kernel_rfl; (simp only [Act.put, List.setIfInBounds_toArray, List.set_cons_succ, List.set_cons_zero, Nat.reduceAdd]))
                  ((with_reducible apply wq_neA); (with_reducible rfl); rfl; rfl; rfl; kernel_rfl; exact eqI _ _ _ _ _ _ _ _; (rw [he]); (simp only [Bool.not_true]); (simp only [Act.put, List.setIfInBounds_toArray, List.set_cons_succ, List.set_cons_zero, Nat.reduceAdd, eP, It.cells]))
                  (refine wq_pure rfl rfl ?_; intro K hK; go_big_quiet_op; go_big_quiet_on)
                  clear hS
                  intro w hS
                  go_wp2_with fail
                  first | (go_roundw; (case rel => exact ⟨m + 1 + 1, rfl, hk1, hS⟩); (case measure => simp [intOf]; omega)) | (refine ⟨?_, ?measure⟩; (repeat apply Exists.intro); refine ⟨?rel, rfl⟩; (case rel => exact ⟨m + 1 + 1, rfl, hk1, hS⟩); (case measure => simp [intOf]; omega))
          · have hk4f : (kd == 4) = false := by simpa using hk4
            have Hok2 := Lib.hid Hok.out.on
            obtain ⟨p2, rfl⟩ : ∃ x, x = p := ⟨_, rfl⟩
            obtain ⟨L2, rfl⟩ : ∃ x, x = L := ⟨_, rfl⟩
            go_wp2_with (first | go_big_skip | ((with_reducible apply wl_ld1 hS); (with_reducible rfl); rfl; rfl; decide +kernel; (first | exact Cell.old .head ck | exact Cell.old (.tail .head) ck | exact Cell.old (.tail (.tail .head)) ck | exact Cell.old (.tail (.tail (.tail .head))) ck | exact Cell.old (.tail (.tail (.tail (.tail .head)))) ck | exact Cell.old (.tail (.tail (.tail (.tail (.tail .head))))) ck); (simp only [Act.put, List.setIfInBounds_toArray, List.set_cons_succ, List.set_cons_zero, Nat.reduceAdd])) | (go_at_call 16; refine (listV_spec vb mb bb _ _ _ Hok2.out.w hN W _ _ hS).mono ?_; clear hS; rintro e w ⟨sa, sc, oa, oc, rfl, hS⟩))
            go_loopw [11] (fun v wr => IkR W (vaultL vb mb bb p2 L2 n (hdR (.slice sa (hdL p2).length sc) (hdL p2) :: pileR (.slice oa L2.length oc) L2 :: Old V :: Lr)) (hdL p2).length v wr) (fun v _ => (hdL p2).length - (intOf v).toNat)
            case atStart => exact ⟨0, rfl, Nat.zero_le _, hS⟩
            case round =>
              clear hS
              obtain ⟨k, rfl, hkl, hS⟩ := hrel
              by_cases hkn : k = (hdL p2).length
              · subst hkn
                go_wp2_with fail
                first | (go_roundw; (case rel => exact ⟨i + 1, p2, L2, n, rfl, rfl, hil, hi3, Hok2.out, hS.sel (by (repeat' (first | (with_reducible first | exact Sel.done Suf.refl | exact Sel.done (Suf.tail Suf.refl) | exact Sel.done (Suf.tail (Suf.tail Suf.refl)) | exact Sel.done (Suf.tail (Suf.tail (Suf.tail Suf.refl))) | (apply Sel.done; (focus ((repeat (first | exact Suf.refl | apply Suf.tail)); done)))) | (refine Sel.cons (by with_reducible (focus ((repeat (first | exact Take.head | apply Take.tail)); done))) ?_))))⟩); (case measure => simp [intOf]; omega)) | (refine ⟨?_, ?measure⟩; (repeat apply Exists.intro); refine ⟨?rel, rfl⟩; (case rel => exact ⟨i + 1, p2, L2, n, rfl, rfl, hil, hi3, Hok2.out, hS.sel (by (repeat' (first | (with_reducible first | exact Sel.done Suf.refl | exact Sel.done (Suf.tail Suf.refl) | exact Sel.done (Suf.tail (Suf.tail Suf.refl)) | exact Sel.done (Suf.tail (Suf.tail (Suf.tail Suf.refl))) | (apply Sel.done; (focus ((repeat (first | exact Suf.refl | apply Suf.tail)); done)))) | (refine Sel.cons (by with_reducible (focus ((repeat (first | exact Take.head | apply Take.tail)); done))) ?_))))⟩); (case measure => simp [intOf]; omega))
              · have hk1 : k < (hdL p2).length := by omega
                obtain ⟨⟨hg, rfl⟩, hcap, hcn⟩ := St.rowAddr hS.drop.drop.drop (by omega)
                obtain ⟨hhas, hnz, hlt⟩ := hdL_at Hok2.out.w hk1
                have hcells : ∀ {K K' : List HP}, Take K (hdR (.slice (some ⟨hg, 0, none⟩) (hdL p2).length sc) (hdL p2)) K' → ∀ m, ∀ hm : m < (hdL p2).length, Cells K hg (m * 5) (Hd.cells (hdL p2)[m]) := fun hu m hm => Cells.elemM (enc := Hd.cells) Hd.len hu hm
                have hitems : ∀ {K K' : List HP}, Take K (hdR (.slice (some ⟨hg, 0, none⟩) (hdL p2).length sc) (hdL p2)) K' → Cells K hg (k * 5 + 1) ((hdL p2)[k].has.cells) := fun hu j v hj => by
                  have h1 := hcells hu k hk1 (1 + j) v (by rw [Nat.add_comm]; exact hj)
                  rwa [← Nat.add_assoc] at h1
                have hname : ∀ {K K' : List HP}, Take K (hdR (.slice (some ⟨hg, 0, none⟩) (hdL p2).length sc) (hdL p2)) K' → Cell K hg (k * 5) (.string (hdL p2)[k].who) := fun hu => hcells hu k hk1 0 _ rfl
                by_cases hk0 : k = 0
                · subst hk0
                  clear hlt hcells
                  generalize (hdL p2)[0] = x at hhas hnz hitems hname
                  obtain ⟨xw, ⟨x0, x1, x2, x3⟩⟩ := x
                  simp only at hhas hnz hitems hname
                  have hz : (x0 == 0 && (x1 == 0 && (x2 == 0 && x3 == 0))) = false := hnz
                  have he : ((x0 == x0) && ((x1 == x1) && ((x2 == x2) && (x3 == x3)))) = true := by simp
                  have Hhas := Lib.hid hhas.symm
                  clear hhas hnz
                  simp only [It.cells] at hitems
                  go_wp2_with fail
                  refine wp_region_reads (by kernel_rfl) (by kernel_rfl) hS ?_
                  iterate 4 (refine wq_pure rfl rfl ?_; intro K hK; go_big_quiet_op; go_big_quiet_on)
                  (apply wq_ldN; (with_reducible rfl); rfl; rfl; decide +kernel; (exact hitems (by (focus ((repeat (first | exact Take.head | apply Take.tail)); done)))); kernel_rfl; (simp only [Act.put, List.setIfInBounds_toArray, List.set_cons_succ, List.set_cons_zero, Nat.reduceAdd]))
                  (refine wq_pure rfl rfl ?_; intro K hK; go_big_quiet_op; go_big_quiet_on)
                  ((with_reducible apply wq_eqA); (with_reducible rfl); rfl; rfl; rfl; kernel_rfl; exact eqI _ _ _ _ _ _ _ _; (rw [hz]); (simp only [Act.put, List.setIfInBounds_toArray, List.set_cons_succ, List.set_cons_zero, Nat.reduceAdd, eP, It.cells]))
                  iterate 4 (refine wq_pure rfl rfl ?_; intro K hK; go_big_quiet_op; go_big_quiet_on)
                  iterate 12 go_big_quiet_skip
                  iterate 8 (refine wq_pure rfl rfl ?_; intro K hK; go_big_quiet_op; go_big_quiet_on)
                  (apply wq_ld1; (with_reducible rfl); rfl; rfl; decide +kernel; (exact hname (by (focus ((repeat (first | exact Take.head | apply Take.tail)); done)))); (simp only [Act.put, List.setIfInBounds_toArray, List.set_cons_succ, List.set_cons_zero, Nat.reduceAdd]))
                  (apply wq_call; rfl; (intro w; apply exec_callF; (with_reducible rfl); decide +kernel; (focus (simp only [List.map_toArray, List.map_cons, List.map_nil, Act.eval, Array.getD_eq_getD_getElem?, List.getElem?_toArray, List.getElem?_cons_succ, List.getElem?_cons_zero, Option.getD_some]; try rfl))); (intro w hS; exact has_at vb mb W w _ _ _ Hhas.out hS); (simp only [Act.put, List.setIfInBounds_toArray, List.set_cons_succ, List.set_cons_zero, Nat.reduceAdd]))
                  iterate 4 (refine wq_pure rfl rfl ?_; intro K hK; go_big_quiet_op; go_big_quiet_on)
                  (apply wq_ldN; (with_reducible rfl); rfl; rfl; decide +kernel; (exact hitems (by (focus ((repeat (first | exact Take.head | apply Take.tail)); done)))); kernel_rfl; (simp only [Act.put, List.setIfInBounds_toArray, List.set_cons_succ, List.set_cons_zero, Nat.reduceAdd]))
                  ((with_reducible apply wq_neA); (with_reducible rfl); rfl; rfl; rfl; kernel_rfl; exact eqI _ _ _ _ _ _ _ _; (rw [he]); (simp only [Bool.not_true]); (simp only [Act.put, List.setIfInBounds_toArray, List.set_cons_succ, List.set_cons_zero, Nat.reduceAdd, eP, It.cells]))
                  (refine wq_pure rfl rfl ?_; intro K hK; go_big_quiet_op; go_big_quiet_on)
                  clear hS
                  intro w hS
                  go_wp2_with fail
                  first | (go_roundw; (case rel => exact ⟨0 + 1, rfl, hk1, hS⟩); (case measure => simp [intOf]; omega)) | (refine ⟨?_, ?measure⟩; (repeat apply Exists.intro); refine ⟨?rel, rfl⟩; (case rel => exact ⟨0 + 1, rfl, hk1, hS⟩); (case measure => simp [intOf]; omega))
                · obtain ⟨m, rfl⟩ : ∃ m, k = m + 1 := ⟨k - 1, by omega⟩
                  have hle := hlt m (Nat.lt_succ_self m)
                  have hnam2 : ∀ {K K' : List HP}, Take K (hdR (.slice (some ⟨hg, 0, none⟩) (hdL p2).length sc) (hdL p2)) K' → Cell K hg (m * 5) (.string ((hdL p2)[m]'(by omega)).who) := fun hu => hcells hu m (by omega) 0 _ rfl
                  have hm1 : ((m + 1 : Nat) : Int) - 1 = (m : Int) := by omega
                  have hm2 : ((m : Int) + 1) - 1 = (m : Int) := by omega
                  clear hlt hcells hk0
                  generalize (hdL p2)[m + 1] = x at hhas hnz hitems hname hle
                  generalize (hdL p2)[m]'(by omega) = y at hle hnam2
                  obtain ⟨xw, ⟨x0, x1, x2, x3⟩⟩ := x
                  obtain ⟨yw, yi⟩ := y
                  simp only at hhas hnz hitems hname hnam2 hle
                  have hz : (x0 == 0 && (x1 == 0 && (x2 == 0 && x3 == 0))) = false := hnz
                  have he : ((x0 == x0) && ((x1 == x1) && ((x2 == x2) && (x3 == x3)))) = true := by simp
                  have Hhas := Lib.hid hhas.symm
                  clear hhas hnz
                  simp only [It.cells] at hitems
                  go_wp2_with fail
                  refine wp_region_reads (by kernel_rfl) (by kernel_rfl) hS ?_
                  iterate 4 (refine wq_pure rfl rfl ?_; intro K hK; go_big_quiet_op; go_big_quiet_on)
                  (apply wq_ldN; (with_reducible rfl); rfl; rfl; decide +kernel; (exact hitems (by (focus ((repeat (first | exact Take.head | apply Take.tail)); done)))); kernel_rfl; (simp only [Act.put, List.setIfInBounds_toArray, List.set_cons_succ, List.set_cons_zero, Nat.reduceAdd]))
                  (refine wq_pure rfl rfl ?_; intro K hK; go_big_quiet_op; go_big_quiet_on)
                  ((with_reducible apply wq_eqA); (with_reducible rfl); rfl; rfl; rfl; kernel_rfl; exact eqI _ _ _ _ _ _ _ _; (rw [hz]); (simp only [Act.put, List.setIfInBounds_toArray, List.set_cons_succ, List.set_cons_zero, Nat.reduceAdd, eP, It.cells]))
                  iterate 9 (refine wq_pure rfl rfl ?_; intro K hK; go_big_quiet_op; go_big_quiet_on)
                  (apply wq_ld1; (with_reducible rfl); rfl; rfl; decide +kernel; (exact hnam2 (by (focus ((repeat (first | exact Take.head | apply Take.tail)); done)))); (simp only [Act.put, List.setIfInBounds_toArray, List.set_cons_succ, List.set_cons_zero, Nat.reduceAdd]))
                  iterate 4 (refine wq_pure rfl rfl ?_; intro K hK; go_big_quiet_op; go_big_quiet_on)
                  (apply wq_ld1; (with_reducible rfl); rfl; rfl; decide +kernel; (exact hname (by (focus ((repeat (first | exact Take.head | apply Take.tail)); done)))); (simp only [Act.put, List.setIfInBounds_toArray, List.set_cons_succ, List.set_cons_zero, Nat.reduceAdd]))
                  iterate 9 (refine wq_pure rfl rfl ?_; intro K hK; go_big_quiet_op; go_big_quiet_on)
                  (apply wq_ld1; (with_reducible rfl); rfl; rfl; decide +kernel; (exact hname (by (focus ((repeat (first | exact Take.head | apply Take.tail)); done)))); (simp only [Act.put, List.setIfInBounds_toArray, List.set_cons_succ, List.set_cons_zero, Nat.reduceAdd]))
                  (apply wq_call; rfl; (intro w; apply exec_callF; (with_reducible rfl); decide +kernel; (focus (simp only [List.map_toArray, List.map_cons, List.map_nil, Act.eval, Array.getD_eq_getD_getElem?, List.getElem?_toArray, List.getElem?_cons_succ, List.getElem?_cons_zero, Option.getD_some]; try rfl))); (intro w hS; exact has_at vb mb W w _ _ _ Hhas.out hS); (simp only [Act.put, List.setIfInBounds_toArray, List.set_cons_succ, List.set_cons_zero, Nat.reduceAdd]))
                  iterate 4 (refine wq_pure rfl rfl ?_; intro K hK; go_big_quiet_op; go_big_quiet_on)
                  (apply wq_ldN; (with_reducible rfl); rfl; rfl; decide +kernel; (exact hitems (by (focus ((repeat (first | exact Take.head | apply Take.tail)); done)))); kernel_rfl; (simp only [Act.put, List.setIfInBounds_toArray, List.set_cons_succ, List.set_cons_zero, Nat.reduceAdd]))
                  ((with_reducible apply wq_neA); (with_reducible rfl); rfl; rfl; rfl; kernel_rfl; exact eqI _ _ _ _ _ _ _ _; (rw [he]); (simp only [Bool.not_true]); (simp only [Act.put, List.setIfInBounds_toArray, List.set_cons_succ, List.set_cons_zero, Nat.reduceAdd, eP, It.cells]))
                  (refine wq_pure rfl rfl ?_; intro K hK; go_big_quiet_op; go_big_quiet_on)
                  clear hS
                  intro w hS
                  go_wp2_with fail
                  first | (go_roundw; (case rel => exact ⟨m + 1 + 1, rfl, hk1, hS⟩); (case measure => simp [intOf]; omega)) | (refine ⟨?_, ?measure⟩; (repeat apply Exists.intro); refine ⟨?rel, rfl⟩; (case rel => exact ⟨m + 1 + 1, rfl, hk1, hS⟩); (case measure => simp [intOf]; omega))
end Go.Proofs.Ytbcokphjpllbiaa
end
