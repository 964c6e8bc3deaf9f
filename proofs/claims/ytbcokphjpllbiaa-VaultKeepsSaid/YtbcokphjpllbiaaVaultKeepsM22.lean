/-
  VaultKeeps: the walk. For every script.
  What a law's walk gives its row: true came back, and what was there before the call is as it was: so the arguments read as they did. For every law that writes only what it made itself.
-/
import Derived.Test.YtbcokphjpllbiaaVaultKeepsM21
import Derived.WalkKit
import Derived.ProofKit
import Derived.OpenShut
import Derived.ChangeSame
import Derived.ReadAgain
section
set_option linter.unusedSimpArgs false
set_option linter.unusedVariables false
namespace Go.Proofs.Ytbcokphjpllbiaa
open Go.RowKit Go.Sl
def KcR (W : World) (L : List HP) (i0 i1 i2 i3 : Int) (v : Value) (w : World) : Prop :=
  St W L w ∧ (v = .int .i64 0 ∨ (v = .int .i64 1 ∧ i0 ≤ 1099511627776) ∨ (v = .int .i64 2 ∧ i0 ≤ 1099511627776 ∧ i1 ≤ 1099511627776) ∨ (v = .int .i64 3 ∧ i0 ≤ 1099511627776 ∧ i1 ≤ 1099511627776 ∧ i2 ≤ 1099511627776) ∨ (v = .int .i64 4 ∧ i0 ≤ 1099511627776 ∧ i1 ≤ 1099511627776 ∧ i2 ≤ 1099511627776 ∧ i3 ≤ 1099511627776))
def Ks4 (W : World) (F : Int → Int → Int → Int → List HP) (s0 s1 s2 s3 t0 t1 t2 t3 : Int) (v : Value) (w : World) : Prop :=
  (v = .int .i64 0 ∧ St W (F s0 s1 s2 s3) w) ∨ (v = .int .i64 1 ∧ St W (F t0 s1 s2 s3) w) ∨ (v = .int .i64 2 ∧ St W (F t0 t1 s2 s3) w) ∨ (v = .int .i64 3 ∧ St W (F t0 t1 t2 s3) w) ∨ (v = .int .i64 4 ∧ St W (F t0 t1 t2 t3) w)
def KpR (W : World) (Lr : List HP) (m vb mb bb b4 : Nat) (v5 : Value) (w : World) : Prop :=
  ∃ (i : Nat) (p : Ps) (L : List Ord) (n s0 s1 s2 s3 : Int), v5 = .int .i64 i ∧ i ≤ m ∧ i ≤ 100 ∧ VOk p n i ∧ TotIs p L n s0 s1 s2 s3 i ∧ St W (vaultL vb mb bb p L n (blk b4 [.int .i64 s0, .int .i64 s1, .int .i64 s2, .int .i64 s3] 28 :: Lr)) w
set_option maxRecDepth 100000 in
set_option maxHeartbeats 8000000 in
theorem keeps_spec (xs : List Vact) (v : Value) (V : World) (hv : SliceV Vact.cells 13 V v xs) (W w : World) (Lr : List HP) (hS : St W (Old V :: Lr) w) :
    Calls Try.prog 6 #[v] w fun e w' => e = .returned (.bool true) ∧ St W (Old V :: Lr) w' := by
  have Hv := Lib.hid hv
  obtain ⟨a, cap, rfl, h63, hact⟩ := hv.vact
  have Ha := Lib.hid hact
  clear hact hv
  go_enter Try.func6, Try.ntmps6
  go_wp2_with (first | (go_at_call 15; refine (heavy_spec xs _ V Hv.out W _ _ hS).mono ?_; clear hS; rintro e w ⟨hvy, rfl, hS⟩) | (go_at_call 9; refine (newV_spec W _ _ hS).mono ?_; clear hS; rintro e w ⟨vb, mb, bb, rfl, hS⟩) | ((with_reducible apply wl_alloc hS); (with_reducible rfl); rfl; (with_reducible first | exact Ty.z3 | exact Ty.z28 | exact Ty.z32 | exact Ty.z40 | exact Ty.z46 | exact Ty.z69 | exact Ty.z86 | exact Ty.z146); clear hS; intro b4 w hS; (simp only [Act.put, List.setIfInBounds_toArray, List.set_cons_succ, List.set_cons_zero, Nat.reduceAdd])))
  · go_ret
    exact ⟨rfl, hS⟩
  have hS1 := hS.sel (L' := blk vb _ _ :: amap eS eP mb [] :: bookL bb [] 1 :: blk b4 _ _ :: Old V :: Lr) (by (repeat' (first | (with_reducible first | exact Sel.done Suf.refl | exact Sel.done (Suf.tail Suf.refl) | exact Sel.done (Suf.tail (Suf.tail Suf.refl)) | exact Sel.done (Suf.tail (Suf.tail (Suf.tail Suf.refl))) | (apply Sel.done; (focus ((repeat (first | exact Suf.refl | apply Suf.tail)); done)))) | (refine Sel.cons (by with_reducible (focus ((repeat (first | exact Take.head | apply Take.tail)); done))) ?_))))
  clear hS
  have hS := hS1
  clear hS1
  go_loopw [5] (fun v5 wr => KpR W (Old V :: Lr) xs.length vb mb bb b4 v5 wr) (fun v5 _ => xs.length - (intOf v5).toNat)
  case atStart => exact ⟨0, [], [], 1, 0, 0, 0, 0, rfl, by omega, by omega, vOk0, totIs0, hS⟩
  case round =>
    clear hS
    obtain ⟨i, p, L, n, s0, s1, s2, s3, rfl, hi, hi2, hok, htot, hS⟩ := hrel
    have Hok := Lib.hid hok
    have Ht := Lib.hid htot
    clear hok htot
    by_cases hend : i = xs.length ∨ i = 100
    · rcases hend with hend | hend
      · subst hend
        go_wp2_with (first | go_big_skip | (go_at_call 8; refine (knownV_spec W _ _ hS).mono ?_; clear hS; rintro e w ⟨rfl, hS⟩))
        go_ret
        exact ⟨rfl, hS.drop.drop.drop.drop⟩
      · subst hend
        by_cases hlt : 100 < xs.length
        · go_wp2_with (first | go_big_skip | (go_at_call 8; refine (knownV_spec W _ _ hS).mono ?_; clear hS; rintro e w ⟨rfl, hS⟩))
          go_ret
          exact ⟨rfl, hS.drop.drop.drop.drop⟩
        · have d1 : decide ((100 : Int) < (xs.length : Int)) = false := by simp; omega
          go_wp2_with (first | go_big_skip | (go_at_call 8; refine (knownV_spec W _ _ hS).mono ?_; clear hS; rintro e w ⟨rfl, hS⟩))
          go_ret
          exact ⟨rfl, hS.drop.drop.drop.drop⟩
    have hil : i < xs.length := by omega
    have hi3 : i < 100 := by omega
    clear hend hi hi2
    obtain ⟨pb, poff, rfl, hA⟩ := Ha.out i hil
    have hall := hA.all
    clear hA
    generalize xs[i] = x at hall
    obtain ⟨kd, nn, who, ⟨i0, i1, i2, i3⟩, ⟨oi, ou, oy, ot, oc, op⟩⟩ := x
    simp only [Vact.cells, It.cells, Ord.cells, List.cons_append, List.nil_append] at hall
    go_wp2_with (first | go_big_skip | ((with_reducible apply wl_ldN hS); (with_reducible rfl); rfl; rfl; decide +kernel; (exact Cells.old (by with_reducible (focus ((repeat (first | exact Mem.head | apply Mem.tail)); done))) hall); kernel_rfl; (simp only [Act.put, List.setIfInBounds_toArray, List.set_cons_succ, List.set_cons_zero, Nat.reduceAdd])) | ((with_reducible apply wl_alloc hS); (with_reducible rfl); rfl; (with_reducible first | exact Ty.z3 | exact Ty.z28 | exact Ty.z32 | exact Ty.z40 | exact Ty.z46 | exact Ty.z69 | exact Ty.z86 | exact Ty.z146); clear hS; intro b6 w hS; (simp only [Act.put, List.setIfInBounds_toArray, List.set_cons_succ, List.set_cons_zero, Nat.reduceAdd])) | ((with_reducible apply wl_stN hS); (with_reducible rfl); rfl; rfl; (focus ((conv => lhs; whnf); try rfl)); kernel_rfl; rfl; ((focus ((repeat (first | exact Upd.head | apply Upd.tail)); done))); (simp only [List.length_cons, List.length_nil]; omega); ((simp only [List.set_cons_zero, List.set_cons_succ, setAll]); rfl); clear hS; intro w hS; try (simp only [Act.put, List.setIfInBounds_toArray, List.set_cons_succ, List.set_cons_zero, Nat.reduceAdd])))
    have hS1 := hS.sel (L' := blk vb _ _ :: amap eS eP mb p :: bookL bb L n :: blk b6 _ _ :: blk b4 _ _ :: Old V :: Lr) (by (repeat' (first | (with_reducible first | exact Sel.done Suf.refl | exact Sel.done (Suf.tail Suf.refl) | exact Sel.done (Suf.tail (Suf.tail Suf.refl)) | exact Sel.done (Suf.tail (Suf.tail (Suf.tail Suf.refl))) | (apply Sel.done; (focus ((repeat (first | exact Suf.refl | apply Suf.tail)); done)))) | (refine Sel.cons (by with_reducible (focus ((repeat (first | exact Take.head | apply Take.tail)); done))) ?_))))
    clear hS
    have hS := hS1
    clear hS1
    go_loopw [7] (fun v wr => KcR W (vaultL vb mb bb p L n (blk b6 _ 40 :: blk b4 [.int .i64 s0, .int .i64 s1, .int .i64 s2, .int .i64 s3] 28 :: Old V :: Lr)) i0 i1 i2 i3 v wr) (fun v _ => 4 - (intOf v).toNat)
    case atStart => exact ⟨hS, .inl rfl⟩
    case round =>
    clear hS
    obtain ⟨hS, hc⟩ := hrel
    rcases hc with rfl | ⟨rfl, k0⟩ | ⟨rfl, k0, k1⟩ | ⟨rfl, k0, k1, k2⟩ | ⟨rfl, k0, k1, k2, k3⟩
    · skip
      by_cases hx : 1099511627776 < i0
      · go_wp2_with (first | go_big_skip | (go_at_call 8; refine (knownV_spec W _ _ hS).mono ?_; clear hS; rintro e w ⟨rfl, hS⟩) | ((with_reducible apply wl_ld1 hS); (with_reducible rfl); rfl; rfl; decide +kernel; (first | (focus ((repeat (first | exact Cell.here rfl | apply Cell.there)); done)) | assumption); (simp only [Act.put, List.setIfInBounds_toArray, List.set_cons_succ, List.set_cons_zero, Nat.reduceAdd])))
        go_ret
        exact ⟨rfl, hS.drop.drop.drop.drop.drop⟩
      · have hxf : decide (1099511627776 < i0) = false := by simpa using hx
        go_wp2_with (first | go_big_skip | ((with_reducible apply wl_ld1 hS); (with_reducible rfl); rfl; rfl; decide +kernel; (first | (focus ((repeat (first | exact Cell.here rfl | apply Cell.there)); done)) | assumption); (simp only [Act.put, List.setIfInBounds_toArray, List.set_cons_succ, List.set_cons_zero, Nat.reduceAdd])))
        first | (go_roundw; (case rel => exact ⟨hS, .inr (.inl ⟨rfl, by omega⟩)⟩); (case measure => (simp [intOf]; try omega))) | (refine ⟨?_, ?measure⟩; (repeat apply Exists.intro); refine ⟨?rel, rfl⟩; (case rel => exact ⟨hS, .inr (.inl ⟨rfl, by omega⟩)⟩); (case measure => (simp [intOf]; try omega)))
    · skip
      by_cases hx : 1099511627776 < i1
      · go_wp2_with (first | go_big_skip | (go_at_call 8; refine (knownV_spec W _ _ hS).mono ?_; clear hS; rintro e w ⟨rfl, hS⟩) | ((with_reducible apply wl_ld1 hS); (with_reducible rfl); rfl; rfl; decide +kernel; (first | (focus ((repeat (first | exact Cell.here rfl | apply Cell.there)); done)) | assumption); (simp only [Act.put, List.setIfInBounds_toArray, List.set_cons_succ, List.set_cons_zero, Nat.reduceAdd])))
        go_ret
        exact ⟨rfl, hS.drop.drop.drop.drop.drop⟩
      · have hxf : decide (1099511627776 < i1) = false := by simpa using hx
        go_wp2_with (first | go_big_skip | ((with_reducible apply wl_ld1 hS); (with_reducible rfl); rfl; rfl; decide +kernel; (first | (focus ((repeat (first | exact Cell.here rfl | apply Cell.there)); done)) | assumption); (simp only [Act.put, List.setIfInBounds_toArray, List.set_cons_succ, List.set_cons_zero, Nat.reduceAdd])))
        first | (go_roundw; (case rel => exact ⟨hS, .inr (.inr (.inl ⟨rfl, k0, by omega⟩))⟩); (case measure => (simp [intOf]; try omega))) | (refine ⟨?_, ?measure⟩; (repeat apply Exists.intro); refine ⟨?rel, rfl⟩; (case rel => exact ⟨hS, .inr (.inr (.inl ⟨rfl, k0, by omega⟩))⟩); (case measure => (simp [intOf]; try omega)))
    · skip
      by_cases hx : 1099511627776 < i2
      · go_wp2_with (first | go_big_skip | (go_at_call 8; refine (knownV_spec W _ _ hS).mono ?_; clear hS; rintro e w ⟨rfl, hS⟩) | ((with_reducible apply wl_ld1 hS); (with_reducible rfl); rfl; rfl; decide +kernel; (first | (focus ((repeat (first | exact Cell.here rfl | apply Cell.there)); done)) | assumption); (simp only [Act.put, List.setIfInBounds_toArray, List.set_cons_succ, List.set_cons_zero, Nat.reduceAdd])))
        go_ret
        exact ⟨rfl, hS.drop.drop.drop.drop.drop⟩
      · have hxf : decide (1099511627776 < i2) = false := by simpa using hx
        go_wp2_with (first | go_big_skip | ((with_reducible apply wl_ld1 hS); (with_reducible rfl); rfl; rfl; decide +kernel; (first | (focus ((repeat (first | exact Cell.here rfl | apply Cell.there)); done)) | assumption); (simp only [Act.put, List.setIfInBounds_toArray, List.set_cons_succ, List.set_cons_zero, Nat.reduceAdd])))
        first | (go_roundw; (case rel => exact ⟨hS, .inr (.inr (.inr (.inl ⟨rfl, k0, k1, by omega⟩)))⟩); (case measure => (simp [intOf]; try omega))) | (refine ⟨?_, ?measure⟩; (repeat apply Exists.intro); refine ⟨?rel, rfl⟩; (case rel => exact ⟨hS, .inr (.inr (.inr (.inl ⟨rfl, k0, k1, by omega⟩)))⟩); (case measure => (simp [intOf]; try omega)))
    · skip
      by_cases hx : 1099511627776 < i3
      · go_wp2_with (first | go_big_skip | (go_at_call 8; refine (knownV_spec W _ _ hS).mono ?_; clear hS; rintro e w ⟨rfl, hS⟩) | ((with_reducible apply wl_ld1 hS); (with_reducible rfl); rfl; rfl; decide +kernel; (first | (focus ((repeat (first | exact Cell.here rfl | apply Cell.there)); done)) | assumption); (simp only [Act.put, List.setIfInBounds_toArray, List.set_cons_succ, List.set_cons_zero, Nat.reduceAdd])))
        go_ret
        exact ⟨rfl, hS.drop.drop.drop.drop.drop⟩
      · have hxf : decide (1099511627776 < i3) = false := by simpa using hx
        go_wp2_with (first | go_big_skip | ((with_reducible apply wl_ld1 hS); (with_reducible rfl); rfl; rfl; decide +kernel; (first | (focus ((repeat (first | exact Cell.here rfl | apply Cell.there)); done)) | assumption); (simp only [Act.put, List.setIfInBounds_toArray, List.set_cons_succ, List.set_cons_zero, Nat.reduceAdd])))
        first | (go_roundw; (case rel => exact ⟨hS, .inr (.inr (.inr (.inr ⟨rfl, k0, k1, k2, by omega⟩)))⟩); (case measure => (simp [intOf]; try omega))) | (refine ⟨?_, ?measure⟩; (repeat apply Exists.intro); refine ⟨?rel, rfl⟩; (case rel => exact ⟨hS, .inr (.inr (.inr (.inr ⟨rfl, k0, k1, k2, by omega⟩)))⟩); (case measure => (simp [intOf]; try omega)))
    · have K0 := Lib.hid k0
      have K1 := Lib.hid k1
      have K2 := Lib.hid k2
      have K3 := Lib.hid k3
      clear k0 k1 k2 k3
      have he : ((s0 == s0) && ((s1 == s1) && ((s2 == s2) && (s3 == s3)))) = true := by simp
      by_cases hk1 : kd = 1
      · subst hk1
        by_cases hr : putE p who ⟨i0, i1, i2, i3⟩ = 0
        · have Hr := Lib.hid hr
          clear hr he
          go_wp2_with (first | go_big_skip | ((with_reducible apply wl_ld1 hS); (with_reducible rfl); rfl; rfl; decide +kernel; (first | (focus ((repeat (first | exact Cell.here rfl | apply Cell.there)); done)) | assumption); (simp only [Act.put, List.setIfInBounds_toArray, List.set_cons_succ, List.set_cons_zero, Nat.reduceAdd])) | ((with_reducible apply wl_ldN hS); (with_reducible rfl); rfl; rfl; decide +kernel; (exact Cells.there (Cells.there (Cells.there (Cells.here (vs := [.int .i64 i0, .int .i64 i1, .int .i64 i2, .int .i64 i3]) rfl)))); kernel_rfl; (simp only [Act.put, List.setIfInBounds_toArray, List.set_cons_succ, List.set_cons_zero, Nat.reduceAdd])) | (go_at_call 10; refine (put_yes vb mb bb W _ _ Hok.out Ht.out Hr.out K0.out K1.out K2.out K3.out hS).mono ?_; clear hS; rintro e w ⟨p2, ⟨hok2, ht2⟩, rfl, hS⟩; have Hok2 := Lib.hid hok2; have Ht2 := Lib.hid ht2; clear hok2 ht2))
          have q0 : (s0 + i0) ≤ 9223372036854775807 ∧ -9223372036854775808 ≤ (s0 + i0) := by have h1 := Ht2.out.b0; have h2 := Ht2.out.z0; omega
          obtain ⟨q0u, q0l⟩ := q0
          have q1 : (s1 + i1) ≤ 9223372036854775807 ∧ -9223372036854775808 ≤ (s1 + i1) := by have h1 := Ht2.out.b1; have h2 := Ht2.out.z1; omega
          obtain ⟨q1u, q1l⟩ := q1
          have q2 : (s2 + i2) ≤ 9223372036854775807 ∧ -9223372036854775808 ≤ (s2 + i2) := by have h1 := Ht2.out.b2; have h2 := Ht2.out.z2; omega
          obtain ⟨q2u, q2l⟩ := q2
          have q3 : (s3 + i3) ≤ 9223372036854775807 ∧ -9223372036854775808 ≤ (s3 + i3) := by have h1 := Ht2.out.b3; have h2 := Ht2.out.z3; omega
          obtain ⟨q3u, q3l⟩ := q3
          go_loopw [8] (fun v wr => Ks4 W (fun a b c d => vaultL vb mb bb p2 L n (blk b6 _ 40 :: blk b4 [.int .i64 a, .int .i64 b, .int .i64 c, .int .i64 d] 28 :: Old V :: Lr)) s0 s1 s2 s3 (s0 + i0) (s1 + i1) (s2 + i2) (s3 + i3) v wr) (fun v _ => 4 - (intOf v).toNat)
          case atStart => exact .inl ⟨rfl, hS⟩
          case round =>
            clear hS
            rcases hrel with ⟨rfl, hS⟩ | ⟨rfl, hS⟩ | ⟨rfl, hS⟩ | ⟨rfl, hS⟩ | ⟨rfl, hS⟩
            · skip
              go_wp2_with (first | go_big_skip)
              refine wp_region_tail 10 (by kernel_rfl) (by kernel_rfl) hS ?_
              iterate 3 (refine wq_pure rfl rfl ?_; intro K hK; go_big_quiet_op; go_big_quiet_on)
              (apply wq_ld1; (with_reducible rfl); rfl; rfl; decide +kernel; (first | (focus ((repeat (first | exact Cell.here rfl | apply Cell.there)); done)) | assumption); (simp only [Act.put, List.setIfInBounds_toArray, List.set_cons_succ, List.set_cons_zero, Nat.reduceAdd]))
              iterate 3 (refine wq_pure rfl rfl ?_; intro K hK; go_big_quiet_op; go_big_quiet_on)
              (apply wq_ld1; (with_reducible rfl); rfl; rfl; decide +kernel; (first | (focus ((repeat (first | exact Cell.here rfl | apply Cell.there)); done)) | assumption); (simp only [Act.put, List.setIfInBounds_toArray, List.set_cons_succ, List.set_cons_zero, Nat.reduceAdd]))
              iterate 2 (refine wq_pure rfl rfl ?_; intro K hK; go_big_quiet_op; go_big_quiet_on)
              clear hS
              intro w hS
              simp only [List.drop_succ_cons, List.drop_zero]
              go_wp2_with (first | ((with_reducible apply wl_st1 hS); (with_reducible rfl); rfl; rfl; (focus ((conv => lhs; whnf); try rfl)); kernel_rfl; rfl; rfl; ((focus ((repeat (first | exact Upd.head | apply Upd.tail)); done))); (simp only [List.length_cons, List.length_nil]; omega); ((simp only [List.set_cons_zero, List.set_cons_succ, setAll]); rfl); clear hS; intro w hS; try (simp only [Act.put, List.setIfInBounds_toArray, List.set_cons_succ, List.set_cons_zero, Nat.reduceAdd])))
              first | (go_roundw; (case rel => exact .inr (.inl ⟨rfl, hS⟩)); (case measure => (simp [intOf]; try omega))) | (refine ⟨?_, ?measure⟩; (repeat apply Exists.intro); refine ⟨?rel, rfl⟩; (case rel => exact .inr (.inl ⟨rfl, hS⟩)); (case measure => (simp [intOf]; try omega)))
            · skip
              go_wp2_with (first | go_big_skip)
              refine wp_region_tail 10 (by kernel_rfl) (by kernel_rfl) hS ?_
              iterate 3 (refine wq_pure rfl rfl ?_; intro K hK; go_big_quiet_op; go_big_quiet_on)
              (apply wq_ld1; (with_reducible rfl); rfl; rfl; decide +kernel; (first | (focus ((repeat (first | exact Cell.here rfl | apply Cell.there)); done)) | assumption); (simp only [Act.put, List.setIfInBounds_toArray, List.set_cons_succ, List.set_cons_zero, Nat.reduceAdd]))
              iterate 3 (refine wq_pure rfl rfl ?_; intro K hK; go_big_quiet_op; go_big_quiet_on)
              (apply wq_ld1; (with_reducible rfl); rfl; rfl; decide +kernel; (first | (focus ((repeat (first | exact Cell.here rfl | apply Cell.there)); done)) | assumption); (simp only [Act.put, List.setIfInBounds_toArray, List.set_cons_succ, List.set_cons_zero, Nat.reduceAdd]))
              iterate 2 (refine wq_pure rfl rfl ?_; intro K hK; go_big_quiet_op; go_big_quiet_on)
              clear hS
              intro w hS
              simp only [List.drop_succ_cons, List.drop_zero]
              go_wp2_with (first | ((with_reducible apply wl_st1 hS); (with_reducible rfl); rfl; rfl; (focus ((conv => lhs; whnf); try rfl)); kernel_rfl; rfl; rfl; ((focus ((repeat (first | exact Upd.head | apply Upd.tail)); done))); (simp only [List.length_cons, List.length_nil]; omega); ((simp only [List.set_cons_zero, List.set_cons_succ, setAll]); rfl); clear hS; intro w hS; try (simp only [Act.put, List.setIfInBounds_toArray, List.set_cons_succ, List.set_cons_zero, Nat.reduceAdd])))
              first | (go_roundw; (case rel => exact .inr (.inr (.inl ⟨rfl, hS⟩))); (case measure => (simp [intOf]; try omega))) | (refine ⟨?_, ?measure⟩; (repeat apply Exists.intro); refine ⟨?rel, rfl⟩; (case rel => exact .inr (.inr (.inl ⟨rfl, hS⟩))); (case measure => (simp [intOf]; try omega)))
            · skip
              go_wp2_with (first | go_big_skip)
              refine wp_region_tail 10 (by kernel_rfl) (by kernel_rfl) hS ?_
              iterate 3 (refine wq_pure rfl rfl ?_; intro K hK; go_big_quiet_op; go_big_quiet_on)
              (apply wq_ld1; (with_reducible rfl); rfl; rfl; decide +kernel; (first | (focus ((repeat (first | exact Cell.here rfl | apply Cell.there)); done)) | assumption); (simp only [Act.put, List.setIfInBounds_toArray, List.set_cons_succ, List.set_cons_zero, Nat.reduceAdd]))
              iterate 3 (refine wq_pure rfl rfl ?_; intro K hK; go_big_quiet_op; go_big_quiet_on)
              (apply wq_ld1; (with_reducible rfl); rfl; rfl; decide +kernel; (first | (focus ((repeat (first | exact Cell.here rfl | apply Cell.there)); done)) | assumption); (simp only [Act.put, List.setIfInBounds_toArray, List.set_cons_succ, List.set_cons_zero, Nat.reduceAdd]))
              iterate 2 (refine wq_pure rfl rfl ?_; intro K hK; go_big_quiet_op; go_big_quiet_on)
              clear hS
              intro w hS
              simp only [List.drop_succ_cons, List.drop_zero]
              go_wp2_with (first | ((with_reducible apply wl_st1 hS); (with_reducible rfl); rfl; rfl; (focus ((conv => lhs; whnf); try rfl)); kernel_rfl; rfl; rfl; ((focus ((repeat (first | exact Upd.head | apply Upd.tail)); done))); (simp only [List.length_cons, List.length_nil]; omega); ((simp only [List.set_cons_zero, List.set_cons_succ, setAll]); rfl); clear hS; intro w hS; try (simp only [Act.put, List.setIfInBounds_toArray, List.set_cons_succ, List.set_cons_zero, Nat.reduceAdd])))
              first | (go_roundw; (case rel => exact .inr (.inr (.inr (.inl ⟨rfl, hS⟩)))); (case measure => (simp [intOf]; try omega))) | (refine ⟨?_, ?measure⟩; (repeat apply Exists.intro); refine ⟨?rel, rfl⟩; (case rel => exact .inr (.inr (.inr (.inl ⟨rfl, hS⟩)))); (case measure => (simp [intOf]; try omega)))
            · skip
              go_wp2_with (first | go_big_skip)
              refine wp_region_tail 10 (by kernel_rfl) (by kernel_rfl) hS ?_
              iterate 3 (refine wq_pure rfl rfl ?_; intro K hK; go_big_quiet_op; go_big_quiet_on)
              (apply wq_ld1; (with_reducible rfl); rfl; rfl; decide +kernel; (first | (focus ((repeat (first | exact Cell.here rfl | apply Cell.there)); done)) | assumption); (simp only [Act.put, List.setIfInBounds_toArray, List.set_cons_succ, List.set_cons_zero, Nat.reduceAdd]))
              iterate 3 (refine wq_pure rfl rfl ?_; intro K hK; go_big_quiet_op; go_big_quiet_on)
              (apply wq_ld1; (with_reducible rfl); rfl; rfl; decide +kernel; (first | (focus ((repeat (first | exact Cell.here rfl | apply Cell.there)); done)) | assumption); (simp only [Act.put, List.setIfInBounds_toArray, List.set_cons_succ, List.set_cons_zero, Nat.reduceAdd]))
              iterate 2 (refine wq_pure rfl rfl ?_; intro K hK; go_big_quiet_op; go_big_quiet_on)
              clear hS
              intro w hS
              simp only [List.drop_succ_cons, List.drop_zero]
              go_wp2_with (first | ((with_reducible apply wl_st1 hS); (with_reducible rfl); rfl; rfl; (focus ((conv => lhs; whnf); try rfl)); kernel_rfl; rfl; rfl; ((focus ((repeat (first | exact Upd.head | apply Upd.tail)); done))); (simp only [List.length_cons, List.length_nil]; omega); ((simp only [List.set_cons_zero, List.set_cons_succ, setAll]); rfl); clear hS; intro w hS; try (simp only [Act.put, List.setIfInBounds_toArray, List.set_cons_succ, List.set_cons_zero, Nat.reduceAdd])))
              first | (go_roundw; (case rel => exact .inr (.inr (.inr (.inr ⟨rfl, hS⟩)))); (case measure => (simp [intOf]; try omega))) | (refine ⟨?_, ?measure⟩; (repeat apply Exists.intro); refine ⟨?rel, rfl⟩; (case rel => exact .inr (.inr (.inr (.inr ⟨rfl, hS⟩)))); (case measure => (simp [intOf]; try omega)))
            · skip
              have he : (((s0 + i0) == (s0 + i0)) && (((s1 + i1) == (s1 + i1)) && (((s2 + i2) == (s2 + i2)) && ((s3 + i3) == (s3 + i3))))) = true := by simp
              go_wp2_with (first | go_big_skip | (go_at_call 17; refine (total_st vb mb bb W _ _ Hok2.out (by omega) Ht2.out hS).mono ?_; clear hS; rintro e w ⟨rfl, hS⟩) | ((with_reducible apply wl_alloc hS); (with_reducible rfl); rfl; (with_reducible first | exact Ty.z3 | exact Ty.z28 | exact Ty.z32 | exact Ty.z40 | exact Ty.z46 | exact Ty.z69 | exact Ty.z86 | exact Ty.z146); clear hS; intro bt w hS; (simp only [Act.put, List.setIfInBounds_toArray, List.set_cons_succ, List.set_cons_zero, Nat.reduceAdd])) | ((with_reducible apply wl_stN hS); (with_reducible rfl); rfl; rfl; (focus ((conv => lhs; whnf); try rfl)); kernel_rfl; rfl; ((focus ((repeat (first | exact Upd.head | apply Upd.tail)); done))); (simp only [List.length_cons, List.length_nil]; omega); ((simp only [List.set_cons_zero, List.set_cons_succ, setAll]); rfl); clear hS; intro w hS; try (simp only [Act.put, List.setIfInBounds_toArray, List.set_cons_succ, List.set_cons_zero, Nat.reduceAdd])) | ((with_reducible apply wl_ldN hS); (with_reducible rfl); rfl; rfl; decide +kernel; (first | (focus ((repeat (first | exact Cells.whole | apply Cells.there)); done)) | assumption); kernel_rfl; (simp only [Act.put, List.setIfInBounds_toArray, List.set_cons_succ, List.set_cons_zero, Nat.reduceAdd])) | ((with_reducible apply wl_neA); (with_reducible rfl); rfl; rfl; rfl; kernel_rfl; exact eqI _ _ _ _ _ _ _ _; (rw [he]); (simp only [Bool.not_true]); (simp only [Act.put, List.setIfInBounds_toArray, List.set_cons_succ, List.set_cons_zero, Nat.reduceAdd, eP, It.cells])))
              first | (go_roundw; (case rel => exact ⟨i + 1, p2, L, n, (s0 + i0), (s1 + i1), (s2 + i2), (s3 + i3), rfl, hil, hi3, Hok2.out, Ht2.out, hS.sel (by (repeat' (first | (with_reducible first | exact Sel.done Suf.refl | exact Sel.done (Suf.tail Suf.refl) | exact Sel.done (Suf.tail (Suf.tail Suf.refl)) | exact Sel.done (Suf.tail (Suf.tail (Suf.tail Suf.refl))) | (apply Sel.done; (focus ((repeat (first | exact Suf.refl | apply Suf.tail)); done)))) | (refine Sel.cons (by with_reducible (focus ((repeat (first | exact Take.head | apply Take.tail)); done))) ?_))))⟩); (case measure => (simp [intOf]; try omega))) | (refine ⟨?_, ?measure⟩; (repeat apply Exists.intro); refine ⟨?rel, rfl⟩; (case rel => exact ⟨i + 1, p2, L, n, (s0 + i0), (s1 + i1), (s2 + i2), (s3 + i3), rfl, hil, hi3, Hok2.out, Ht2.out, hS.sel (by (repeat' (first | (with_reducible first | exact Sel.done Suf.refl | exact Sel.done (Suf.tail Suf.refl) | exact Sel.done (Suf.tail (Suf.tail Suf.refl)) | exact Sel.done (Suf.tail (Suf.tail (Suf.tail Suf.refl))) | (apply Sel.done; (focus ((repeat (first | exact Suf.refl | apply Suf.tail)); done)))) | (refine Sel.cons (by with_reducible (focus ((repeat (first | exact Take.head | apply Take.tail)); done))) ?_))))⟩); (case measure => (simp [intOf]; try omega)))
        · obtain ⟨r, hre⟩ : ∃ r, putE p who ⟨i0, i1, i2, i3⟩ = r := ⟨_, rfl⟩
          rw [hre] at hr
          have Hre := Lib.hid hre
          have Hr0 := Lib.hid hr
          have hrf : (r == 0) = false := by simpa using hr
          clear hre hr
          go_wp2_with (first | go_big_skip | ((with_reducible apply wl_ld1 hS); (with_reducible rfl); rfl; rfl; decide +kernel; (first | (focus ((repeat (first | exact Cell.here rfl | apply Cell.there)); done)) | assumption); (simp only [Act.put, List.setIfInBounds_toArray, List.set_cons_succ, List.set_cons_zero, Nat.reduceAdd])) | ((with_reducible apply wl_ldN hS); (with_reducible rfl); rfl; rfl; decide +kernel; (exact Cells.there (Cells.there (Cells.there (Cells.here (vs := [.int .i64 i0, .int .i64 i1, .int .i64 i2, .int .i64 i3]) rfl)))); kernel_rfl; (simp only [Act.put, List.setIfInBounds_toArray, List.set_cons_succ, List.set_cons_zero, Nat.reduceAdd])) | (go_at_call 10; refine (put_no vb mb bb W _ _ Hok.out Ht.out Hre.out Hr0.out hS).mono ?_; clear hS; rintro e w ⟨p2, ⟨hok2, ht2⟩, rfl, hS⟩; have Hok2 := Lib.hid hok2; have Ht2 := Lib.hid ht2; clear hok2 ht2) | (go_at_call 17; refine (total_st vb mb bb W _ _ Hok2.out (by omega) Ht2.out hS).mono ?_; clear hS; rintro e w ⟨rfl, hS⟩) | ((with_reducible apply wl_alloc hS); (with_reducible rfl); rfl; (with_reducible first | exact Ty.z3 | exact Ty.z28 | exact Ty.z32 | exact Ty.z40 | exact Ty.z46 | exact Ty.z69 | exact Ty.z86 | exact Ty.z146); clear hS; intro bt w hS; (simp only [Act.put, List.setIfInBounds_toArray, List.set_cons_succ, List.set_cons_zero, Nat.reduceAdd])) | ((with_reducible apply wl_stN hS); (with_reducible rfl); rfl; rfl; (focus ((conv => lhs; whnf); try rfl)); kernel_rfl; rfl; ((focus ((repeat (first | exact Upd.head | apply Upd.tail)); done))); (simp only [List.length_cons, List.length_nil]; omega); ((simp only [List.set_cons_zero, List.set_cons_succ, setAll]); rfl); clear hS; intro w hS; try (simp only [Act.put, List.setIfInBounds_toArray, List.set_cons_succ, List.set_cons_zero, Nat.reduceAdd])) | ((with_reducible apply wl_ldN hS); (with_reducible rfl); rfl; rfl; decide +kernel; (first | (focus ((repeat (first | exact Cells.whole | apply Cells.there)); done)) | assumption); kernel_rfl; (simp only [Act.put, List.setIfInBounds_toArray, List.set_cons_succ, List.set_cons_zero, Nat.reduceAdd])) | ((with_reducible apply wl_neA); (with_reducible rfl); rfl; rfl; rfl; kernel_rfl; exact eqI _ _ _ _ _ _ _ _; (rw [he]); (simp only [Bool.not_true]); (simp only [Act.put, List.setIfInBounds_toArray, List.set_cons_succ, List.set_cons_zero, Nat.reduceAdd, eP, It.cells])))
          first | (go_roundw; (case rel => exact ⟨i + 1, p2, L, n, s0, s1, s2, s3, rfl, hil, hi3, Hok2.out, Ht2.out, hS.sel (by (repeat' (first | (with_reducible first | exact Sel.done Suf.refl | exact Sel.done (Suf.tail Suf.refl) | exact Sel.done (Suf.tail (Suf.tail Suf.refl)) | exact Sel.done (Suf.tail (Suf.tail (Suf.tail Suf.refl))) | (apply Sel.done; (focus ((repeat (first | exact Suf.refl | apply Suf.tail)); done)))) | (refine Sel.cons (by with_reducible (focus ((repeat (first | exact Take.head | apply Take.tail)); done))) ?_))))⟩); (case measure => (simp [intOf]; try omega))) | (refine ⟨?_, ?measure⟩; (repeat apply Exists.intro); refine ⟨?rel, rfl⟩; (case rel => exact ⟨i + 1, p2, L, n, s0, s1, s2, s3, rfl, hil, hi3, Hok2.out, Ht2.out, hS.sel (by (repeat' (first | (with_reducible first | exact Sel.done Suf.refl | exact Sel.done (Suf.tail Suf.refl) | exact Sel.done (Suf.tail (Suf.tail Suf.refl)) | exact Sel.done (Suf.tail (Suf.tail (Suf.tail Suf.refl))) | (apply Sel.done; (focus ((repeat (first | exact Suf.refl | apply Suf.tail)); done)))) | (refine Sel.cons (by with_reducible (focus ((repeat (first | exact Take.head | apply Take.tail)); done))) ?_))))⟩); (case measure => (simp [intOf]; try omega)))
      have hk1f : (kd == 1) = false := by simpa using hk1
      by_cases hk2 : kd = 2
      · subst hk2
        by_cases hr : takeE p who ⟨i0, i1, i2, i3⟩ = 0
        · have Hr := Lib.hid hr
          clear hr he
          go_wp2_with (first | go_big_skip | ((with_reducible apply wl_ld1 hS); (with_reducible rfl); rfl; rfl; decide +kernel; (first | (focus ((repeat (first | exact Cell.here rfl | apply Cell.there)); done)) | assumption); (simp only [Act.put, List.setIfInBounds_toArray, List.set_cons_succ, List.set_cons_zero, Nat.reduceAdd])) | ((with_reducible apply wl_ldN hS); (with_reducible rfl); rfl; rfl; decide +kernel; (exact Cells.there (Cells.there (Cells.there (Cells.here (vs := [.int .i64 i0, .int .i64 i1, .int .i64 i2, .int .i64 i3]) rfl)))); kernel_rfl; (simp only [Act.put, List.setIfInBounds_toArray, List.set_cons_succ, List.set_cons_zero, Nat.reduceAdd])) | (go_at_call 14; refine (take_yes vb mb bb W _ _ Hok.out Ht.out Hr.out hS).mono ?_; clear hS; rintro e w ⟨p2, ⟨hok2, ht2⟩, rfl, hS⟩; have Hok2 := Lib.hid hok2; have Ht2 := Lib.hid ht2; clear hok2 ht2))
          have q0 : (s0 - i0) ≤ 9223372036854775807 ∧ -9223372036854775808 ≤ (s0 - i0) := by have h1 := Ht2.out.b0; have h2 := Ht2.out.z0; omega
          obtain ⟨q0u, q0l⟩ := q0
          have q1 : (s1 - i1) ≤ 9223372036854775807 ∧ -9223372036854775808 ≤ (s1 - i1) := by have h1 := Ht2.out.b1; have h2 := Ht2.out.z1; omega
          obtain ⟨q1u, q1l⟩ := q1
          have q2 : (s2 - i2) ≤ 9223372036854775807 ∧ -9223372036854775808 ≤ (s2 - i2) := by have h1 := Ht2.out.b2; have h2 := Ht2.out.z2; omega
          obtain ⟨q2u, q2l⟩ := q2
          have q3 : (s3 - i3) ≤ 9223372036854775807 ∧ -9223372036854775808 ≤ (s3 - i3) := by have h1 := Ht2.out.b3; have h2 := Ht2.out.z3; omega
          obtain ⟨q3u, q3l⟩ := q3
          go_loopw [9] (fun v wr => Ks4 W (fun a b c d => vaultL vb mb bb p2 L n (blk b6 _ 40 :: blk b4 [.int .i64 a, .int .i64 b, .int .i64 c, .int .i64 d] 28 :: Old V :: Lr)) s0 s1 s2 s3 (s0 - i0) (s1 - i1) (s2 - i2) (s3 - i3) v wr) (fun v _ => 4 - (intOf v).toNat)
          case atStart => exact .inl ⟨rfl, hS⟩
          case round =>
            clear hS
            rcases hrel with ⟨rfl, hS⟩ | ⟨rfl, hS⟩ | ⟨rfl, hS⟩ | ⟨rfl, hS⟩ | ⟨rfl, hS⟩
            · skip
              go_wp2_with (first | go_big_skip)
              refine wp_region_tail 10 (by kernel_rfl) (by kernel_rfl) hS ?_
              iterate 3 (refine wq_pure rfl rfl ?_; intro K hK; go_big_quiet_op; go_big_quiet_on)
              (apply wq_ld1; (with_reducible rfl); rfl; rfl; decide +kernel; (first | (focus ((repeat (first | exact Cell.here rfl | apply Cell.there)); done)) | assumption); (simp only [Act.put, List.setIfInBounds_toArray, List.set_cons_succ, List.set_cons_zero, Nat.reduceAdd]))
              iterate 3 (refine wq_pure rfl rfl ?_; intro K hK; go_big_quiet_op; go_big_quiet_on)
              (apply wq_ld1; (with_reducible rfl); rfl; rfl; decide +kernel; (first | (focus ((repeat (first | exact Cell.here rfl | apply Cell.there)); done)) | assumption); (simp only [Act.put, List.setIfInBounds_toArray, List.set_cons_succ, List.set_cons_zero, Nat.reduceAdd]))
              iterate 2 (refine wq_pure rfl rfl ?_; intro K hK; go_big_quiet_op; go_big_quiet_on)
              clear hS
              intro w hS
              simp only [List.drop_succ_cons, List.drop_zero]
              go_wp2_with (first | ((with_reducible apply wl_st1 hS); (with_reducible rfl); rfl; rfl; (focus ((conv => lhs; whnf); try rfl)); kernel_rfl; rfl; rfl; ((focus ((repeat (first | exact Upd.head | apply Upd.tail)); done))); (simp only [List.length_cons, List.length_nil]; omega); ((simp only [List.set_cons_zero, List.set_cons_succ, setAll]); rfl); clear hS; intro w hS; try (simp only [Act.put, List.setIfInBounds_toArray, List.set_cons_succ, List.set_cons_zero, Nat.reduceAdd])))
              first | (go_roundw; (case rel => exact .inr (.inl ⟨rfl, hS⟩)); (case measure => (simp [intOf]; try omega))) | (refine ⟨?_, ?measure⟩; (repeat apply Exists.intro); refine ⟨?rel, rfl⟩; (case rel => exact .inr (.inl ⟨rfl, hS⟩)); (case measure => (simp [intOf]; try omega)))
            · skip
              go_wp2_with (first | go_big_skip)
              refine wp_region_tail 10 (by kernel_rfl) (by kernel_rfl) hS ?_
              iterate 3 (refine wq_pure rfl rfl ?_; intro K hK; go_big_quiet_op; go_big_quiet_on)
              (apply wq_ld1; (with_reducible rfl); rfl; rfl; decide +kernel; (first | (focus ((repeat (first | exact Cell.here rfl | apply Cell.there)); done)) | assumption); (simp only [Act.put, List.setIfInBounds_toArray, List.set_cons_succ, List.set_cons_zero, Nat.reduceAdd]))
              iterate 3 (refine wq_pure rfl rfl ?_; intro K hK; go_big_quiet_op; go_big_quiet_on)
              (apply wq_ld1; (with_reducible rfl); rfl; rfl; decide +kernel; (first | (focus ((repeat (first | exact Cell.here rfl | apply Cell.there)); done)) | assumption); (simp only [Act.put, List.setIfInBounds_toArray, List.set_cons_succ, List.set_cons_zero, Nat.reduceAdd]))
              iterate 2 (refine wq_pure rfl rfl ?_; intro K hK; go_big_quiet_op; go_big_quiet_on)
              clear hS
              intro w hS
              simp only [List.drop_succ_cons, List.drop_zero]
              go_wp2_with (first | ((with_reducible apply wl_st1 hS); (with_reducible rfl); rfl; rfl; (focus ((conv => lhs; whnf); try rfl)); kernel_rfl; rfl; rfl; ((focus ((repeat (first | exact Upd.head | apply Upd.tail)); done))); (simp only [List.length_cons, List.length_nil]; omega); ((simp only [List.set_cons_zero, List.set_cons_succ, setAll]); rfl); clear hS; intro w hS; try (simp only [Act.put, List.setIfInBounds_toArray, List.set_cons_succ, List.set_cons_zero, Nat.reduceAdd])))
              first | (go_roundw; (case rel => exact .inr (.inr (.inl ⟨rfl, hS⟩))); (case measure => (simp [intOf]; try omega))) | (refine ⟨?_, ?measure⟩; (repeat apply Exists.intro); refine ⟨?rel, rfl⟩; (case rel => exact .inr (.inr (.inl ⟨rfl, hS⟩))); (case measure => (simp [intOf]; try omega)))
            · skip
              go_wp2_with (first | go_big_skip)
              refine wp_region_tail 10 (by kernel_rfl) (by kernel_rfl) hS ?_
              iterate 3 (refine wq_pure rfl rfl ?_; intro K hK; go_big_quiet_op; go_big_quiet_on)
              (apply wq_ld1; (with_reducible rfl); rfl; rfl; decide +kernel; (first | (focus ((repeat (first | exact Cell.here rfl | apply Cell.there)); done)) | assumption); (simp only [Act.put, List.setIfInBounds_toArray, List.set_cons_succ, List.set_cons_zero, Nat.reduceAdd]))
              iterate 3 (refine wq_pure rfl rfl ?_; intro K hK; go_big_quiet_op; go_big_quiet_on)
              (apply wq_ld1; (with_reducible rfl); rfl; rfl; decide +kernel; (first | (focus ((repeat (first | exact Cell.here rfl | apply Cell.there)); done)) | assumption); (simp only [Act.put, List.setIfInBounds_toArray, List.set_cons_succ, List.set_cons_zero, Nat.reduceAdd]))
              iterate 2 (refine wq_pure rfl rfl ?_; intro K hK; go_big_quiet_op; go_big_quiet_on)
              clear hS
              intro w hS
              simp only [List.drop_succ_cons, List.drop_zero]
              go_wp2_with (first | ((with_reducible apply wl_st1 hS); (with_reducible rfl); rfl; rfl; (focus ((conv => lhs; whnf); try rfl)); kernel_rfl; rfl; rfl; ((focus ((repeat (first | exact Upd.head | apply Upd.tail)); done))); (simp only [List.length_cons, List.length_nil]; omega); ((simp only [List.set_cons_zero, List.set_cons_succ, setAll]); rfl); clear hS; intro w hS; try (simp only [Act.put, List.setIfInBounds_toArray, List.set_cons_succ, List.set_cons_zero, Nat.reduceAdd])))
              first | (go_roundw; (case rel => exact .inr (.inr (.inr (.inl ⟨rfl, hS⟩)))); (case measure => (simp [intOf]; try omega))) | (refine ⟨?_, ?measure⟩; (repeat apply Exists.intro); refine ⟨?rel, rfl⟩; (case rel => exact .inr (.inr (.inr (.inl ⟨rfl, hS⟩)))); (case measure => (simp [intOf]; try omega)))
            · skip
              go_wp2_with (first | go_big_skip)
              refine wp_region_tail 10 (by kernel_rfl) (by kernel_rfl) hS ?_
              iterate 3 (refine wq_pure rfl rfl ?_; intro K hK; go_big_quiet_op; go_big_quiet_on)
              (apply wq_ld1; (with_reducible rfl); rfl; rfl; decide +kernel; (first | (focus ((repeat (first | exact Cell.here rfl | apply Cell.there)); done)) | assumption); (simp only [Act.put, List.setIfInBounds_toArray, List.set_cons_succ, List.set_cons_zero, Nat.reduceAdd]))
              iterate 3 (refine wq_pure rfl rfl ?_; intro K hK; go_big_quiet_op; go_big_quiet_on)
              (apply wq_ld1; (with_reducible rfl); rfl; rfl; decide +kernel; (first | (focus ((repeat (first | exact Cell.here rfl | apply Cell.there)); done)) | assumption); (simp only [Act.put, List.setIfInBounds_toArray, List.set_cons_succ, List.set_cons_zero, Nat.reduceAdd]))
              iterate 2 (refine wq_pure rfl rfl ?_; intro K hK; go_big_quiet_op; go_big_quiet_on)
              clear hS
              intro w hS
              simp only [List.drop_succ_cons, List.drop_zero]
              go_wp2_with (first | ((with_reducible apply wl_st1 hS); (with_reducible rfl); rfl; rfl; (focus ((conv => lhs; whnf); try rfl)); kernel_rfl; rfl; rfl; ((focus ((repeat (first | exact Upd.head | apply Upd.tail)); done))); (simp only [List.length_cons, List.length_nil]; omega); ((simp only [List.set_cons_zero, List.set_cons_succ, setAll]); rfl); clear hS; intro w hS; try (simp only [Act.put, List.setIfInBounds_toArray, List.set_cons_succ, List.set_cons_zero, Nat.reduceAdd])))
              first | (go_roundw; (case rel => exact .inr (.inr (.inr (.inr ⟨rfl, hS⟩)))); (case measure => (simp [intOf]; try omega))) | (refine ⟨?_, ?measure⟩; (repeat apply Exists.intro); refine ⟨?rel, rfl⟩; (case rel => exact .inr (.inr (.inr (.inr ⟨rfl, hS⟩)))); (case measure => (simp [intOf]; try omega)))
            · skip
              have he : (((s0 - i0) == (s0 - i0)) && (((s1 - i1) == (s1 - i1)) && (((s2 - i2) == (s2 - i2)) && ((s3 - i3) == (s3 - i3))))) = true := by simp
              go_wp2_with (first | go_big_skip | (go_at_call 17; refine (total_st vb mb bb W _ _ Hok2.out (by omega) Ht2.out hS).mono ?_; clear hS; rintro e w ⟨rfl, hS⟩) | ((with_reducible apply wl_alloc hS); (with_reducible rfl); rfl; (with_reducible first | exact Ty.z3 | exact Ty.z28 | exact Ty.z32 | exact Ty.z40 | exact Ty.z46 | exact Ty.z69 | exact Ty.z86 | exact Ty.z146); clear hS; intro bt w hS; (simp only [Act.put, List.setIfInBounds_toArray, List.set_cons_succ, List.set_cons_zero, Nat.reduceAdd])) | ((with_reducible apply wl_stN hS); (with_reducible rfl); rfl; rfl; (focus ((conv => lhs; whnf); try rfl)); kernel_rfl; rfl; ((focus ((repeat (first | exact Upd.head | apply Upd.tail)); done))); (simp only [List.length_cons, List.length_nil]; omega); ((simp only [List.set_cons_zero, List.set_cons_succ, setAll]); rfl); clear hS; intro w hS; try (simp only [Act.put, List.setIfInBounds_toArray, List.set_cons_succ, List.set_cons_zero, Nat.reduceAdd])) | ((with_reducible apply wl_ldN hS); (with_reducible rfl); rfl; rfl; decide +kernel; (first | (focus ((repeat (first | exact Cells.whole | apply Cells.there)); done)) | assumption); kernel_rfl; (simp only [Act.put, List.setIfInBounds_toArray, List.set_cons_succ, List.set_cons_zero, Nat.reduceAdd])) | ((with_reducible apply wl_neA); (with_reducible rfl); rfl; rfl; rfl; kernel_rfl; exact eqI _ _ _ _ _ _ _ _; (rw [he]); (simp only [Bool.not_true]); (simp only [Act.put, List.setIfInBounds_toArray, List.set_cons_succ, List.set_cons_zero, Nat.reduceAdd, eP, It.cells])))
              first | (go_roundw; (case rel => exact ⟨i + 1, p2, L, n, (s0 - i0), (s1 - i1), (s2 - i2), (s3 - i3), rfl, hil, hi3, Hok2.out, Ht2.out, hS.sel (by (repeat' (first | (with_reducible first | exact Sel.done Suf.refl | exact Sel.done (Suf.tail Suf.refl) | exact Sel.done (Suf.tail (Suf.tail Suf.refl)) | exact Sel.done (Suf.tail (Suf.tail (Suf.tail Suf.refl))) | (apply Sel.done; (focus ((repeat (first | exact Suf.refl | apply Suf.tail)); done)))) | (refine Sel.cons (by with_reducible (focus ((repeat (first | exact Take.head | apply Take.tail)); done))) ?_))))⟩); (case measure => (simp [intOf]; try omega))) | (refine ⟨?_, ?measure⟩; (repeat apply Exists.intro); refine ⟨?rel, rfl⟩; (case rel => exact ⟨i + 1, p2, L, n, (s0 - i0), (s1 - i1), (s2 - i2), (s3 - i3), rfl, hil, hi3, Hok2.out, Ht2.out, hS.sel (by (repeat' (first | (with_reducible first | exact Sel.done Suf.refl | exact Sel.done (Suf.tail Suf.refl) | exact Sel.done (Suf.tail (Suf.tail Suf.refl)) | exact Sel.done (Suf.tail (Suf.tail (Suf.tail Suf.refl))) | (apply Sel.done; (focus ((repeat (first | exact Suf.refl | apply Suf.tail)); done)))) | (refine Sel.cons (by with_reducible (focus ((repeat (first | exact Take.head | apply Take.tail)); done))) ?_))))⟩); (case measure => (simp [intOf]; try omega)))
        · obtain ⟨r, hre⟩ : ∃ r, takeE p who ⟨i0, i1, i2, i3⟩ = r := ⟨_, rfl⟩
          rw [hre] at hr
          have Hre := Lib.hid hre
          have Hr0 := Lib.hid hr
          have hrf : (r == 0) = false := by simpa using hr
          clear hre hr
          go_wp2_with (first | go_big_skip | ((with_reducible apply wl_ld1 hS); (with_reducible rfl); rfl; rfl; decide +kernel; (first | (focus ((repeat (first | exact Cell.here rfl | apply Cell.there)); done)) | assumption); (simp only [Act.put, List.setIfInBounds_toArray, List.set_cons_succ, List.set_cons_zero, Nat.reduceAdd])) | ((with_reducible apply wl_ldN hS); (with_reducible rfl); rfl; rfl; decide +kernel; (exact Cells.there (Cells.there (Cells.there (Cells.here (vs := [.int .i64 i0, .int .i64 i1, .int .i64 i2, .int .i64 i3]) rfl)))); kernel_rfl; (simp only [Act.put, List.setIfInBounds_toArray, List.set_cons_succ, List.set_cons_zero, Nat.reduceAdd])) | (go_at_call 14; refine (take_no vb mb bb W _ _ Hok.out Ht.out Hre.out Hr0.out hS).mono ?_; clear hS; rintro e w ⟨p2, ⟨hok2, ht2⟩, rfl, hS⟩; have Hok2 := Lib.hid hok2; have Ht2 := Lib.hid ht2; clear hok2 ht2) | (go_at_call 17; refine (total_st vb mb bb W _ _ Hok2.out (by omega) Ht2.out hS).mono ?_; clear hS; rintro e w ⟨rfl, hS⟩) | ((with_reducible apply wl_alloc hS); (with_reducible rfl); rfl; (with_reducible first | exact Ty.z3 | exact Ty.z28 | exact Ty.z32 | exact Ty.z40 | exact Ty.z46 | exact Ty.z69 | exact Ty.z86 | exact Ty.z146); clear hS; intro bt w hS; (simp only [Act.put, List.setIfInBounds_toArray, List.set_cons_succ, List.set_cons_zero, Nat.reduceAdd])) | ((with_reducible apply wl_stN hS); (with_reducible rfl); rfl; rfl; (focus ((conv => lhs; whnf); try rfl)); kernel_rfl; rfl; ((focus ((repeat (first | exact Upd.head | apply Upd.tail)); done))); (simp only [List.length_cons, List.length_nil]; omega); ((simp only [List.set_cons_zero, List.set_cons_succ, setAll]); rfl); clear hS; intro w hS; try (simp only [Act.put, List.setIfInBounds_toArray, List.set_cons_succ, List.set_cons_zero, Nat.reduceAdd])) | ((with_reducible apply wl_ldN hS); (with_reducible rfl); rfl; rfl; decide +kernel; (first | (focus ((repeat (first | exact Cells.whole | apply Cells.there)); done)) | assumption); kernel_rfl; (simp only [Act.put, List.setIfInBounds_toArray, List.set_cons_succ, List.set_cons_zero, Nat.reduceAdd])) | ((with_reducible apply wl_neA); (with_reducible rfl); rfl; rfl; rfl; kernel_rfl; exact eqI _ _ _ _ _ _ _ _; (rw [he]); (simp only [Bool.not_true]); (simp only [Act.put, List.setIfInBounds_toArray, List.set_cons_succ, List.set_cons_zero, Nat.reduceAdd, eP, It.cells])))
          first | (go_roundw; (case rel => exact ⟨i + 1, p2, L, n, s0, s1, s2, s3, rfl, hil, hi3, Hok2.out, Ht2.out, hS.sel (by (repeat' (first | (with_reducible first | exact Sel.done Suf.refl | exact Sel.done (Suf.tail Suf.refl) | exact Sel.done (Suf.tail (Suf.tail Suf.refl)) | exact Sel.done (Suf.tail (Suf.tail (Suf.tail Suf.refl))) | (apply Sel.done; (focus ((repeat (first | exact Suf.refl | apply Suf.tail)); done)))) | (refine Sel.cons (by with_reducible (focus ((repeat (first | exact Take.head | apply Take.tail)); done))) ?_))))⟩); (case measure => (simp [intOf]; try omega))) | (refine ⟨?_, ?measure⟩; (repeat apply Exists.intro); refine ⟨?rel, rfl⟩; (case rel => exact ⟨i + 1, p2, L, n, s0, s1, s2, s3, rfl, hil, hi3, Hok2.out, Ht2.out, hS.sel (by (repeat' (first | (with_reducible first | exact Sel.done Suf.refl | exact Sel.done (Suf.tail Suf.refl) | exact Sel.done (Suf.tail (Suf.tail Suf.refl)) | exact Sel.done (Suf.tail (Suf.tail (Suf.tail Suf.refl))) | (apply Sel.done; (focus ((repeat (first | exact Suf.refl | apply Suf.tail)); done)))) | (refine Sel.cons (by with_reducible (focus ((repeat (first | exact Take.head | apply Take.tail)); done))) ?_))))⟩); (case measure => (simp [intOf]; try omega)))
      have hk2f : (kd == 2) = false := by simpa using hk2
      by_cases hk3 : kd = 3
      · subst hk3
        go_wp2_with (first | go_big_skip | ((with_reducible apply wl_ld1 hS); (with_reducible rfl); rfl; rfl; decide +kernel; (first | (focus ((repeat (first | exact Cell.here rfl | apply Cell.there)); done)) | assumption); (simp only [Act.put, List.setIfInBounds_toArray, List.set_cons_succ, List.set_cons_zero, Nat.reduceAdd])) | ((with_reducible apply wl_ldN hS); (with_reducible rfl); rfl; rfl; decide +kernel; (exact Cells.there (Cells.there (Cells.there (Cells.here (vs := [.int .i64 oi, .string ou, .bool oy, .int .i64 ot, .int .i64 oc, .int .i64 op]) rfl)))); kernel_rfl; (simp only [Act.put, List.setIfInBounds_toArray, List.set_cons_succ, List.set_cons_zero, Nat.reduceAdd])) | (go_at_call 11; refine (ord_keep vb mb bb W _ _ Hok.out (by omega) Ht.out ⟨oi, ou, oy, ot, oc, op⟩ hS).mono ?_; clear hS; rintro e w ⟨p2, L2, n2, u, ⟨hok2, ht2⟩, rfl, hS⟩; have Hok2 := Lib.hid hok2; have Ht2 := Lib.hid ht2; clear hok2 ht2) | (go_at_call 17; refine (total_st vb mb bb W _ _ Hok2.out (by omega) Ht2.out hS).mono ?_; clear hS; rintro e w ⟨rfl, hS⟩) | ((with_reducible apply wl_alloc hS); (with_reducible rfl); rfl; (with_reducible first | exact Ty.z3 | exact Ty.z28 | exact Ty.z32 | exact Ty.z40 | exact Ty.z46 | exact Ty.z69 | exact Ty.z86 | exact Ty.z146); clear hS; intro bt w hS; (simp only [Act.put, List.setIfInBounds_toArray, List.set_cons_succ, List.set_cons_zero, Nat.reduceAdd])) | ((with_reducible apply wl_stN hS); (with_reducible rfl); rfl; rfl; (focus ((conv => lhs; whnf); try rfl)); kernel_rfl; rfl; ((focus ((repeat (first | exact Upd.head | apply Upd.tail)); done))); (simp only [List.length_cons, List.length_nil]; omega); ((simp only [List.set_cons_zero, List.set_cons_succ, setAll]); rfl); clear hS; intro w hS; try (simp only [Act.put, List.setIfInBounds_toArray, List.set_cons_succ, List.set_cons_zero, Nat.reduceAdd])) | ((with_reducible apply wl_ldN hS); (with_reducible rfl); rfl; rfl; decide +kernel; (first | (focus ((repeat (first | exact Cells.whole | apply Cells.there)); done)) | assumption); kernel_rfl; (simp only [Act.put, List.setIfInBounds_toArray, List.set_cons_succ, List.set_cons_zero, Nat.reduceAdd])) | ((with_reducible apply wl_neA); (with_reducible rfl); rfl; rfl; rfl; kernel_rfl; exact eqI _ _ _ _ _ _ _ _; (rw [he]); (simp only [Bool.not_true]); (simp only [Act.put, List.setIfInBounds_toArray, List.set_cons_succ, List.set_cons_zero, Nat.reduceAdd, eP, It.cells])))
        first | (go_roundw; (case rel => exact ⟨i + 1, p2, L2, n2, s0, s1, s2, s3, rfl, hil, hi3, Hok2.out, Ht2.out, hS.sel (by (repeat' (first | (with_reducible first | exact Sel.done Suf.refl | exact Sel.done (Suf.tail Suf.refl) | exact Sel.done (Suf.tail (Suf.tail Suf.refl)) | exact Sel.done (Suf.tail (Suf.tail (Suf.tail Suf.refl))) | (apply Sel.done; (focus ((repeat (first | exact Suf.refl | apply Suf.tail)); done)))) | (refine Sel.cons (by with_reducible (focus ((repeat (first | exact Take.head | apply Take.tail)); done))) ?_))))⟩); (case measure => (simp [intOf]; try omega))) | (refine ⟨?_, ?measure⟩; (repeat apply Exists.intro); refine ⟨?rel, rfl⟩; (case rel => exact ⟨i + 1, p2, L2, n2, s0, s1, s2, s3, rfl, hil, hi3, Hok2.out, Ht2.out, hS.sel (by (repeat' (first | (with_reducible first | exact Sel.done Suf.refl | exact Sel.done (Suf.tail Suf.refl) | exact Sel.done (Suf.tail (Suf.tail Suf.refl)) | exact Sel.done (Suf.tail (Suf.tail (Suf.tail Suf.refl))) | (apply Sel.done; (focus ((repeat (first | exact Suf.refl | apply Suf.tail)); done)))) | (refine Sel.cons (by with_reducible (focus ((repeat (first | exact Take.head | apply Take.tail)); done))) ?_))))⟩); (case measure => (simp [intOf]; try omega)))
      have hk3f : (kd == 3) = false := by simpa using hk3
      by_cases hk4 : kd = 4
      · subst hk4
        go_wp2_with (first | go_big_skip | ((with_reducible apply wl_ld1 hS); (with_reducible rfl); rfl; rfl; decide +kernel; (first | (focus ((repeat (first | exact Cell.here rfl | apply Cell.there)); done)) | assumption); (simp only [Act.put, List.setIfInBounds_toArray, List.set_cons_succ, List.set_cons_zero, Nat.reduceAdd])) | (go_at_call 13; refine (can_keep vb mb bb W _ _ Hok.out (by omega) Ht.out who nn hS).mono ?_; clear hS; rintro e w ⟨p2, L2, u, ⟨hok2, ht2⟩, rfl, hS⟩; have Hok2 := Lib.hid hok2; have Ht2 := Lib.hid ht2; clear hok2 ht2) | (go_at_call 17; refine (total_st vb mb bb W _ _ Hok2.out (by omega) Ht2.out hS).mono ?_; clear hS; rintro e w ⟨rfl, hS⟩) | ((with_reducible apply wl_alloc hS); (with_reducible rfl); rfl; (with_reducible first | exact Ty.z3 | exact Ty.z28 | exact Ty.z32 | exact Ty.z40 | exact Ty.z46 | exact Ty.z69 | exact Ty.z86 | exact Ty.z146); clear hS; intro bt w hS; (simp only [Act.put, List.setIfInBounds_toArray, List.set_cons_succ, List.set_cons_zero, Nat.reduceAdd])) | ((with_reducible apply wl_stN hS); (with_reducible rfl); rfl; rfl; (focus ((conv => lhs; whnf); try rfl)); kernel_rfl; rfl; ((focus ((repeat (first | exact Upd.head | apply Upd.tail)); done))); (simp only [List.length_cons, List.length_nil]; omega); ((simp only [List.set_cons_zero, List.set_cons_succ, setAll]); rfl); clear hS; intro w hS; try (simp only [Act.put, List.setIfInBounds_toArray, List.set_cons_succ, List.set_cons_zero, Nat.reduceAdd])) | ((with_reducible apply wl_ldN hS); (with_reducible rfl); rfl; rfl; decide +kernel; (first | (focus ((repeat (first | exact Cells.whole | apply Cells.there)); done)) | assumption); kernel_rfl; (simp only [Act.put, List.setIfInBounds_toArray, List.set_cons_succ, List.set_cons_zero, Nat.reduceAdd])) | ((with_reducible apply wl_neA); (with_reducible rfl); rfl; rfl; rfl; kernel_rfl; exact eqI _ _ _ _ _ _ _ _; (rw [he]); (simp only [Bool.not_true]); (simp only [Act.put, List.setIfInBounds_toArray, List.set_cons_succ, List.set_cons_zero, Nat.reduceAdd, eP, It.cells])))
        first | (go_roundw; (case rel => exact ⟨i + 1, p2, L2, n, s0, s1, s2, s3, rfl, hil, hi3, Hok2.out, Ht2.out, hS.sel (by (repeat' (first | (with_reducible first | exact Sel.done Suf.refl | exact Sel.done (Suf.tail Suf.refl) | exact Sel.done (Suf.tail (Suf.tail Suf.refl)) | exact Sel.done (Suf.tail (Suf.tail (Suf.tail Suf.refl))) | (apply Sel.done; (focus ((repeat (first | exact Suf.refl | apply Suf.tail)); done)))) | (refine Sel.cons (by with_reducible (focus ((repeat (first | exact Take.head | apply Take.tail)); done))) ?_))))⟩); (case measure => (simp [intOf]; try omega))) | (refine ⟨?_, ?measure⟩; (repeat apply Exists.intro); refine ⟨?rel, rfl⟩; (case rel => exact ⟨i + 1, p2, L2, n, s0, s1, s2, s3, rfl, hil, hi3, Hok2.out, Ht2.out, hS.sel (by (repeat' (first | (with_reducible first | exact Sel.done Suf.refl | exact Sel.done (Suf.tail Suf.refl) | exact Sel.done (Suf.tail (Suf.tail Suf.refl)) | exact Sel.done (Suf.tail (Suf.tail (Suf.tail Suf.refl))) | (apply Sel.done; (focus ((repeat (first | exact Suf.refl | apply Suf.tail)); done)))) | (refine Sel.cons (by with_reducible (focus ((repeat (first | exact Take.head | apply Take.tail)); done))) ?_))))⟩); (case measure => (simp [intOf]; try omega)))
      have hk4f : (kd == 4) = false := by simpa using hk4
      have Hok2 := Lib.hid Hok.out.on
      have Ht2 := Lib.hid Ht.out.on
      obtain ⟨p2, rfl⟩ : ∃ x, x = p := ⟨_, rfl⟩
      go_wp2_with (first | go_big_skip | ((with_reducible apply wl_ld1 hS); (with_reducible rfl); rfl; rfl; decide +kernel; (first | (focus ((repeat (first | exact Cell.here rfl | apply Cell.there)); done)) | assumption); (simp only [Act.put, List.setIfInBounds_toArray, List.set_cons_succ, List.set_cons_zero, Nat.reduceAdd])) | (go_at_call 17; refine (total_st vb mb bb W _ _ Hok2.out (by omega) Ht2.out hS).mono ?_; clear hS; rintro e w ⟨rfl, hS⟩) | ((with_reducible apply wl_alloc hS); (with_reducible rfl); rfl; (with_reducible first | exact Ty.z3 | exact Ty.z28 | exact Ty.z32 | exact Ty.z40 | exact Ty.z46 | exact Ty.z69 | exact Ty.z86 | exact Ty.z146); clear hS; intro bt w hS; (simp only [Act.put, List.setIfInBounds_toArray, List.set_cons_succ, List.set_cons_zero, Nat.reduceAdd])) | ((with_reducible apply wl_stN hS); (with_reducible rfl); rfl; rfl; (focus ((conv => lhs; whnf); try rfl)); kernel_rfl; rfl; ((focus ((repeat (first | exact Upd.head | apply Upd.tail)); done))); (simp only [List.length_cons, List.length_nil]; omega); ((simp only [List.set_cons_zero, List.set_cons_succ, setAll]); rfl); clear hS; intro w hS; try (simp only [Act.put, List.setIfInBounds_toArray, List.set_cons_succ, List.set_cons_zero, Nat.reduceAdd])) | ((with_reducible apply wl_ldN hS); (with_reducible rfl); rfl; rfl; decide +kernel; (first | (focus ((repeat (first | exact Cells.whole | apply Cells.there)); done)) | assumption); kernel_rfl; (simp only [Act.put, List.setIfInBounds_toArray, List.set_cons_succ, List.set_cons_zero, Nat.reduceAdd])) | ((with_reducible apply wl_neA); (with_reducible rfl); rfl; rfl; rfl; kernel_rfl; exact eqI _ _ _ _ _ _ _ _; (rw [he]); (simp only [Bool.not_true]); (simp only [Act.put, List.setIfInBounds_toArray, List.set_cons_succ, List.set_cons_zero, Nat.reduceAdd, eP, It.cells])))
      first | (go_roundw; (case rel => exact ⟨i + 1, p2, L, n, s0, s1, s2, s3, rfl, hil, hi3, Hok2.out, Ht2.out, hS.sel (by (repeat' (first | (with_reducible first | exact Sel.done Suf.refl | exact Sel.done (Suf.tail Suf.refl) | exact Sel.done (Suf.tail (Suf.tail Suf.refl)) | exact Sel.done (Suf.tail (Suf.tail (Suf.tail Suf.refl))) | (apply Sel.done; (focus ((repeat (first | exact Suf.refl | apply Suf.tail)); done)))) | (refine Sel.cons (by with_reducible (focus ((repeat (first | exact Take.head | apply Take.tail)); done))) ?_))))⟩); (case measure => (simp [intOf]; try omega))) | (refine ⟨?_, ?measure⟩; (repeat apply Exists.intro); refine ⟨?rel, rfl⟩; (case rel => exact ⟨i + 1, p2, L, n, s0, s1, s2, s3, rfl, hil, hi3, Hok2.out, Ht2.out, hS.sel (by (repeat' (first | (with_reducible first | exact Sel.done Suf.refl | exact Sel.done (Suf.tail Suf.refl) | exact Sel.done (Suf.tail (Suf.tail Suf.refl)) | exact Sel.done (Suf.tail (Suf.tail (Suf.tail Suf.refl))) | (apply Sel.done; (focus ((repeat (first | exact Suf.refl | apply Suf.tail)); done)))) | (refine Sel.cons (by with_reducible (focus ((repeat (first | exact Take.head | apply Take.tail)); done))) ?_))))⟩); (case measure => (simp [intOf]; try omega)))
end Go.Proofs.Ytbcokphjpllbiaa
end
section
set_option linter.unusedSimpArgs false
set_option linter.unusedVariables false
namespace Go.Sl
open Go.ChangeShapes Go.WideShapes Go.ChangeAt Go.RowKit
section
variable {H : Type} {enc : TypeId × Value → H} {P : Program}
theorem trodAll_carry {w w' : World} {base : Nat} {spare : Nat → Bool} {held : Bool} : ∀ {ts : List TypeId} {vs : List Value} {ds : List (DataW H)} {ps : List MemPlace},
    DataW.TrodAll enc P w base spare held ts vs ds ps → (∀ p ∈ ps, w.sameAt w' p) → DataW.TrodAll enc P w' base spare held ts vs ds ps
  | [], [], [], _, h, _ => h
  | _ :: _, _ :: _, _ :: _, _, ⟨p, q, ⟨n, hn⟩, h2, e⟩, hs =>
    ⟨p, q, ⟨n, DataW.trod_carry n _ _ _ hn fun x hx => hs x (by rw [e]; exact List.mem_append_left _ hx)⟩, trodAll_carry h2 (fun x hx => hs x (by rw [e]; exact List.mem_append_right _ hx)), e⟩

/-- The end of a law: true, nothing that was there has turned. -/
theorem law_post {f : Func} {s : ChangeSpec} {apart fresh handsOn again : Bool} {W W' : World} {args : Array Value} {ds gs : List (DataW H)} {before : List MemPlace} {tb : TypeId}
    (hl : laidOutB P = true) (hm : mapsRowed P = true) (hz : ((List.range P.types.size).all fun t => match P.underlying t with | some (.slice e) => decide (0 < P.cellsOf e) | _ => true) = true)
    (hT : f.params.toList.all (· < P.types.size) = true) (hr : f.resultTypes = #[tb]) (hb : P.underlying tb = some .bool) (hv : s.vars = [])
    (hW : DataW.Whole enc P f.params.toList s.vars apart W args.toList ds gs before)
    (hres : (s.fn H (ds ++ gs)).results = [.lit (.bool true)]) (hargs : (s.fn H (ds ++ gs)).args = ds) (hvars : (s.fn H (ds ++ gs)).vars = [])
    (hB : Below W.heap.size W W') : s.post enc P f apart fresh handsOn again W args (.bool true) W' := by
  have hW0 := hW
  obtain ⟨p, q, hA, hV, rfl, hfz, hnd⟩ := hW
  rw [hv] at hV
  obtain ⟨rfl, rfl⟩ := trodVars_none hV
  have hlt : ∀ x ∈ p ++ [], x.block < W.heap.size := fun x hx => hW0.lt x hx
  have hA' : ∀ sp : Nat → Bool, (∀ x ∈ p ++ [], sp x.block = true) → DataW.TrodAll enc P W' 0 sp true f.params.toList args.toList (s.fn H (ds ++ [])).args p := fun sp hs => by
    rw [hargs]
    refine trodAll_carry (DataW.TrodAll.respare (kids_rows hl hm) (fun t e => slices_full_of P hz t e) (fun t ht => by simpa using List.all_eq_true.1 hT t ht) hA fun x hx => hs x (by simpa using hx)) fun x hx => hB.same (hlt x (by simpa using hx))
  have hR : ∀ (b : Nat) (sp : Nat → Bool) (hd : Bool), DataW.TrodAll enc P W' b sp hd f.resultTypes.toList ((Value.bool true).resultList f.resultTypes.size) (s.fn H (ds ++ [])).results [] := fun b sp hd => by
    rw [hres, hr]
    exact trodAll_cons_mk (shut_bool hb _) trodAll_mk0
  have hU : ∀ sp : Nat → Bool, DataW.TrodVars enc P W' sp s.vars (s.fn H (ds ++ [])).vars [] := fun sp => by
    rw [hv, hvars]; rfl
  have hold : ∀ x ∈ p ++ [], (fun b => decide (b < W.heap.size)) x.block = true := fun x hx => by simpa using hlt x hx
  refine ⟨ds, [], p ++ [], [], p, [], hW0, hR _ _ _, hA' _ hold, hU _, World.keptBut_mono (fun x hx => ⟨hx, ?_⟩) (hB.frame (· ∈ p ++ [])), fun _ => ?_⟩
  · exact Or.inr (by simpa using hx)
  · refine ⟨ok_one hr rfl (okWide_bool_mk hb _), _, _, ([] ++ p) ++ [], ⟨[] ++ p, [], trodAll_append (hA' _ (fun _ _ => rfl)) (hR _ _ _), hU _, rfl, ?_, ?_⟩, ?_⟩
    · intro b off hx
      rw [hB.frozen (hlt _ (by simpa using hx))]
      exact hfz b off (by simpa using hx)
    · intro ha
      simpa using hnd ha
    · intro x hx _
      simpa using hx
end
end Go.Sl
end
