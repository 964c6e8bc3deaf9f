/-
  BookBest: the walk. For every slice of prices.
-/
import Derived.Test.YtihciopankhjgaaBkR
import Derived.Test.YtihciopankhjgaaInts
namespace Go.Proofs.Ytihciopankhjgaa
open Go.RowKit Go.Sl
def BestRel (W : World) (L : List HP) (zs : List Int) (bb : Nat) (v6 : Value) (w : World) : Prop :=
  ∃ (k : Nat) (q : List Ord), v6 = .int .i64 k ∧ k ≤ zs.length ∧ Heap false q ∧ q.Perm ((List.range k).map (so zs)) ∧ St W (bookP bb (bB q k) :: L) w
def ChkRel (W : World) (L : List HP) (n : Nat) (v : Value) (w : World) : Prop := ∃ i : Nat, v = .int .i64 i ∧ i ≤ n ∧ St W L w
set_option maxRecDepth 100000 in
set_option maxHeartbeats 4000000 in
theorem best_spec (zs : List Int) (v : Value) (want : Int) (V : World) (hz : IntsV V v zs) (W w : World) (L : List HP) (hS : St W (Old V :: L) w) :
    Calls Try.prog 3 #[v, .int .i64 want] w fun e w' => e = .returned (.bool true) ∧ St W (Old V :: L) w' := by
  rcases hz with ⟨rfl, a, cap, rfl⟩ | ⟨b, off, cap, rfl, h0, h63, hcell⟩
  · go_enter Try.func3, Try.ntmps3
    go_wp2_with (first | (go_at_call 12; refine (known_spec W _ _ hS).mono ?_; clear hS; rintro e w ⟨rfl, hS⟩))
    go_ret
    exact ⟨rfl, hS⟩
  · by_cases h30 : zs.length ≤ 30
    · by_cases hw : 1 ≤ want ∧ want ≤ 30
      · obtain ⟨m, rfl⟩ : ∃ m : Nat, want = m := ⟨want.toNat, by omega⟩
        have hm1 : 1 ≤ m := by omega
        have hm30 : m ≤ 30 := by omega
        clear hw
        go_enter Try.func3, Try.ntmps3
        go_wp2_with (first | (go_at_call 13; refine (new_book W _ _ hS).mono ?_; clear hS; rintro e w ⟨b2, rfl, hS⟩))
        go_loopw [6] (fun v wr => BestRel W (Old V :: L) zs b2 v wr) (fun v _ => zs.length - (intOf v).toNat)
        case atStart => exact ⟨0, [], rfl, by omega, Heap.nil _, .refl _, hS⟩
        case round =>
          clear hS
          obtain ⟨k, q, rfl, hk, hq, hp, hS⟩ := hrel
          have hql : q.length = k := by rw [hp.length_eq]; simp
          have hq1 : ∀ x ∈ q, x.cnt = 1 := fun x hx => by
            obtain ⟨j, _, rfl⟩ := List.mem_map.1 (hp.mem_iff.1 hx)
            rfl
          have hok : BkOk (bB q k) := bB_ok (by omega) hq1 (by omega)
          have Hp := Lib.hid hp
          have Hq1 := Lib.hid hq1
          clear hp hq1
          by_cases hkn : k = zs.length
          · subst hkn
            obtain ⟨ts, bk', hP, hlen, hB⟩ := best_final zs q m h30 hm1 hm30 hq Hp.out
            have HP := Lib.hid hP
            have HB := Lib.hid hB
            have HC := Lib.hid hcell
            have Hts := Lib.hid (show 0 < ts.length by omega)
            clear hP hB hcell
            by_cases hmn : m ≤ zs.length
            · have hlen2 : ts.length = m := by omega
              clear hlen
              subst hlen2
              go_wp2_with (first | (go_at_call 14; refine (place_spec b2 (bB q zs.length) (bo _) hok W _ _ hS).mono ?_; clear hS; rw [HP.out]; rintro e w ⟨v, rfl, hS⟩; rcases hS.swap.rowOpen with ⟨_, h0', _⟩ | ⟨g, cap2, junk, rfl, hn1, hm2, hj1, hl1, hS'⟩; (exact absurd h0' (Nat.pos_iff_ne_zero.1 Hts.out)); clear hS; have hS := hS'.swap.drop; clear hS'; unfold maxLen at hm2))
              go_loopw [13] (fun v wr => ChkRel W (blk g (ts.flatMap Trd.cells ++ junk) 33 :: Old V :: L) ts.length v wr) (fun v _ => ts.length - (intOf v).toNat)
              case atStart => exact ⟨0, rfl, Nat.zero_le _, hS⟩
              case round =>
                clear hS
                obtain ⟨i, rfl, hi, hS⟩ := hrel
                by_cases hil : i = ts.length
                · subst hil
                  go_wp2_with (first | (go_at_call 12; refine (known_spec W _ _ hS).mono ?_; clear hS; rintro e w ⟨rfl, hS⟩))
                  go_ret
                  exact ⟨rfl, hS.drop⟩
                · have hit : i < ts.length := by omega
                  obtain ⟨hc1, k, hk1, hsell, hprice⟩ := HB.out.one i hit
                  have hcz := HC.out k hk1
                  generalize zs.getD k 0 = z at hcz hprice
                  have hz8 := and7 z
                  have e6 : (Trd.cells ts[i])[6]? = some (.int .i64 (1 + z % 8)) := by rw [← hprice]; rfl
                  have e3 : (Trd.cells ts[i])[3]? = some (.int .i64 ((k : Int) + 1)) := by rw [← hsell]; rfl
                  have e5 : (Trd.cells ts[i])[5]? = some (.int .i64 1) := by rw [← hc1]; rfl
                  clear hil hi
                  by_cases hi0 : i = 0
                  · subst hi0
                    clear hc1 hsell hprice
                    go_wp2_with fail
                    refine wp_region_flow2 [0, 0, 3, 7, 15, 0, 0, 0, 192, 448, 960, 1984, 4064, 8160, 16352, 32736, 65535, 131071, 262143, 262143, 1048575, 2097151, 4194303, 8388607, 16777215] (fun _ => false) [] [none, none] (by kernel_rfl) (by kernel_rfl) rfl hS CongOk.nil ?_
                    intro nd
                    iterate 4 (refine ch_pure rfl (by kernel_rfl) rfl rfl ?_; intro K hK; go_big_quiet_op; go_big_quiet_on)
                    (apply ch_ld1; rfl; kernel_rfl; (with_reducible rfl); rfl; rfl; decide +kernel; (intro F; exact Cell.elem Trd.len hit e6); (simp only [Act.put, List.setIfInBounds_toArray, List.set_cons_succ, List.set_cons_zero, Nat.reduceAdd]))
                    iterate 5 (refine ch_pure rfl (by kernel_rfl) rfl rfl ?_; intro K hK; go_big_quiet_op; go_big_quiet_on)
                    (apply ch_ld1; rfl; kernel_rfl; (with_reducible rfl); rfl; rfl; decide +kernel; (intro F; exact Cell.elem Trd.len hit e3); (simp only [Act.put, List.setIfInBounds_toArray, List.set_cons_succ, List.set_cons_zero, Nat.reduceAdd]))
                    iterate 2 (refine ch_pure rfl (by kernel_rfl) rfl rfl ?_; intro K hK; go_big_quiet_op; go_big_quiet_on)
                    (apply ch_ld1; rfl; kernel_rfl; (with_reducible rfl); rfl; rfl; decide +kernel; (intro F; exact Cell.there (Cell.old .head hcz)); (simp only [Act.put, List.setIfInBounds_toArray, List.set_cons_succ, List.set_cons_zero, Nat.reduceAdd]))
                    iterate 8 (refine ch_pure rfl (by kernel_rfl) rfl rfl ?_; intro K hK; go_big_quiet_op; go_big_quiet_on)
                    (apply ch_ld1; rfl; kernel_rfl; (with_reducible rfl); rfl; rfl; decide +kernel; (intro F; exact Cell.elem Trd.len hit e5); (simp only [Act.put, List.setIfInBounds_toArray, List.set_cons_succ, List.set_cons_zero, Nat.reduceAdd]))
                    iterate 2 (refine ch_pure rfl (by kernel_rfl) rfl rfl ?_; intro K hK; go_big_quiet_op; go_big_quiet_on)
                    refine ch_end ?_
                    clear hS
                    intro w hS
                    have hS2 : St W [blk g _ _, Old V, sats L] w := hS
                    clear hS
                    have hS := hS2.unpack [_, _]
                    clear hS2
                    simp only [List.cons_append, List.nil_append] at hS
                    go_wp2_with fail
                    refine wp_region_flow2 [0, 1, 3, 7, 7, 31, 63, 127, 7, 7, 519, 1799, 3847, 7943, 16383, 32767, 65535, 65535, 262143, 524287, 1048575, 65535, 65535, 4259839, 14745599, 31522815, 65077247, 134217727, 268435455, 536870911, 536870911, 2147483647, 4294967295, 8589934591, 536870911, 536870911, 34896609279, 120795955199, 258234908671, 533112815615, 1099511627775, 2199023255551, 4398046511103, 8796093022207] (fun _ => false) [] [none, none] (by kernel_rfl) (by kernel_rfl) rfl hS CongOk.nil ?_
                    intro nd
                    iterate 3 (refine ch_pure rfl (by kernel_rfl) rfl rfl ?_; intro K hK; go_big_quiet_op; go_big_quiet_on)
                    iterate 40 (refine ch_skip (by kernel_rfl) rfl ?_; (simp only [Act.put, List.setIfInBounds_toArray, List.set_cons_succ, List.set_cons_zero, Nat.reduceAdd]))
                    (refine ch_pure rfl (by kernel_rfl) rfl rfl ?_; intro K hK; go_big_quiet_op; go_big_quiet_on)
                    refine ch_end ?_
                    clear hS
                    intro w hS
                    have hS2 : St W [blk g _ _, Old V, sats L] w := hS
                    clear hS
                    have hS := hS2.unpack [_, _]
                    clear hS2
                    simp only [List.cons_append, List.nil_append] at hS
                    go_wp2_with fail
                    go_roundw
                    case rel => exact ⟨1, rfl, hit, hS⟩
                    case measure => simp [intOf]; omega
                  · obtain ⟨j, hj⟩ : ∃ j, i = j + 1 := ⟨i - 1, by omega⟩
                    have hij : (i : Int) - 1 = (j : Int) := by omega
                    have hjt : j < ts.length := by omega
                    obtain ⟨_, k', _, hsell', hprice'⟩ := HB.out.one j hjt
                    have htwo := HB.out.two j (hj ▸ hit)
                    subst hj
                    rw [hprice', hprice, hsell, hsell'] at htwo
                    generalize zs.getD k' 0 = z' at hprice' htwo
                    have f6 : (Trd.cells ts[j])[6]? = some (.int .i64 (1 + z' % 8)) := by rw [← hprice']; rfl
                    have f3 : (Trd.cells ts[j])[3]? = some (.int .i64 ((k' : Int) + 1)) := by rw [← hsell']; rfl
                    clear hprice hprice' hsell hsell' hc1
                    generalize hjj : j + 1 = i at *
                    have hi1 : 0 < i := by omega
                    by_cases hlt : 1 + z' % 8 < 1 + z % 8
                    · have hle : ¬ 1 + z % 8 < 1 + z' % 8 := by omega
                      have hne : (1 + z % 8 == 1 + z' % 8) = false := by simp; omega
                      have hle2 : ¬ z % 8 < z' % 8 := by omega
                      have hd1 : decide (1 + z % 8 < 1 + z' % 8) = false := by simp; omega
                      have hd2 : decide (z % 8 < z' % 8) = false := by simp; omega
                      have hne2 : ¬ z % 8 = z' % 8 := by omega
                      have hne3 : (z % 8 == z' % 8) = false := by simp; omega
                      clear htwo
                      go_wp2_with fail
                      refine wp_region_flow2 [0, 0, 3, 7, 15, 0, 0, 0, 192, 448, 960, 1984, 4064, 8160, 16352, 32736, 65535, 131071, 262143, 262143, 1048575, 2097151, 4194303, 8388607, 16777215] (fun _ => false) [] [none, none] (by kernel_rfl) (by kernel_rfl) rfl hS CongOk.nil ?_
                      intro nd
                      iterate 4 (refine ch_pure rfl (by kernel_rfl) rfl rfl ?_; intro K hK; go_big_quiet_op; go_big_quiet_on)
                      (apply ch_ld1; rfl; kernel_rfl; (with_reducible rfl); rfl; rfl; decide +kernel; (intro F; exact Cell.elem Trd.len hit e6); (simp only [Act.put, List.setIfInBounds_toArray, List.set_cons_succ, List.set_cons_zero, Nat.reduceAdd]))
                      iterate 5 (refine ch_pure rfl (by kernel_rfl) rfl rfl ?_; intro K hK; go_big_quiet_op; go_big_quiet_on)
                      (apply ch_ld1; rfl; kernel_rfl; (with_reducible rfl); rfl; rfl; decide +kernel; (intro F; exact Cell.elem Trd.len hit e3); (simp only [Act.put, List.setIfInBounds_toArray, List.set_cons_succ, List.set_cons_zero, Nat.reduceAdd]))
                      iterate 2 (refine ch_pure rfl (by kernel_rfl) rfl rfl ?_; intro K hK; go_big_quiet_op; go_big_quiet_on)
                      (apply ch_ld1; rfl; kernel_rfl; (with_reducible rfl); rfl; rfl; decide +kernel; (intro F; exact Cell.there (Cell.old .head hcz)); (simp only [Act.put, List.setIfInBounds_toArray, List.set_cons_succ, List.set_cons_zero, Nat.reduceAdd]))
                      iterate 8 (refine ch_pure rfl (by kernel_rfl) rfl rfl ?_; intro K hK; go_big_quiet_op; go_big_quiet_on)
                      (apply ch_ld1; rfl; kernel_rfl; (with_reducible rfl); rfl; rfl; decide +kernel; (intro F; exact Cell.elem Trd.len hit e5); (simp only [Act.put, List.setIfInBounds_toArray, List.set_cons_succ, List.set_cons_zero, Nat.reduceAdd]))
                      iterate 2 (refine ch_pure rfl (by kernel_rfl) rfl rfl ?_; intro K hK; go_big_quiet_op; go_big_quiet_on)
                      refine ch_end ?_
                      clear hS
                      intro w hS
                      have hS2 : St W [blk g _ _, Old V, sats L] w := hS
                      clear hS
                      have hS := hS2.unpack [_, _]
                      clear hS2
                      simp only [List.cons_append, List.nil_append] at hS
                      go_wp2_with fail
                      refine wp_region_flow2 [0, 1, 3, 7, 7, 31, 63, 127, 7, 7, 519, 1799, 3847, 7943, 16383, 32767, 65535, 65535, 262143, 524287, 1048575, 65535, 65535, 4259839, 14745599, 31522815, 65077247, 134217727, 268435455, 536870911, 536870911, 2147483647, 4294967295, 8589934591, 536870911, 536870911, 34896609279, 120795955199, 258234908671, 533112815615, 1099511627775, 2199023255551, 4398046511103, 8796093022207] (fun _ => false) [] [none, none] (by kernel_rfl) (by kernel_rfl) rfl hS CongOk.nil ?_
                      intro nd
                      iterate 6 (refine ch_pure rfl (by kernel_rfl) rfl rfl ?_; intro K hK; go_big_quiet_op; go_big_quiet_on)
                      (refine ch_pure rfl (by kernel_rfl) rfl rfl ?_; intro K hK; go_big_quiet_op; go_big_quiet_on)
                      (apply ch_ld1; rfl; kernel_rfl; (with_reducible rfl); rfl; rfl; decide +kernel; (intro F; exact Cell.elem Trd.len hit e6); (simp only [Act.put, List.setIfInBounds_toArray, List.set_cons_succ, List.set_cons_zero, Nat.reduceAdd]))
                      iterate 5 (refine ch_pure rfl (by kernel_rfl) rfl rfl ?_; intro K hK; go_big_quiet_op; go_big_quiet_on)
                      (apply ch_ld1; rfl; kernel_rfl; (with_reducible rfl); rfl; rfl; decide +kernel; (intro F; exact Cell.elem Trd.len hjt f6); (simp only [Act.put, List.setIfInBounds_toArray, List.set_cons_succ, List.set_cons_zero, Nat.reduceAdd]))
                      iterate 2 (refine ch_pure rfl (by kernel_rfl) rfl rfl ?_; intro K hK; go_big_quiet_op; go_big_quiet_on)
                      iterate 4 (refine ch_pure rfl (by kernel_rfl) rfl rfl ?_; intro K hK; go_big_quiet_op; go_big_quiet_on)
                      (apply ch_ld1; rfl; kernel_rfl; (with_reducible rfl); rfl; rfl; decide +kernel; (intro F; exact Cell.elem Trd.len hit e6); (simp only [Act.put, List.setIfInBounds_toArray, List.set_cons_succ, List.set_cons_zero, Nat.reduceAdd]))
                      iterate 5 (refine ch_pure rfl (by kernel_rfl) rfl rfl ?_; intro K hK; go_big_quiet_op; go_big_quiet_on)
                      (apply ch_ld1; rfl; kernel_rfl; (with_reducible rfl); rfl; rfl; decide +kernel; (intro F; exact Cell.elem Trd.len hjt f6); (simp only [Act.put, List.setIfInBounds_toArray, List.set_cons_succ, List.set_cons_zero, Nat.reduceAdd]))
                      iterate 2 (refine ch_pure rfl (by kernel_rfl) rfl rfl ?_; intro K hK; go_big_quiet_op; go_big_quiet_on)
                      iterate 12 (refine ch_skip (by kernel_rfl) rfl ?_; (simp only [Act.put, List.setIfInBounds_toArray, List.set_cons_succ, List.set_cons_zero, Nat.reduceAdd]))
                      iterate 3 (refine ch_pure rfl (by kernel_rfl) rfl rfl ?_; intro K hK; go_big_quiet_op; go_big_quiet_on)
                      refine ch_end ?_
                      clear hS
                      intro w hS
                      have hS2 : St W [blk g _ _, Old V, sats L] w := hS
                      clear hS
                      have hS := hS2.unpack [_, _]
                      clear hS2
                      simp only [List.cons_append, List.nil_append] at hS
                      go_wp2_with fail
                      go_roundw
                      case rel => exact ⟨i + 1, rfl, hit, hS⟩
                      case measure => simp [intOf]; omega
                    · have hpe : 1 + z % 8 = 1 + z' % 8 := by omega
                      have hle : ¬ 1 + z % 8 < 1 + z' % 8 := by omega
                      have hne : (1 + z % 8 == 1 + z' % 8) = true := by simp; omega
                      have hle2 : ¬ z % 8 < z' % 8 := by omega
                      have hne2 : z % 8 = z' % 8 := by omega
                      have hne3 : (z % 8 == z' % 8) = true := by simp; omega
                      have hkk : ¬ (k : Int) + 1 < (k' : Int) + 1 := by omega
                      have hkk2 : ¬ (k : Int) < (k' : Int) := by omega
                      have hkk3 : ¬ k < k' := by omega
                      clear htwo hpe
                      go_wp2_with fail
                      refine wp_region_flow2 [0, 0, 3, 7, 15, 0, 0, 0, 192, 448, 960, 1984, 4064, 8160, 16352, 32736, 65535, 131071, 262143, 262143, 1048575, 2097151, 4194303, 8388607, 16777215] (fun _ => false) [] [none, none] (by kernel_rfl) (by kernel_rfl) rfl hS CongOk.nil ?_
                      intro nd
                      iterate 4 (refine ch_pure rfl (by kernel_rfl) rfl rfl ?_; intro K hK; go_big_quiet_op; go_big_quiet_on)
                      (apply ch_ld1; rfl; kernel_rfl; (with_reducible rfl); rfl; rfl; decide +kernel; (intro F; exact Cell.elem Trd.len hit e6); (simp only [Act.put, List.setIfInBounds_toArray, List.set_cons_succ, List.set_cons_zero, Nat.reduceAdd]))
                      iterate 5 (refine ch_pure rfl (by kernel_rfl) rfl rfl ?_; intro K hK; go_big_quiet_op; go_big_quiet_on)
                      (apply ch_ld1; rfl; kernel_rfl; (with_reducible rfl); rfl; rfl; decide +kernel; (intro F; exact Cell.elem Trd.len hit e3); (simp only [Act.put, List.setIfInBounds_toArray, List.set_cons_succ, List.set_cons_zero, Nat.reduceAdd]))
                      iterate 2 (refine ch_pure rfl (by kernel_rfl) rfl rfl ?_; intro K hK; go_big_quiet_op; go_big_quiet_on)
                      (apply ch_ld1; rfl; kernel_rfl; (with_reducible rfl); rfl; rfl; decide +kernel; (intro F; exact Cell.there (Cell.old .head hcz)); (simp only [Act.put, List.setIfInBounds_toArray, List.set_cons_succ, List.set_cons_zero, Nat.reduceAdd]))
                      iterate 8 (refine ch_pure rfl (by kernel_rfl) rfl rfl ?_; intro K hK; go_big_quiet_op; go_big_quiet_on)
                      (apply ch_ld1; rfl; kernel_rfl; (with_reducible rfl); rfl; rfl; decide +kernel; (intro F; exact Cell.elem Trd.len hit e5); (simp only [Act.put, List.setIfInBounds_toArray, List.set_cons_succ, List.set_cons_zero, Nat.reduceAdd]))
                      iterate 2 (refine ch_pure rfl (by kernel_rfl) rfl rfl ?_; intro K hK; go_big_quiet_op; go_big_quiet_on)
                      refine ch_end ?_
                      clear hS
                      intro w hS
                      have hS2 : St W [blk g _ _, Old V, sats L] w := hS
                      clear hS
                      have hS := hS2.unpack [_, _]
                      clear hS2
                      simp only [List.cons_append, List.nil_append] at hS
                      go_wp2_with fail
                      refine wp_region_flow2 [0, 1, 3, 7, 7, 31, 63, 127, 7, 7, 519, 1799, 3847, 7943, 16383, 32767, 65535, 65535, 262143, 524287, 1048575, 65535, 65535, 4259839, 14745599, 31522815, 65077247, 134217727, 268435455, 536870911, 536870911, 2147483647, 4294967295, 8589934591, 536870911, 536870911, 34896609279, 120795955199, 258234908671, 533112815615, 1099511627775, 2199023255551, 4398046511103, 8796093022207] (fun _ => false) [] [none, none] (by kernel_rfl) (by kernel_rfl) rfl hS CongOk.nil ?_
                      intro nd
                      iterate 6 (refine ch_pure rfl (by kernel_rfl) rfl rfl ?_; intro K hK; go_big_quiet_op; go_big_quiet_on)
                      (refine ch_pure rfl (by kernel_rfl) rfl rfl ?_; intro K hK; go_big_quiet_op; go_big_quiet_on)
                      (apply ch_ld1; rfl; kernel_rfl; (with_reducible rfl); rfl; rfl; decide +kernel; (intro F; exact Cell.elem Trd.len hit e6); (simp only [Act.put, List.setIfInBounds_toArray, List.set_cons_succ, List.set_cons_zero, Nat.reduceAdd]))
                      iterate 5 (refine ch_pure rfl (by kernel_rfl) rfl rfl ?_; intro K hK; go_big_quiet_op; go_big_quiet_on)
                      (apply ch_ld1; rfl; kernel_rfl; (with_reducible rfl); rfl; rfl; decide +kernel; (intro F; exact Cell.elem Trd.len hjt f6); (simp only [Act.put, List.setIfInBounds_toArray, List.set_cons_succ, List.set_cons_zero, Nat.reduceAdd]))
                      iterate 2 (refine ch_pure rfl (by kernel_rfl) rfl rfl ?_; intro K hK; go_big_quiet_op; go_big_quiet_on)
                      iterate 4 (refine ch_pure rfl (by kernel_rfl) rfl rfl ?_; intro K hK; go_big_quiet_op; go_big_quiet_on)
                      (apply ch_ld1; rfl; kernel_rfl; (with_reducible rfl); rfl; rfl; decide +kernel; (intro F; exact Cell.elem Trd.len hit e6); (simp only [Act.put, List.setIfInBounds_toArray, List.set_cons_succ, List.set_cons_zero, Nat.reduceAdd]))
                      iterate 5 (refine ch_pure rfl (by kernel_rfl) rfl rfl ?_; intro K hK; go_big_quiet_op; go_big_quiet_on)
                      (apply ch_ld1; rfl; kernel_rfl; (with_reducible rfl); rfl; rfl; decide +kernel; (intro F; exact Cell.elem Trd.len hjt f6); (simp only [Act.put, List.setIfInBounds_toArray, List.set_cons_succ, List.set_cons_zero, Nat.reduceAdd]))
                      iterate 2 (refine ch_pure rfl (by kernel_rfl) rfl rfl ?_; intro K hK; go_big_quiet_op; go_big_quiet_on)
                      iterate 4 (refine ch_pure rfl (by kernel_rfl) rfl rfl ?_; intro K hK; go_big_quiet_op; go_big_quiet_on)
                      (apply ch_ld1; rfl; kernel_rfl; (with_reducible rfl); rfl; rfl; decide +kernel; (intro F; exact Cell.elem Trd.len hit e3); (simp only [Act.put, List.setIfInBounds_toArray, List.set_cons_succ, List.set_cons_zero, Nat.reduceAdd]))
                      iterate 5 (refine ch_pure rfl (by kernel_rfl) rfl rfl ?_; intro K hK; go_big_quiet_op; go_big_quiet_on)
                      (apply ch_ld1; rfl; kernel_rfl; (with_reducible rfl); rfl; rfl; decide +kernel; (intro F; exact Cell.elem Trd.len hjt f3); (simp only [Act.put, List.setIfInBounds_toArray, List.set_cons_succ, List.set_cons_zero, Nat.reduceAdd]))
                      iterate 4 (refine ch_pure rfl (by kernel_rfl) rfl rfl ?_; intro K hK; go_big_quiet_op; go_big_quiet_on)
                      refine ch_end ?_
                      clear hS
                      intro w hS
                      have hS2 : St W [blk g _ _, Old V, sats L] w := hS
                      clear hS
                      have hS := hS2.unpack [_, _]
                      clear hS2
                      simp only [List.cons_append, List.nil_append] at hS
                      go_wp2_with fail
                      go_roundw
                      case rel => exact ⟨i + 1, rfl, hit, hS⟩
                      case measure => simp [intOf]; omega
            · have hlen2 : ts.length = zs.length := by omega
              clear hlen
              go_wp2_with (first | (go_at_call 14; refine (place_spec b2 (bB q zs.length) (bo _) hok W _ _ hS).mono ?_; clear hS; rw [HP.out]; rintro e w ⟨v, rfl, hS⟩; rcases hS.swap.rowOpen with ⟨_, h0', _⟩ | ⟨g, cap2, junk, rfl, hn1, hm2, hj1, hl1, hS'⟩; (exact absurd h0' (Nat.pos_iff_ne_zero.1 Hts.out)); clear hS; have hS := hS'.swap.drop; clear hS'; unfold maxLen at hm2))
              go_loopw [13] (fun v wr => ChkRel W (blk g (ts.flatMap Trd.cells ++ junk) 33 :: Old V :: L) ts.length v wr) (fun v _ => ts.length - (intOf v).toNat)
              case atStart => exact ⟨0, rfl, Nat.zero_le _, hS⟩
              case round =>
                clear hS
                obtain ⟨i, rfl, hi, hS⟩ := hrel
                by_cases hil : i = ts.length
                · subst hil
                  go_wp2_with (first | (go_at_call 12; refine (known_spec W _ _ hS).mono ?_; clear hS; rintro e w ⟨rfl, hS⟩))
                  go_ret
                  exact ⟨rfl, hS.drop⟩
                · have hit : i < ts.length := by omega
                  obtain ⟨hc1, k, hk1, hsell, hprice⟩ := HB.out.one i hit
                  have hcz := HC.out k hk1
                  generalize zs.getD k 0 = z at hcz hprice
                  have hz8 := and7 z
                  have e6 : (Trd.cells ts[i])[6]? = some (.int .i64 (1 + z % 8)) := by rw [← hprice]; rfl
                  have e3 : (Trd.cells ts[i])[3]? = some (.int .i64 ((k : Int) + 1)) := by rw [← hsell]; rfl
                  have e5 : (Trd.cells ts[i])[5]? = some (.int .i64 1) := by rw [← hc1]; rfl
                  clear hil hi
                  by_cases hi0 : i = 0
                  · subst hi0
                    clear hc1 hsell hprice
                    go_wp2_with fail
                    refine wp_region_flow2 [0, 0, 3, 7, 15, 0, 0, 0, 192, 448, 960, 1984, 4064, 8160, 16352, 32736, 65535, 131071, 262143, 262143, 1048575, 2097151, 4194303, 8388607, 16777215] (fun _ => false) [] [none, none] (by kernel_rfl) (by kernel_rfl) rfl hS CongOk.nil ?_
                    intro nd
                    iterate 4 (refine ch_pure rfl (by kernel_rfl) rfl rfl ?_; intro K hK; go_big_quiet_op; go_big_quiet_on)
                    (apply ch_ld1; rfl; kernel_rfl; (with_reducible rfl); rfl; rfl; decide +kernel; (intro F; exact Cell.elem Trd.len hit e6); (simp only [Act.put, List.setIfInBounds_toArray, List.set_cons_succ, List.set_cons_zero, Nat.reduceAdd]))
                    iterate 5 (refine ch_pure rfl (by kernel_rfl) rfl rfl ?_; intro K hK; go_big_quiet_op; go_big_quiet_on)
                    (apply ch_ld1; rfl; kernel_rfl; (with_reducible rfl); rfl; rfl; decide +kernel; (intro F; exact Cell.elem Trd.len hit e3); (simp only [Act.put, List.setIfInBounds_toArray, List.set_cons_succ, List.set_cons_zero, Nat.reduceAdd]))
                    iterate 2 (refine ch_pure rfl (by kernel_rfl) rfl rfl ?_; intro K hK; go_big_quiet_op; go_big_quiet_on)
                    (apply ch_ld1; rfl; kernel_rfl; (with_reducible rfl); rfl; rfl; decide +kernel; (intro F; exact Cell.there (Cell.old .head hcz)); (simp only [Act.put, List.setIfInBounds_toArray, List.set_cons_succ, List.set_cons_zero, Nat.reduceAdd]))
                    iterate 8 (refine ch_pure rfl (by kernel_rfl) rfl rfl ?_; intro K hK; go_big_quiet_op; go_big_quiet_on)
                    (apply ch_ld1; rfl; kernel_rfl; (with_reducible rfl); rfl; rfl; decide +kernel; (intro F; exact Cell.elem Trd.len hit e5); (simp only [Act.put, List.setIfInBounds_toArray, List.set_cons_succ, List.set_cons_zero, Nat.reduceAdd]))
                    iterate 2 (refine ch_pure rfl (by kernel_rfl) rfl rfl ?_; intro K hK; go_big_quiet_op; go_big_quiet_on)
                    refine ch_end ?_
                    clear hS
                    intro w hS
                    have hS2 : St W [blk g _ _, Old V, sats L] w := hS
                    clear hS
                    have hS := hS2.unpack [_, _]
                    clear hS2
                    simp only [List.cons_append, List.nil_append] at hS
                    go_wp2_with fail
                    refine wp_region_flow2 [0, 1, 3, 7, 7, 31, 63, 127, 7, 7, 519, 1799, 3847, 7943, 16383, 32767, 65535, 65535, 262143, 524287, 1048575, 65535, 65535, 4259839, 14745599, 31522815, 65077247, 134217727, 268435455, 536870911, 536870911, 2147483647, 4294967295, 8589934591, 536870911, 536870911, 34896609279, 120795955199, 258234908671, 533112815615, 1099511627775, 2199023255551, 4398046511103, 8796093022207] (fun _ => false) [] [none, none] (by kernel_rfl) (by kernel_rfl) rfl hS CongOk.nil ?_
                    intro nd
                    iterate 3 (refine ch_pure rfl (by kernel_rfl) rfl rfl ?_; intro K hK; go_big_quiet_op; go_big_quiet_on)
                    iterate 40 (refine ch_skip (by kernel_rfl) rfl ?_; (simp only [Act.put, List.setIfInBounds_toArray, List.set_cons_succ, List.set_cons_zero, Nat.reduceAdd]))
                    (refine ch_pure rfl (by kernel_rfl) rfl rfl ?_; intro K hK; go_big_quiet_op; go_big_quiet_on)
                    refine ch_end ?_
                    clear hS
                    intro w hS
                    have hS2 : St W [blk g _ _, Old V, sats L] w := hS
                    clear hS
                    have hS := hS2.unpack [_, _]
                    clear hS2
                    simp only [List.cons_append, List.nil_append] at hS
                    go_wp2_with fail
                    go_roundw
                    case rel => exact ⟨1, rfl, hit, hS⟩
                    case measure => simp [intOf]; omega
                  · obtain ⟨j, hj⟩ : ∃ j, i = j + 1 := ⟨i - 1, by omega⟩
                    have hij : (i : Int) - 1 = (j : Int) := by omega
                    have hjt : j < ts.length := by omega
                    obtain ⟨_, k', _, hsell', hprice'⟩ := HB.out.one j hjt
                    have htwo := HB.out.two j (hj ▸ hit)
                    subst hj
                    rw [hprice', hprice, hsell, hsell'] at htwo
                    generalize zs.getD k' 0 = z' at hprice' htwo
                    have f6 : (Trd.cells ts[j])[6]? = some (.int .i64 (1 + z' % 8)) := by rw [← hprice']; rfl
                    have f3 : (Trd.cells ts[j])[3]? = some (.int .i64 ((k' : Int) + 1)) := by rw [← hsell']; rfl
                    clear hprice hprice' hsell hsell' hc1
                    generalize hjj : j + 1 = i at *
                    have hi1 : 0 < i := by omega
                    by_cases hlt : 1 + z' % 8 < 1 + z % 8
                    · have hle : ¬ 1 + z % 8 < 1 + z' % 8 := by omega
                      have hne : (1 + z % 8 == 1 + z' % 8) = false := by simp; omega
                      have hle2 : ¬ z % 8 < z' % 8 := by omega
                      have hd1 : decide (1 + z % 8 < 1 + z' % 8) = false := by simp; omega
                      have hd2 : decide (z % 8 < z' % 8) = false := by simp; omega
                      have hne2 : ¬ z % 8 = z' % 8 := by omega
                      have hne3 : (z % 8 == z' % 8) = false := by simp; omega
                      clear htwo
                      go_wp2_with fail
                      refine wp_region_flow2 [0, 0, 3, 7, 15, 0, 0, 0, 192, 448, 960, 1984, 4064, 8160, 16352, 32736, 65535, 131071, 262143, 262143, 1048575, 2097151, 4194303, 8388607, 16777215] (fun _ => false) [] [none, none] (by kernel_rfl) (by kernel_rfl) rfl hS CongOk.nil ?_
                      intro nd
                      iterate 4 (refine ch_pure rfl (by kernel_rfl) rfl rfl ?_; intro K hK; go_big_quiet_op; go_big_quiet_on)
                      (apply ch_ld1; rfl; kernel_rfl; (with_reducible rfl); rfl; rfl; decide +kernel; (intro F; exact Cell.elem Trd.len hit e6); (simp only [Act.put, List.setIfInBounds_toArray, List.set_cons_succ, List.set_cons_zero, Nat.reduceAdd]))
                      iterate 5 (refine ch_pure rfl (by kernel_rfl) rfl rfl ?_; intro K hK; go_big_quiet_op; go_big_quiet_on)
                      (apply ch_ld1; rfl; kernel_rfl; (with_reducible rfl); rfl; rfl; decide +kernel; (intro F; exact Cell.elem Trd.len hit e3); (simp only [Act.put, List.setIfInBounds_toArray, List.set_cons_succ, List.set_cons_zero, Nat.reduceAdd]))
                      iterate 2 (refine ch_pure rfl (by kernel_rfl) rfl rfl ?_; intro K hK; go_big_quiet_op; go_big_quiet_on)
                      (apply ch_ld1; rfl; kernel_rfl; (with_reducible rfl); rfl; rfl; decide +kernel; (intro F; exact Cell.there (Cell.old .head hcz)); (simp only [Act.put, List.setIfInBounds_toArray, List.set_cons_succ, List.set_cons_zero, Nat.reduceAdd]))
                      iterate 8 (refine ch_pure rfl (by kernel_rfl) rfl rfl ?_; intro K hK; go_big_quiet_op; go_big_quiet_on)
                      (apply ch_ld1; rfl; kernel_rfl; (with_reducible rfl); rfl; rfl; decide +kernel; (intro F; exact Cell.elem Trd.len hit e5); (simp only [Act.put, List.setIfInBounds_toArray, List.set_cons_succ, List.set_cons_zero, Nat.reduceAdd]))
                      iterate 2 (refine ch_pure rfl (by kernel_rfl) rfl rfl ?_; intro K hK; go_big_quiet_op; go_big_quiet_on)
                      refine ch_end ?_
                      clear hS
                      intro w hS
                      have hS2 : St W [blk g _ _, Old V, sats L] w := hS
                      clear hS
                      have hS := hS2.unpack [_, _]
                      clear hS2
                      simp only [List.cons_append, List.nil_append] at hS
                      go_wp2_with fail
                      refine wp_region_flow2 [0, 1, 3, 7, 7, 31, 63, 127, 7, 7, 519, 1799, 3847, 7943, 16383, 32767, 65535, 65535, 262143, 524287, 1048575, 65535, 65535, 4259839, 14745599, 31522815, 65077247, 134217727, 268435455, 536870911, 536870911, 2147483647, 4294967295, 8589934591, 536870911, 536870911, 34896609279, 120795955199, 258234908671, 533112815615, 1099511627775, 2199023255551, 4398046511103, 8796093022207] (fun _ => false) [] [none, none] (by kernel_rfl) (by kernel_rfl) rfl hS CongOk.nil ?_
                      intro nd
                      iterate 6 (refine ch_pure rfl (by kernel_rfl) rfl rfl ?_; intro K hK; go_big_quiet_op; go_big_quiet_on)
                      (refine ch_pure rfl (by kernel_rfl) rfl rfl ?_; intro K hK; go_big_quiet_op; go_big_quiet_on)
                      (apply ch_ld1; rfl; kernel_rfl; (with_reducible rfl); rfl; rfl; decide +kernel; (intro F; exact Cell.elem Trd.len hit e6); (simp only [Act.put, List.setIfInBounds_toArray, List.set_cons_succ, List.set_cons_zero, Nat.reduceAdd]))
                      iterate 5 (refine ch_pure rfl (by kernel_rfl) rfl rfl ?_; intro K hK; go_big_quiet_op; go_big_quiet_on)
                      (apply ch_ld1; rfl; kernel_rfl; (with_reducible rfl); rfl; rfl; decide +kernel; (intro F; exact Cell.elem Trd.len hjt f6); (simp only [Act.put, List.setIfInBounds_toArray, List.set_cons_succ, List.set_cons_zero, Nat.reduceAdd]))
                      iterate 2 (refine ch_pure rfl (by kernel_rfl) rfl rfl ?_; intro K hK; go_big_quiet_op; go_big_quiet_on)
                      iterate 4 (refine ch_pure rfl (by kernel_rfl) rfl rfl ?_; intro K hK; go_big_quiet_op; go_big_quiet_on)
                      (apply ch_ld1; rfl; kernel_rfl; (with_reducible rfl); rfl; rfl; decide +kernel; (intro F; exact Cell.elem Trd.len hit e6); (simp only [Act.put, List.setIfInBounds_toArray, List.set_cons_succ, List.set_cons_zero, Nat.reduceAdd]))
                      iterate 5 (refine ch_pure rfl (by kernel_rfl) rfl rfl ?_; intro K hK; go_big_quiet_op; go_big_quiet_on)
                      (apply ch_ld1; rfl; kernel_rfl; (with_reducible rfl); rfl; rfl; decide +kernel; (intro F; exact Cell.elem Trd.len hjt f6); (simp only [Act.put, List.setIfInBounds_toArray, List.set_cons_succ, List.set_cons_zero, Nat.reduceAdd]))
                      iterate 2 (refine ch_pure rfl (by kernel_rfl) rfl rfl ?_; intro K hK; go_big_quiet_op; go_big_quiet_on)
                      iterate 12 (refine ch_skip (by kernel_rfl) rfl ?_; (simp only [Act.put, List.setIfInBounds_toArray, List.set_cons_succ, List.set_cons_zero, Nat.reduceAdd]))
                      iterate 3 (refine ch_pure rfl (by kernel_rfl) rfl rfl ?_; intro K hK; go_big_quiet_op; go_big_quiet_on)
                      refine ch_end ?_
                      clear hS
                      intro w hS
                      have hS2 : St W [blk g _ _, Old V, sats L] w := hS
                      clear hS
                      have hS := hS2.unpack [_, _]
                      clear hS2
                      simp only [List.cons_append, List.nil_append] at hS
                      go_wp2_with fail
                      go_roundw
                      case rel => exact ⟨i + 1, rfl, hit, hS⟩
                      case measure => simp [intOf]; omega
                    · have hpe : 1 + z % 8 = 1 + z' % 8 := by omega
                      have hle : ¬ 1 + z % 8 < 1 + z' % 8 := by omega
                      have hne : (1 + z % 8 == 1 + z' % 8) = true := by simp; omega
                      have hle2 : ¬ z % 8 < z' % 8 := by omega
                      have hne2 : z % 8 = z' % 8 := by omega
                      have hne3 : (z % 8 == z' % 8) = true := by simp; omega
                      have hkk : ¬ (k : Int) + 1 < (k' : Int) + 1 := by omega
                      have hkk2 : ¬ (k : Int) < (k' : Int) := by omega
                      have hkk3 : ¬ k < k' := by omega
                      clear htwo hpe
                      go_wp2_with fail
                      refine wp_region_flow2 [0, 0, 3, 7, 15, 0, 0, 0, 192, 448, 960, 1984, 4064, 8160, 16352, 32736, 65535, 131071, 262143, 262143, 1048575, 2097151, 4194303, 8388607, 16777215] (fun _ => false) [] [none, none] (by kernel_rfl) (by kernel_rfl) rfl hS CongOk.nil ?_
                      intro nd
                      iterate 4 (refine ch_pure rfl (by kernel_rfl) rfl rfl ?_; intro K hK; go_big_quiet_op; go_big_quiet_on)
                      (apply ch_ld1; rfl; kernel_rfl; (with_reducible rfl); rfl; rfl; decide +kernel; (intro F; exact Cell.elem Trd.len hit e6); (simp only [Act.put, List.setIfInBounds_toArray, List.set_cons_succ, List.set_cons_zero, Nat.reduceAdd]))
                      iterate 5 (refine ch_pure rfl (by kernel_rfl) rfl rfl ?_; intro K hK; go_big_quiet_op; go_big_quiet_on)
                      (apply ch_ld1; rfl; kernel_rfl; (with_reducible rfl); rfl; rfl; decide +kernel; (intro F; exact Cell.elem Trd.len hit e3); (simp only [Act.put, List.setIfInBounds_toArray, List.set_cons_succ, List.set_cons_zero, Nat.reduceAdd]))
                      iterate 2 (refine ch_pure rfl (by kernel_rfl) rfl rfl ?_; intro K hK; go_big_quiet_op; go_big_quiet_on)
                      (apply ch_ld1; rfl; kernel_rfl; (with_reducible rfl); rfl; rfl; decide +kernel; (intro F; exact Cell.there (Cell.old .head hcz)); (simp only [Act.put, List.setIfInBounds_toArray, List.set_cons_succ, List.set_cons_zero, Nat.reduceAdd]))
                      iterate 8 (refine ch_pure rfl (by kernel_rfl) rfl rfl ?_; intro K hK; go_big_quiet_op; go_big_quiet_on)
                      (apply ch_ld1; rfl; kernel_rfl; (with_reducible rfl); rfl; rfl; decide +kernel; (intro F; exact Cell.elem Trd.len hit e5); (simp only [Act.put, List.setIfInBounds_toArray, List.set_cons_succ, List.set_cons_zero, Nat.reduceAdd]))
                      iterate 2 (refine ch_pure rfl (by kernel_rfl) rfl rfl ?_; intro K hK; go_big_quiet_op; go_big_quiet_on)
                      refine ch_end ?_
                      clear hS
                      intro w hS
                      have hS2 : St W [blk g _ _, Old V, sats L] w := hS
                      clear hS
                      have hS := hS2.unpack [_, _]
                      clear hS2
                      simp only [List.cons_append, List.nil_append] at hS
                      go_wp2_with fail
                      refine wp_region_flow2 [0, 1, 3, 7, 7, 31, 63, 127, 7, 7, 519, 1799, 3847, 7943, 16383, 32767, 65535, 65535, 262143, 524287, 1048575, 65535, 65535, 4259839, 14745599, 31522815, 65077247, 134217727, 268435455, 536870911, 536870911, 2147483647, 4294967295, 8589934591, 536870911, 536870911, 34896609279, 120795955199, 258234908671, 533112815615, 1099511627775, 2199023255551, 4398046511103, 8796093022207] (fun _ => false) [] [none, none] (by kernel_rfl) (by kernel_rfl) rfl hS CongOk.nil ?_
                      intro nd
                      iterate 6 (refine ch_pure rfl (by kernel_rfl) rfl rfl ?_; intro K hK; go_big_quiet_op; go_big_quiet_on)
                      (refine ch_pure rfl (by kernel_rfl) rfl rfl ?_; intro K hK; go_big_quiet_op; go_big_quiet_on)
                      (apply ch_ld1; rfl; kernel_rfl; (with_reducible rfl); rfl; rfl; decide +kernel; (intro F; exact Cell.elem Trd.len hit e6); (simp only [Act.put, List.setIfInBounds_toArray, List.set_cons_succ, List.set_cons_zero, Nat.reduceAdd]))
                      iterate 5 (refine ch_pure rfl (by kernel_rfl) rfl rfl ?_; intro K hK; go_big_quiet_op; go_big_quiet_on)
                      (apply ch_ld1; rfl; kernel_rfl; (with_reducible rfl); rfl; rfl; decide +kernel; (intro F; exact Cell.elem Trd.len hjt f6); (simp only [Act.put, List.setIfInBounds_toArray, List.set_cons_succ, List.set_cons_zero, Nat.reduceAdd]))
                      iterate 2 (refine ch_pure rfl (by kernel_rfl) rfl rfl ?_; intro K hK; go_big_quiet_op; go_big_quiet_on)
                      iterate 4 (refine ch_pure rfl (by kernel_rfl) rfl rfl ?_; intro K hK; go_big_quiet_op; go_big_quiet_on)
                      (apply ch_ld1; rfl; kernel_rfl; (with_reducible rfl); rfl; rfl; decide +kernel; (intro F; exact Cell.elem Trd.len hit e6); (simp only [Act.put, List.setIfInBounds_toArray, List.set_cons_succ, List.set_cons_zero, Nat.reduceAdd]))
                      iterate 5 (refine ch_pure rfl (by kernel_rfl) rfl rfl ?_; intro K hK; go_big_quiet_op; go_big_quiet_on)
                      (apply ch_ld1; rfl; kernel_rfl; (with_reducible rfl); rfl; rfl; decide +kernel; (intro F; exact Cell.elem Trd.len hjt f6); (simp only [Act.put, List.setIfInBounds_toArray, List.set_cons_succ, List.set_cons_zero, Nat.reduceAdd]))
                      iterate 2 (refine ch_pure rfl (by kernel_rfl) rfl rfl ?_; intro K hK; go_big_quiet_op; go_big_quiet_on)
                      iterate 4 (refine ch_pure rfl (by kernel_rfl) rfl rfl ?_; intro K hK; go_big_quiet_op; go_big_quiet_on)
                      (apply ch_ld1; rfl; kernel_rfl; (with_reducible rfl); rfl; rfl; decide +kernel; (intro F; exact Cell.elem Trd.len hit e3); (simp only [Act.put, List.setIfInBounds_toArray, List.set_cons_succ, List.set_cons_zero, Nat.reduceAdd]))
                      iterate 5 (refine ch_pure rfl (by kernel_rfl) rfl rfl ?_; intro K hK; go_big_quiet_op; go_big_quiet_on)
                      (apply ch_ld1; rfl; kernel_rfl; (with_reducible rfl); rfl; rfl; decide +kernel; (intro F; exact Cell.elem Trd.len hjt f3); (simp only [Act.put, List.setIfInBounds_toArray, List.set_cons_succ, List.set_cons_zero, Nat.reduceAdd]))
                      iterate 4 (refine ch_pure rfl (by kernel_rfl) rfl rfl ?_; intro K hK; go_big_quiet_op; go_big_quiet_on)
                      refine ch_end ?_
                      clear hS
                      intro w hS
                      have hS2 : St W [blk g _ _, Old V, sats L] w := hS
                      clear hS
                      have hS := hS2.unpack [_, _]
                      clear hS2
                      simp only [List.cons_append, List.nil_append] at hS
                      go_wp2_with fail
                      go_roundw
                      case rel => exact ⟨i + 1, rfl, hit, hS⟩
                      case measure => simp [intOf]; omega
          · have hkl : k < zs.length := by omega
            have hc := hcell k hkl
            have hso : so zs k = ⟨(k : Int) + 1, ⟨#[115]⟩, false, 2, 1, 1 + (zs.getD k 0) % 8⟩ := rfl
            generalize zs.getD k 0 = z at hc hso
            have hz8 := and7 z
            have Hc := Lib.hid hcell
            clear hkn hk hcell
            go_wp2_with (first | ((with_reducible apply wl_ld1 hS); (with_reducible rfl); rfl; rfl; decide +kernel; (exact Cell.there (Cell.old .head hc)); (simp only [Act.put, List.setIfInBounds_toArray, List.set_cons_succ, List.set_cons_zero, Nat.reduceAdd])) | (go_at_call 14; refine (place_spec b2 (bB q k) ⟨(k : Int) + 1, ⟨#[115]⟩, false, 2, 1, 1 + z % 8⟩ hok W _ _ hS).mono ?_; clear hS; rw [← hso, best_step zs q k (by omega) hql]; rintro e w ⟨v, rfl, hS1⟩; have hS := hS1.swap.drop; clear hS1))
            go_roundw
            case rel => exact ⟨k + 1, pushT q (so zs k), rfl, hkl, hq.push rfl, ((pushT_perm _ _).trans (Hp.out.cons _)).trans (by rw [List.range_succ, List.map_append]; exact (List.perm_append_singleton _ _).symm), hS⟩
            case measure => simp [intOf]; omega
      · have hw' : ¬ (1 ≤ want) ∨ ¬ (want ≤ 30) := by omega
        rcases hw' with hw' | hw'
        · have hw2 : want < 1 := by omega
          go_enter Try.func3, Try.ntmps3
          go_wp2_with (first | (go_at_call 12; refine (known_spec W _ _ hS).mono ?_; clear hS; rintro e w ⟨rfl, hS⟩))
          all_goals go_ret
          all_goals exact ⟨rfl, hS⟩
        · have hw2 : 30 < want := by omega
          go_enter Try.func3, Try.ntmps3
          go_wp2_with (first | (go_at_call 12; refine (known_spec W _ _ hS).mono ?_; clear hS; rintro e w ⟨rfl, hS⟩))
          all_goals go_ret
          all_goals exact ⟨rfl, hS⟩
    · have h30' : 30 < zs.length := by omega
      go_enter Try.func3, Try.ntmps3
      go_wp2_with (first | (go_at_call 12; refine (known_spec W _ _ hS).mono ?_; clear hS; rintro e w ⟨rfl, hS⟩))
      all_goals go_ret
      all_goals exact ⟨rfl, hS⟩
end Go.Proofs.Ytihciopankhjgaa
