/-
  BookPlays and BookApart: the walks. For every script.
-/
import Derived.Test.YtihciopankhjgaaPlay
set_option linter.unusedSimpArgs false
set_option linter.unusedVariables false
namespace Go.Proofs.Ytihciopankhjgaa
open Go.RowKit Go.Sl
set_option maxRecDepth 100000 in
set_option maxHeartbeats 4000000 in
theorem plays_spec (xs : List Actn) (v : Value) (V : World) (hv : SliceV Actn.cells 8 V v xs) (W w : World) (Lr : List HP) (hS : St W (Old V :: Lr) w) :
    Calls Try.prog 7 #[v] w fun e w' => e = .returned (.bool true) ∧ St W (Old V :: Lr) w' := by
  go_enter Try.func7, Try.ntmps7
  go_wp2_with (first | (go_at_call 23; refine (played_spec xs v V hv W _ _ hS).mono ?_; clear hS; rintro e w ⟨bb, xb, b1, L, vx, rfl, hrep, -, hS⟩; have Hrep := Lib.hid hrep; have Hl32 := Lib.hid (show L.length ≤ 32 by have := hrep.ok.few; rw [len_flat _ hrep.ok.n8, ← hrep.perm.length_eq] at this; exact this); clear hrep))
  refine wp_region_flow3 [0, 1, 3, 7, 3, 19, 51, 115, 255, 511, 1023, 2047, 4095, 8191] (fun i => i == 3) (fun i => if i == 8 then some (.bool true) else if i == 11 then some (.bool true) else none) [⟨some 3, none, fun nd => pileR (nd 3) L⟩] [none, none, none] (by kernel_rfl) (by kernel_rfl) rfl hS (CongOk.cons (fun nd nd' h => by dsimp only; rw [h 3 rfl rfl]) CongOk.nil) ?_
  intro nd
  iterate 3 (refine ch_pure rfl (by kernel_rfl) rfl rfl ?_; intro K hK; go_big_quiet_op; go_big_quiet_on)
  (apply ch_callN; rfl; rfl; (with_reducible rfl); decide +kernel; (focus (simp only [List.map_toArray, List.map_cons, List.map_nil, Act.eval, Array.getD_eq_getD_getElem?, List.getElem?_toArray, List.getElem?_cons_succ, List.getElem?_cons_zero, Option.getD_some]; try rfl)); (intro _; rfl); (intro F w hS; exact list_new bb Hrep.out W w _ hS); (simp only [Act.put, List.setIfInBounds_toArray, List.set_cons_succ, List.set_cons_zero, Nat.reduceAdd]))
  (refine ch_pure rfl (by kernel_rfl) rfl rfl ?_; intro K hK; go_big_quiet_op; go_big_quiet_on)
  (apply ch_nil; rfl; kernel_rfl; (with_reducible rfl); rfl; rfl; (simp only [Act.put, List.setIfInBounds_toArray, List.set_cons_succ, List.set_cons_zero, Nat.reduceAdd]))
  (refine ch_pure rfl (by kernel_rfl) rfl rfl ?_; intro K hK; go_big_quiet_op; go_big_quiet_on)
  (apply ch_ld1; rfl; kernel_rfl; (with_reducible rfl); rfl; rfl; decide +kernel; (intro F; first | exact Cell.here rfl | exact Cell.there (Cell.here rfl) | exact Cell.there (Cell.there (Cell.here rfl)) | exact Cell.there (Cell.there (Cell.there (Cell.here rfl))) | exact Cell.there (Cell.there (Cell.there (Cell.there (Cell.here rfl)))) | exact Cell.there (Cell.there (Cell.there (Cell.there (Cell.there (Cell.here rfl))))) | exact Cell.there (Cell.there (Cell.there (Cell.there (Cell.there (Cell.there (Cell.here rfl)))))) | assumption); (simp only [Act.put, List.setIfInBounds_toArray, List.set_cons_succ, List.set_cons_zero, Nat.reduceAdd]))
  (apply ch_callF; rfl; rfl; rfl; (with_reducible rfl); decide +kernel; (focus (simp only [List.map_toArray, List.map_cons, List.map_nil, Act.eval, Array.getD_eq_getD_getElem?, List.getElem?_toArray, List.getElem?_cons_succ, List.getElem?_cons_zero, Option.getD_some]; try rfl)); (intro F w hS; (try clear hS0); exact orders_take Hl32.out hS (by first | exact Take.head | exact Take.tail Take.head | exact Take.tail (Take.tail Take.head) | exact Take.tail (Take.tail (Take.tail Take.head)) | exact Take.tail (Take.tail (Take.tail (Take.tail Take.head))) | exact Take.tail (Take.tail (Take.tail (Take.tail (Take.tail Take.head)))) | exact Take.tail (Take.tail (Take.tail (Take.tail (Take.tail (Take.tail Take.head)))))) (by first | exact Take.head | exact Take.tail Take.head | exact Take.tail (Take.tail Take.head) | exact Take.tail (Take.tail (Take.tail Take.head)) | exact Take.tail (Take.tail (Take.tail (Take.tail Take.head))) | exact Take.tail (Take.tail (Take.tail (Take.tail (Take.tail Take.head)))) | exact Take.tail (Take.tail (Take.tail (Take.tail (Take.tail (Take.tail Take.head))))))); (simp only [Act.put, List.setIfInBounds_toArray, List.set_cons_succ, List.set_cons_zero, Nat.reduceAdd]))
  iterate 2 (refine ch_pure rfl (by kernel_rfl) rfl rfl ?_; intro K hK; go_big_quiet_op; go_big_quiet_on)
  (apply ch_callF; rfl; rfl; rfl; (with_reducible rfl); decide +kernel; (focus (simp only [List.map_toArray, List.map_cons, List.map_nil, Act.eval, Array.getD_eq_getD_getElem?, List.getElem?_toArray, List.getElem?_cons_succ, List.getElem?_cons_zero, Option.getD_some]; try rfl)); (intro F w hS; (try clear hS0); exact known_spec W w _ hS); (simp only [Act.put, List.setIfInBounds_toArray, List.set_cons_succ, List.set_cons_zero, Nat.reduceAdd]))
  iterate 2 (refine ch_pure rfl (by kernel_rfl) rfl rfl ?_; intro K hK; go_big_quiet_op; go_big_quiet_on)
  refine ch_end ?_
  clear hS
  intro w hS
  have hS2 : St W [pileR _ _, bookP _ _, blk xb _ _, pileR _ _, sats _] w := hS
  clear hS
  have hS := hS2.unpack [_, _, _, _]
  clear hS2
  simp only [List.cons_append, List.nil_append] at hS
  go_wp2_with fail
  go_ret
  exact ⟨rfl, hS.drop.drop.drop.drop⟩
set_option maxRecDepth 100000 in
set_option maxHeartbeats 8000000 in
theorem apart_spec (xs : List Actn) (v : Value) (V : World) (hv : SliceV Actn.cells 8 V v xs) (W w : World) (Lr : List HP) (hS : St W (Old V :: Lr) w) :
    Calls Try.prog 8 #[v] w fun e w' => e = .returned (.bool true) ∧ St W (Old V :: Lr) w' := by
  go_enter Try.func8, Try.ntmps8
  go_wp2_with (first | (go_at_call 23; refine (played_spec xs v V hv W _ _ hS).mono ?_; clear hS; rintro e w ⟨bb, xb, b1, L, vx, rfl, hrep, hap, hS⟩; have Hrep := Lib.hid hrep; have Hap := Lib.hid hap; clear hrep hap) | (go_at_call 22; refine (list_at bb Hrep.out W _ _ hS).mono ?_; clear hS; rintro e w ⟨la, lc, rfl, hS⟩))
  have hlen : L.length ≤ 32 := by have := Hrep.out.ok.few; rw [len_flat _ Hrep.out.ok.n8, ← Hrep.out.perm.length_eq] at this; exact this
  have hS1 := ((hS.take .t2).drop.take .t2).drop
  clear hS
  have hS := hS1
  clear hS1
  go_loopw [7] (fun v wr => OrdR W (bookP bb b1 :: pileR (.slice la L.length lc) L :: Old V :: Lr) L.length v wr) (fun v _ => L.length - (intOf v).toNat)
  case atStart => exact ⟨0, rfl, by omega, hS⟩
  case round =>
    clear hS
    obtain ⟨i, rfl, hi, hS⟩ := hrel
    by_cases hin : i = L.length
    · subst hin
      go_wp2_with (first | (go_at_call 12; refine (known_spec W _ _ hS).mono ?_; clear hS; rintro e w ⟨rfl, hS⟩))
      go_ret
      exact ⟨rfl, hS.drop.drop⟩
    · have hil : i < L.length := by omega
      clear hin hi
      obtain ⟨⟨g, rfl⟩, hlc, hln⟩ := St.rowAddr hS.drop (by omega)
      go_wp2_with fail
      go_loopw [8] (fun v wr => OrdR W (bookP bb b1 :: pileR (.slice (some ⟨g, 0, none⟩) L.length lc) L :: Old V :: Lr) L.length v wr) (fun v _ => L.length - (intOf v).toNat)
      case atStart => exact ⟨0, rfl, by omega, hS⟩
      case round =>
        clear hS
        obtain ⟨k, rfl, hk, hS⟩ := hrel
        by_cases hkn : k = L.length
        · subst hkn
          go_wp2_with fail
          go_roundw
          case rel => exact ⟨i + 1, rfl, hil, hS⟩
          case measure => simp [intOf]; omega
        · have hkl : k < L.length := by omega
          clear hkn hk
          have hm := Hap.out L[i] (List.getElem_mem hil) L[k] (List.getElem_mem hkl)
          have q2 : (Ord.cells L[i])[2]? = some (.bool L[i].buy) := rfl
          have q3 : (Ord.cells L[i])[3]? = some (.int .i64 L[i].item) := rfl
          have q5 : (Ord.cells L[i])[5]? = some (.int .i64 L[i].price) := rfl
          have r2 : (Ord.cells L[k])[2]? = some (.bool L[k].buy) := rfl
          have r3 : (Ord.cells L[k])[3]? = some (.int .i64 L[k].item) := rfl
          have r5 : (Ord.cells L[k])[5]? = some (.int .i64 L[k].price) := rfl
          unfold meetR at hm
          generalize L[i].buy = xy at hm q2
          generalize L[i].item = xt at hm q3
          generalize L[i].price = xp at hm q5
          generalize L[k].buy = zy at hm r2
          generalize L[k].item = zt at hm r3
          generalize L[k].price = zp at hm r5
          cases xy
          · clear hm
            go_wp2_with fail
            refine wp_region_flow2 [0, 0, 3, 7, 15, 31, 63, 63, 255, 511, 1023, 2047, 4095, 8191, 16383, 16383, 65535, 131071, 262143, 16383, 16383, 1589247, 3686399, 7880703, 16777215, 33554431, 67108863, 134217727, 134217727, 536870911, 1073741823, 2147483647, 134217727, 134217727, 13019119615, 30198988799, 64558727167, 137438953471, 274877906943] (fun _ => false) [] [none, none] (by kernel_rfl) (by kernel_rfl) rfl hS CongOk.nil ?_
            intro nd
            iterate 4 (refine ch_pure rfl (by kernel_rfl) rfl rfl ?_; intro K hK; go_big_quiet_op; go_big_quiet_on)
            (apply ch_ld1; rfl; kernel_rfl; (with_reducible rfl); rfl; rfl; decide +kernel; (intro F; exact Cell.there (Cell.rowE Ord.len hil q2)); (simp only [Act.put, List.setIfInBounds_toArray, List.set_cons_succ, List.set_cons_zero, Nat.reduceAdd]))
            (refine ch_pure rfl (by kernel_rfl) rfl rfl ?_; intro K hK; go_big_quiet_op; go_big_quiet_on)
            iterate 6 (refine ch_skip (by kernel_rfl) rfl ?_; (simp only [Act.put, List.setIfInBounds_toArray, List.set_cons_succ, List.set_cons_zero, Nat.reduceAdd]))
            iterate 2 (refine ch_pure rfl (by kernel_rfl) rfl rfl ?_; intro K hK; go_big_quiet_op; go_big_quiet_on)
            iterate 11 (refine ch_skip (by kernel_rfl) rfl ?_; (simp only [Act.put, List.setIfInBounds_toArray, List.set_cons_succ, List.set_cons_zero, Nat.reduceAdd]))
            iterate 2 (refine ch_pure rfl (by kernel_rfl) rfl rfl ?_; intro K hK; go_big_quiet_op; go_big_quiet_on)
            iterate 11 (refine ch_skip (by kernel_rfl) rfl ?_; (simp only [Act.put, List.setIfInBounds_toArray, List.set_cons_succ, List.set_cons_zero, Nat.reduceAdd]))
            (refine ch_pure rfl (by kernel_rfl) rfl rfl ?_; intro K hK; go_big_quiet_op; go_big_quiet_on)
            refine ch_end ?_
            clear hS
            intro w hS
            have hS2 : St W [bookP _ _, pileR _ _, sats _] w := hS
            clear hS
            have hS := hS2.unpack [_, _]
            clear hS2
            simp only [List.cons_append, List.nil_append] at hS
            go_wp2_with fail
            go_roundw
            case rel => exact ⟨k + 1, rfl, hkl, hS⟩
            case measure => simp [intOf]; omega
          · cases zy
            · by_cases ht : xt = zt
              · subst ht
                have hd : decide (zp ≤ xp) = false := by simpa using hm
                clear hm
                go_wp2_with fail
                refine wp_region_flow2 [0, 0, 3, 7, 15, 31, 63, 63, 255, 511, 1023, 2047, 4095, 8191, 16383, 16383, 65535, 131071, 262143, 16383, 16383, 1589247, 3686399, 7880703, 16777215, 33554431, 67108863, 134217727, 134217727, 536870911, 1073741823, 2147483647, 134217727, 134217727, 13019119615, 30198988799, 64558727167, 137438953471, 274877906943] (fun _ => false) [] [none, none] (by kernel_rfl) (by kernel_rfl) rfl hS CongOk.nil ?_
                intro nd
                iterate 4 (refine ch_pure rfl (by kernel_rfl) rfl rfl ?_; intro K hK; go_big_quiet_op; go_big_quiet_on)
                (apply ch_ld1; rfl; kernel_rfl; (with_reducible rfl); rfl; rfl; decide +kernel; (intro F; exact Cell.there (Cell.rowE Ord.len hil q2)); (simp only [Act.put, List.setIfInBounds_toArray, List.set_cons_succ, List.set_cons_zero, Nat.reduceAdd]))
                (refine ch_pure rfl (by kernel_rfl) rfl rfl ?_; intro K hK; go_big_quiet_op; go_big_quiet_on)
                iterate 4 (refine ch_pure rfl (by kernel_rfl) rfl rfl ?_; intro K hK; go_big_quiet_op; go_big_quiet_on)
                (apply ch_ld1; rfl; kernel_rfl; (with_reducible rfl); rfl; rfl; decide +kernel; (intro F; exact Cell.there (Cell.rowE Ord.len hkl r2)); (simp only [Act.put, List.setIfInBounds_toArray, List.set_cons_succ, List.set_cons_zero, Nat.reduceAdd]))
                iterate 3 (refine ch_pure rfl (by kernel_rfl) rfl rfl ?_; intro K hK; go_big_quiet_op; go_big_quiet_on)
                iterate 4 (refine ch_pure rfl (by kernel_rfl) rfl rfl ?_; intro K hK; go_big_quiet_op; go_big_quiet_on)
                (apply ch_ld1; rfl; kernel_rfl; (with_reducible rfl); rfl; rfl; decide +kernel; (intro F; exact Cell.there (Cell.rowE Ord.len hil q3)); (simp only [Act.put, List.setIfInBounds_toArray, List.set_cons_succ, List.set_cons_zero, Nat.reduceAdd]))
                iterate 4 (refine ch_pure rfl (by kernel_rfl) rfl rfl ?_; intro K hK; go_big_quiet_op; go_big_quiet_on)
                (apply ch_ld1; rfl; kernel_rfl; (with_reducible rfl); rfl; rfl; decide +kernel; (intro F; exact Cell.there (Cell.rowE Ord.len hkl r3)); (simp only [Act.put, List.setIfInBounds_toArray, List.set_cons_succ, List.set_cons_zero, Nat.reduceAdd]))
                iterate 3 (refine ch_pure rfl (by kernel_rfl) rfl rfl ?_; intro K hK; go_big_quiet_op; go_big_quiet_on)
                iterate 4 (refine ch_pure rfl (by kernel_rfl) rfl rfl ?_; intro K hK; go_big_quiet_op; go_big_quiet_on)
                (apply ch_ld1; rfl; kernel_rfl; (with_reducible rfl); rfl; rfl; decide +kernel; (intro F; exact Cell.there (Cell.rowE Ord.len hil q5)); (simp only [Act.put, List.setIfInBounds_toArray, List.set_cons_succ, List.set_cons_zero, Nat.reduceAdd]))
                iterate 4 (refine ch_pure rfl (by kernel_rfl) rfl rfl ?_; intro K hK; go_big_quiet_op; go_big_quiet_on)
                (apply ch_ld1; rfl; kernel_rfl; (with_reducible rfl); rfl; rfl; decide +kernel; (intro F; exact Cell.there (Cell.rowE Ord.len hkl r5)); (simp only [Act.put, List.setIfInBounds_toArray, List.set_cons_succ, List.set_cons_zero, Nat.reduceAdd]))
                iterate 2 (refine ch_pure rfl (by kernel_rfl) rfl rfl ?_; intro K hK; go_big_quiet_op; go_big_quiet_on)
                refine ch_end ?_
                clear hS
                intro w hS
                have hS2 : St W [bookP _ _, pileR _ _, sats _] w := hS
                clear hS
                have hS := hS2.unpack [_, _]
                clear hS2
                simp only [List.cons_append, List.nil_append] at hS
                go_wp2_with fail
                go_roundw
                case rel => exact ⟨k + 1, rfl, hkl, hS⟩
                case measure => simp [intOf]; omega
              · have hb : (xt == zt) = false := by simpa using ht
                clear hm
                go_wp2_with fail
                refine wp_region_flow2 [0, 0, 3, 7, 15, 31, 63, 63, 255, 511, 1023, 2047, 4095, 8191, 16383, 16383, 65535, 131071, 262143, 16383, 16383, 1589247, 3686399, 7880703, 16777215, 33554431, 67108863, 134217727, 134217727, 536870911, 1073741823, 2147483647, 134217727, 134217727, 13019119615, 30198988799, 64558727167, 137438953471, 274877906943] (fun _ => false) [] [none, none] (by kernel_rfl) (by kernel_rfl) rfl hS CongOk.nil ?_
                intro nd
                iterate 4 (refine ch_pure rfl (by kernel_rfl) rfl rfl ?_; intro K hK; go_big_quiet_op; go_big_quiet_on)
                (apply ch_ld1; rfl; kernel_rfl; (with_reducible rfl); rfl; rfl; decide +kernel; (intro F; exact Cell.there (Cell.rowE Ord.len hil q2)); (simp only [Act.put, List.setIfInBounds_toArray, List.set_cons_succ, List.set_cons_zero, Nat.reduceAdd]))
                (refine ch_pure rfl (by kernel_rfl) rfl rfl ?_; intro K hK; go_big_quiet_op; go_big_quiet_on)
                iterate 4 (refine ch_pure rfl (by kernel_rfl) rfl rfl ?_; intro K hK; go_big_quiet_op; go_big_quiet_on)
                (apply ch_ld1; rfl; kernel_rfl; (with_reducible rfl); rfl; rfl; decide +kernel; (intro F; exact Cell.there (Cell.rowE Ord.len hkl r2)); (simp only [Act.put, List.setIfInBounds_toArray, List.set_cons_succ, List.set_cons_zero, Nat.reduceAdd]))
                iterate 3 (refine ch_pure rfl (by kernel_rfl) rfl rfl ?_; intro K hK; go_big_quiet_op; go_big_quiet_on)
                iterate 4 (refine ch_pure rfl (by kernel_rfl) rfl rfl ?_; intro K hK; go_big_quiet_op; go_big_quiet_on)
                (apply ch_ld1; rfl; kernel_rfl; (with_reducible rfl); rfl; rfl; decide +kernel; (intro F; exact Cell.there (Cell.rowE Ord.len hil q3)); (simp only [Act.put, List.setIfInBounds_toArray, List.set_cons_succ, List.set_cons_zero, Nat.reduceAdd]))
                iterate 4 (refine ch_pure rfl (by kernel_rfl) rfl rfl ?_; intro K hK; go_big_quiet_op; go_big_quiet_on)
                (apply ch_ld1; rfl; kernel_rfl; (with_reducible rfl); rfl; rfl; decide +kernel; (intro F; exact Cell.there (Cell.rowE Ord.len hkl r3)); (simp only [Act.put, List.setIfInBounds_toArray, List.set_cons_succ, List.set_cons_zero, Nat.reduceAdd]))
                iterate 3 (refine ch_pure rfl (by kernel_rfl) rfl rfl ?_; intro K hK; go_big_quiet_op; go_big_quiet_on)
                iterate 11 (refine ch_skip (by kernel_rfl) rfl ?_; (simp only [Act.put, List.setIfInBounds_toArray, List.set_cons_succ, List.set_cons_zero, Nat.reduceAdd]))
                (refine ch_pure rfl (by kernel_rfl) rfl rfl ?_; intro K hK; go_big_quiet_op; go_big_quiet_on)
                refine ch_end ?_
                clear hS
                intro w hS
                have hS2 : St W [bookP _ _, pileR _ _, sats _] w := hS
                clear hS
                have hS := hS2.unpack [_, _]
                clear hS2
                simp only [List.cons_append, List.nil_append] at hS
                go_wp2_with fail
                go_roundw
                case rel => exact ⟨k + 1, rfl, hkl, hS⟩
                case measure => simp [intOf]; omega
            · clear hm
              go_wp2_with fail
              refine wp_region_flow2 [0, 0, 3, 7, 15, 31, 63, 63, 255, 511, 1023, 2047, 4095, 8191, 16383, 16383, 65535, 131071, 262143, 16383, 16383, 1589247, 3686399, 7880703, 16777215, 33554431, 67108863, 134217727, 134217727, 536870911, 1073741823, 2147483647, 134217727, 134217727, 13019119615, 30198988799, 64558727167, 137438953471, 274877906943] (fun _ => false) [] [none, none] (by kernel_rfl) (by kernel_rfl) rfl hS CongOk.nil ?_
              intro nd
              iterate 4 (refine ch_pure rfl (by kernel_rfl) rfl rfl ?_; intro K hK; go_big_quiet_op; go_big_quiet_on)
              (apply ch_ld1; rfl; kernel_rfl; (with_reducible rfl); rfl; rfl; decide +kernel; (intro F; exact Cell.there (Cell.rowE Ord.len hil q2)); (simp only [Act.put, List.setIfInBounds_toArray, List.set_cons_succ, List.set_cons_zero, Nat.reduceAdd]))
              (refine ch_pure rfl (by kernel_rfl) rfl rfl ?_; intro K hK; go_big_quiet_op; go_big_quiet_on)
              iterate 4 (refine ch_pure rfl (by kernel_rfl) rfl rfl ?_; intro K hK; go_big_quiet_op; go_big_quiet_on)
              (apply ch_ld1; rfl; kernel_rfl; (with_reducible rfl); rfl; rfl; decide +kernel; (intro F; exact Cell.there (Cell.rowE Ord.len hkl r2)); (simp only [Act.put, List.setIfInBounds_toArray, List.set_cons_succ, List.set_cons_zero, Nat.reduceAdd]))
              iterate 3 (refine ch_pure rfl (by kernel_rfl) rfl rfl ?_; intro K hK; go_big_quiet_op; go_big_quiet_on)
              iterate 11 (refine ch_skip (by kernel_rfl) rfl ?_; (simp only [Act.put, List.setIfInBounds_toArray, List.set_cons_succ, List.set_cons_zero, Nat.reduceAdd]))
              iterate 2 (refine ch_pure rfl (by kernel_rfl) rfl rfl ?_; intro K hK; go_big_quiet_op; go_big_quiet_on)
              iterate 11 (refine ch_skip (by kernel_rfl) rfl ?_; (simp only [Act.put, List.setIfInBounds_toArray, List.set_cons_succ, List.set_cons_zero, Nat.reduceAdd]))
              (refine ch_pure rfl (by kernel_rfl) rfl rfl ?_; intro K hK; go_big_quiet_op; go_big_quiet_on)
              refine ch_end ?_
              clear hS
              intro w hS
              have hS2 : St W [bookP _ _, pileR _ _, sats _] w := hS
              clear hS
              have hS := hS2.unpack [_, _]
              clear hS2
              simp only [List.cons_append, List.nil_append] at hS
              go_wp2_with fail
              go_roundw
              case rel => exact ⟨k + 1, rfl, hkl, hS⟩
              case measure => simp [intOf]; omega
end Go.Proofs.Ytihciopankhjgaa
