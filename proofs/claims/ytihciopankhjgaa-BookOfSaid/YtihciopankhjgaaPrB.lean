/-
  BookPrices: the walk. For every script.
-/
import Derived.Test.YtihciopankhjgaaPrA
import Derived.Test.YtihciopankhjgaaActs
set_option linter.unusedSimpArgs false
set_option linter.unusedVariables false
namespace Go.Proofs.Ytihciopankhjgaa
open Go.RowKit Go.Sl
/-- What an act of a script holds, cell by cell. -/
structure ActAt (V : World) (b off : Nat) (x : Actn) : Prop where
  kind : V.cell? ⟨b, off, none⟩ = some (.int .i64 x.kind)
  n : V.cell? ⟨b, off + 1, none⟩ = some (.int .i64 x.n)
  buy : V.cell? ⟨b, off + 4, none⟩ = some (.bool x.o.buy)
  item : V.cell? ⟨b, off + 5, none⟩ = some (.int .i64 x.o.item)
  cnt : V.cell? ⟨b, off + 6, none⟩ = some (.int .i64 x.o.cnt)
  price : V.cell? ⟨b, off + 7, none⟩ = some (.int .i64 x.o.price)
  all : ∀ (j : Nat) (v : Value), x.o.cells[j]? = some v → V.cell? ⟨b, off + 2 + j, none⟩ = some v
theorem SliceV.act {V : World} {v : Value} {xs : List Actn} (h : SliceV Actn.cells 8 V v xs) : ∃ a cap, v = .slice a xs.length cap ∧ xs.length ≤ 9223372036854775807 ∧ ∀ i (h : i < xs.length), ∃ b off, a = some ⟨b, off, none⟩ ∧ ActAt V b (off + i * 8) xs[i] := by
  obtain ⟨a, cap, hv, h63, hc⟩ := h
  refine ⟨a, cap, hv, h63, fun i hi => ?_⟩
  obtain ⟨b, off, ha, hj⟩ := hc i hi
  refine ⟨b, off, ha, hj 0 _ rfl, hj 1 _ rfl, hj 4 _ rfl, hj 5 _ rfl, hj 6 _ rfl, hj 7 _ rfl, fun j v hv => ?_⟩
  have := hj (2 + j) v (by rw [Nat.add_comm]; exact hv)
  rwa [← Nat.add_assoc] at this
def ScrR (W : World) (Lr : List HP) (n bb : Nat) (v : Value) (w : World) : Prop :=
  ∃ (i : Nat) (b : Bk) (L : List Ord), v = .int .i64 i ∧ i ≤ n ∧ i ≤ 120 ∧ Rep b L ∧ St W (bookP bb b :: Lr) w
def PtoR (W : World) (Lr : List HP) (L : List Ord) (id : Int) (v11 v12 : Value) (w : World) : Prop :=
  ∃ j : Nat, v11 = .int .i64 (pTo L id j) ∧ v12 = .int .i64 j ∧ j ≤ L.length ∧ St W Lr w
set_option maxRecDepth 100000 in
set_option maxHeartbeats 8000000 in
theorem prices_spec (xs : List Actn) (v : Value) (V : World) (hv : SliceV Actn.cells 8 V v xs) (W w : World) (Lr : List HP) (hS : St W (Old V :: Lr) w) :
    Calls Try.prog 11 #[v] w fun e w' => e = .returned (.bool true) ∧ St W (Old V :: Lr) w' := by
  obtain ⟨a, cap, rfl, h63, hact⟩ := hv.act
  have Ha := Lib.hid hact
  clear hact
  go_enter Try.func11, Try.ntmps11
  go_wp2_with (first | (go_at_call 13; refine (new_book W _ _ hS).mono ?_; clear hS; rintro e w ⟨b2, rfl, hS⟩))
  go_loopw [4] (fun v wr => ScrR W (Old V :: Lr) xs.length b2 v wr) (fun v _ => xs.length - (intOf v).toNat)
  case atStart => exact ⟨0, bk0, [], rfl, by omega, by omega, rep0, hS⟩
  case round =>
    clear hS
    obtain ⟨i, b1, L, rfl, hi, hi120, hrep, hS⟩ := hrel
    by_cases hend : i = xs.length ∨ i = 120
    · have Hr := Lib.hid hrep
      clear hrep
      rcases hend with hend | hend
      · subst hend
        go_wp2_with (first | (go_at_call 12; refine (known_spec W _ _ hS).mono ?_; clear hS; rintro e w ⟨rfl, hS⟩))
        all_goals go_ret
        all_goals exact ⟨rfl, hS.drop⟩
      · subst hend
        by_cases hlt : 120 < xs.length
        · go_wp2_with (first | (go_at_call 12; refine (known_spec W _ _ hS).mono ?_; clear hS; rintro e w ⟨rfl, hS⟩))
          all_goals go_ret
          all_goals exact ⟨rfl, hS.drop⟩
        · have hx : xs.length = 120 := by omega
          rw [hx] at *
          go_wp2_with (first | (go_at_call 12; refine (known_spec W _ _ hS).mono ?_; clear hS; rintro e w ⟨rfl, hS⟩))
          all_goals go_ret
          all_goals exact ⟨rfl, hS.drop⟩
    · have hil : i < xs.length := by omega
      have hi2 : i < 120 := by omega
      clear hend hi hi120
      obtain ⟨pb, poff, rfl, hA⟩ := Ha.out i hil
      obtain ⟨ck, cn, cb, cit, cc, cp, call⟩ := hA
      generalize xs[i] = x at ck cn cb cit cc cp call
      obtain ⟨kd, nn, ⟨oi, ou, oy, ot, oc, op⟩⟩ := x
      simp only at ck cn cb cit cc cp call
      have Hr := Lib.hid hrep
      have hlen : L.length ≤ 32 := by have := hrep.ok.few; rw [len_flat _ hrep.ok.n8, ← hrep.perm.length_eq] at this; exact this
      clear hrep
      by_cases hkd : kd = 1
      · subst hkd
        go_wp2_with (first | ((with_reducible apply wl_ld1 hS); (with_reducible rfl); rfl; rfl; decide +kernel; (first | exact Cell.old .head ck | exact Cell.old (.tail .head) ck | exact Cell.old (.tail (.tail .head)) ck | exact Cell.old (.tail (.tail (.tail .head))) ck | exact Cell.old (.tail (.tail (.tail (.tail .head)))) ck | exact Cell.old (.tail (.tail (.tail (.tail (.tail .head))))) ck); (simp only [Act.put, List.setIfInBounds_toArray, List.set_cons_succ, List.set_cons_zero, Nat.reduceAdd])) | (go_at_call 22; refine (list_at b2 Hr.out W _ _ hS).mono ?_; clear hS; rintro e w ⟨la, lc, rfl, hS⟩) | ((with_reducible apply wl_ldN hS); (with_reducible rfl); rfl; rfl; decide +kernel; (first | exact Cells.old .head call | exact Cells.old (.tail .head) call | exact Cells.old (.tail (.tail .head)) call | exact Cells.old (.tail (.tail (.tail .head))) call); kernel_rfl; (simp only [Act.put, List.setIfInBounds_toArray, List.set_cons_succ, List.set_cons_zero, Nat.reduceAdd])) | (go_at_call 14; refine (place_at b2 Hr.out ⟨oi, ou, oy, ot, oc, op⟩ W _ _ hS).mono ?_; clear hS; rintro e w ⟨b3, ts, ta, tc, ⟨-, -, hrep, htr⟩, rfl, hS⟩; have Hrep := Lib.hid hrep; have Htr := Lib.hid htr; clear hrep htr))
        go_loopw [9] (fun v wr => Gone3 W (bookP b2 b3 :: tradesR (.slice ta ts.length tc) ts :: pileR (.slice la L.length lc) L :: Old V :: Lr) ts.length v wr) (fun v _ => ts.length - (intOf v).toNat)
        case atStart => exact ⟨0, rfl, by omega, hS⟩
        case round =>
          clear hS
          obtain ⟨k, rfl, hk, hS⟩ := hrel
          by_cases hkn : k = ts.length
          · subst hkn
            go_wp2_with fail
            go_roundw
            case rel => exact ⟨i + 1, b3, _, rfl, hil, hi2, Hrep.out, hS.swap.drop.swap.drop⟩
            case measure => simp [intOf]; omega
          · have hkl : k < ts.length := by omega
            clear hkn hk
            obtain ⟨⟨tg, rfl⟩, htc, htn⟩ := St.rowAddr hS.drop (by omega)
            obtain ⟨x, hxL, hok⟩ := Htr.out ts[k] (List.getElem_mem hkl)
            have hp := pTo_mem Hr.out.byId hxL
            have hb1 := hok.buys
            have hb2 := hok.sells
            have f6 : (Trd.cells ts[k])[6]? = some (.int .i64 x.price) := by rw [← hok.price]; rfl
            have f7 : (Trd.cells ts[k])[7]? = some (.int .i64 ts[k].bid) := rfl
            have f3 : (Trd.cells ts[k])[3]? = some (.int .i64 ts[k].sell) := rfl
            have f2 : (Trd.cells ts[k])[2]? = some (.int .i64 ts[k].buy) := rfl
            generalize ts[k].bid = bid at f7 hb1 hb2
            generalize ts[k].sell = sl at f3 hb1 hb2
            generalize ts[k].buy = by' at f2 hb1 hb2
            clear hok hxL
            generalize x.price = pr at f6 hp hb1 hb2
            generalize x.id = xid at hp hb1 hb2
            have Hp := Lib.hid hp
            clear hp
            cases oy
            · obtain ⟨rfl, rfl, hle⟩ := hb2 rfl
              clear hb1 hb2
              have hd1 : decide (bid < bid) = false := by simp
              have hd2 : decide (bid < op) = false := by simp; omega
              go_wp2_with (first | ((with_reducible apply wl_ld1 hS); (with_reducible rfl); rfl; rfl; decide +kernel; (exact Cell.there (Cell.rowE Trd.len hkl f3)); (simp only [Act.put, List.setIfInBounds_toArray, List.set_cons_succ, List.set_cons_zero, Nat.reduceAdd])) | ((with_reducible apply wl_ld1 hS); (with_reducible rfl); rfl; rfl; decide +kernel; (exact Cell.there (Cell.rowE Trd.len hkl f2)); (simp only [Act.put, List.setIfInBounds_toArray, List.set_cons_succ, List.set_cons_zero, Nat.reduceAdd])) | ((with_reducible apply wl_ld1 hS); (with_reducible rfl); rfl; rfl; decide +kernel; (first | exact Cell.old .head cb | exact Cell.old (.tail .head) cb | exact Cell.old (.tail (.tail .head)) cb | exact Cell.old (.tail (.tail (.tail .head))) cb | exact Cell.old (.tail (.tail (.tail (.tail .head)))) cb | exact Cell.old (.tail (.tail (.tail (.tail (.tail .head))))) cb); (simp only [Act.put, List.setIfInBounds_toArray, List.set_cons_succ, List.set_cons_zero, Nat.reduceAdd])))
              go_loopw [11, 12] (fun v1 v2 wr => PtoR W (bookP b2 b3 :: tradesR (.slice (some ⟨tg, 0, none⟩) ts.length tc) ts :: pileR (.slice la L.length lc) L :: Old V :: Lr) L by' v1 v2 wr) (fun _ v _ => L.length - (intOf v).toNat)
              case atStart => exact ⟨0, rfl, rfl, by omega, hS⟩
              case round =>
                clear hS
                obtain ⟨m, rfl, rfl, hm, hS⟩ := hrel
                by_cases hmn : m < L.length
                · obtain ⟨⟨lg, rfl⟩, hlc, hln⟩ := St.rowAddr hS.drop.drop (by omega)
                  have q0 : (Ord.cells L[m])[0]? = some (.int .i64 L[m].id) := rfl
                  have q5 : (Ord.cells L[m])[5]? = some (.int .i64 L[m].price) := rfl
                  by_cases hid : L[m].id = by'
                  · have hst := pTo_step_yes (L := L) (n := m) (id := by') (by rw [at'_get hmn]; exact hid)
                    rw [at'_get hmn] at hst
                    have hst2 := Lib.hid hst
                    rw [hid] at q0
                    clear hst hid
                    generalize L[m].price = qp at q5 hst2
                    go_wp2_with (first | ((with_reducible apply wl_ld1 hS); (with_reducible rfl); rfl; rfl; decide +kernel; (exact Cell.there (Cell.there (Cell.rowE Ord.len hmn q0))); (simp only [Act.put, List.setIfInBounds_toArray, List.set_cons_succ, List.set_cons_zero, Nat.reduceAdd])) | ((with_reducible apply wl_ld1 hS); (with_reducible rfl); rfl; rfl; decide +kernel; (exact Cell.there (Cell.there (Cell.rowE Ord.len hmn q5))); (simp only [Act.put, List.setIfInBounds_toArray, List.set_cons_succ, List.set_cons_zero, Nat.reduceAdd])))
                    go_roundw
                    case rel => exact ⟨m + 1, by rw [hst2.out], rfl, hmn, hS⟩
                    case measure => simp [intOf]; omega
                  · have hst2 := Lib.hid (pTo_step_no (L := L) (n := m) (id := by') (by rw [at'_get hmn]; exact hid))
                    have hbf : (L[m].id == by') = false := by simpa using hid
                    generalize L[m].id = qi at q0 hbf
                    clear hid
                    go_wp2_with (first | ((with_reducible apply wl_ld1 hS); (with_reducible rfl); rfl; rfl; decide +kernel; (exact Cell.there (Cell.there (Cell.rowE Ord.len hmn q0))); (simp only [Act.put, List.setIfInBounds_toArray, List.set_cons_succ, List.set_cons_zero, Nat.reduceAdd])))
                    go_roundw
                    case rel => exact ⟨m + 1, by rw [hst2.out], rfl, hmn, hS⟩
                    case measure => simp [intOf]; omega
                have hme : m = L.length := by omega
                subst hme
                rw [Hp.out]
                clear hm hmn
                go_wp2_with fail
                refine wp_region_flow2 [0, 0, 3, 7, 15, 0, 63, 127, 255, 255, 1023, 2047, 4095, 255, 255, 24831, 57599, 123135, 262143, 524287, 1048575, 2097151, 2097151, 8388607, 16777215, 33554431, 67108863, 134217727, 268435455, 268435455, 1073741823, 2147483647, 4294967295, 268435455, 268435455, 26038239231, 60397977599, 129117454335, 266556407807, 549755813887, 1099511627775, 2199023255551, 4398046511103, 8796093022207, 8796093022207, 35184372088831, 70368744177663, 140737488355327, 281474976710655, 562949953421311, 1125899906842623, 2251799813685247, 2251799813685247, 9007199254740991, 18014398509481983, 36028797018963967, 2251799813685247, 2251799813685247, 218424581927469055, 506654958079180799, 1083115710382604287, 2236037214989451263, 4611686018427387903, 9223372036854775807, 18446744073709551615] (fun _ => false) [] [none, none, none, none] (by kernel_rfl) (by kernel_rfl) rfl hS CongOk.nil ?_
                intro nd
                iterate 4 (refine ch_pure rfl (by kernel_rfl) rfl rfl ?_; intro K hK; go_big_quiet_op; go_big_quiet_on)
                (apply ch_ld1; rfl; kernel_rfl; (with_reducible rfl); rfl; rfl; decide +kernel; (intro F; exact Cell.there (Cell.rowE Trd.len hkl f6)); (simp only [Act.put, List.setIfInBounds_toArray, List.set_cons_succ, List.set_cons_zero, Nat.reduceAdd]))
                iterate 3 (refine ch_pure rfl (by kernel_rfl) rfl rfl ?_; intro K hK; go_big_quiet_op; go_big_quiet_on)
                iterate 4 (refine ch_pure rfl (by kernel_rfl) rfl rfl ?_; intro K hK; go_big_quiet_op; go_big_quiet_on)
                (apply ch_ld1; rfl; kernel_rfl; (with_reducible rfl); rfl; rfl; decide +kernel; (intro F; exact Cell.there (Cell.rowE Trd.len hkl f7)); (simp only [Act.put, List.setIfInBounds_toArray, List.set_cons_succ, List.set_cons_zero, Nat.reduceAdd]))
                iterate 4 (refine ch_pure rfl (by kernel_rfl) rfl rfl ?_; intro K hK; go_big_quiet_op; go_big_quiet_on)
                (apply ch_ld1; rfl; kernel_rfl; (with_reducible rfl); rfl; rfl; decide +kernel; (intro F; exact Cell.there (Cell.rowE Trd.len hkl f6)); (simp only [Act.put, List.setIfInBounds_toArray, List.set_cons_succ, List.set_cons_zero, Nat.reduceAdd]))
                iterate 3 (refine ch_pure rfl (by kernel_rfl) rfl rfl ?_; intro K hK; go_big_quiet_op; go_big_quiet_on)
                iterate 5 (refine ch_pure rfl (by kernel_rfl) rfl rfl ?_; intro K hK; go_big_quiet_op; go_big_quiet_on)
                (apply ch_ld1; rfl; kernel_rfl; (with_reducible rfl); rfl; rfl; decide +kernel; (intro F; first | exact Cell.old .head cb | exact Cell.old (.tail .head) cb | exact Cell.old (.tail (.tail .head)) cb | exact Cell.old (.tail (.tail (.tail .head))) cb | exact Cell.old (.tail (.tail (.tail (.tail .head)))) cb | exact Cell.old (.tail (.tail (.tail (.tail (.tail .head))))) cb); (simp only [Act.put, List.setIfInBounds_toArray, List.set_cons_succ, List.set_cons_zero, Nat.reduceAdd]))
                (refine ch_pure rfl (by kernel_rfl) rfl rfl ?_; intro K hK; go_big_quiet_op; go_big_quiet_on)
                iterate 12 (refine ch_skip (by kernel_rfl) rfl ?_; (simp only [Act.put, List.setIfInBounds_toArray, List.set_cons_succ, List.set_cons_zero, Nat.reduceAdd]))
                iterate 3 (refine ch_pure rfl (by kernel_rfl) rfl rfl ?_; intro K hK; go_big_quiet_op; go_big_quiet_on)
                iterate 5 (refine ch_pure rfl (by kernel_rfl) rfl rfl ?_; intro K hK; go_big_quiet_op; go_big_quiet_on)
                (apply ch_ld1; rfl; kernel_rfl; (with_reducible rfl); rfl; rfl; decide +kernel; (intro F; first | exact Cell.old .head cb | exact Cell.old (.tail .head) cb | exact Cell.old (.tail (.tail .head)) cb | exact Cell.old (.tail (.tail (.tail .head))) cb | exact Cell.old (.tail (.tail (.tail (.tail .head)))) cb | exact Cell.old (.tail (.tail (.tail (.tail (.tail .head))))) cb); (simp only [Act.put, List.setIfInBounds_toArray, List.set_cons_succ, List.set_cons_zero, Nat.reduceAdd]))
                iterate 2 (refine ch_pure rfl (by kernel_rfl) rfl rfl ?_; intro K hK; go_big_quiet_op; go_big_quiet_on)
                iterate 4 (refine ch_pure rfl (by kernel_rfl) rfl rfl ?_; intro K hK; go_big_quiet_op; go_big_quiet_on)
                (apply ch_ld1; rfl; kernel_rfl; (with_reducible rfl); rfl; rfl; decide +kernel; (intro F; exact Cell.there (Cell.rowE Trd.len hkl f6)); (simp only [Act.put, List.setIfInBounds_toArray, List.set_cons_succ, List.set_cons_zero, Nat.reduceAdd]))
                iterate 5 (refine ch_pure rfl (by kernel_rfl) rfl rfl ?_; intro K hK; go_big_quiet_op; go_big_quiet_on)
                (apply ch_ld1; rfl; kernel_rfl; (with_reducible rfl); rfl; rfl; decide +kernel; (intro F; first | exact Cell.old .head cp | exact Cell.old (.tail .head) cp | exact Cell.old (.tail (.tail .head)) cp | exact Cell.old (.tail (.tail (.tail .head))) cp | exact Cell.old (.tail (.tail (.tail (.tail .head)))) cp | exact Cell.old (.tail (.tail (.tail (.tail (.tail .head))))) cp); (simp only [Act.put, List.setIfInBounds_toArray, List.set_cons_succ, List.set_cons_zero, Nat.reduceAdd]))
                iterate 3 (refine ch_pure rfl (by kernel_rfl) rfl rfl ?_; intro K hK; go_big_quiet_op; go_big_quiet_on)
                refine ch_end ?_
                clear hS
                intro w hS
                have hS2 : St W [bookP _ _, tradesR _ _, pileR _ _, Old _, sats _] w := hS
                clear hS
                have hS := hS2.unpack [_, _, _, _]
                clear hS2
                simp only [List.cons_append, List.nil_append] at hS
                go_wp2_with fail
                go_roundw
                case rel => exact ⟨k + 1, rfl, hkl, hS⟩
                case measure => simp [intOf]; omega
            · obtain ⟨rfl, rfl, hle⟩ := hb1 rfl
              clear hb1 hb2
              have hd1 : decide (bid < pr) = false := by simp; omega
              go_wp2_with (first | ((with_reducible apply wl_ld1 hS); (with_reducible rfl); rfl; rfl; decide +kernel; (exact Cell.there (Cell.rowE Trd.len hkl f3)); (simp only [Act.put, List.setIfInBounds_toArray, List.set_cons_succ, List.set_cons_zero, Nat.reduceAdd])) | ((with_reducible apply wl_ld1 hS); (with_reducible rfl); rfl; rfl; decide +kernel; (exact Cell.there (Cell.rowE Trd.len hkl f2)); (simp only [Act.put, List.setIfInBounds_toArray, List.set_cons_succ, List.set_cons_zero, Nat.reduceAdd])) | ((with_reducible apply wl_ld1 hS); (with_reducible rfl); rfl; rfl; decide +kernel; (first | exact Cell.old .head cb | exact Cell.old (.tail .head) cb | exact Cell.old (.tail (.tail .head)) cb | exact Cell.old (.tail (.tail (.tail .head))) cb | exact Cell.old (.tail (.tail (.tail (.tail .head)))) cb | exact Cell.old (.tail (.tail (.tail (.tail (.tail .head))))) cb); (simp only [Act.put, List.setIfInBounds_toArray, List.set_cons_succ, List.set_cons_zero, Nat.reduceAdd])))
              go_loopw [11, 12] (fun v1 v2 wr => PtoR W (bookP b2 b3 :: tradesR (.slice (some ⟨tg, 0, none⟩) ts.length tc) ts :: pileR (.slice la L.length lc) L :: Old V :: Lr) L sl v1 v2 wr) (fun _ v _ => L.length - (intOf v).toNat)
              case atStart => exact ⟨0, rfl, rfl, by omega, hS⟩
              case round =>
                clear hS
                obtain ⟨m, rfl, rfl, hm, hS⟩ := hrel
                by_cases hmn : m < L.length
                · obtain ⟨⟨lg, rfl⟩, hlc, hln⟩ := St.rowAddr hS.drop.drop (by omega)
                  have q0 : (Ord.cells L[m])[0]? = some (.int .i64 L[m].id) := rfl
                  have q5 : (Ord.cells L[m])[5]? = some (.int .i64 L[m].price) := rfl
                  by_cases hid : L[m].id = sl
                  · have hst := pTo_step_yes (L := L) (n := m) (id := sl) (by rw [at'_get hmn]; exact hid)
                    rw [at'_get hmn] at hst
                    have hst2 := Lib.hid hst
                    rw [hid] at q0
                    clear hst hid
                    generalize L[m].price = qp at q5 hst2
                    go_wp2_with (first | ((with_reducible apply wl_ld1 hS); (with_reducible rfl); rfl; rfl; decide +kernel; (exact Cell.there (Cell.there (Cell.rowE Ord.len hmn q0))); (simp only [Act.put, List.setIfInBounds_toArray, List.set_cons_succ, List.set_cons_zero, Nat.reduceAdd])) | ((with_reducible apply wl_ld1 hS); (with_reducible rfl); rfl; rfl; decide +kernel; (exact Cell.there (Cell.there (Cell.rowE Ord.len hmn q5))); (simp only [Act.put, List.setIfInBounds_toArray, List.set_cons_succ, List.set_cons_zero, Nat.reduceAdd])))
                    go_roundw
                    case rel => exact ⟨m + 1, by rw [hst2.out], rfl, hmn, hS⟩
                    case measure => simp [intOf]; omega
                  · have hst2 := Lib.hid (pTo_step_no (L := L) (n := m) (id := sl) (by rw [at'_get hmn]; exact hid))
                    have hbf : (L[m].id == sl) = false := by simpa using hid
                    generalize L[m].id = qi at q0 hbf
                    clear hid
                    go_wp2_with (first | ((with_reducible apply wl_ld1 hS); (with_reducible rfl); rfl; rfl; decide +kernel; (exact Cell.there (Cell.there (Cell.rowE Ord.len hmn q0))); (simp only [Act.put, List.setIfInBounds_toArray, List.set_cons_succ, List.set_cons_zero, Nat.reduceAdd])))
                    go_roundw
                    case rel => exact ⟨m + 1, by rw [hst2.out], rfl, hmn, hS⟩
                    case measure => simp [intOf]; omega
                have hme : m = L.length := by omega
                subst hme
                rw [Hp.out]
                clear hm hmn
                go_wp2_with fail
                refine wp_region_flow2 [0, 0, 3, 7, 15, 0, 63, 127, 255, 255, 1023, 2047, 4095, 255, 255, 24831, 57599, 123135, 262143, 524287, 1048575, 2097151, 2097151, 8388607, 16777215, 33554431, 67108863, 134217727, 268435455, 268435455, 1073741823, 2147483647, 4294967295, 268435455, 268435455, 26038239231, 60397977599, 129117454335, 266556407807, 549755813887, 1099511627775, 2199023255551, 4398046511103, 8796093022207, 8796093022207, 35184372088831, 70368744177663, 140737488355327, 281474976710655, 562949953421311, 1125899906842623, 2251799813685247, 2251799813685247, 9007199254740991, 18014398509481983, 36028797018963967, 2251799813685247, 2251799813685247, 218424581927469055, 506654958079180799, 1083115710382604287, 2236037214989451263, 4611686018427387903, 9223372036854775807, 18446744073709551615] (fun _ => false) [] [none, none, none, none] (by kernel_rfl) (by kernel_rfl) rfl hS CongOk.nil ?_
                intro nd
                iterate 4 (refine ch_pure rfl (by kernel_rfl) rfl rfl ?_; intro K hK; go_big_quiet_op; go_big_quiet_on)
                (apply ch_ld1; rfl; kernel_rfl; (with_reducible rfl); rfl; rfl; decide +kernel; (intro F; exact Cell.there (Cell.rowE Trd.len hkl f6)); (simp only [Act.put, List.setIfInBounds_toArray, List.set_cons_succ, List.set_cons_zero, Nat.reduceAdd]))
                iterate 3 (refine ch_pure rfl (by kernel_rfl) rfl rfl ?_; intro K hK; go_big_quiet_op; go_big_quiet_on)
                iterate 4 (refine ch_pure rfl (by kernel_rfl) rfl rfl ?_; intro K hK; go_big_quiet_op; go_big_quiet_on)
                (apply ch_ld1; rfl; kernel_rfl; (with_reducible rfl); rfl; rfl; decide +kernel; (intro F; exact Cell.there (Cell.rowE Trd.len hkl f7)); (simp only [Act.put, List.setIfInBounds_toArray, List.set_cons_succ, List.set_cons_zero, Nat.reduceAdd]))
                iterate 4 (refine ch_pure rfl (by kernel_rfl) rfl rfl ?_; intro K hK; go_big_quiet_op; go_big_quiet_on)
                (apply ch_ld1; rfl; kernel_rfl; (with_reducible rfl); rfl; rfl; decide +kernel; (intro F; exact Cell.there (Cell.rowE Trd.len hkl f6)); (simp only [Act.put, List.setIfInBounds_toArray, List.set_cons_succ, List.set_cons_zero, Nat.reduceAdd]))
                iterate 3 (refine ch_pure rfl (by kernel_rfl) rfl rfl ?_; intro K hK; go_big_quiet_op; go_big_quiet_on)
                iterate 5 (refine ch_pure rfl (by kernel_rfl) rfl rfl ?_; intro K hK; go_big_quiet_op; go_big_quiet_on)
                (apply ch_ld1; rfl; kernel_rfl; (with_reducible rfl); rfl; rfl; decide +kernel; (intro F; first | exact Cell.old .head cb | exact Cell.old (.tail .head) cb | exact Cell.old (.tail (.tail .head)) cb | exact Cell.old (.tail (.tail (.tail .head))) cb | exact Cell.old (.tail (.tail (.tail (.tail .head)))) cb | exact Cell.old (.tail (.tail (.tail (.tail (.tail .head))))) cb); (simp only [Act.put, List.setIfInBounds_toArray, List.set_cons_succ, List.set_cons_zero, Nat.reduceAdd]))
                (refine ch_pure rfl (by kernel_rfl) rfl rfl ?_; intro K hK; go_big_quiet_op; go_big_quiet_on)
                iterate 4 (refine ch_pure rfl (by kernel_rfl) rfl rfl ?_; intro K hK; go_big_quiet_op; go_big_quiet_on)
                (apply ch_ld1; rfl; kernel_rfl; (with_reducible rfl); rfl; rfl; decide +kernel; (intro F; exact Cell.there (Cell.rowE Trd.len hkl f7)); (simp only [Act.put, List.setIfInBounds_toArray, List.set_cons_succ, List.set_cons_zero, Nat.reduceAdd]))
                iterate 5 (refine ch_pure rfl (by kernel_rfl) rfl rfl ?_; intro K hK; go_big_quiet_op; go_big_quiet_on)
                (apply ch_ld1; rfl; kernel_rfl; (with_reducible rfl); rfl; rfl; decide +kernel; (intro F; first | exact Cell.old .head cp | exact Cell.old (.tail .head) cp | exact Cell.old (.tail (.tail .head)) cp | exact Cell.old (.tail (.tail (.tail .head))) cp | exact Cell.old (.tail (.tail (.tail (.tail .head)))) cp | exact Cell.old (.tail (.tail (.tail (.tail (.tail .head))))) cp); (simp only [Act.put, List.setIfInBounds_toArray, List.set_cons_succ, List.set_cons_zero, Nat.reduceAdd]))
                iterate 4 (refine ch_pure rfl (by kernel_rfl) rfl rfl ?_; intro K hK; go_big_quiet_op; go_big_quiet_on)
                iterate 5 (refine ch_pure rfl (by kernel_rfl) rfl rfl ?_; intro K hK; go_big_quiet_op; go_big_quiet_on)
                (apply ch_ld1; rfl; kernel_rfl; (with_reducible rfl); rfl; rfl; decide +kernel; (intro F; first | exact Cell.old .head cb | exact Cell.old (.tail .head) cb | exact Cell.old (.tail (.tail .head)) cb | exact Cell.old (.tail (.tail (.tail .head))) cb | exact Cell.old (.tail (.tail (.tail (.tail .head)))) cb | exact Cell.old (.tail (.tail (.tail (.tail (.tail .head))))) cb); (simp only [Act.put, List.setIfInBounds_toArray, List.set_cons_succ, List.set_cons_zero, Nat.reduceAdd]))
                iterate 2 (refine ch_pure rfl (by kernel_rfl) rfl rfl ?_; intro K hK; go_big_quiet_op; go_big_quiet_on)
                iterate 12 (refine ch_skip (by kernel_rfl) rfl ?_; (simp only [Act.put, List.setIfInBounds_toArray, List.set_cons_succ, List.set_cons_zero, Nat.reduceAdd]))
                iterate 2 (refine ch_pure rfl (by kernel_rfl) rfl rfl ?_; intro K hK; go_big_quiet_op; go_big_quiet_on)
                refine ch_end ?_
                clear hS
                intro w hS
                have hS2 : St W [bookP _ _, tradesR _ _, pileR _ _, Old _, sats _] w := hS
                clear hS
                have hS := hS2.unpack [_, _, _, _]
                clear hS2
                simp only [List.cons_append, List.nil_append] at hS
                go_wp2_with fail
                go_roundw
                case rel => exact ⟨k + 1, rfl, hkl, hS⟩
                case measure => simp [intOf]; omega
      · have hkd2 : (kd == 1) = false := by simpa using hkd
        have hkd3 : (kd != 1) = true := by simpa using hkd
        go_wp2_with (first | ((with_reducible apply wl_ld1 hS); (with_reducible rfl); rfl; rfl; decide +kernel; (first | exact Cell.old .head ck | exact Cell.old (.tail .head) ck | exact Cell.old (.tail (.tail .head)) ck | exact Cell.old (.tail (.tail (.tail .head))) ck | exact Cell.old (.tail (.tail (.tail (.tail .head)))) ck | exact Cell.old (.tail (.tail (.tail (.tail (.tail .head))))) ck); (simp only [Act.put, List.setIfInBounds_toArray, List.set_cons_succ, List.set_cons_zero, Nat.reduceAdd])) | ((with_reducible apply wl_ld1 hS); (with_reducible rfl); rfl; rfl; decide +kernel; (first | exact Cell.old .head cn | exact Cell.old (.tail .head) cn | exact Cell.old (.tail (.tail .head)) cn | exact Cell.old (.tail (.tail (.tail .head))) cn | exact Cell.old (.tail (.tail (.tail (.tail .head)))) cn | exact Cell.old (.tail (.tail (.tail (.tail (.tail .head))))) cn); (simp only [Act.put, List.setIfInBounds_toArray, List.set_cons_succ, List.set_cons_zero, Nat.reduceAdd])) | (go_at_call 17; refine (cancel_at b2 Hr.out nn W _ _ hS).mono ?_; clear hS; rintro e w ⟨b', ⟨-, hrep⟩, rfl, hS⟩))
        go_roundw
        case rel => exact ⟨i + 1, b', _, rfl, hil, hi2, hrep, hS⟩
        case measure => simp [intOf]; omega
end Go.Proofs.Ytihciopankhjgaa
