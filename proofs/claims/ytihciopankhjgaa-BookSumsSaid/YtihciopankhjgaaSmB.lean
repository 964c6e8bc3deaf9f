/-
  BookSums: the walk. For every script.
-/
import Derived.Test.YtihciopankhjgaaSmA
import Derived.Test.YtihciopankhjgaaPrB
set_option linter.unusedSimpArgs false
set_option linter.unusedVariables false
namespace Go.Proofs.Ytihciopankhjgaa
open Go.RowKit Go.Sl
def SumR (W : World) (Lr : List HP) (n bb nb : Nat) (v : Value) (w : World) : Prop :=
  ∃ (i : Nat) (b : Bk) (L : List Ord), v = .int .i64 i ∧ i ≤ n ∧ i ≤ 120 ∧ Rep b L ∧ St W (bookP bb b :: blk nb (arrL (sumS L)) 59 :: Lr) w
def SumT (W : World) (Lr : List HP) (X Y : HP) (nb : Nat) (g : Nat → Int) (it : Nat) (ts : List Trd) (v : Value) (w : World) : Prop :=
  ∃ j : Nat, v = .int .i64 j ∧ j ≤ ts.length ∧ St W (X :: Y :: blk nb (arrL (gT g it (tsum (ts.take j)))) 59 :: Lr) w
def SumL (W : World) (Lr : List HP) (X Y : HP) (nb : Nat) (L : List Ord) (v : Value) (w : World) : Prop :=
  ∃ j : Nat, v = .int .i64 j ∧ j ≤ L.length ∧ St W (X :: Y :: blk nb (arrL (sumS (L.drop j))) 59 :: Lr) w
theorem gT_two (g : Nat → Int) (it : Nat) (d q : Int) (s : Nat) : (if s = 4 + it then gT g it d (4 + it) - q else if s = it then gT g it d it - q else gT g it d s) = gT g it (d + q) s := by
  unfold gT
  by_cases h1 : s = 4 + it
  · subst h1
    rw [if_pos rfl, if_pos (.inr rfl), if_pos (.inr rfl)]
    omega
  · rw [if_neg h1]
    by_cases h2 : s = it
    · subst h2
      rw [if_pos rfl, if_pos (.inl rfl), if_pos (.inl rfl)]
      omega
    · rw [if_neg h2, if_neg (fun h => h.elim h2 h1), if_neg (fun h => h.elim h2 h1)]
set_option maxRecDepth 100000 in
set_option maxHeartbeats 8000000 in
theorem sums_spec (xs : List Actn) (v : Value) (V : World) (hv : SliceV Actn.cells 8 V v xs) (W w : World) (Lr : List HP) (hS : St W (Old V :: Lr) w) :
    Calls Try.prog 9 #[v] w fun e w' => e = .returned (.bool true) ∧ St W (Old V :: Lr) w' := by
  obtain ⟨a, cap, rfl, h63, hact⟩ := hv.act
  have Ha := Lib.hid hact
  clear hact
  go_enter Try.func9, Try.ntmps9
  go_wp2_with (first | (go_at_call 13; refine (new_book W _ _ hS).mono ?_; clear hS; rintro e w ⟨b2, rfl, hS⟩) | ((with_reducible apply wl_alloc hS); (with_reducible rfl); rfl; (with_reducible first | exact Ty.z3 | exact Ty.z31 | exact Ty.z33 | exact Ty.z59 | exact Ty.z79 | exact Ty.z110); clear hS; intro nb w hS; (simp only [Act.put, List.setIfInBounds_toArray, List.set_cons_succ, List.set_cons_zero, Nat.reduceAdd])))
  replace hS := hS.swap
  go_loopw [5] (fun v wr => SumR W (Old V :: Lr) xs.length b2 nb v wr) (fun v _ => xs.length - (intOf v).toNat)
  case atStart => exact ⟨0, bk0, [], rfl, by omega, by omega, rep0, hS⟩
  case round =>
    clear hS
    obtain ⟨i, b1, L, rfl, hi, hi120, hrep, hS⟩ := hrel
    have hcn : ∀ x ∈ L, 1 ≤ x.cnt ∧ x.cnt ≤ 1048576 := fun x hx => ⟨(hrep.each x hx).1.cnt0, (hrep.each x hx).1.cnt1⟩
    have hlen : L.length ≤ 32 := by have := hrep.ok.few; rw [len_flat _ hrep.ok.n8, ← hrep.perm.length_eq] at this; exact this
    have hbd : ∀ s, 0 ≤ sumS L s ∧ sumS L s ≤ 33554432 := fun s => by
      have := sumS_bound L s hcn
      omega
    have Hr := Lib.hid hrep
    have Hbd := Lib.hid hbd
    have Hcn := Lib.hid hcn
    clear hrep hbd hcn
    by_cases hend : i = xs.length ∨ i = 120
    · rcases hend with hend | hend
      · subst hend
        go_wp2_with (first | (go_at_call 22; refine (list_at b2 Hr.out W _ _ hS).mono ?_; clear hS; rintro e w ⟨la, lc, rfl, hS⟩))
        go_loopw [14] (fun v wr => SumL W (Old V :: Lr) (bookP b2 b1) (pileR (.slice la L.length lc) L) nb L v wr) (fun v _ => L.length - (intOf v).toNat)
        case atStart => exact ⟨0, rfl, by omega, hS⟩
        case round =>
          clear hS
          obtain ⟨j, rfl, hj, hS⟩ := hrel
          by_cases hjn : j = L.length
          · subst hjn
            rw [List.drop_length] at hS
            have hz : arrL (sumS []) = [.int .i64 0, .int .i64 0, .int .i64 0, .int .i64 0, .int .i64 0, .int .i64 0, .int .i64 0, .int .i64 0] := rfl
            rw [hz] at hS
            go_wp2_with (first | (go_at_call 12; refine (known_spec W _ _ hS).mono ?_; clear hS; rintro e w ⟨rfl, hS⟩) | ((apply wl_eq 59 (v := .bool true)); (with_reducible rfl); rfl; kernel_rfl; (simp only [Act.put, List.setIfInBounds_toArray, List.set_cons_succ, List.set_cons_zero, Nat.reduceAdd])) | ((with_reducible apply wl_ld1 hS); (with_reducible rfl); rfl; rfl; decide +kernel; (first | exact Cell.here rfl | exact Cell.there (Cell.here rfl) | exact Cell.there (Cell.there (Cell.here rfl)) | exact Cell.there (Cell.there (Cell.there (Cell.here rfl))) | exact Cell.there (Cell.there (Cell.there (Cell.there (Cell.here rfl)))) | exact Cell.there (Cell.there (Cell.there (Cell.there (Cell.there (Cell.here rfl))))) | exact Cell.there (Cell.there (Cell.there (Cell.there (Cell.there (Cell.there (Cell.here rfl)))))) | assumption); (simp only [Act.put, List.setIfInBounds_toArray, List.set_cons_succ, List.set_cons_zero, Nat.reduceAdd])) | ((with_reducible apply wl_ldN hS); (with_reducible rfl); rfl; rfl; decide +kernel; (first | exact Cells.whole | exact Cells.there Cells.whole | exact Cells.there (Cells.there Cells.whole) | exact Cells.there (Cells.there (Cells.there Cells.whole)) | exact Cells.there (Cells.there (Cells.there (Cells.there Cells.whole))) | exact Cells.there (Cells.there (Cells.there (Cells.there (Cells.there Cells.whole)))) | exact Cells.there (Cells.there (Cells.there (Cells.there (Cells.there (Cells.there Cells.whole))))) | assumption); kernel_rfl; (simp only [Act.put, List.setIfInBounds_toArray, List.set_cons_succ, List.set_cons_zero, Nat.reduceAdd])) | ((with_reducible apply wl_st1 hS); (with_reducible rfl); rfl; rfl; (focus ((conv => lhs; whnf); try rfl)); kernel_rfl; rfl; rfl; (first | exact Upd.head | exact Upd.tail Upd.head | exact Upd.tail (Upd.tail Upd.head) | exact Upd.tail (Upd.tail (Upd.tail Upd.head)) | exact Upd.tail (Upd.tail (Upd.tail (Upd.tail Upd.head))) | exact Upd.tail (Upd.tail (Upd.tail (Upd.tail (Upd.tail Upd.head)))) | exact Upd.tail (Upd.tail (Upd.tail (Upd.tail (Upd.tail (Upd.tail Upd.head)))))); (simp only [List.length_cons, List.length_nil]; omega); ((simp only [List.set_cons_zero, List.set_cons_succ, setAll]); rfl); clear hS; intro w hS; try (simp only [Act.put, List.setIfInBounds_toArray, List.set_cons_succ, List.set_cons_zero, Nat.reduceAdd])) | ((with_reducible apply wl_stN hS); (with_reducible rfl); rfl; rfl; (focus ((conv => lhs; whnf); try rfl)); kernel_rfl; rfl; (first | exact Upd.head | exact Upd.tail Upd.head | exact Upd.tail (Upd.tail Upd.head) | exact Upd.tail (Upd.tail (Upd.tail Upd.head)) | exact Upd.tail (Upd.tail (Upd.tail (Upd.tail Upd.head))) | exact Upd.tail (Upd.tail (Upd.tail (Upd.tail (Upd.tail Upd.head)))) | exact Upd.tail (Upd.tail (Upd.tail (Upd.tail (Upd.tail (Upd.tail Upd.head)))))); (simp only [List.length_cons, List.length_nil]; omega); ((simp only [List.set_cons_zero, List.set_cons_succ, setAll]); rfl); clear hS; intro w hS; try (simp only [Act.put, List.setIfInBounds_toArray, List.set_cons_succ, List.set_cons_zero, Nat.reduceAdd])) | ((with_reducible apply wl_box hS); (with_reducible rfl); rfl; rfl; rfl; clear hS; intro b w hS; (simp only [Act.put, List.setIfInBounds_toArray, List.set_cons_succ, List.set_cons_zero, Nat.reduceAdd])) | ((with_reducible apply wl_alloc hS); (with_reducible rfl); rfl; (with_reducible first | exact Ty.z3 | exact Ty.z31 | exact Ty.z33 | exact Ty.z59 | exact Ty.z79 | exact Ty.z110); clear hS; intro b w hS; (simp only [Act.put, List.setIfInBounds_toArray, List.set_cons_succ, List.set_cons_zero, Nat.reduceAdd])))
            go_ret
            exact ⟨rfl, hS.drop.drop.drop⟩
          · have hjl : j < L.length := by omega
            clear hjn hj
            obtain ⟨⟨lg, rfl⟩, hlc, hln⟩ := St.rowAddr hS.drop (by omega)
            have hmay := (Hr.out.each L[j] (List.getElem_mem hjl)).1
            have hstep := fun s => sums_drop L j hjl s
            have hB := fun s => sumS_bound (L.drop j) s fun x hx => Hcn.out x (List.mem_of_mem_drop hx)
            have hdl : (L.drop j).length ≤ 32 := by rw [List.length_drop]; omega
            have q2 : (Ord.cells L[j])[2]? = some (.bool L[j].buy) := rfl
            have q3 : (Ord.cells L[j])[3]? = some (.int .i64 L[j].item) := rfl
            have q4 : (Ord.cells L[j])[4]? = some (.int .i64 L[j].cnt) := rfl
            generalize hxe : L[j] = xx at hmay hstep q2 q3 q4
            have Hx := Lib.hid hxe
            clear hxe
            obtain ⟨xi, xu, xy, xt, xc, xp⟩ := xx
            have hc1 := hmay.cnt1
            have hi0 := hmay.item0
            have hi1 := hmay.item1
            have hc0 := hmay.cnt0
            simp only at hc1 hi0 hi1 hc0 q2 q3 q4
            obtain ⟨it, rfl⟩ : ∃ it : Nat, xt = it := ⟨xt.toNat, by omega⟩
            have hit4 : it < 4 := by omega
            clear hmay hi0 hi1
            have Hst := Lib.hid hstep
            have HB := Lib.hid hB
            clear hstep hB
            cases xy
            · skip
              have hv := HB.out it
              have hcell := arrL_get (sumS (L.drop j)) it (by omega)
              generalize hgs : sumS (L.drop j) it = gs at hcell hv
              have hv1 : gs ≤ 33554432 := by omega
              have hv0 : 0 ≤ gs := hv.1
              clear hv
              go_wp2_with (first | ((with_reducible apply wl_ld1 hS); (with_reducible rfl); rfl; rfl; decide +kernel; (exact Cell.there (Cell.rowE Ord.len hjl (Hx.out ▸ q2))); (simp only [Act.put, List.setIfInBounds_toArray, List.set_cons_succ, List.set_cons_zero, Nat.reduceAdd])))
              refine wp_region_flow2 [0, 0, 3, 7, 15, 0, 63, 127, 0, 0, 768, 1792, 3840, 8191, 0, 32767, 65535] (fun _ => false) [⟨some 16, none, fun _ => blk nb (arrL fun k => if k = it then gs - xc else sumS (L.drop j) k) 59⟩] [none, none, some 16] (by kernel_rfl) (by kernel_rfl) rfl hS (CongOk.cons (fun _ _ _ => rfl) CongOk.nil) ?_
              intro nd
              iterate 4 (refine ch_pure rfl (by kernel_rfl) rfl rfl ?_; intro K hK; go_big_quiet_op; go_big_quiet_on)
              (apply ch_ld1; rfl; kernel_rfl; (with_reducible rfl); rfl; rfl; decide +kernel; (intro F; exact Cell.there (Cell.rowE Ord.len hjl (Hx.out ▸ q3))); (simp only [Act.put, List.setIfInBounds_toArray, List.set_cons_succ, List.set_cons_zero, Nat.reduceAdd]))
              iterate 2 (refine ch_pure rfl (by kernel_rfl) rfl rfl ?_; intro K hK; go_big_quiet_op; go_big_quiet_on)
              (apply ch_ld1; rfl; kernel_rfl; (with_reducible rfl); rfl; rfl; decide +kernel; (intro F; exact Cell.there (Cell.there (Cell.here hcell))); (simp only [Act.put, List.setIfInBounds_toArray, List.set_cons_succ, List.set_cons_zero, Nat.reduceAdd]))
              iterate 4 (refine ch_pure rfl (by kernel_rfl) rfl rfl ?_; intro K hK; go_big_quiet_op; go_big_quiet_on)
              (apply ch_ld1; rfl; kernel_rfl; (with_reducible rfl); rfl; rfl; decide +kernel; (intro F; exact Cell.there (Cell.rowE Ord.len hjl (Hx.out ▸ q4))); (simp only [Act.put, List.setIfInBounds_toArray, List.set_cons_succ, List.set_cons_zero, Nat.reduceAdd]))
              iterate 3 (refine ch_pure rfl (by kernel_rfl) rfl rfl ?_; intro K hK; go_big_quiet_op; go_big_quiet_on)
              (apply ch_st (vs := [Value.int .i64 (gs - xc)]); rfl; (with_reducible rfl); rfl; rfl; (focus ((conv => lhs; whnf); try rfl)); rfl; kernel_rfl; rfl; rfl; (simp [arrL]; omega); exact arrL_set _ it (by omega) _; rfl; try (simp only [Act.put, List.setIfInBounds_toArray, List.set_cons_succ, List.set_cons_zero, Nat.reduceAdd]))
              refine ch_end ?_
              clear hS
              intro w hS
              have hS2 : St W [blk nb _ _, bookP _ _, pileR _ _, sats _] w := hS
              clear hS
              have hS := hS2.unpack [_, _, _]
              clear hS2
              simp only [List.cons_append, List.nil_append] at hS
              have hfin : arrL (fun k => if k = it then gs - xc else sumS (L.drop j) k) = arrL (sumS (L.drop (j + 1))) := arrL_congr fun s _ => by
                have hs : sumS (L.drop j) s = (if it = s then xc else 0) + sumS (L.drop (j + 1)) s := Hst.out s
                by_cases hsx : s = it
                · rw [if_pos hsx]
                  rw [if_pos hsx.symm] at hs
                  rw [← hgs, ← hsx]
                  omega
                · rw [if_neg hsx]
                  rw [if_neg (fun h : it = s => hsx h.symm)] at hs
                  omega
              rw [hfin] at hS
              go_wp2_with fail
              go_roundw
              case rel => exact ⟨j + 1, rfl, hjl, hS.perm (List.perm_middle (l₁ := [_, _])).symm⟩
              case measure => simp [intOf]; omega
            · skip
              have hv := HB.out (4 + it)
              have hcell := arrL_get (sumS (L.drop j)) (4 + it) (by omega)
              generalize hgs : sumS (L.drop j) (4 + it) = gs at hcell hv
              have hv1 : gs ≤ 33554432 := by omega
              have hv0 : 0 ≤ gs := hv.1
              clear hv
              go_wp2_with (first | ((with_reducible apply wl_ld1 hS); (with_reducible rfl); rfl; rfl; decide +kernel; (exact Cell.there (Cell.rowE Ord.len hjl (Hx.out ▸ q2))); (simp only [Act.put, List.setIfInBounds_toArray, List.set_cons_succ, List.set_cons_zero, Nat.reduceAdd])))
              refine wp_region_flow2 [0, 0, 3, 7, 15, 0, 63, 127, 0, 0, 768, 1792, 3840, 8191, 0, 32767, 65535] (fun _ => false) [⟨some 16, none, fun _ => blk nb (arrL fun k => if k = (4 + it) then gs - xc else sumS (L.drop j) k) 59⟩] [none, none, some 16] (by kernel_rfl) (by kernel_rfl) rfl hS (CongOk.cons (fun _ _ _ => rfl) CongOk.nil) ?_
              intro nd
              iterate 4 (refine ch_pure rfl (by kernel_rfl) rfl rfl ?_; intro K hK; go_big_quiet_op; go_big_quiet_on)
              (apply ch_ld1; rfl; kernel_rfl; (with_reducible rfl); rfl; rfl; decide +kernel; (intro F; exact Cell.there (Cell.rowE Ord.len hjl (Hx.out ▸ q3))); (simp only [Act.put, List.setIfInBounds_toArray, List.set_cons_succ, List.set_cons_zero, Nat.reduceAdd]))
              iterate 2 (refine ch_pure rfl (by kernel_rfl) rfl rfl ?_; intro K hK; go_big_quiet_op; go_big_quiet_on)
              (apply ch_ld1; rfl; kernel_rfl; (with_reducible rfl); rfl; rfl; decide +kernel; (intro F; exact Cell.there (Cell.there (Cell.here hcell))); (simp only [Act.put, List.setIfInBounds_toArray, List.set_cons_succ, List.set_cons_zero, Nat.reduceAdd]))
              iterate 4 (refine ch_pure rfl (by kernel_rfl) rfl rfl ?_; intro K hK; go_big_quiet_op; go_big_quiet_on)
              (apply ch_ld1; rfl; kernel_rfl; (with_reducible rfl); rfl; rfl; decide +kernel; (intro F; exact Cell.there (Cell.rowE Ord.len hjl (Hx.out ▸ q4))); (simp only [Act.put, List.setIfInBounds_toArray, List.set_cons_succ, List.set_cons_zero, Nat.reduceAdd]))
              iterate 3 (refine ch_pure rfl (by kernel_rfl) rfl rfl ?_; intro K hK; go_big_quiet_op; go_big_quiet_on)
              (apply ch_st (vs := [Value.int .i64 (gs - xc)]); rfl; (with_reducible rfl); rfl; rfl; (focus ((conv => lhs; whnf); try rfl)); rfl; kernel_rfl; rfl; rfl; (simp [arrL]; omega); exact arrL_set _ (4 + it) (by omega) _; rfl; try (simp only [Act.put, List.setIfInBounds_toArray, List.set_cons_succ, List.set_cons_zero, Nat.reduceAdd]))
              refine ch_end ?_
              clear hS
              intro w hS
              have hS2 : St W [blk nb _ _, bookP _ _, pileR _ _, sats _] w := hS
              clear hS
              have hS := hS2.unpack [_, _, _]
              clear hS2
              simp only [List.cons_append, List.nil_append] at hS
              have hfin : arrL (fun k => if k = (4 + it) then gs - xc else sumS (L.drop j) k) = arrL (sumS (L.drop (j + 1))) := arrL_congr fun s _ => by
                have hs : sumS (L.drop j) s = (if (4 + it) = s then xc else 0) + sumS (L.drop (j + 1)) s := Hst.out s
                by_cases hsx : s = (4 + it)
                · rw [if_pos hsx]
                  rw [if_pos hsx.symm] at hs
                  rw [← hgs, ← hsx]
                  omega
                · rw [if_neg hsx]
                  rw [if_neg (fun h : (4 + it) = s => hsx h.symm)] at hs
                  omega
              rw [hfin] at hS
              go_wp2_with fail
              go_roundw
              case rel => exact ⟨j + 1, rfl, hjl, hS.perm (List.perm_middle (l₁ := [_, _])).symm⟩
              case measure => simp [intOf]; omega
      · subst hend
        by_cases hlt : 120 < xs.length
        · skip
          go_wp2_with (first | (go_at_call 22; refine (list_at b2 Hr.out W _ _ hS).mono ?_; clear hS; rintro e w ⟨la, lc, rfl, hS⟩))
          go_loopw [14] (fun v wr => SumL W (Old V :: Lr) (bookP b2 b1) (pileR (.slice la L.length lc) L) nb L v wr) (fun v _ => L.length - (intOf v).toNat)
          case atStart => exact ⟨0, rfl, by omega, hS⟩
          case round =>
            clear hS
            obtain ⟨j, rfl, hj, hS⟩ := hrel
            by_cases hjn : j = L.length
            · subst hjn
              rw [List.drop_length] at hS
              have hz : arrL (sumS []) = [.int .i64 0, .int .i64 0, .int .i64 0, .int .i64 0, .int .i64 0, .int .i64 0, .int .i64 0, .int .i64 0] := rfl
              rw [hz] at hS
              go_wp2_with (first | (go_at_call 12; refine (known_spec W _ _ hS).mono ?_; clear hS; rintro e w ⟨rfl, hS⟩) | ((apply wl_eq 59 (v := .bool true)); (with_reducible rfl); rfl; kernel_rfl; (simp only [Act.put, List.setIfInBounds_toArray, List.set_cons_succ, List.set_cons_zero, Nat.reduceAdd])) | ((with_reducible apply wl_ld1 hS); (with_reducible rfl); rfl; rfl; decide +kernel; (first | exact Cell.here rfl | exact Cell.there (Cell.here rfl) | exact Cell.there (Cell.there (Cell.here rfl)) | exact Cell.there (Cell.there (Cell.there (Cell.here rfl))) | exact Cell.there (Cell.there (Cell.there (Cell.there (Cell.here rfl)))) | exact Cell.there (Cell.there (Cell.there (Cell.there (Cell.there (Cell.here rfl))))) | exact Cell.there (Cell.there (Cell.there (Cell.there (Cell.there (Cell.there (Cell.here rfl)))))) | assumption); (simp only [Act.put, List.setIfInBounds_toArray, List.set_cons_succ, List.set_cons_zero, Nat.reduceAdd])) | ((with_reducible apply wl_ldN hS); (with_reducible rfl); rfl; rfl; decide +kernel; (first | exact Cells.whole | exact Cells.there Cells.whole | exact Cells.there (Cells.there Cells.whole) | exact Cells.there (Cells.there (Cells.there Cells.whole)) | exact Cells.there (Cells.there (Cells.there (Cells.there Cells.whole))) | exact Cells.there (Cells.there (Cells.there (Cells.there (Cells.there Cells.whole)))) | exact Cells.there (Cells.there (Cells.there (Cells.there (Cells.there (Cells.there Cells.whole))))) | assumption); kernel_rfl; (simp only [Act.put, List.setIfInBounds_toArray, List.set_cons_succ, List.set_cons_zero, Nat.reduceAdd])) | ((with_reducible apply wl_st1 hS); (with_reducible rfl); rfl; rfl; (focus ((conv => lhs; whnf); try rfl)); kernel_rfl; rfl; rfl; (first | exact Upd.head | exact Upd.tail Upd.head | exact Upd.tail (Upd.tail Upd.head) | exact Upd.tail (Upd.tail (Upd.tail Upd.head)) | exact Upd.tail (Upd.tail (Upd.tail (Upd.tail Upd.head))) | exact Upd.tail (Upd.tail (Upd.tail (Upd.tail (Upd.tail Upd.head)))) | exact Upd.tail (Upd.tail (Upd.tail (Upd.tail (Upd.tail (Upd.tail Upd.head)))))); (simp only [List.length_cons, List.length_nil]; omega); ((simp only [List.set_cons_zero, List.set_cons_succ, setAll]); rfl); clear hS; intro w hS; try (simp only [Act.put, List.setIfInBounds_toArray, List.set_cons_succ, List.set_cons_zero, Nat.reduceAdd])) | ((with_reducible apply wl_stN hS); (with_reducible rfl); rfl; rfl; (focus ((conv => lhs; whnf); try rfl)); kernel_rfl; rfl; (first | exact Upd.head | exact Upd.tail Upd.head | exact Upd.tail (Upd.tail Upd.head) | exact Upd.tail (Upd.tail (Upd.tail Upd.head)) | exact Upd.tail (Upd.tail (Upd.tail (Upd.tail Upd.head))) | exact Upd.tail (Upd.tail (Upd.tail (Upd.tail (Upd.tail Upd.head)))) | exact Upd.tail (Upd.tail (Upd.tail (Upd.tail (Upd.tail (Upd.tail Upd.head)))))); (simp only [List.length_cons, List.length_nil]; omega); ((simp only [List.set_cons_zero, List.set_cons_succ, setAll]); rfl); clear hS; intro w hS; try (simp only [Act.put, List.setIfInBounds_toArray, List.set_cons_succ, List.set_cons_zero, Nat.reduceAdd])) | ((with_reducible apply wl_box hS); (with_reducible rfl); rfl; rfl; rfl; clear hS; intro b w hS; (simp only [Act.put, List.setIfInBounds_toArray, List.set_cons_succ, List.set_cons_zero, Nat.reduceAdd])) | ((with_reducible apply wl_alloc hS); (with_reducible rfl); rfl; (with_reducible first | exact Ty.z3 | exact Ty.z31 | exact Ty.z33 | exact Ty.z59 | exact Ty.z79 | exact Ty.z110); clear hS; intro b w hS; (simp only [Act.put, List.setIfInBounds_toArray, List.set_cons_succ, List.set_cons_zero, Nat.reduceAdd])))
              go_ret
              exact ⟨rfl, hS.drop.drop.drop⟩
            · have hjl : j < L.length := by omega
              clear hjn hj
              obtain ⟨⟨lg, rfl⟩, hlc, hln⟩ := St.rowAddr hS.drop (by omega)
              have hmay := (Hr.out.each L[j] (List.getElem_mem hjl)).1
              have hstep := fun s => sums_drop L j hjl s
              have hB := fun s => sumS_bound (L.drop j) s fun x hx => Hcn.out x (List.mem_of_mem_drop hx)
              have hdl : (L.drop j).length ≤ 32 := by rw [List.length_drop]; omega
              have q2 : (Ord.cells L[j])[2]? = some (.bool L[j].buy) := rfl
              have q3 : (Ord.cells L[j])[3]? = some (.int .i64 L[j].item) := rfl
              have q4 : (Ord.cells L[j])[4]? = some (.int .i64 L[j].cnt) := rfl
              generalize hxe : L[j] = xx at hmay hstep q2 q3 q4
              have Hx := Lib.hid hxe
              clear hxe
              obtain ⟨xi, xu, xy, xt, xc, xp⟩ := xx
              have hc1 := hmay.cnt1
              have hi0 := hmay.item0
              have hi1 := hmay.item1
              have hc0 := hmay.cnt0
              simp only at hc1 hi0 hi1 hc0 q2 q3 q4
              obtain ⟨it, rfl⟩ : ∃ it : Nat, xt = it := ⟨xt.toNat, by omega⟩
              have hit4 : it < 4 := by omega
              clear hmay hi0 hi1
              have Hst := Lib.hid hstep
              have HB := Lib.hid hB
              clear hstep hB
              cases xy
              · skip
                have hv := HB.out it
                have hcell := arrL_get (sumS (L.drop j)) it (by omega)
                generalize hgs : sumS (L.drop j) it = gs at hcell hv
                have hv1 : gs ≤ 33554432 := by omega
                have hv0 : 0 ≤ gs := hv.1
                clear hv
                go_wp2_with (first | ((with_reducible apply wl_ld1 hS); (with_reducible rfl); rfl; rfl; decide +kernel; (exact Cell.there (Cell.rowE Ord.len hjl (Hx.out ▸ q2))); (simp only [Act.put, List.setIfInBounds_toArray, List.set_cons_succ, List.set_cons_zero, Nat.reduceAdd])))
                refine wp_region_flow2 [0, 0, 3, 7, 15, 0, 63, 127, 0, 0, 768, 1792, 3840, 8191, 0, 32767, 65535] (fun _ => false) [⟨some 16, none, fun _ => blk nb (arrL fun k => if k = it then gs - xc else sumS (L.drop j) k) 59⟩] [none, none, some 16] (by kernel_rfl) (by kernel_rfl) rfl hS (CongOk.cons (fun _ _ _ => rfl) CongOk.nil) ?_
                intro nd
                iterate 4 (refine ch_pure rfl (by kernel_rfl) rfl rfl ?_; intro K hK; go_big_quiet_op; go_big_quiet_on)
                (apply ch_ld1; rfl; kernel_rfl; (with_reducible rfl); rfl; rfl; decide +kernel; (intro F; exact Cell.there (Cell.rowE Ord.len hjl (Hx.out ▸ q3))); (simp only [Act.put, List.setIfInBounds_toArray, List.set_cons_succ, List.set_cons_zero, Nat.reduceAdd]))
                iterate 2 (refine ch_pure rfl (by kernel_rfl) rfl rfl ?_; intro K hK; go_big_quiet_op; go_big_quiet_on)
                (apply ch_ld1; rfl; kernel_rfl; (with_reducible rfl); rfl; rfl; decide +kernel; (intro F; exact Cell.there (Cell.there (Cell.here hcell))); (simp only [Act.put, List.setIfInBounds_toArray, List.set_cons_succ, List.set_cons_zero, Nat.reduceAdd]))
                iterate 4 (refine ch_pure rfl (by kernel_rfl) rfl rfl ?_; intro K hK; go_big_quiet_op; go_big_quiet_on)
                (apply ch_ld1; rfl; kernel_rfl; (with_reducible rfl); rfl; rfl; decide +kernel; (intro F; exact Cell.there (Cell.rowE Ord.len hjl (Hx.out ▸ q4))); (simp only [Act.put, List.setIfInBounds_toArray, List.set_cons_succ, List.set_cons_zero, Nat.reduceAdd]))
                iterate 3 (refine ch_pure rfl (by kernel_rfl) rfl rfl ?_; intro K hK; go_big_quiet_op; go_big_quiet_on)
                (apply ch_st (vs := [Value.int .i64 (gs - xc)]); rfl; (with_reducible rfl); rfl; rfl; (focus ((conv => lhs; whnf); try rfl)); rfl; kernel_rfl; rfl; rfl; (simp [arrL]; omega); exact arrL_set _ it (by omega) _; rfl; try (simp only [Act.put, List.setIfInBounds_toArray, List.set_cons_succ, List.set_cons_zero, Nat.reduceAdd]))
                refine ch_end ?_
                clear hS
                intro w hS
                have hS2 : St W [blk nb _ _, bookP _ _, pileR _ _, sats _] w := hS
                clear hS
                have hS := hS2.unpack [_, _, _]
                clear hS2
                simp only [List.cons_append, List.nil_append] at hS
                have hfin : arrL (fun k => if k = it then gs - xc else sumS (L.drop j) k) = arrL (sumS (L.drop (j + 1))) := arrL_congr fun s _ => by
                  have hs : sumS (L.drop j) s = (if it = s then xc else 0) + sumS (L.drop (j + 1)) s := Hst.out s
                  by_cases hsx : s = it
                  · rw [if_pos hsx]
                    rw [if_pos hsx.symm] at hs
                    rw [← hgs, ← hsx]
                    omega
                  · rw [if_neg hsx]
                    rw [if_neg (fun h : it = s => hsx h.symm)] at hs
                    omega
                rw [hfin] at hS
                go_wp2_with fail
                go_roundw
                case rel => exact ⟨j + 1, rfl, hjl, hS.perm (List.perm_middle (l₁ := [_, _])).symm⟩
                case measure => simp [intOf]; omega
              · skip
                have hv := HB.out (4 + it)
                have hcell := arrL_get (sumS (L.drop j)) (4 + it) (by omega)
                generalize hgs : sumS (L.drop j) (4 + it) = gs at hcell hv
                have hv1 : gs ≤ 33554432 := by omega
                have hv0 : 0 ≤ gs := hv.1
                clear hv
                go_wp2_with (first | ((with_reducible apply wl_ld1 hS); (with_reducible rfl); rfl; rfl; decide +kernel; (exact Cell.there (Cell.rowE Ord.len hjl (Hx.out ▸ q2))); (simp only [Act.put, List.setIfInBounds_toArray, List.set_cons_succ, List.set_cons_zero, Nat.reduceAdd])))
                refine wp_region_flow2 [0, 0, 3, 7, 15, 0, 63, 127, 0, 0, 768, 1792, 3840, 8191, 0, 32767, 65535] (fun _ => false) [⟨some 16, none, fun _ => blk nb (arrL fun k => if k = (4 + it) then gs - xc else sumS (L.drop j) k) 59⟩] [none, none, some 16] (by kernel_rfl) (by kernel_rfl) rfl hS (CongOk.cons (fun _ _ _ => rfl) CongOk.nil) ?_
                intro nd
                iterate 4 (refine ch_pure rfl (by kernel_rfl) rfl rfl ?_; intro K hK; go_big_quiet_op; go_big_quiet_on)
                (apply ch_ld1; rfl; kernel_rfl; (with_reducible rfl); rfl; rfl; decide +kernel; (intro F; exact Cell.there (Cell.rowE Ord.len hjl (Hx.out ▸ q3))); (simp only [Act.put, List.setIfInBounds_toArray, List.set_cons_succ, List.set_cons_zero, Nat.reduceAdd]))
                iterate 2 (refine ch_pure rfl (by kernel_rfl) rfl rfl ?_; intro K hK; go_big_quiet_op; go_big_quiet_on)
                (apply ch_ld1; rfl; kernel_rfl; (with_reducible rfl); rfl; rfl; decide +kernel; (intro F; exact Cell.there (Cell.there (Cell.here hcell))); (simp only [Act.put, List.setIfInBounds_toArray, List.set_cons_succ, List.set_cons_zero, Nat.reduceAdd]))
                iterate 4 (refine ch_pure rfl (by kernel_rfl) rfl rfl ?_; intro K hK; go_big_quiet_op; go_big_quiet_on)
                (apply ch_ld1; rfl; kernel_rfl; (with_reducible rfl); rfl; rfl; decide +kernel; (intro F; exact Cell.there (Cell.rowE Ord.len hjl (Hx.out ▸ q4))); (simp only [Act.put, List.setIfInBounds_toArray, List.set_cons_succ, List.set_cons_zero, Nat.reduceAdd]))
                iterate 3 (refine ch_pure rfl (by kernel_rfl) rfl rfl ?_; intro K hK; go_big_quiet_op; go_big_quiet_on)
                (apply ch_st (vs := [Value.int .i64 (gs - xc)]); rfl; (with_reducible rfl); rfl; rfl; (focus ((conv => lhs; whnf); try rfl)); rfl; kernel_rfl; rfl; rfl; (simp [arrL]; omega); exact arrL_set _ (4 + it) (by omega) _; rfl; try (simp only [Act.put, List.setIfInBounds_toArray, List.set_cons_succ, List.set_cons_zero, Nat.reduceAdd]))
                refine ch_end ?_
                clear hS
                intro w hS
                have hS2 : St W [blk nb _ _, bookP _ _, pileR _ _, sats _] w := hS
                clear hS
                have hS := hS2.unpack [_, _, _]
                clear hS2
                simp only [List.cons_append, List.nil_append] at hS
                have hfin : arrL (fun k => if k = (4 + it) then gs - xc else sumS (L.drop j) k) = arrL (sumS (L.drop (j + 1))) := arrL_congr fun s _ => by
                  have hs : sumS (L.drop j) s = (if (4 + it) = s then xc else 0) + sumS (L.drop (j + 1)) s := Hst.out s
                  by_cases hsx : s = (4 + it)
                  · rw [if_pos hsx]
                    rw [if_pos hsx.symm] at hs
                    rw [← hgs, ← hsx]
                    omega
                  · rw [if_neg hsx]
                    rw [if_neg (fun h : (4 + it) = s => hsx h.symm)] at hs
                    omega
                rw [hfin] at hS
                go_wp2_with fail
                go_roundw
                case rel => exact ⟨j + 1, rfl, hjl, hS.perm (List.perm_middle (l₁ := [_, _])).symm⟩
                case measure => simp [intOf]; omega
        · have hx : xs.length = 120 := by omega
          rw [hx] at *
          go_wp2_with (first | (go_at_call 22; refine (list_at b2 Hr.out W _ _ hS).mono ?_; clear hS; rintro e w ⟨la, lc, rfl, hS⟩))
          go_loopw [14] (fun v wr => SumL W (Old V :: Lr) (bookP b2 b1) (pileR (.slice la L.length lc) L) nb L v wr) (fun v _ => L.length - (intOf v).toNat)
          case atStart => exact ⟨0, rfl, by omega, hS⟩
          case round =>
            clear hS
            obtain ⟨j, rfl, hj, hS⟩ := hrel
            by_cases hjn : j = L.length
            · subst hjn
              rw [List.drop_length] at hS
              have hz : arrL (sumS []) = [.int .i64 0, .int .i64 0, .int .i64 0, .int .i64 0, .int .i64 0, .int .i64 0, .int .i64 0, .int .i64 0] := rfl
              rw [hz] at hS
              go_wp2_with (first | (go_at_call 12; refine (known_spec W _ _ hS).mono ?_; clear hS; rintro e w ⟨rfl, hS⟩) | ((apply wl_eq 59 (v := .bool true)); (with_reducible rfl); rfl; kernel_rfl; (simp only [Act.put, List.setIfInBounds_toArray, List.set_cons_succ, List.set_cons_zero, Nat.reduceAdd])) | ((with_reducible apply wl_ld1 hS); (with_reducible rfl); rfl; rfl; decide +kernel; (first | exact Cell.here rfl | exact Cell.there (Cell.here rfl) | exact Cell.there (Cell.there (Cell.here rfl)) | exact Cell.there (Cell.there (Cell.there (Cell.here rfl))) | exact Cell.there (Cell.there (Cell.there (Cell.there (Cell.here rfl)))) | exact Cell.there (Cell.there (Cell.there (Cell.there (Cell.there (Cell.here rfl))))) | exact Cell.there (Cell.there (Cell.there (Cell.there (Cell.there (Cell.there (Cell.here rfl)))))) | assumption); (simp only [Act.put, List.setIfInBounds_toArray, List.set_cons_succ, List.set_cons_zero, Nat.reduceAdd])) | ((with_reducible apply wl_ldN hS); (with_reducible rfl); rfl; rfl; decide +kernel; (first | exact Cells.whole | exact Cells.there Cells.whole | exact Cells.there (Cells.there Cells.whole) | exact Cells.there (Cells.there (Cells.there Cells.whole)) | exact Cells.there (Cells.there (Cells.there (Cells.there Cells.whole))) | exact Cells.there (Cells.there (Cells.there (Cells.there (Cells.there Cells.whole)))) | exact Cells.there (Cells.there (Cells.there (Cells.there (Cells.there (Cells.there Cells.whole))))) | assumption); kernel_rfl; (simp only [Act.put, List.setIfInBounds_toArray, List.set_cons_succ, List.set_cons_zero, Nat.reduceAdd])) | ((with_reducible apply wl_st1 hS); (with_reducible rfl); rfl; rfl; (focus ((conv => lhs; whnf); try rfl)); kernel_rfl; rfl; rfl; (first | exact Upd.head | exact Upd.tail Upd.head | exact Upd.tail (Upd.tail Upd.head) | exact Upd.tail (Upd.tail (Upd.tail Upd.head)) | exact Upd.tail (Upd.tail (Upd.tail (Upd.tail Upd.head))) | exact Upd.tail (Upd.tail (Upd.tail (Upd.tail (Upd.tail Upd.head)))) | exact Upd.tail (Upd.tail (Upd.tail (Upd.tail (Upd.tail (Upd.tail Upd.head)))))); (simp only [List.length_cons, List.length_nil]; omega); ((simp only [List.set_cons_zero, List.set_cons_succ, setAll]); rfl); clear hS; intro w hS; try (simp only [Act.put, List.setIfInBounds_toArray, List.set_cons_succ, List.set_cons_zero, Nat.reduceAdd])) | ((with_reducible apply wl_stN hS); (with_reducible rfl); rfl; rfl; (focus ((conv => lhs; whnf); try rfl)); kernel_rfl; rfl; (first | exact Upd.head | exact Upd.tail Upd.head | exact Upd.tail (Upd.tail Upd.head) | exact Upd.tail (Upd.tail (Upd.tail Upd.head)) | exact Upd.tail (Upd.tail (Upd.tail (Upd.tail Upd.head))) | exact Upd.tail (Upd.tail (Upd.tail (Upd.tail (Upd.tail Upd.head)))) | exact Upd.tail (Upd.tail (Upd.tail (Upd.tail (Upd.tail (Upd.tail Upd.head)))))); (simp only [List.length_cons, List.length_nil]; omega); ((simp only [List.set_cons_zero, List.set_cons_succ, setAll]); rfl); clear hS; intro w hS; try (simp only [Act.put, List.setIfInBounds_toArray, List.set_cons_succ, List.set_cons_zero, Nat.reduceAdd])) | ((with_reducible apply wl_box hS); (with_reducible rfl); rfl; rfl; rfl; clear hS; intro b w hS; (simp only [Act.put, List.setIfInBounds_toArray, List.set_cons_succ, List.set_cons_zero, Nat.reduceAdd])) | ((with_reducible apply wl_alloc hS); (with_reducible rfl); rfl; (with_reducible first | exact Ty.z3 | exact Ty.z31 | exact Ty.z33 | exact Ty.z59 | exact Ty.z79 | exact Ty.z110); clear hS; intro b w hS; (simp only [Act.put, List.setIfInBounds_toArray, List.set_cons_succ, List.set_cons_zero, Nat.reduceAdd])))
              go_ret
              exact ⟨rfl, hS.drop.drop.drop⟩
            · have hjl : j < L.length := by omega
              clear hjn hj
              obtain ⟨⟨lg, rfl⟩, hlc, hln⟩ := St.rowAddr hS.drop (by omega)
              have hmay := (Hr.out.each L[j] (List.getElem_mem hjl)).1
              have hstep := fun s => sums_drop L j hjl s
              have hB := fun s => sumS_bound (L.drop j) s fun x hx => Hcn.out x (List.mem_of_mem_drop hx)
              have hdl : (L.drop j).length ≤ 32 := by rw [List.length_drop]; omega
              have q2 : (Ord.cells L[j])[2]? = some (.bool L[j].buy) := rfl
              have q3 : (Ord.cells L[j])[3]? = some (.int .i64 L[j].item) := rfl
              have q4 : (Ord.cells L[j])[4]? = some (.int .i64 L[j].cnt) := rfl
              generalize hxe : L[j] = xx at hmay hstep q2 q3 q4
              have Hx := Lib.hid hxe
              clear hxe
              obtain ⟨xi, xu, xy, xt, xc, xp⟩ := xx
              have hc1 := hmay.cnt1
              have hi0 := hmay.item0
              have hi1 := hmay.item1
              have hc0 := hmay.cnt0
              simp only at hc1 hi0 hi1 hc0 q2 q3 q4
              obtain ⟨it, rfl⟩ : ∃ it : Nat, xt = it := ⟨xt.toNat, by omega⟩
              have hit4 : it < 4 := by omega
              clear hmay hi0 hi1
              have Hst := Lib.hid hstep
              have HB := Lib.hid hB
              clear hstep hB
              cases xy
              · skip
                have hv := HB.out it
                have hcell := arrL_get (sumS (L.drop j)) it (by omega)
                generalize hgs : sumS (L.drop j) it = gs at hcell hv
                have hv1 : gs ≤ 33554432 := by omega
                have hv0 : 0 ≤ gs := hv.1
                clear hv
                go_wp2_with (first | ((with_reducible apply wl_ld1 hS); (with_reducible rfl); rfl; rfl; decide +kernel; (exact Cell.there (Cell.rowE Ord.len hjl (Hx.out ▸ q2))); (simp only [Act.put, List.setIfInBounds_toArray, List.set_cons_succ, List.set_cons_zero, Nat.reduceAdd])))
                refine wp_region_flow2 [0, 0, 3, 7, 15, 0, 63, 127, 0, 0, 768, 1792, 3840, 8191, 0, 32767, 65535] (fun _ => false) [⟨some 16, none, fun _ => blk nb (arrL fun k => if k = it then gs - xc else sumS (L.drop j) k) 59⟩] [none, none, some 16] (by kernel_rfl) (by kernel_rfl) rfl hS (CongOk.cons (fun _ _ _ => rfl) CongOk.nil) ?_
                intro nd
                iterate 4 (refine ch_pure rfl (by kernel_rfl) rfl rfl ?_; intro K hK; go_big_quiet_op; go_big_quiet_on)
                (apply ch_ld1; rfl; kernel_rfl; (with_reducible rfl); rfl; rfl; decide +kernel; (intro F; exact Cell.there (Cell.rowE Ord.len hjl (Hx.out ▸ q3))); (simp only [Act.put, List.setIfInBounds_toArray, List.set_cons_succ, List.set_cons_zero, Nat.reduceAdd]))
                iterate 2 (refine ch_pure rfl (by kernel_rfl) rfl rfl ?_; intro K hK; go_big_quiet_op; go_big_quiet_on)
                (apply ch_ld1; rfl; kernel_rfl; (with_reducible rfl); rfl; rfl; decide +kernel; (intro F; exact Cell.there (Cell.there (Cell.here hcell))); (simp only [Act.put, List.setIfInBounds_toArray, List.set_cons_succ, List.set_cons_zero, Nat.reduceAdd]))
                iterate 4 (refine ch_pure rfl (by kernel_rfl) rfl rfl ?_; intro K hK; go_big_quiet_op; go_big_quiet_on)
                (apply ch_ld1; rfl; kernel_rfl; (with_reducible rfl); rfl; rfl; decide +kernel; (intro F; exact Cell.there (Cell.rowE Ord.len hjl (Hx.out ▸ q4))); (simp only [Act.put, List.setIfInBounds_toArray, List.set_cons_succ, List.set_cons_zero, Nat.reduceAdd]))
                iterate 3 (refine ch_pure rfl (by kernel_rfl) rfl rfl ?_; intro K hK; go_big_quiet_op; go_big_quiet_on)
                (apply ch_st (vs := [Value.int .i64 (gs - xc)]); rfl; (with_reducible rfl); rfl; rfl; (focus ((conv => lhs; whnf); try rfl)); rfl; kernel_rfl; rfl; rfl; (simp [arrL]; omega); exact arrL_set _ it (by omega) _; rfl; try (simp only [Act.put, List.setIfInBounds_toArray, List.set_cons_succ, List.set_cons_zero, Nat.reduceAdd]))
                refine ch_end ?_
                clear hS
                intro w hS
                have hS2 : St W [blk nb _ _, bookP _ _, pileR _ _, sats _] w := hS
                clear hS
                have hS := hS2.unpack [_, _, _]
                clear hS2
                simp only [List.cons_append, List.nil_append] at hS
                have hfin : arrL (fun k => if k = it then gs - xc else sumS (L.drop j) k) = arrL (sumS (L.drop (j + 1))) := arrL_congr fun s _ => by
                  have hs : sumS (L.drop j) s = (if it = s then xc else 0) + sumS (L.drop (j + 1)) s := Hst.out s
                  by_cases hsx : s = it
                  · rw [if_pos hsx]
                    rw [if_pos hsx.symm] at hs
                    rw [← hgs, ← hsx]
                    omega
                  · rw [if_neg hsx]
                    rw [if_neg (fun h : it = s => hsx h.symm)] at hs
                    omega
                rw [hfin] at hS
                go_wp2_with fail
                go_roundw
                case rel => exact ⟨j + 1, rfl, hjl, hS.perm (List.perm_middle (l₁ := [_, _])).symm⟩
                case measure => simp [intOf]; omega
              · skip
                have hv := HB.out (4 + it)
                have hcell := arrL_get (sumS (L.drop j)) (4 + it) (by omega)
                generalize hgs : sumS (L.drop j) (4 + it) = gs at hcell hv
                have hv1 : gs ≤ 33554432 := by omega
                have hv0 : 0 ≤ gs := hv.1
                clear hv
                go_wp2_with (first | ((with_reducible apply wl_ld1 hS); (with_reducible rfl); rfl; rfl; decide +kernel; (exact Cell.there (Cell.rowE Ord.len hjl (Hx.out ▸ q2))); (simp only [Act.put, List.setIfInBounds_toArray, List.set_cons_succ, List.set_cons_zero, Nat.reduceAdd])))
                refine wp_region_flow2 [0, 0, 3, 7, 15, 0, 63, 127, 0, 0, 768, 1792, 3840, 8191, 0, 32767, 65535] (fun _ => false) [⟨some 16, none, fun _ => blk nb (arrL fun k => if k = (4 + it) then gs - xc else sumS (L.drop j) k) 59⟩] [none, none, some 16] (by kernel_rfl) (by kernel_rfl) rfl hS (CongOk.cons (fun _ _ _ => rfl) CongOk.nil) ?_
                intro nd
                iterate 4 (refine ch_pure rfl (by kernel_rfl) rfl rfl ?_; intro K hK; go_big_quiet_op; go_big_quiet_on)
                (apply ch_ld1; rfl; kernel_rfl; (with_reducible rfl); rfl; rfl; decide +kernel; (intro F; exact Cell.there (Cell.rowE Ord.len hjl (Hx.out ▸ q3))); (simp only [Act.put, List.setIfInBounds_toArray, List.set_cons_succ, List.set_cons_zero, Nat.reduceAdd]))
                iterate 2 (refine ch_pure rfl (by kernel_rfl) rfl rfl ?_; intro K hK; go_big_quiet_op; go_big_quiet_on)
                (apply ch_ld1; rfl; kernel_rfl; (with_reducible rfl); rfl; rfl; decide +kernel; (intro F; exact Cell.there (Cell.there (Cell.here hcell))); (simp only [Act.put, List.setIfInBounds_toArray, List.set_cons_succ, List.set_cons_zero, Nat.reduceAdd]))
                iterate 4 (refine ch_pure rfl (by kernel_rfl) rfl rfl ?_; intro K hK; go_big_quiet_op; go_big_quiet_on)
                (apply ch_ld1; rfl; kernel_rfl; (with_reducible rfl); rfl; rfl; decide +kernel; (intro F; exact Cell.there (Cell.rowE Ord.len hjl (Hx.out ▸ q4))); (simp only [Act.put, List.setIfInBounds_toArray, List.set_cons_succ, List.set_cons_zero, Nat.reduceAdd]))
                iterate 3 (refine ch_pure rfl (by kernel_rfl) rfl rfl ?_; intro K hK; go_big_quiet_op; go_big_quiet_on)
                (apply ch_st (vs := [Value.int .i64 (gs - xc)]); rfl; (with_reducible rfl); rfl; rfl; (focus ((conv => lhs; whnf); try rfl)); rfl; kernel_rfl; rfl; rfl; (simp [arrL]; omega); exact arrL_set _ (4 + it) (by omega) _; rfl; try (simp only [Act.put, List.setIfInBounds_toArray, List.set_cons_succ, List.set_cons_zero, Nat.reduceAdd]))
                refine ch_end ?_
                clear hS
                intro w hS
                have hS2 : St W [blk nb _ _, bookP _ _, pileR _ _, sats _] w := hS
                clear hS
                have hS := hS2.unpack [_, _, _]
                clear hS2
                simp only [List.cons_append, List.nil_append] at hS
                have hfin : arrL (fun k => if k = (4 + it) then gs - xc else sumS (L.drop j) k) = arrL (sumS (L.drop (j + 1))) := arrL_congr fun s _ => by
                  have hs : sumS (L.drop j) s = (if (4 + it) = s then xc else 0) + sumS (L.drop (j + 1)) s := Hst.out s
                  by_cases hsx : s = (4 + it)
                  · rw [if_pos hsx]
                    rw [if_pos hsx.symm] at hs
                    rw [← hgs, ← hsx]
                    omega
                  · rw [if_neg hsx]
                    rw [if_neg (fun h : (4 + it) = s => hsx h.symm)] at hs
                    omega
                rw [hfin] at hS
                go_wp2_with fail
                go_roundw
                case rel => exact ⟨j + 1, rfl, hjl, hS.perm (List.perm_middle (l₁ := [_, _])).symm⟩
                case measure => simp [intOf]; omega
    · have hil : i < xs.length := by omega
      have hi2 : i < 120 := by omega
      clear hend hi hi120
      obtain ⟨pb, poff, rfl, hA⟩ := Ha.out i hil
      obtain ⟨ck, cn, cb, cit, cc, cp, call⟩ := hA
      generalize xs[i] = x at ck cn cb cit cc cp call
      obtain ⟨kd, nn, ⟨oi, ou, oy, ot, oc, op⟩⟩ := x
      simp only at ck cn cb cit cc cp call
      by_cases hk1 : kd = 1
      · subst hk1
        rcases place_sums L b1.last ⟨oi, ou, oy, ot, oc, op⟩ (fun x hx => (Hcn.out x hx).1) with ⟨he, hL⟩ | ⟨he, hP⟩
        · have heb : ((placeR L b1.last ⟨oi, ou, oy, ot, oc, op⟩).errno != 0) = true := by simpa using he
          have heb2 : ((placeR L b1.last ⟨oi, ou, oy, ot, oc, op⟩).errno == 0) = false := by simpa using he
          clear he
          generalize hPR : placeR L b1.last ⟨oi, ou, oy, ot, oc, op⟩ = PR at hL heb heb2
          have HPR := Lib.hid hPR
          have HL := Lib.hid hL
          clear hPR hL
          obtain ⟨trs, left, en, L2, la2⟩ := PR
          simp only at heb heb2
          cases oy
          · skip
            go_wp2_with (first | ((with_reducible apply wl_ld1 hS); (with_reducible rfl); rfl; rfl; decide +kernel; (first | exact Cell.old .head ck | exact Cell.old (.tail .head) ck | exact Cell.old (.tail (.tail .head)) ck | exact Cell.old (.tail (.tail (.tail .head))) ck | exact Cell.old (.tail (.tail (.tail (.tail .head)))) ck | exact Cell.old (.tail (.tail (.tail (.tail (.tail .head))))) ck); (simp only [Act.put, List.setIfInBounds_toArray, List.set_cons_succ, List.set_cons_zero, Nat.reduceAdd])) | ((with_reducible apply wl_ld1 hS); (with_reducible rfl); rfl; rfl; decide +kernel; (first | exact Cell.old .head cb | exact Cell.old (.tail .head) cb | exact Cell.old (.tail (.tail .head)) cb | exact Cell.old (.tail (.tail (.tail .head))) cb | exact Cell.old (.tail (.tail (.tail (.tail .head)))) cb | exact Cell.old (.tail (.tail (.tail (.tail (.tail .head))))) cb); (simp only [Act.put, List.setIfInBounds_toArray, List.set_cons_succ, List.set_cons_zero, Nat.reduceAdd])) | ((with_reducible apply wl_ldN hS); (with_reducible rfl); rfl; rfl; decide +kernel; (first | exact Cells.old .head call | exact Cells.old (.tail .head) call | exact Cells.old (.tail (.tail .head)) call | exact Cells.old (.tail (.tail (.tail .head))) call); kernel_rfl; (simp only [Act.put, List.setIfInBounds_toArray, List.set_cons_succ, List.set_cons_zero, Nat.reduceAdd])) | (go_at_call 14; refine (place_at b2 Hr.out ⟨oi, ou, false, ot, oc, op⟩ W _ _ hS).mono ?_; clear hS; rw [HPR.out]; rintro e w ⟨b3, ts, ta, tc, ⟨rfl, -, hrep, -⟩, rfl, hS⟩; have Hrep := Lib.hid hrep; clear hrep))
            go_roundw
            case rel => exact ⟨i + 1, b3, L, rfl, hil, hi2, HL.out ▸ Hrep.out, hS.swap.drop⟩
            case measure => simp [intOf]; omega
          · skip
            go_wp2_with (first | ((with_reducible apply wl_ld1 hS); (with_reducible rfl); rfl; rfl; decide +kernel; (first | exact Cell.old .head ck | exact Cell.old (.tail .head) ck | exact Cell.old (.tail (.tail .head)) ck | exact Cell.old (.tail (.tail (.tail .head))) ck | exact Cell.old (.tail (.tail (.tail (.tail .head)))) ck | exact Cell.old (.tail (.tail (.tail (.tail (.tail .head))))) ck); (simp only [Act.put, List.setIfInBounds_toArray, List.set_cons_succ, List.set_cons_zero, Nat.reduceAdd])) | ((with_reducible apply wl_ld1 hS); (with_reducible rfl); rfl; rfl; decide +kernel; (first | exact Cell.old .head cb | exact Cell.old (.tail .head) cb | exact Cell.old (.tail (.tail .head)) cb | exact Cell.old (.tail (.tail (.tail .head))) cb | exact Cell.old (.tail (.tail (.tail (.tail .head)))) cb | exact Cell.old (.tail (.tail (.tail (.tail (.tail .head))))) cb); (simp only [Act.put, List.setIfInBounds_toArray, List.set_cons_succ, List.set_cons_zero, Nat.reduceAdd])) | ((with_reducible apply wl_ldN hS); (with_reducible rfl); rfl; rfl; decide +kernel; (first | exact Cells.old .head call | exact Cells.old (.tail .head) call | exact Cells.old (.tail (.tail .head)) call | exact Cells.old (.tail (.tail (.tail .head))) call); kernel_rfl; (simp only [Act.put, List.setIfInBounds_toArray, List.set_cons_succ, List.set_cons_zero, Nat.reduceAdd])) | (go_at_call 14; refine (place_at b2 Hr.out ⟨oi, ou, true, ot, oc, op⟩ W _ _ hS).mono ?_; clear hS; rw [HPR.out]; rintro e w ⟨b3, ts, ta, tc, ⟨rfl, -, hrep, -⟩, rfl, hS⟩; have Hrep := Lib.hid hrep; clear hrep))
            go_roundw
            case rel => exact ⟨i + 1, b3, L, rfl, hil, hi2, HL.out ▸ Hrep.out, hS.swap.drop⟩
            case measure => simp [intOf]; omega
        · obtain ⟨hmay, hsums, heach, hmost⟩ := hP
          have hc1 := hmay.cnt1
          have hi0 := hmay.item0
          have hi1 := hmay.item1
          have hc0 := hmay.cnt0
          simp only at hc1 hi0 hi1 hc0 heach hmost
          obtain ⟨it, rfl⟩ : ∃ it : Nat, ot = it := ⟨ot.toNat, by omega⟩
          have hit4 : it < 4 := by omega
          clear hmay hi0 hi1
          generalize hPR : placeR L b1.last ⟨oi, ou, oy, it, oc, op⟩ = PR at he hsums heach hmost
          have HPR := Lib.hid hPR
          clear hPR
          obtain ⟨trs, left, en, L2, la2⟩ := PR
          simp only at he hsums heach hmost
          subst he
          have Hs := Lib.hid hsums
          have He := Lib.hid heach
          have Hm := Lib.hid hmost
          clear hsums heach hmost
          cases oy
          · skip
            obtain ⟨hv0, hv1⟩ := Hbd.out it
            have hcell := arrL_get (sumS L) it (by omega)
            generalize hgs : sumS L it = gs at hcell hv0 hv1
            go_wp2_with (first | ((with_reducible apply wl_ld1 hS); (with_reducible rfl); rfl; rfl; decide +kernel; (first | exact Cell.old .head ck | exact Cell.old (.tail .head) ck | exact Cell.old (.tail (.tail .head)) ck | exact Cell.old (.tail (.tail (.tail .head))) ck | exact Cell.old (.tail (.tail (.tail (.tail .head)))) ck | exact Cell.old (.tail (.tail (.tail (.tail (.tail .head))))) ck); (simp only [Act.put, List.setIfInBounds_toArray, List.set_cons_succ, List.set_cons_zero, Nat.reduceAdd])) | ((with_reducible apply wl_ld1 hS); (with_reducible rfl); rfl; rfl; decide +kernel; (first | exact Cell.old .head cb | exact Cell.old (.tail .head) cb | exact Cell.old (.tail (.tail .head)) cb | exact Cell.old (.tail (.tail (.tail .head))) cb | exact Cell.old (.tail (.tail (.tail (.tail .head)))) cb | exact Cell.old (.tail (.tail (.tail (.tail (.tail .head))))) cb); (simp only [Act.put, List.setIfInBounds_toArray, List.set_cons_succ, List.set_cons_zero, Nat.reduceAdd])) | ((with_reducible apply wl_ldN hS); (with_reducible rfl); rfl; rfl; decide +kernel; (first | exact Cells.old .head call | exact Cells.old (.tail .head) call | exact Cells.old (.tail (.tail .head)) call | exact Cells.old (.tail (.tail (.tail .head))) call); kernel_rfl; (simp only [Act.put, List.setIfInBounds_toArray, List.set_cons_succ, List.set_cons_zero, Nat.reduceAdd])) | (go_at_call 14; refine (place_at b2 Hr.out ⟨oi, ou, false, it, oc, op⟩ W _ _ hS).mono ?_; clear hS; rw [HPR.out]; rintro e w ⟨b3, ts, ta, tc, ⟨rfl, -, hrep, -⟩, rfl, hS⟩; have Hrep := Lib.hid hrep; clear hrep))
            refine wp_region_flow2 [0, 0, 0, 6, 14, 30, 62, 1, 255, 511, 0, 0, 3072, 7168, 15360, 31744, 65535, 1, 262143, 524287] (fun _ => false) [⟨some 19, none, fun _ => blk nb (arrL fun k => if k = it then gs + oc else sumS L k) 59⟩] [none, none, some 19, none] (by kernel_rfl) (by kernel_rfl) rfl hS (CongOk.cons (fun _ _ _ => rfl) CongOk.nil) ?_
            intro nd
            iterate 6 (refine ch_pure rfl (by kernel_rfl) rfl rfl ?_; intro K hK; go_big_quiet_op; go_big_quiet_on)
            (apply ch_ld1; rfl; kernel_rfl; (with_reducible rfl); rfl; rfl; decide +kernel; (intro F; first | exact Cell.old .head cit | exact Cell.old (.tail .head) cit | exact Cell.old (.tail (.tail .head)) cit | exact Cell.old (.tail (.tail (.tail .head))) cit | exact Cell.old (.tail (.tail (.tail (.tail .head)))) cit | exact Cell.old (.tail (.tail (.tail (.tail (.tail .head))))) cit); (simp only [Act.put, List.setIfInBounds_toArray, List.set_cons_succ, List.set_cons_zero, Nat.reduceAdd]))
            iterate 2 (refine ch_pure rfl (by kernel_rfl) rfl rfl ?_; intro K hK; go_big_quiet_op; go_big_quiet_on)
            (apply ch_ld1; rfl; kernel_rfl; (with_reducible rfl); rfl; rfl; decide +kernel; (intro F; exact Cell.there (Cell.there (Cell.here hcell))); (simp only [Act.put, List.setIfInBounds_toArray, List.set_cons_succ, List.set_cons_zero, Nat.reduceAdd]))
            iterate 5 (refine ch_pure rfl (by kernel_rfl) rfl rfl ?_; intro K hK; go_big_quiet_op; go_big_quiet_on)
            (apply ch_ld1; rfl; kernel_rfl; (with_reducible rfl); rfl; rfl; decide +kernel; (intro F; first | exact Cell.old .head cc | exact Cell.old (.tail .head) cc | exact Cell.old (.tail (.tail .head)) cc | exact Cell.old (.tail (.tail (.tail .head))) cc | exact Cell.old (.tail (.tail (.tail (.tail .head)))) cc | exact Cell.old (.tail (.tail (.tail (.tail (.tail .head))))) cc); (simp only [Act.put, List.setIfInBounds_toArray, List.set_cons_succ, List.set_cons_zero, Nat.reduceAdd]))
            iterate 3 (refine ch_pure rfl (by kernel_rfl) rfl rfl ?_; intro K hK; go_big_quiet_op; go_big_quiet_on)
            (apply ch_st (vs := [Value.int .i64 (gs + oc)]); rfl; (with_reducible rfl); rfl; rfl; (focus ((conv => lhs; whnf); try rfl)); rfl; kernel_rfl; rfl; rfl; (simp [arrL]; omega); exact arrL_set _ it (by omega) _; rfl; try (simp only [Act.put, List.setIfInBounds_toArray, List.set_cons_succ, List.set_cons_zero, Nat.reduceAdd]))
            refine ch_end ?_
            clear hS
            intro w hS
            have hS2 : St W [blk nb _ _, bookP _ _, tradesR _ _, Old _, sats _] w := hS
            clear hS
            have hS := hS2.unpack [_, _, _, _]
            clear hS2
            simp only [List.cons_append, List.nil_append] at hS
            generalize hg1 : (fun k => if k = it then gs + oc else sumS L k) = g1 at hS
            have hg1s : ∀ s, g1 s = sumS L s + if it = s then oc else 0 := fun s => by
              rw [← hg1]
              by_cases hsx : s = it
              · simp only [if_pos hsx, if_pos hsx.symm]; rw [hsx, hgs]
              · simp only [if_neg hsx, if_neg (fun h : it = s => hsx h.symm)]; omega
            have Hg1 := Lib.hid hg1s
            clear hg1 hg1s hcell hv0 hv1 hgs
            replace hS := hS.perm (List.perm_middle (l₁ := [_, _])).symm
            go_wp2_with fail
            go_loopw [10] (fun v wr => SumT W (Old V :: Lr) (bookP b2 b3) (tradesR (.slice ta ts.length tc) ts) nb g1 it ts v wr) (fun v _ => ts.length - (intOf v).toNat)
            case atStart => exact ⟨0, rfl, by omega, by
              have e : arrL (gT g1 it (tsum (ts.take 0))) = arrL g1 := arrL_congr fun s _ => by
                unfold gT
                simp only [List.take_zero, tsum]
                split <;> omega
              rw [e]; exact hS⟩
            case round =>
              clear hS
              obtain ⟨j, rfl, hj, hS⟩ := hrel
              by_cases hjn : j = ts.length
              · subst hjn
                have hfin : arrL (gT g1 it (tsum (ts.take ts.length))) = arrL (sumS L2) := arrL_congr fun s _ => by
                  have hs : sumS L2 s = (sumS L s + if it = s then oc else 0) - (if (4 + it) = s ∨ it = s then tsum ts else 0) := Hs.out s
                  rw [List.take_length]
                  exact sums_end (Hg1.out s) hs (by omega)
                rw [hfin] at hS
                go_wp2_with fail
                go_roundw
                case rel => exact ⟨i + 1, b3, L2, rfl, hil, hi2, Hrep.out, hS.swap.drop⟩
                case measure => simp [intOf]; omega
              · have hjl : j < ts.length := by omega
                clear hjn hj
                obtain ⟨⟨tg, rfl⟩, htc, htn⟩ := St.rowAddr hS.drop (by omega)
                obtain ⟨ht1, ht2⟩ := He.out ts[j] (List.getElem_mem hjl)
                have hts := tsum_take ts j hjl
                have hb1 := tsum_le ts (fun t ht => (He.out t ht).2) j
                have hb2 := tsum_le ts (fun t ht => (He.out t ht).2) (j + 1)
                have hmost := Hm.out
                have f4 : (Trd.cells ts[j])[4]? = some (.int .i64 it) := by rw [← ht1]; rfl
                have f5 : (Trd.cells ts[j])[5]? = some (.int .i64 ts[j].cnt) := rfl
                generalize ts[j].cnt = q at f5 hts ht2
                generalize hd : tsum (ts.take j) = d at hts hb1 hS
                have hB : ∀ s, -2097152 ≤ gT g1 it d s ∧ gT g1 it d s ≤ 67108864 := fun s => by
                  have := Hbd.out s
                  unfold gT
                  rw [Hg1.out s]
                  split <;> split <;> omega
                have hcA := arrL_get (gT g1 it d) it (by omega)
                have hBa := hB it
                have hBb := hB (4 + it)
                clear hB
                generalize ha1 : gT g1 it d it = a1 at hcA hBa
                have hcB : (arrL fun k => if k = it then a1 - q else gT g1 it d k)[4 + it]? = some (.int .i64 (gT g1 it d (4 + it))) := by
                  rw [arrL_get _ _ (by omega), if_neg (by omega)]
                generalize ha2 : gT g1 it d (4 + it) = a2 at hcB hBb
                have hfin : arrL (fun k => if k = 4 + it then a2 - q else if k = it then a1 - q else gT g1 it d k) = arrL (gT g1 it (tsum (ts.take (j + 1)))) := by
                  rw [hts, ← ha1, ← ha2]
                  exact arrL_congr fun s _ => gT_two g1 it d q s
                have Hfin := Lib.hid hfin
                have hq1 : q ≤ 1048576 := by omega
                clear hfin hts hb1 hb2 hmost ht1 hd ha1 ha2
                go_wp2_with fail
                refine wp_region_flow2 [0, 0, 3, 7, 15, 0, 63, 127, 0, 0, 768, 1792, 3840, 8191, 0, 32767, 65535] (fun _ => false) [⟨some 16, none, fun _ => blk nb (arrL fun k => if k = it then a1 - q else gT g1 it d k) 59⟩] [none, none, some 16] (by kernel_rfl) (by kernel_rfl) rfl hS (CongOk.cons (fun _ _ _ => rfl) CongOk.nil) ?_
                intro nd
                iterate 4 (refine ch_pure rfl (by kernel_rfl) rfl rfl ?_; intro K hK; go_big_quiet_op; go_big_quiet_on)
                (apply ch_ld1; rfl; kernel_rfl; (with_reducible rfl); rfl; rfl; decide +kernel; (intro F; exact Cell.there (Cell.rowE Trd.len hjl f4)); (simp only [Act.put, List.setIfInBounds_toArray, List.set_cons_succ, List.set_cons_zero, Nat.reduceAdd]))
                iterate 2 (refine ch_pure rfl (by kernel_rfl) rfl rfl ?_; intro K hK; go_big_quiet_op; go_big_quiet_on)
                (apply ch_ld1; rfl; kernel_rfl; (with_reducible rfl); rfl; rfl; decide +kernel; (intro F; exact Cell.there (Cell.there (Cell.here hcA))); (simp only [Act.put, List.setIfInBounds_toArray, List.set_cons_succ, List.set_cons_zero, Nat.reduceAdd]))
                iterate 4 (refine ch_pure rfl (by kernel_rfl) rfl rfl ?_; intro K hK; go_big_quiet_op; go_big_quiet_on)
                (apply ch_ld1; rfl; kernel_rfl; (with_reducible rfl); rfl; rfl; decide +kernel; (intro F; exact Cell.there (Cell.rowE Trd.len hjl f5)); (simp only [Act.put, List.setIfInBounds_toArray, List.set_cons_succ, List.set_cons_zero, Nat.reduceAdd]))
                iterate 3 (refine ch_pure rfl (by kernel_rfl) rfl rfl ?_; intro K hK; go_big_quiet_op; go_big_quiet_on)
                (apply ch_st (vs := [Value.int .i64 (a1 - q)]); rfl; (with_reducible rfl); rfl; rfl; (focus ((conv => lhs; whnf); try rfl)); rfl; kernel_rfl; rfl; rfl; (simp [arrL]; omega); exact arrL_set _ it (by omega) _; rfl; try (simp only [Act.put, List.setIfInBounds_toArray, List.set_cons_succ, List.set_cons_zero, Nat.reduceAdd]))
                refine ch_end ?_
                clear hS
                intro w hS
                have hS2 : St W [blk nb _ _, bookP _ _, tradesR _ _, sats _] w := hS
                clear hS
                have hS := hS2.unpack [_, _, _]
                clear hS2
                simp only [List.cons_append, List.nil_append] at hS
                go_wp2_with fail
                refine wp_region_flow2 [0, 0, 3, 7, 15, 0, 63, 127, 0, 0, 768, 1792, 3840, 8191, 0, 32767, 65535] (fun _ => false) [⟨some 16, none, fun _ => blk nb (arrL fun k => if k = 4 + it then a2 - q else if k = it then a1 - q else gT g1 it d k) 59⟩] [some 16, none, none] (by kernel_rfl) (by kernel_rfl) rfl hS (CongOk.cons (fun _ _ _ => rfl) CongOk.nil) ?_
                intro nd
                iterate 4 (refine ch_pure rfl (by kernel_rfl) rfl rfl ?_; intro K hK; go_big_quiet_op; go_big_quiet_on)
                (apply ch_ld1; rfl; kernel_rfl; (with_reducible rfl); rfl; rfl; decide +kernel; (intro F; exact Cell.there (Cell.there (Cell.rowE Trd.len hjl f4))); (simp only [Act.put, List.setIfInBounds_toArray, List.set_cons_succ, List.set_cons_zero, Nat.reduceAdd]))
                iterate 2 (refine ch_pure rfl (by kernel_rfl) rfl rfl ?_; intro K hK; go_big_quiet_op; go_big_quiet_on)
                (apply ch_ld1; rfl; kernel_rfl; (with_reducible rfl); rfl; rfl; decide +kernel; (intro F; exact Cell.here hcB); (simp only [Act.put, List.setIfInBounds_toArray, List.set_cons_succ, List.set_cons_zero, Nat.reduceAdd]))
                iterate 4 (refine ch_pure rfl (by kernel_rfl) rfl rfl ?_; intro K hK; go_big_quiet_op; go_big_quiet_on)
                (apply ch_ld1; rfl; kernel_rfl; (with_reducible rfl); rfl; rfl; decide +kernel; (intro F; exact Cell.there (Cell.there (Cell.rowE Trd.len hjl f5))); (simp only [Act.put, List.setIfInBounds_toArray, List.set_cons_succ, List.set_cons_zero, Nat.reduceAdd]))
                iterate 3 (refine ch_pure rfl (by kernel_rfl) rfl rfl ?_; intro K hK; go_big_quiet_op; go_big_quiet_on)
                (apply ch_st (vs := [Value.int .i64 (a2 - q)]); rfl; (with_reducible rfl); rfl; rfl; (focus ((conv => lhs; whnf); try rfl)); rfl; kernel_rfl; rfl; rfl; (simp [arrL]; omega); exact arrL_set _ (4 + it) (by omega) _; rfl; try (simp only [Act.put, List.setIfInBounds_toArray, List.set_cons_succ, List.set_cons_zero, Nat.reduceAdd]))
                refine ch_end ?_
                clear hS
                intro w hS
                have hS2 : St W [blk nb _ _, bookP _ _, tradesR _ _, sats _] w := hS
                clear hS
                have hS := hS2.unpack [_, _, _]
                clear hS2
                simp only [List.cons_append, List.nil_append] at hS
                rw [Hfin.out] at hS
                go_wp2_with fail
                go_roundw
                case rel => exact ⟨j + 1, rfl, hjl, hS.perm (List.perm_middle (l₁ := [_, _])).symm⟩
                case measure => simp [intOf]; omega
          · skip
            obtain ⟨hv0, hv1⟩ := Hbd.out (4 + it)
            have hcell := arrL_get (sumS L) (4 + it) (by omega)
            generalize hgs : sumS L (4 + it) = gs at hcell hv0 hv1
            go_wp2_with (first | ((with_reducible apply wl_ld1 hS); (with_reducible rfl); rfl; rfl; decide +kernel; (first | exact Cell.old .head ck | exact Cell.old (.tail .head) ck | exact Cell.old (.tail (.tail .head)) ck | exact Cell.old (.tail (.tail (.tail .head))) ck | exact Cell.old (.tail (.tail (.tail (.tail .head)))) ck | exact Cell.old (.tail (.tail (.tail (.tail (.tail .head))))) ck); (simp only [Act.put, List.setIfInBounds_toArray, List.set_cons_succ, List.set_cons_zero, Nat.reduceAdd])) | ((with_reducible apply wl_ld1 hS); (with_reducible rfl); rfl; rfl; decide +kernel; (first | exact Cell.old .head cb | exact Cell.old (.tail .head) cb | exact Cell.old (.tail (.tail .head)) cb | exact Cell.old (.tail (.tail (.tail .head))) cb | exact Cell.old (.tail (.tail (.tail (.tail .head)))) cb | exact Cell.old (.tail (.tail (.tail (.tail (.tail .head))))) cb); (simp only [Act.put, List.setIfInBounds_toArray, List.set_cons_succ, List.set_cons_zero, Nat.reduceAdd])) | ((with_reducible apply wl_ldN hS); (with_reducible rfl); rfl; rfl; decide +kernel; (first | exact Cells.old .head call | exact Cells.old (.tail .head) call | exact Cells.old (.tail (.tail .head)) call | exact Cells.old (.tail (.tail (.tail .head))) call); kernel_rfl; (simp only [Act.put, List.setIfInBounds_toArray, List.set_cons_succ, List.set_cons_zero, Nat.reduceAdd])) | (go_at_call 14; refine (place_at b2 Hr.out ⟨oi, ou, true, it, oc, op⟩ W _ _ hS).mono ?_; clear hS; rw [HPR.out]; rintro e w ⟨b3, ts, ta, tc, ⟨rfl, -, hrep, -⟩, rfl, hS⟩; have Hrep := Lib.hid hrep; clear hrep))
            refine wp_region_flow2 [0, 0, 0, 6, 14, 30, 62, 1, 255, 511, 0, 0, 3072, 7168, 15360, 31744, 65535, 1, 262143, 524287] (fun _ => false) [⟨some 19, none, fun _ => blk nb (arrL fun k => if k = (4 + it) then gs + oc else sumS L k) 59⟩] [none, none, some 19, none] (by kernel_rfl) (by kernel_rfl) rfl hS (CongOk.cons (fun _ _ _ => rfl) CongOk.nil) ?_
            intro nd
            iterate 6 (refine ch_pure rfl (by kernel_rfl) rfl rfl ?_; intro K hK; go_big_quiet_op; go_big_quiet_on)
            (apply ch_ld1; rfl; kernel_rfl; (with_reducible rfl); rfl; rfl; decide +kernel; (intro F; first | exact Cell.old .head cit | exact Cell.old (.tail .head) cit | exact Cell.old (.tail (.tail .head)) cit | exact Cell.old (.tail (.tail (.tail .head))) cit | exact Cell.old (.tail (.tail (.tail (.tail .head)))) cit | exact Cell.old (.tail (.tail (.tail (.tail (.tail .head))))) cit); (simp only [Act.put, List.setIfInBounds_toArray, List.set_cons_succ, List.set_cons_zero, Nat.reduceAdd]))
            iterate 2 (refine ch_pure rfl (by kernel_rfl) rfl rfl ?_; intro K hK; go_big_quiet_op; go_big_quiet_on)
            (apply ch_ld1; rfl; kernel_rfl; (with_reducible rfl); rfl; rfl; decide +kernel; (intro F; exact Cell.there (Cell.there (Cell.here hcell))); (simp only [Act.put, List.setIfInBounds_toArray, List.set_cons_succ, List.set_cons_zero, Nat.reduceAdd]))
            iterate 5 (refine ch_pure rfl (by kernel_rfl) rfl rfl ?_; intro K hK; go_big_quiet_op; go_big_quiet_on)
            (apply ch_ld1; rfl; kernel_rfl; (with_reducible rfl); rfl; rfl; decide +kernel; (intro F; first | exact Cell.old .head cc | exact Cell.old (.tail .head) cc | exact Cell.old (.tail (.tail .head)) cc | exact Cell.old (.tail (.tail (.tail .head))) cc | exact Cell.old (.tail (.tail (.tail (.tail .head)))) cc | exact Cell.old (.tail (.tail (.tail (.tail (.tail .head))))) cc); (simp only [Act.put, List.setIfInBounds_toArray, List.set_cons_succ, List.set_cons_zero, Nat.reduceAdd]))
            iterate 3 (refine ch_pure rfl (by kernel_rfl) rfl rfl ?_; intro K hK; go_big_quiet_op; go_big_quiet_on)
            (apply ch_st (vs := [Value.int .i64 (gs + oc)]); rfl; (with_reducible rfl); rfl; rfl; (focus ((conv => lhs; whnf); try rfl)); rfl; kernel_rfl; rfl; rfl; (simp [arrL]; omega); exact arrL_set _ (4 + it) (by omega) _; rfl; try (simp only [Act.put, List.setIfInBounds_toArray, List.set_cons_succ, List.set_cons_zero, Nat.reduceAdd]))
            refine ch_end ?_
            clear hS
            intro w hS
            have hS2 : St W [blk nb _ _, bookP _ _, tradesR _ _, Old _, sats _] w := hS
            clear hS
            have hS := hS2.unpack [_, _, _, _]
            clear hS2
            simp only [List.cons_append, List.nil_append] at hS
            generalize hg1 : (fun k => if k = (4 + it) then gs + oc else sumS L k) = g1 at hS
            have hg1s : ∀ s, g1 s = sumS L s + if (4 + it) = s then oc else 0 := fun s => by
              rw [← hg1]
              by_cases hsx : s = (4 + it)
              · simp only [if_pos hsx, if_pos hsx.symm]; rw [hsx, hgs]
              · simp only [if_neg hsx, if_neg (fun h : (4 + it) = s => hsx h.symm)]; omega
            have Hg1 := Lib.hid hg1s
            clear hg1 hg1s hcell hv0 hv1 hgs
            replace hS := hS.perm (List.perm_middle (l₁ := [_, _])).symm
            go_wp2_with fail
            go_loopw [10] (fun v wr => SumT W (Old V :: Lr) (bookP b2 b3) (tradesR (.slice ta ts.length tc) ts) nb g1 it ts v wr) (fun v _ => ts.length - (intOf v).toNat)
            case atStart => exact ⟨0, rfl, by omega, by
              have e : arrL (gT g1 it (tsum (ts.take 0))) = arrL g1 := arrL_congr fun s _ => by
                unfold gT
                simp only [List.take_zero, tsum]
                split <;> omega
              rw [e]; exact hS⟩
            case round =>
              clear hS
              obtain ⟨j, rfl, hj, hS⟩ := hrel
              by_cases hjn : j = ts.length
              · subst hjn
                have hfin : arrL (gT g1 it (tsum (ts.take ts.length))) = arrL (sumS L2) := arrL_congr fun s _ => by
                  have hs : sumS L2 s = (sumS L s + if (4 + it) = s then oc else 0) - (if it = s ∨ (4 + it) = s then tsum ts else 0) := Hs.out s
                  rw [List.take_length]
                  exact sums_end (Hg1.out s) hs (by omega)
                rw [hfin] at hS
                go_wp2_with fail
                go_roundw
                case rel => exact ⟨i + 1, b3, L2, rfl, hil, hi2, Hrep.out, hS.swap.drop⟩
                case measure => simp [intOf]; omega
              · have hjl : j < ts.length := by omega
                clear hjn hj
                obtain ⟨⟨tg, rfl⟩, htc, htn⟩ := St.rowAddr hS.drop (by omega)
                obtain ⟨ht1, ht2⟩ := He.out ts[j] (List.getElem_mem hjl)
                have hts := tsum_take ts j hjl
                have hb1 := tsum_le ts (fun t ht => (He.out t ht).2) j
                have hb2 := tsum_le ts (fun t ht => (He.out t ht).2) (j + 1)
                have hmost := Hm.out
                have f4 : (Trd.cells ts[j])[4]? = some (.int .i64 it) := by rw [← ht1]; rfl
                have f5 : (Trd.cells ts[j])[5]? = some (.int .i64 ts[j].cnt) := rfl
                generalize ts[j].cnt = q at f5 hts ht2
                generalize hd : tsum (ts.take j) = d at hts hb1 hS
                have hB : ∀ s, -2097152 ≤ gT g1 it d s ∧ gT g1 it d s ≤ 67108864 := fun s => by
                  have := Hbd.out s
                  unfold gT
                  rw [Hg1.out s]
                  split <;> split <;> omega
                have hcA := arrL_get (gT g1 it d) it (by omega)
                have hBa := hB it
                have hBb := hB (4 + it)
                clear hB
                generalize ha1 : gT g1 it d it = a1 at hcA hBa
                have hcB : (arrL fun k => if k = it then a1 - q else gT g1 it d k)[4 + it]? = some (.int .i64 (gT g1 it d (4 + it))) := by
                  rw [arrL_get _ _ (by omega), if_neg (by omega)]
                generalize ha2 : gT g1 it d (4 + it) = a2 at hcB hBb
                have hfin : arrL (fun k => if k = 4 + it then a2 - q else if k = it then a1 - q else gT g1 it d k) = arrL (gT g1 it (tsum (ts.take (j + 1)))) := by
                  rw [hts, ← ha1, ← ha2]
                  exact arrL_congr fun s _ => gT_two g1 it d q s
                have Hfin := Lib.hid hfin
                have hq1 : q ≤ 1048576 := by omega
                clear hfin hts hb1 hb2 hmost ht1 hd ha1 ha2
                go_wp2_with fail
                refine wp_region_flow2 [0, 0, 3, 7, 15, 0, 63, 127, 0, 0, 768, 1792, 3840, 8191, 0, 32767, 65535] (fun _ => false) [⟨some 16, none, fun _ => blk nb (arrL fun k => if k = it then a1 - q else gT g1 it d k) 59⟩] [none, none, some 16] (by kernel_rfl) (by kernel_rfl) rfl hS (CongOk.cons (fun _ _ _ => rfl) CongOk.nil) ?_
                intro nd
                iterate 4 (refine ch_pure rfl (by kernel_rfl) rfl rfl ?_; intro K hK; go_big_quiet_op; go_big_quiet_on)
                (apply ch_ld1; rfl; kernel_rfl; (with_reducible rfl); rfl; rfl; decide +kernel; (intro F; exact Cell.there (Cell.rowE Trd.len hjl f4)); (simp only [Act.put, List.setIfInBounds_toArray, List.set_cons_succ, List.set_cons_zero, Nat.reduceAdd]))
                iterate 2 (refine ch_pure rfl (by kernel_rfl) rfl rfl ?_; intro K hK; go_big_quiet_op; go_big_quiet_on)
                (apply ch_ld1; rfl; kernel_rfl; (with_reducible rfl); rfl; rfl; decide +kernel; (intro F; exact Cell.there (Cell.there (Cell.here hcA))); (simp only [Act.put, List.setIfInBounds_toArray, List.set_cons_succ, List.set_cons_zero, Nat.reduceAdd]))
                iterate 4 (refine ch_pure rfl (by kernel_rfl) rfl rfl ?_; intro K hK; go_big_quiet_op; go_big_quiet_on)
                (apply ch_ld1; rfl; kernel_rfl; (with_reducible rfl); rfl; rfl; decide +kernel; (intro F; exact Cell.there (Cell.rowE Trd.len hjl f5)); (simp only [Act.put, List.setIfInBounds_toArray, List.set_cons_succ, List.set_cons_zero, Nat.reduceAdd]))
                iterate 3 (refine ch_pure rfl (by kernel_rfl) rfl rfl ?_; intro K hK; go_big_quiet_op; go_big_quiet_on)
                (apply ch_st (vs := [Value.int .i64 (a1 - q)]); rfl; (with_reducible rfl); rfl; rfl; (focus ((conv => lhs; whnf); try rfl)); rfl; kernel_rfl; rfl; rfl; (simp [arrL]; omega); exact arrL_set _ it (by omega) _; rfl; try (simp only [Act.put, List.setIfInBounds_toArray, List.set_cons_succ, List.set_cons_zero, Nat.reduceAdd]))
                refine ch_end ?_
                clear hS
                intro w hS
                have hS2 : St W [blk nb _ _, bookP _ _, tradesR _ _, sats _] w := hS
                clear hS
                have hS := hS2.unpack [_, _, _]
                clear hS2
                simp only [List.cons_append, List.nil_append] at hS
                go_wp2_with fail
                refine wp_region_flow2 [0, 0, 3, 7, 15, 0, 63, 127, 0, 0, 768, 1792, 3840, 8191, 0, 32767, 65535] (fun _ => false) [⟨some 16, none, fun _ => blk nb (arrL fun k => if k = 4 + it then a2 - q else if k = it then a1 - q else gT g1 it d k) 59⟩] [some 16, none, none] (by kernel_rfl) (by kernel_rfl) rfl hS (CongOk.cons (fun _ _ _ => rfl) CongOk.nil) ?_
                intro nd
                iterate 4 (refine ch_pure rfl (by kernel_rfl) rfl rfl ?_; intro K hK; go_big_quiet_op; go_big_quiet_on)
                (apply ch_ld1; rfl; kernel_rfl; (with_reducible rfl); rfl; rfl; decide +kernel; (intro F; exact Cell.there (Cell.there (Cell.rowE Trd.len hjl f4))); (simp only [Act.put, List.setIfInBounds_toArray, List.set_cons_succ, List.set_cons_zero, Nat.reduceAdd]))
                iterate 2 (refine ch_pure rfl (by kernel_rfl) rfl rfl ?_; intro K hK; go_big_quiet_op; go_big_quiet_on)
                (apply ch_ld1; rfl; kernel_rfl; (with_reducible rfl); rfl; rfl; decide +kernel; (intro F; exact Cell.here hcB); (simp only [Act.put, List.setIfInBounds_toArray, List.set_cons_succ, List.set_cons_zero, Nat.reduceAdd]))
                iterate 4 (refine ch_pure rfl (by kernel_rfl) rfl rfl ?_; intro K hK; go_big_quiet_op; go_big_quiet_on)
                (apply ch_ld1; rfl; kernel_rfl; (with_reducible rfl); rfl; rfl; decide +kernel; (intro F; exact Cell.there (Cell.there (Cell.rowE Trd.len hjl f5))); (simp only [Act.put, List.setIfInBounds_toArray, List.set_cons_succ, List.set_cons_zero, Nat.reduceAdd]))
                iterate 3 (refine ch_pure rfl (by kernel_rfl) rfl rfl ?_; intro K hK; go_big_quiet_op; go_big_quiet_on)
                (apply ch_st (vs := [Value.int .i64 (a2 - q)]); rfl; (with_reducible rfl); rfl; rfl; (focus ((conv => lhs; whnf); try rfl)); rfl; kernel_rfl; rfl; rfl; (simp [arrL]; omega); exact arrL_set _ (4 + it) (by omega) _; rfl; try (simp only [Act.put, List.setIfInBounds_toArray, List.set_cons_succ, List.set_cons_zero, Nat.reduceAdd]))
                refine ch_end ?_
                clear hS
                intro w hS
                have hS2 : St W [blk nb _ _, bookP _ _, tradesR _ _, sats _] w := hS
                clear hS
                have hS := hS2.unpack [_, _, _]
                clear hS2
                simp only [List.cons_append, List.nil_append] at hS
                rw [Hfin.out] at hS
                go_wp2_with fail
                go_roundw
                case rel => exact ⟨j + 1, rfl, hjl, hS.perm (List.perm_middle (l₁ := [_, _])).symm⟩
                case measure => simp [intOf]; omega
      · have hk1f : (kd == 1) = false := by simpa using hk1
        by_cases hk2 : kd = 2
        · subst hk2
          rcases cancel_sums L nn with ⟨he, hL⟩ | ⟨he, hoL, hsums⟩
          · generalize hCR : cancelR L nn = CR at he hL
            have HCR := Lib.hid hCR
            have HL := Lib.hid hL
            clear hCR hL
            obtain ⟨⟨xi, xu, xy, xt, xc, xp⟩, en, L2⟩ := CR
            simp only at he
            subst he
            cases oy
            · skip
              go_wp2_with (first | ((with_reducible apply wl_ld1 hS); (with_reducible rfl); rfl; rfl; decide +kernel; (first | exact Cell.old .head ck | exact Cell.old (.tail .head) ck | exact Cell.old (.tail (.tail .head)) ck | exact Cell.old (.tail (.tail (.tail .head))) ck | exact Cell.old (.tail (.tail (.tail (.tail .head)))) ck | exact Cell.old (.tail (.tail (.tail (.tail (.tail .head))))) ck); (simp only [Act.put, List.setIfInBounds_toArray, List.set_cons_succ, List.set_cons_zero, Nat.reduceAdd])) | ((with_reducible apply wl_ld1 hS); (with_reducible rfl); rfl; rfl; decide +kernel; (first | exact Cell.old .head cb | exact Cell.old (.tail .head) cb | exact Cell.old (.tail (.tail .head)) cb | exact Cell.old (.tail (.tail (.tail .head))) cb | exact Cell.old (.tail (.tail (.tail (.tail .head)))) cb | exact Cell.old (.tail (.tail (.tail (.tail (.tail .head))))) cb); (simp only [Act.put, List.setIfInBounds_toArray, List.set_cons_succ, List.set_cons_zero, Nat.reduceAdd])) | ((with_reducible apply wl_ld1 hS); (with_reducible rfl); rfl; rfl; decide +kernel; (first | exact Cell.old .head cn | exact Cell.old (.tail .head) cn | exact Cell.old (.tail (.tail .head)) cn | exact Cell.old (.tail (.tail (.tail .head))) cn | exact Cell.old (.tail (.tail (.tail (.tail .head)))) cn | exact Cell.old (.tail (.tail (.tail (.tail (.tail .head))))) cn); (simp only [Act.put, List.setIfInBounds_toArray, List.set_cons_succ, List.set_cons_zero, Nat.reduceAdd])) | (go_at_call 17; refine (cancel_at b2 Hr.out nn W _ _ hS).mono ?_; clear hS; rw [HCR.out]; simp only [Ord.cells]; rintro e w ⟨b3, ⟨-, hrep⟩, rfl, hS⟩; have Hrep := Lib.hid hrep; clear hrep) | ((with_reducible apply wl_ld1 hS); (with_reducible rfl); rfl; rfl; decide +kernel; (first | exact Cell.here rfl | exact Cell.there (Cell.here rfl) | exact Cell.there (Cell.there (Cell.here rfl)) | exact Cell.there (Cell.there (Cell.there (Cell.here rfl))) | exact Cell.there (Cell.there (Cell.there (Cell.there (Cell.here rfl)))) | exact Cell.there (Cell.there (Cell.there (Cell.there (Cell.there (Cell.here rfl))))) | exact Cell.there (Cell.there (Cell.there (Cell.there (Cell.there (Cell.there (Cell.here rfl)))))) | assumption); (simp only [Act.put, List.setIfInBounds_toArray, List.set_cons_succ, List.set_cons_zero, Nat.reduceAdd])) | ((with_reducible apply wl_ldN hS); (with_reducible rfl); rfl; rfl; decide +kernel; (first | exact Cells.whole | exact Cells.there Cells.whole | exact Cells.there (Cells.there Cells.whole) | exact Cells.there (Cells.there (Cells.there Cells.whole)) | exact Cells.there (Cells.there (Cells.there (Cells.there Cells.whole))) | exact Cells.there (Cells.there (Cells.there (Cells.there (Cells.there Cells.whole)))) | exact Cells.there (Cells.there (Cells.there (Cells.there (Cells.there (Cells.there Cells.whole))))) | assumption); kernel_rfl; (simp only [Act.put, List.setIfInBounds_toArray, List.set_cons_succ, List.set_cons_zero, Nat.reduceAdd])) | ((with_reducible apply wl_st1 hS); (with_reducible rfl); rfl; rfl; (focus ((conv => lhs; whnf); try rfl)); kernel_rfl; rfl; rfl; (first | exact Upd.head | exact Upd.tail Upd.head | exact Upd.tail (Upd.tail Upd.head) | exact Upd.tail (Upd.tail (Upd.tail Upd.head)) | exact Upd.tail (Upd.tail (Upd.tail (Upd.tail Upd.head))) | exact Upd.tail (Upd.tail (Upd.tail (Upd.tail (Upd.tail Upd.head)))) | exact Upd.tail (Upd.tail (Upd.tail (Upd.tail (Upd.tail (Upd.tail Upd.head)))))); (simp only [List.length_cons, List.length_nil]; omega); ((simp only [List.set_cons_zero, List.set_cons_succ, setAll]); rfl); clear hS; intro w hS; try (simp only [Act.put, List.setIfInBounds_toArray, List.set_cons_succ, List.set_cons_zero, Nat.reduceAdd])) | ((with_reducible apply wl_stN hS); (with_reducible rfl); rfl; rfl; (focus ((conv => lhs; whnf); try rfl)); kernel_rfl; rfl; (first | exact Upd.head | exact Upd.tail Upd.head | exact Upd.tail (Upd.tail Upd.head) | exact Upd.tail (Upd.tail (Upd.tail Upd.head)) | exact Upd.tail (Upd.tail (Upd.tail (Upd.tail Upd.head))) | exact Upd.tail (Upd.tail (Upd.tail (Upd.tail (Upd.tail Upd.head)))) | exact Upd.tail (Upd.tail (Upd.tail (Upd.tail (Upd.tail (Upd.tail Upd.head)))))); (simp only [List.length_cons, List.length_nil]; omega); ((simp only [List.set_cons_zero, List.set_cons_succ, setAll]); rfl); clear hS; intro w hS; try (simp only [Act.put, List.setIfInBounds_toArray, List.set_cons_succ, List.set_cons_zero, Nat.reduceAdd])) | ((with_reducible apply wl_box hS); (with_reducible rfl); rfl; rfl; rfl; clear hS; intro b w hS; (simp only [Act.put, List.setIfInBounds_toArray, List.set_cons_succ, List.set_cons_zero, Nat.reduceAdd])) | ((with_reducible apply wl_alloc hS); (with_reducible rfl); rfl; (with_reducible first | exact Ty.z3 | exact Ty.z31 | exact Ty.z33 | exact Ty.z59 | exact Ty.z79 | exact Ty.z110); clear hS; intro b w hS; (simp only [Act.put, List.setIfInBounds_toArray, List.set_cons_succ, List.set_cons_zero, Nat.reduceAdd])))
              go_roundw
              case rel => exact ⟨i + 1, b3, L, rfl, hil, hi2, HL.out ▸ Hrep.out, hS.drop⟩
              case measure => simp [intOf]; omega
            · skip
              go_wp2_with (first | ((with_reducible apply wl_ld1 hS); (with_reducible rfl); rfl; rfl; decide +kernel; (first | exact Cell.old .head ck | exact Cell.old (.tail .head) ck | exact Cell.old (.tail (.tail .head)) ck | exact Cell.old (.tail (.tail (.tail .head))) ck | exact Cell.old (.tail (.tail (.tail (.tail .head)))) ck | exact Cell.old (.tail (.tail (.tail (.tail (.tail .head))))) ck); (simp only [Act.put, List.setIfInBounds_toArray, List.set_cons_succ, List.set_cons_zero, Nat.reduceAdd])) | ((with_reducible apply wl_ld1 hS); (with_reducible rfl); rfl; rfl; decide +kernel; (first | exact Cell.old .head cb | exact Cell.old (.tail .head) cb | exact Cell.old (.tail (.tail .head)) cb | exact Cell.old (.tail (.tail (.tail .head))) cb | exact Cell.old (.tail (.tail (.tail (.tail .head)))) cb | exact Cell.old (.tail (.tail (.tail (.tail (.tail .head))))) cb); (simp only [Act.put, List.setIfInBounds_toArray, List.set_cons_succ, List.set_cons_zero, Nat.reduceAdd])) | ((with_reducible apply wl_ld1 hS); (with_reducible rfl); rfl; rfl; decide +kernel; (first | exact Cell.old .head cn | exact Cell.old (.tail .head) cn | exact Cell.old (.tail (.tail .head)) cn | exact Cell.old (.tail (.tail (.tail .head))) cn | exact Cell.old (.tail (.tail (.tail (.tail .head)))) cn | exact Cell.old (.tail (.tail (.tail (.tail (.tail .head))))) cn); (simp only [Act.put, List.setIfInBounds_toArray, List.set_cons_succ, List.set_cons_zero, Nat.reduceAdd])) | (go_at_call 17; refine (cancel_at b2 Hr.out nn W _ _ hS).mono ?_; clear hS; rw [HCR.out]; simp only [Ord.cells]; rintro e w ⟨b3, ⟨-, hrep⟩, rfl, hS⟩; have Hrep := Lib.hid hrep; clear hrep) | ((with_reducible apply wl_ld1 hS); (with_reducible rfl); rfl; rfl; decide +kernel; (first | exact Cell.here rfl | exact Cell.there (Cell.here rfl) | exact Cell.there (Cell.there (Cell.here rfl)) | exact Cell.there (Cell.there (Cell.there (Cell.here rfl))) | exact Cell.there (Cell.there (Cell.there (Cell.there (Cell.here rfl)))) | exact Cell.there (Cell.there (Cell.there (Cell.there (Cell.there (Cell.here rfl))))) | exact Cell.there (Cell.there (Cell.there (Cell.there (Cell.there (Cell.there (Cell.here rfl)))))) | assumption); (simp only [Act.put, List.setIfInBounds_toArray, List.set_cons_succ, List.set_cons_zero, Nat.reduceAdd])) | ((with_reducible apply wl_ldN hS); (with_reducible rfl); rfl; rfl; decide +kernel; (first | exact Cells.whole | exact Cells.there Cells.whole | exact Cells.there (Cells.there Cells.whole) | exact Cells.there (Cells.there (Cells.there Cells.whole)) | exact Cells.there (Cells.there (Cells.there (Cells.there Cells.whole))) | exact Cells.there (Cells.there (Cells.there (Cells.there (Cells.there Cells.whole)))) | exact Cells.there (Cells.there (Cells.there (Cells.there (Cells.there (Cells.there Cells.whole))))) | assumption); kernel_rfl; (simp only [Act.put, List.setIfInBounds_toArray, List.set_cons_succ, List.set_cons_zero, Nat.reduceAdd])) | ((with_reducible apply wl_st1 hS); (with_reducible rfl); rfl; rfl; (focus ((conv => lhs; whnf); try rfl)); kernel_rfl; rfl; rfl; (first | exact Upd.head | exact Upd.tail Upd.head | exact Upd.tail (Upd.tail Upd.head) | exact Upd.tail (Upd.tail (Upd.tail Upd.head)) | exact Upd.tail (Upd.tail (Upd.tail (Upd.tail Upd.head))) | exact Upd.tail (Upd.tail (Upd.tail (Upd.tail (Upd.tail Upd.head)))) | exact Upd.tail (Upd.tail (Upd.tail (Upd.tail (Upd.tail (Upd.tail Upd.head)))))); (simp only [List.length_cons, List.length_nil]; omega); ((simp only [List.set_cons_zero, List.set_cons_succ, setAll]); rfl); clear hS; intro w hS; try (simp only [Act.put, List.setIfInBounds_toArray, List.set_cons_succ, List.set_cons_zero, Nat.reduceAdd])) | ((with_reducible apply wl_stN hS); (with_reducible rfl); rfl; rfl; (focus ((conv => lhs; whnf); try rfl)); kernel_rfl; rfl; (first | exact Upd.head | exact Upd.tail Upd.head | exact Upd.tail (Upd.tail Upd.head) | exact Upd.tail (Upd.tail (Upd.tail Upd.head)) | exact Upd.tail (Upd.tail (Upd.tail (Upd.tail Upd.head))) | exact Upd.tail (Upd.tail (Upd.tail (Upd.tail (Upd.tail Upd.head)))) | exact Upd.tail (Upd.tail (Upd.tail (Upd.tail (Upd.tail (Upd.tail Upd.head)))))); (simp only [List.length_cons, List.length_nil]; omega); ((simp only [List.set_cons_zero, List.set_cons_succ, setAll]); rfl); clear hS; intro w hS; try (simp only [Act.put, List.setIfInBounds_toArray, List.set_cons_succ, List.set_cons_zero, Nat.reduceAdd])) | ((with_reducible apply wl_box hS); (with_reducible rfl); rfl; rfl; rfl; clear hS; intro b w hS; (simp only [Act.put, List.setIfInBounds_toArray, List.set_cons_succ, List.set_cons_zero, Nat.reduceAdd])) | ((with_reducible apply wl_alloc hS); (with_reducible rfl); rfl; (with_reducible first | exact Ty.z3 | exact Ty.z31 | exact Ty.z33 | exact Ty.z59 | exact Ty.z79 | exact Ty.z110); clear hS; intro b w hS; (simp only [Act.put, List.setIfInBounds_toArray, List.set_cons_succ, List.set_cons_zero, Nat.reduceAdd])))
              go_roundw
              case rel => exact ⟨i + 1, b3, L, rfl, hil, hi2, HL.out ▸ Hrep.out, hS.drop⟩
              case measure => simp [intOf]; omega
          · have hmay := (Hr.out.each _ hoL).1
            generalize hCR : cancelR L nn = CR at he hmay hsums
            have HCR := Lib.hid hCR
            clear hCR hoL
            obtain ⟨⟨xi, xu, xy, xt, xc, xp⟩, en, L2⟩ := CR
            have hc1 := hmay.cnt1
            have hi0 := hmay.item0
            have hi1 := hmay.item1
            have hc0 := hmay.cnt0
            simp only at he hsums hc1 hi0 hi1 hc0
            obtain ⟨it, rfl⟩ : ∃ it : Nat, xt = it := ⟨xt.toNat, by omega⟩
            have hit4 : it < 4 := by omega
            clear hmay hi0 hi1
            subst he
            have Hs := Lib.hid hsums
            clear hsums
            cases xy
            · cases oy
              · skip
                obtain ⟨hv0, hv1⟩ := Hbd.out it
                have hcell := arrL_get (sumS L) it (by omega)
                generalize hgs : sumS L it = gs at hcell hv0 hv1
                go_wp2_with (first | ((with_reducible apply wl_ld1 hS); (with_reducible rfl); rfl; rfl; decide +kernel; (first | exact Cell.old .head ck | exact Cell.old (.tail .head) ck | exact Cell.old (.tail (.tail .head)) ck | exact Cell.old (.tail (.tail (.tail .head))) ck | exact Cell.old (.tail (.tail (.tail (.tail .head)))) ck | exact Cell.old (.tail (.tail (.tail (.tail (.tail .head))))) ck); (simp only [Act.put, List.setIfInBounds_toArray, List.set_cons_succ, List.set_cons_zero, Nat.reduceAdd])) | ((with_reducible apply wl_ld1 hS); (with_reducible rfl); rfl; rfl; decide +kernel; (first | exact Cell.old .head cb | exact Cell.old (.tail .head) cb | exact Cell.old (.tail (.tail .head)) cb | exact Cell.old (.tail (.tail (.tail .head))) cb | exact Cell.old (.tail (.tail (.tail (.tail .head)))) cb | exact Cell.old (.tail (.tail (.tail (.tail (.tail .head))))) cb); (simp only [Act.put, List.setIfInBounds_toArray, List.set_cons_succ, List.set_cons_zero, Nat.reduceAdd])) | ((with_reducible apply wl_ld1 hS); (with_reducible rfl); rfl; rfl; decide +kernel; (first | exact Cell.old .head cn | exact Cell.old (.tail .head) cn | exact Cell.old (.tail (.tail .head)) cn | exact Cell.old (.tail (.tail (.tail .head))) cn | exact Cell.old (.tail (.tail (.tail (.tail .head)))) cn | exact Cell.old (.tail (.tail (.tail (.tail (.tail .head))))) cn); (simp only [Act.put, List.setIfInBounds_toArray, List.set_cons_succ, List.set_cons_zero, Nat.reduceAdd])) | (go_at_call 17; refine (cancel_at b2 Hr.out nn W _ _ hS).mono ?_; clear hS; rw [HCR.out]; simp only [Ord.cells]; rintro e w ⟨b3, ⟨-, hrep⟩, rfl, hS⟩; have Hrep := Lib.hid hrep; clear hrep) | ((with_reducible apply wl_ld1 hS); (with_reducible rfl); rfl; rfl; decide +kernel; (first | exact Cell.here rfl | exact Cell.there (Cell.here rfl) | exact Cell.there (Cell.there (Cell.here rfl)) | exact Cell.there (Cell.there (Cell.there (Cell.here rfl))) | exact Cell.there (Cell.there (Cell.there (Cell.there (Cell.here rfl)))) | exact Cell.there (Cell.there (Cell.there (Cell.there (Cell.there (Cell.here rfl))))) | exact Cell.there (Cell.there (Cell.there (Cell.there (Cell.there (Cell.there (Cell.here rfl)))))) | assumption); (simp only [Act.put, List.setIfInBounds_toArray, List.set_cons_succ, List.set_cons_zero, Nat.reduceAdd])) | ((with_reducible apply wl_ldN hS); (with_reducible rfl); rfl; rfl; decide +kernel; (first | exact Cells.whole | exact Cells.there Cells.whole | exact Cells.there (Cells.there Cells.whole) | exact Cells.there (Cells.there (Cells.there Cells.whole)) | exact Cells.there (Cells.there (Cells.there (Cells.there Cells.whole))) | exact Cells.there (Cells.there (Cells.there (Cells.there (Cells.there Cells.whole)))) | exact Cells.there (Cells.there (Cells.there (Cells.there (Cells.there (Cells.there Cells.whole))))) | assumption); kernel_rfl; (simp only [Act.put, List.setIfInBounds_toArray, List.set_cons_succ, List.set_cons_zero, Nat.reduceAdd])) | ((with_reducible apply wl_st1 hS); (with_reducible rfl); rfl; rfl; (focus ((conv => lhs; whnf); try rfl)); kernel_rfl; rfl; rfl; (first | exact Upd.head | exact Upd.tail Upd.head | exact Upd.tail (Upd.tail Upd.head) | exact Upd.tail (Upd.tail (Upd.tail Upd.head)) | exact Upd.tail (Upd.tail (Upd.tail (Upd.tail Upd.head))) | exact Upd.tail (Upd.tail (Upd.tail (Upd.tail (Upd.tail Upd.head)))) | exact Upd.tail (Upd.tail (Upd.tail (Upd.tail (Upd.tail (Upd.tail Upd.head)))))); (simp only [List.length_cons, List.length_nil]; omega); ((simp only [List.set_cons_zero, List.set_cons_succ, setAll]); rfl); clear hS; intro w hS; try (simp only [Act.put, List.setIfInBounds_toArray, List.set_cons_succ, List.set_cons_zero, Nat.reduceAdd])) | ((with_reducible apply wl_stN hS); (with_reducible rfl); rfl; rfl; (focus ((conv => lhs; whnf); try rfl)); kernel_rfl; rfl; (first | exact Upd.head | exact Upd.tail Upd.head | exact Upd.tail (Upd.tail Upd.head) | exact Upd.tail (Upd.tail (Upd.tail Upd.head)) | exact Upd.tail (Upd.tail (Upd.tail (Upd.tail Upd.head))) | exact Upd.tail (Upd.tail (Upd.tail (Upd.tail (Upd.tail Upd.head)))) | exact Upd.tail (Upd.tail (Upd.tail (Upd.tail (Upd.tail (Upd.tail Upd.head)))))); (simp only [List.length_cons, List.length_nil]; omega); ((simp only [List.set_cons_zero, List.set_cons_succ, setAll]); rfl); clear hS; intro w hS; try (simp only [Act.put, List.setIfInBounds_toArray, List.set_cons_succ, List.set_cons_zero, Nat.reduceAdd])) | ((with_reducible apply wl_box hS); (with_reducible rfl); rfl; rfl; rfl; clear hS; intro b w hS; (simp only [Act.put, List.setIfInBounds_toArray, List.set_cons_succ, List.set_cons_zero, Nat.reduceAdd])) | ((with_reducible apply wl_alloc hS); (with_reducible rfl); rfl; (with_reducible first | exact Ty.z3 | exact Ty.z31 | exact Ty.z33 | exact Ty.z59 | exact Ty.z79 | exact Ty.z110); clear hS; intro b w hS; (simp only [Act.put, List.setIfInBounds_toArray, List.set_cons_succ, List.set_cons_zero, Nat.reduceAdd])))
                refine wp_region_flow2 [0, 1, 0, 7, 15, 0, 32, 127, 0, 511, 1023] (fun _ => false) [⟨some 10, none, fun _ => blk nb (arrL fun k => if k = it then gs - xc else sumS L k) 59⟩] [none, none, some 10] (by kernel_rfl) (by kernel_rfl) rfl hS (CongOk.cons (fun _ _ _ => rfl) CongOk.nil) ?_
                intro nd
                (refine ch_pure rfl (by kernel_rfl) rfl rfl ?_; intro K hK; go_big_quiet_op; go_big_quiet_on)
                (apply ch_ld1; rfl; kernel_rfl; (with_reducible rfl); rfl; rfl; decide +kernel; (intro F; first | exact Cell.here rfl | exact Cell.there (Cell.here rfl) | exact Cell.there (Cell.there (Cell.here rfl)) | exact Cell.there (Cell.there (Cell.there (Cell.here rfl))) | exact Cell.there (Cell.there (Cell.there (Cell.there (Cell.here rfl)))) | exact Cell.there (Cell.there (Cell.there (Cell.there (Cell.there (Cell.here rfl))))) | exact Cell.there (Cell.there (Cell.there (Cell.there (Cell.there (Cell.there (Cell.here rfl)))))) | assumption); (simp only [Act.put, List.setIfInBounds_toArray, List.set_cons_succ, List.set_cons_zero, Nat.reduceAdd]))
                iterate 2 (refine ch_pure rfl (by kernel_rfl) rfl rfl ?_; intro K hK; go_big_quiet_op; go_big_quiet_on)
                (apply ch_ld1; rfl; kernel_rfl; (with_reducible rfl); rfl; rfl; decide +kernel; (intro F; exact Cell.there (Cell.there (Cell.here hcell))); (simp only [Act.put, List.setIfInBounds_toArray, List.set_cons_succ, List.set_cons_zero, Nat.reduceAdd]))
                (refine ch_pure rfl (by kernel_rfl) rfl rfl ?_; intro K hK; go_big_quiet_op; go_big_quiet_on)
                (apply ch_ld1; rfl; kernel_rfl; (with_reducible rfl); rfl; rfl; decide +kernel; (intro F; first | exact Cell.here rfl | exact Cell.there (Cell.here rfl) | exact Cell.there (Cell.there (Cell.here rfl)) | exact Cell.there (Cell.there (Cell.there (Cell.here rfl))) | exact Cell.there (Cell.there (Cell.there (Cell.there (Cell.here rfl)))) | exact Cell.there (Cell.there (Cell.there (Cell.there (Cell.there (Cell.here rfl))))) | exact Cell.there (Cell.there (Cell.there (Cell.there (Cell.there (Cell.there (Cell.here rfl)))))) | assumption); (simp only [Act.put, List.setIfInBounds_toArray, List.set_cons_succ, List.set_cons_zero, Nat.reduceAdd]))
                iterate 3 (refine ch_pure rfl (by kernel_rfl) rfl rfl ?_; intro K hK; go_big_quiet_op; go_big_quiet_on)
                (apply ch_st (vs := [Value.int .i64 (gs - xc)]); rfl; (with_reducible rfl); rfl; rfl; (focus ((conv => lhs; whnf); try rfl)); rfl; kernel_rfl; rfl; rfl; (simp [arrL]; omega); exact arrL_set _ it (by omega) _; rfl; try (simp only [Act.put, List.setIfInBounds_toArray, List.set_cons_succ, List.set_cons_zero, Nat.reduceAdd]))
                refine ch_end ?_
                clear hS
                intro w hS
                have hS2 : St W [blk nb _ _, blk b _ _, bookP _ _, sats _] w := hS
                clear hS
                have hS := hS2.unpack [_, _, _]
                clear hS2
                simp only [List.cons_append, List.nil_append] at hS
                go_wp2_with fail
                go_roundw
                case rel =>
                  refine ⟨i + 1, b3, L2, rfl, hil, hi2, Hrep.out, ?_⟩
                  have hfin : arrL (fun k => if k = it then gs - xc else sumS L k) = arrL (sumS L2) := arrL_congr fun s _ => by
                    have hs : sumS L2 s = sumS L s - (if it = s then xc else 0) := Hs.out s
                    rw [hs]
                    by_cases hsx : s = it
                    · rw [if_pos hsx, if_pos hsx.symm, hsx, hgs]
                    · rw [if_neg hsx, if_neg (fun h : it = s => hsx h.symm)]; omega
                  rw [hfin] at hS
                  exact (hS.take .t1).drop.swap
                case measure => simp [intOf]; omega
              · skip
                obtain ⟨hv0, hv1⟩ := Hbd.out it
                have hcell := arrL_get (sumS L) it (by omega)
                generalize hgs : sumS L it = gs at hcell hv0 hv1
                go_wp2_with (first | ((with_reducible apply wl_ld1 hS); (with_reducible rfl); rfl; rfl; decide +kernel; (first | exact Cell.old .head ck | exact Cell.old (.tail .head) ck | exact Cell.old (.tail (.tail .head)) ck | exact Cell.old (.tail (.tail (.tail .head))) ck | exact Cell.old (.tail (.tail (.tail (.tail .head)))) ck | exact Cell.old (.tail (.tail (.tail (.tail (.tail .head))))) ck); (simp only [Act.put, List.setIfInBounds_toArray, List.set_cons_succ, List.set_cons_zero, Nat.reduceAdd])) | ((with_reducible apply wl_ld1 hS); (with_reducible rfl); rfl; rfl; decide +kernel; (first | exact Cell.old .head cb | exact Cell.old (.tail .head) cb | exact Cell.old (.tail (.tail .head)) cb | exact Cell.old (.tail (.tail (.tail .head))) cb | exact Cell.old (.tail (.tail (.tail (.tail .head)))) cb | exact Cell.old (.tail (.tail (.tail (.tail (.tail .head))))) cb); (simp only [Act.put, List.setIfInBounds_toArray, List.set_cons_succ, List.set_cons_zero, Nat.reduceAdd])) | ((with_reducible apply wl_ld1 hS); (with_reducible rfl); rfl; rfl; decide +kernel; (first | exact Cell.old .head cn | exact Cell.old (.tail .head) cn | exact Cell.old (.tail (.tail .head)) cn | exact Cell.old (.tail (.tail (.tail .head))) cn | exact Cell.old (.tail (.tail (.tail (.tail .head)))) cn | exact Cell.old (.tail (.tail (.tail (.tail (.tail .head))))) cn); (simp only [Act.put, List.setIfInBounds_toArray, List.set_cons_succ, List.set_cons_zero, Nat.reduceAdd])) | (go_at_call 17; refine (cancel_at b2 Hr.out nn W _ _ hS).mono ?_; clear hS; rw [HCR.out]; simp only [Ord.cells]; rintro e w ⟨b3, ⟨-, hrep⟩, rfl, hS⟩; have Hrep := Lib.hid hrep; clear hrep) | ((with_reducible apply wl_ld1 hS); (with_reducible rfl); rfl; rfl; decide +kernel; (first | exact Cell.here rfl | exact Cell.there (Cell.here rfl) | exact Cell.there (Cell.there (Cell.here rfl)) | exact Cell.there (Cell.there (Cell.there (Cell.here rfl))) | exact Cell.there (Cell.there (Cell.there (Cell.there (Cell.here rfl)))) | exact Cell.there (Cell.there (Cell.there (Cell.there (Cell.there (Cell.here rfl))))) | exact Cell.there (Cell.there (Cell.there (Cell.there (Cell.there (Cell.there (Cell.here rfl)))))) | assumption); (simp only [Act.put, List.setIfInBounds_toArray, List.set_cons_succ, List.set_cons_zero, Nat.reduceAdd])) | ((with_reducible apply wl_ldN hS); (with_reducible rfl); rfl; rfl; decide +kernel; (first | exact Cells.whole | exact Cells.there Cells.whole | exact Cells.there (Cells.there Cells.whole) | exact Cells.there (Cells.there (Cells.there Cells.whole)) | exact Cells.there (Cells.there (Cells.there (Cells.there Cells.whole))) | exact Cells.there (Cells.there (Cells.there (Cells.there (Cells.there Cells.whole)))) | exact Cells.there (Cells.there (Cells.there (Cells.there (Cells.there (Cells.there Cells.whole))))) | assumption); kernel_rfl; (simp only [Act.put, List.setIfInBounds_toArray, List.set_cons_succ, List.set_cons_zero, Nat.reduceAdd])) | ((with_reducible apply wl_st1 hS); (with_reducible rfl); rfl; rfl; (focus ((conv => lhs; whnf); try rfl)); kernel_rfl; rfl; rfl; (first | exact Upd.head | exact Upd.tail Upd.head | exact Upd.tail (Upd.tail Upd.head) | exact Upd.tail (Upd.tail (Upd.tail Upd.head)) | exact Upd.tail (Upd.tail (Upd.tail (Upd.tail Upd.head))) | exact Upd.tail (Upd.tail (Upd.tail (Upd.tail (Upd.tail Upd.head)))) | exact Upd.tail (Upd.tail (Upd.tail (Upd.tail (Upd.tail (Upd.tail Upd.head)))))); (simp only [List.length_cons, List.length_nil]; omega); ((simp only [List.set_cons_zero, List.set_cons_succ, setAll]); rfl); clear hS; intro w hS; try (simp only [Act.put, List.setIfInBounds_toArray, List.set_cons_succ, List.set_cons_zero, Nat.reduceAdd])) | ((with_reducible apply wl_stN hS); (with_reducible rfl); rfl; rfl; (focus ((conv => lhs; whnf); try rfl)); kernel_rfl; rfl; (first | exact Upd.head | exact Upd.tail Upd.head | exact Upd.tail (Upd.tail Upd.head) | exact Upd.tail (Upd.tail (Upd.tail Upd.head)) | exact Upd.tail (Upd.tail (Upd.tail (Upd.tail Upd.head))) | exact Upd.tail (Upd.tail (Upd.tail (Upd.tail (Upd.tail Upd.head)))) | exact Upd.tail (Upd.tail (Upd.tail (Upd.tail (Upd.tail (Upd.tail Upd.head)))))); (simp only [List.length_cons, List.length_nil]; omega); ((simp only [List.set_cons_zero, List.set_cons_succ, setAll]); rfl); clear hS; intro w hS; try (simp only [Act.put, List.setIfInBounds_toArray, List.set_cons_succ, List.set_cons_zero, Nat.reduceAdd])) | ((with_reducible apply wl_box hS); (with_reducible rfl); rfl; rfl; rfl; clear hS; intro b w hS; (simp only [Act.put, List.setIfInBounds_toArray, List.set_cons_succ, List.set_cons_zero, Nat.reduceAdd])) | ((with_reducible apply wl_alloc hS); (with_reducible rfl); rfl; (with_reducible first | exact Ty.z3 | exact Ty.z31 | exact Ty.z33 | exact Ty.z59 | exact Ty.z79 | exact Ty.z110); clear hS; intro b w hS; (simp only [Act.put, List.setIfInBounds_toArray, List.set_cons_succ, List.set_cons_zero, Nat.reduceAdd])))
                refine wp_region_flow2 [0, 1, 0, 7, 15, 0, 32, 127, 0, 511, 1023] (fun _ => false) [⟨some 10, none, fun _ => blk nb (arrL fun k => if k = it then gs - xc else sumS L k) 59⟩] [none, none, some 10] (by kernel_rfl) (by kernel_rfl) rfl hS (CongOk.cons (fun _ _ _ => rfl) CongOk.nil) ?_
                intro nd
                (refine ch_pure rfl (by kernel_rfl) rfl rfl ?_; intro K hK; go_big_quiet_op; go_big_quiet_on)
                (apply ch_ld1; rfl; kernel_rfl; (with_reducible rfl); rfl; rfl; decide +kernel; (intro F; first | exact Cell.here rfl | exact Cell.there (Cell.here rfl) | exact Cell.there (Cell.there (Cell.here rfl)) | exact Cell.there (Cell.there (Cell.there (Cell.here rfl))) | exact Cell.there (Cell.there (Cell.there (Cell.there (Cell.here rfl)))) | exact Cell.there (Cell.there (Cell.there (Cell.there (Cell.there (Cell.here rfl))))) | exact Cell.there (Cell.there (Cell.there (Cell.there (Cell.there (Cell.there (Cell.here rfl)))))) | assumption); (simp only [Act.put, List.setIfInBounds_toArray, List.set_cons_succ, List.set_cons_zero, Nat.reduceAdd]))
                iterate 2 (refine ch_pure rfl (by kernel_rfl) rfl rfl ?_; intro K hK; go_big_quiet_op; go_big_quiet_on)
                (apply ch_ld1; rfl; kernel_rfl; (with_reducible rfl); rfl; rfl; decide +kernel; (intro F; exact Cell.there (Cell.there (Cell.here hcell))); (simp only [Act.put, List.setIfInBounds_toArray, List.set_cons_succ, List.set_cons_zero, Nat.reduceAdd]))
                (refine ch_pure rfl (by kernel_rfl) rfl rfl ?_; intro K hK; go_big_quiet_op; go_big_quiet_on)
                (apply ch_ld1; rfl; kernel_rfl; (with_reducible rfl); rfl; rfl; decide +kernel; (intro F; first | exact Cell.here rfl | exact Cell.there (Cell.here rfl) | exact Cell.there (Cell.there (Cell.here rfl)) | exact Cell.there (Cell.there (Cell.there (Cell.here rfl))) | exact Cell.there (Cell.there (Cell.there (Cell.there (Cell.here rfl)))) | exact Cell.there (Cell.there (Cell.there (Cell.there (Cell.there (Cell.here rfl))))) | exact Cell.there (Cell.there (Cell.there (Cell.there (Cell.there (Cell.there (Cell.here rfl)))))) | assumption); (simp only [Act.put, List.setIfInBounds_toArray, List.set_cons_succ, List.set_cons_zero, Nat.reduceAdd]))
                iterate 3 (refine ch_pure rfl (by kernel_rfl) rfl rfl ?_; intro K hK; go_big_quiet_op; go_big_quiet_on)
                (apply ch_st (vs := [Value.int .i64 (gs - xc)]); rfl; (with_reducible rfl); rfl; rfl; (focus ((conv => lhs; whnf); try rfl)); rfl; kernel_rfl; rfl; rfl; (simp [arrL]; omega); exact arrL_set _ it (by omega) _; rfl; try (simp only [Act.put, List.setIfInBounds_toArray, List.set_cons_succ, List.set_cons_zero, Nat.reduceAdd]))
                refine ch_end ?_
                clear hS
                intro w hS
                have hS2 : St W [blk nb _ _, blk b _ _, bookP _ _, sats _] w := hS
                clear hS
                have hS := hS2.unpack [_, _, _]
                clear hS2
                simp only [List.cons_append, List.nil_append] at hS
                go_wp2_with fail
                go_roundw
                case rel =>
                  refine ⟨i + 1, b3, L2, rfl, hil, hi2, Hrep.out, ?_⟩
                  have hfin : arrL (fun k => if k = it then gs - xc else sumS L k) = arrL (sumS L2) := arrL_congr fun s _ => by
                    have hs : sumS L2 s = sumS L s - (if it = s then xc else 0) := Hs.out s
                    rw [hs]
                    by_cases hsx : s = it
                    · rw [if_pos hsx, if_pos hsx.symm, hsx, hgs]
                    · rw [if_neg hsx, if_neg (fun h : it = s => hsx h.symm)]; omega
                  rw [hfin] at hS
                  exact (hS.take .t1).drop.swap
                case measure => simp [intOf]; omega
            · cases oy
              · skip
                obtain ⟨hv0, hv1⟩ := Hbd.out (4 + it)
                have hcell := arrL_get (sumS L) (4 + it) (by omega)
                generalize hgs : sumS L (4 + it) = gs at hcell hv0 hv1
                go_wp2_with (first | ((with_reducible apply wl_ld1 hS); (with_reducible rfl); rfl; rfl; decide +kernel; (first | exact Cell.old .head ck | exact Cell.old (.tail .head) ck | exact Cell.old (.tail (.tail .head)) ck | exact Cell.old (.tail (.tail (.tail .head))) ck | exact Cell.old (.tail (.tail (.tail (.tail .head)))) ck | exact Cell.old (.tail (.tail (.tail (.tail (.tail .head))))) ck); (simp only [Act.put, List.setIfInBounds_toArray, List.set_cons_succ, List.set_cons_zero, Nat.reduceAdd])) | ((with_reducible apply wl_ld1 hS); (with_reducible rfl); rfl; rfl; decide +kernel; (first | exact Cell.old .head cb | exact Cell.old (.tail .head) cb | exact Cell.old (.tail (.tail .head)) cb | exact Cell.old (.tail (.tail (.tail .head))) cb | exact Cell.old (.tail (.tail (.tail (.tail .head)))) cb | exact Cell.old (.tail (.tail (.tail (.tail (.tail .head))))) cb); (simp only [Act.put, List.setIfInBounds_toArray, List.set_cons_succ, List.set_cons_zero, Nat.reduceAdd])) | ((with_reducible apply wl_ld1 hS); (with_reducible rfl); rfl; rfl; decide +kernel; (first | exact Cell.old .head cn | exact Cell.old (.tail .head) cn | exact Cell.old (.tail (.tail .head)) cn | exact Cell.old (.tail (.tail (.tail .head))) cn | exact Cell.old (.tail (.tail (.tail (.tail .head)))) cn | exact Cell.old (.tail (.tail (.tail (.tail (.tail .head))))) cn); (simp only [Act.put, List.setIfInBounds_toArray, List.set_cons_succ, List.set_cons_zero, Nat.reduceAdd])) | (go_at_call 17; refine (cancel_at b2 Hr.out nn W _ _ hS).mono ?_; clear hS; rw [HCR.out]; simp only [Ord.cells]; rintro e w ⟨b3, ⟨-, hrep⟩, rfl, hS⟩; have Hrep := Lib.hid hrep; clear hrep) | ((with_reducible apply wl_ld1 hS); (with_reducible rfl); rfl; rfl; decide +kernel; (first | exact Cell.here rfl | exact Cell.there (Cell.here rfl) | exact Cell.there (Cell.there (Cell.here rfl)) | exact Cell.there (Cell.there (Cell.there (Cell.here rfl))) | exact Cell.there (Cell.there (Cell.there (Cell.there (Cell.here rfl)))) | exact Cell.there (Cell.there (Cell.there (Cell.there (Cell.there (Cell.here rfl))))) | exact Cell.there (Cell.there (Cell.there (Cell.there (Cell.there (Cell.there (Cell.here rfl)))))) | assumption); (simp only [Act.put, List.setIfInBounds_toArray, List.set_cons_succ, List.set_cons_zero, Nat.reduceAdd])) | ((with_reducible apply wl_ldN hS); (with_reducible rfl); rfl; rfl; decide +kernel; (first | exact Cells.whole | exact Cells.there Cells.whole | exact Cells.there (Cells.there Cells.whole) | exact Cells.there (Cells.there (Cells.there Cells.whole)) | exact Cells.there (Cells.there (Cells.there (Cells.there Cells.whole))) | exact Cells.there (Cells.there (Cells.there (Cells.there (Cells.there Cells.whole)))) | exact Cells.there (Cells.there (Cells.there (Cells.there (Cells.there (Cells.there Cells.whole))))) | assumption); kernel_rfl; (simp only [Act.put, List.setIfInBounds_toArray, List.set_cons_succ, List.set_cons_zero, Nat.reduceAdd])) | ((with_reducible apply wl_st1 hS); (with_reducible rfl); rfl; rfl; (focus ((conv => lhs; whnf); try rfl)); kernel_rfl; rfl; rfl; (first | exact Upd.head | exact Upd.tail Upd.head | exact Upd.tail (Upd.tail Upd.head) | exact Upd.tail (Upd.tail (Upd.tail Upd.head)) | exact Upd.tail (Upd.tail (Upd.tail (Upd.tail Upd.head))) | exact Upd.tail (Upd.tail (Upd.tail (Upd.tail (Upd.tail Upd.head)))) | exact Upd.tail (Upd.tail (Upd.tail (Upd.tail (Upd.tail (Upd.tail Upd.head)))))); (simp only [List.length_cons, List.length_nil]; omega); ((simp only [List.set_cons_zero, List.set_cons_succ, setAll]); rfl); clear hS; intro w hS; try (simp only [Act.put, List.setIfInBounds_toArray, List.set_cons_succ, List.set_cons_zero, Nat.reduceAdd])) | ((with_reducible apply wl_stN hS); (with_reducible rfl); rfl; rfl; (focus ((conv => lhs; whnf); try rfl)); kernel_rfl; rfl; (first | exact Upd.head | exact Upd.tail Upd.head | exact Upd.tail (Upd.tail Upd.head) | exact Upd.tail (Upd.tail (Upd.tail Upd.head)) | exact Upd.tail (Upd.tail (Upd.tail (Upd.tail Upd.head))) | exact Upd.tail (Upd.tail (Upd.tail (Upd.tail (Upd.tail Upd.head)))) | exact Upd.tail (Upd.tail (Upd.tail (Upd.tail (Upd.tail (Upd.tail Upd.head)))))); (simp only [List.length_cons, List.length_nil]; omega); ((simp only [List.set_cons_zero, List.set_cons_succ, setAll]); rfl); clear hS; intro w hS; try (simp only [Act.put, List.setIfInBounds_toArray, List.set_cons_succ, List.set_cons_zero, Nat.reduceAdd])) | ((with_reducible apply wl_box hS); (with_reducible rfl); rfl; rfl; rfl; clear hS; intro b w hS; (simp only [Act.put, List.setIfInBounds_toArray, List.set_cons_succ, List.set_cons_zero, Nat.reduceAdd])) | ((with_reducible apply wl_alloc hS); (with_reducible rfl); rfl; (with_reducible first | exact Ty.z3 | exact Ty.z31 | exact Ty.z33 | exact Ty.z59 | exact Ty.z79 | exact Ty.z110); clear hS; intro b w hS; (simp only [Act.put, List.setIfInBounds_toArray, List.set_cons_succ, List.set_cons_zero, Nat.reduceAdd])))
                refine wp_region_flow2 [0, 1, 0, 7, 15, 0, 32, 127, 0, 511, 1023] (fun _ => false) [⟨some 10, none, fun _ => blk nb (arrL fun k => if k = (4 + it) then gs - xc else sumS L k) 59⟩] [none, none, some 10] (by kernel_rfl) (by kernel_rfl) rfl hS (CongOk.cons (fun _ _ _ => rfl) CongOk.nil) ?_
                intro nd
                (refine ch_pure rfl (by kernel_rfl) rfl rfl ?_; intro K hK; go_big_quiet_op; go_big_quiet_on)
                (apply ch_ld1; rfl; kernel_rfl; (with_reducible rfl); rfl; rfl; decide +kernel; (intro F; first | exact Cell.here rfl | exact Cell.there (Cell.here rfl) | exact Cell.there (Cell.there (Cell.here rfl)) | exact Cell.there (Cell.there (Cell.there (Cell.here rfl))) | exact Cell.there (Cell.there (Cell.there (Cell.there (Cell.here rfl)))) | exact Cell.there (Cell.there (Cell.there (Cell.there (Cell.there (Cell.here rfl))))) | exact Cell.there (Cell.there (Cell.there (Cell.there (Cell.there (Cell.there (Cell.here rfl)))))) | assumption); (simp only [Act.put, List.setIfInBounds_toArray, List.set_cons_succ, List.set_cons_zero, Nat.reduceAdd]))
                iterate 2 (refine ch_pure rfl (by kernel_rfl) rfl rfl ?_; intro K hK; go_big_quiet_op; go_big_quiet_on)
                (apply ch_ld1; rfl; kernel_rfl; (with_reducible rfl); rfl; rfl; decide +kernel; (intro F; exact Cell.there (Cell.there (Cell.here hcell))); (simp only [Act.put, List.setIfInBounds_toArray, List.set_cons_succ, List.set_cons_zero, Nat.reduceAdd]))
                (refine ch_pure rfl (by kernel_rfl) rfl rfl ?_; intro K hK; go_big_quiet_op; go_big_quiet_on)
                (apply ch_ld1; rfl; kernel_rfl; (with_reducible rfl); rfl; rfl; decide +kernel; (intro F; first | exact Cell.here rfl | exact Cell.there (Cell.here rfl) | exact Cell.there (Cell.there (Cell.here rfl)) | exact Cell.there (Cell.there (Cell.there (Cell.here rfl))) | exact Cell.there (Cell.there (Cell.there (Cell.there (Cell.here rfl)))) | exact Cell.there (Cell.there (Cell.there (Cell.there (Cell.there (Cell.here rfl))))) | exact Cell.there (Cell.there (Cell.there (Cell.there (Cell.there (Cell.there (Cell.here rfl)))))) | assumption); (simp only [Act.put, List.setIfInBounds_toArray, List.set_cons_succ, List.set_cons_zero, Nat.reduceAdd]))
                iterate 3 (refine ch_pure rfl (by kernel_rfl) rfl rfl ?_; intro K hK; go_big_quiet_op; go_big_quiet_on)
                (apply ch_st (vs := [Value.int .i64 (gs - xc)]); rfl; (with_reducible rfl); rfl; rfl; (focus ((conv => lhs; whnf); try rfl)); rfl; kernel_rfl; rfl; rfl; (simp [arrL]; omega); exact arrL_set _ (4 + it) (by omega) _; rfl; try (simp only [Act.put, List.setIfInBounds_toArray, List.set_cons_succ, List.set_cons_zero, Nat.reduceAdd]))
                refine ch_end ?_
                clear hS
                intro w hS
                have hS2 : St W [blk nb _ _, blk b _ _, bookP _ _, sats _] w := hS
                clear hS
                have hS := hS2.unpack [_, _, _]
                clear hS2
                simp only [List.cons_append, List.nil_append] at hS
                go_wp2_with fail
                go_roundw
                case rel =>
                  refine ⟨i + 1, b3, L2, rfl, hil, hi2, Hrep.out, ?_⟩
                  have hfin : arrL (fun k => if k = (4 + it) then gs - xc else sumS L k) = arrL (sumS L2) := arrL_congr fun s _ => by
                    have hs : sumS L2 s = sumS L s - (if (4 + it) = s then xc else 0) := Hs.out s
                    rw [hs]
                    by_cases hsx : s = (4 + it)
                    · rw [if_pos hsx, if_pos hsx.symm, hsx, hgs]
                    · rw [if_neg hsx, if_neg (fun h : (4 + it) = s => hsx h.symm)]; omega
                  rw [hfin] at hS
                  exact (hS.take .t1).drop.swap
                case measure => simp [intOf]; omega
              · skip
                obtain ⟨hv0, hv1⟩ := Hbd.out (4 + it)
                have hcell := arrL_get (sumS L) (4 + it) (by omega)
                generalize hgs : sumS L (4 + it) = gs at hcell hv0 hv1
                go_wp2_with (first | ((with_reducible apply wl_ld1 hS); (with_reducible rfl); rfl; rfl; decide +kernel; (first | exact Cell.old .head ck | exact Cell.old (.tail .head) ck | exact Cell.old (.tail (.tail .head)) ck | exact Cell.old (.tail (.tail (.tail .head))) ck | exact Cell.old (.tail (.tail (.tail (.tail .head)))) ck | exact Cell.old (.tail (.tail (.tail (.tail (.tail .head))))) ck); (simp only [Act.put, List.setIfInBounds_toArray, List.set_cons_succ, List.set_cons_zero, Nat.reduceAdd])) | ((with_reducible apply wl_ld1 hS); (with_reducible rfl); rfl; rfl; decide +kernel; (first | exact Cell.old .head cb | exact Cell.old (.tail .head) cb | exact Cell.old (.tail (.tail .head)) cb | exact Cell.old (.tail (.tail (.tail .head))) cb | exact Cell.old (.tail (.tail (.tail (.tail .head)))) cb | exact Cell.old (.tail (.tail (.tail (.tail (.tail .head))))) cb); (simp only [Act.put, List.setIfInBounds_toArray, List.set_cons_succ, List.set_cons_zero, Nat.reduceAdd])) | ((with_reducible apply wl_ld1 hS); (with_reducible rfl); rfl; rfl; decide +kernel; (first | exact Cell.old .head cn | exact Cell.old (.tail .head) cn | exact Cell.old (.tail (.tail .head)) cn | exact Cell.old (.tail (.tail (.tail .head))) cn | exact Cell.old (.tail (.tail (.tail (.tail .head)))) cn | exact Cell.old (.tail (.tail (.tail (.tail (.tail .head))))) cn); (simp only [Act.put, List.setIfInBounds_toArray, List.set_cons_succ, List.set_cons_zero, Nat.reduceAdd])) | (go_at_call 17; refine (cancel_at b2 Hr.out nn W _ _ hS).mono ?_; clear hS; rw [HCR.out]; simp only [Ord.cells]; rintro e w ⟨b3, ⟨-, hrep⟩, rfl, hS⟩; have Hrep := Lib.hid hrep; clear hrep) | ((with_reducible apply wl_ld1 hS); (with_reducible rfl); rfl; rfl; decide +kernel; (first | exact Cell.here rfl | exact Cell.there (Cell.here rfl) | exact Cell.there (Cell.there (Cell.here rfl)) | exact Cell.there (Cell.there (Cell.there (Cell.here rfl))) | exact Cell.there (Cell.there (Cell.there (Cell.there (Cell.here rfl)))) | exact Cell.there (Cell.there (Cell.there (Cell.there (Cell.there (Cell.here rfl))))) | exact Cell.there (Cell.there (Cell.there (Cell.there (Cell.there (Cell.there (Cell.here rfl)))))) | assumption); (simp only [Act.put, List.setIfInBounds_toArray, List.set_cons_succ, List.set_cons_zero, Nat.reduceAdd])) | ((with_reducible apply wl_ldN hS); (with_reducible rfl); rfl; rfl; decide +kernel; (first | exact Cells.whole | exact Cells.there Cells.whole | exact Cells.there (Cells.there Cells.whole) | exact Cells.there (Cells.there (Cells.there Cells.whole)) | exact Cells.there (Cells.there (Cells.there (Cells.there Cells.whole))) | exact Cells.there (Cells.there (Cells.there (Cells.there (Cells.there Cells.whole)))) | exact Cells.there (Cells.there (Cells.there (Cells.there (Cells.there (Cells.there Cells.whole))))) | assumption); kernel_rfl; (simp only [Act.put, List.setIfInBounds_toArray, List.set_cons_succ, List.set_cons_zero, Nat.reduceAdd])) | ((with_reducible apply wl_st1 hS); (with_reducible rfl); rfl; rfl; (focus ((conv => lhs; whnf); try rfl)); kernel_rfl; rfl; rfl; (first | exact Upd.head | exact Upd.tail Upd.head | exact Upd.tail (Upd.tail Upd.head) | exact Upd.tail (Upd.tail (Upd.tail Upd.head)) | exact Upd.tail (Upd.tail (Upd.tail (Upd.tail Upd.head))) | exact Upd.tail (Upd.tail (Upd.tail (Upd.tail (Upd.tail Upd.head)))) | exact Upd.tail (Upd.tail (Upd.tail (Upd.tail (Upd.tail (Upd.tail Upd.head)))))); (simp only [List.length_cons, List.length_nil]; omega); ((simp only [List.set_cons_zero, List.set_cons_succ, setAll]); rfl); clear hS; intro w hS; try (simp only [Act.put, List.setIfInBounds_toArray, List.set_cons_succ, List.set_cons_zero, Nat.reduceAdd])) | ((with_reducible apply wl_stN hS); (with_reducible rfl); rfl; rfl; (focus ((conv => lhs; whnf); try rfl)); kernel_rfl; rfl; (first | exact Upd.head | exact Upd.tail Upd.head | exact Upd.tail (Upd.tail Upd.head) | exact Upd.tail (Upd.tail (Upd.tail Upd.head)) | exact Upd.tail (Upd.tail (Upd.tail (Upd.tail Upd.head))) | exact Upd.tail (Upd.tail (Upd.tail (Upd.tail (Upd.tail Upd.head)))) | exact Upd.tail (Upd.tail (Upd.tail (Upd.tail (Upd.tail (Upd.tail Upd.head)))))); (simp only [List.length_cons, List.length_nil]; omega); ((simp only [List.set_cons_zero, List.set_cons_succ, setAll]); rfl); clear hS; intro w hS; try (simp only [Act.put, List.setIfInBounds_toArray, List.set_cons_succ, List.set_cons_zero, Nat.reduceAdd])) | ((with_reducible apply wl_box hS); (with_reducible rfl); rfl; rfl; rfl; clear hS; intro b w hS; (simp only [Act.put, List.setIfInBounds_toArray, List.set_cons_succ, List.set_cons_zero, Nat.reduceAdd])) | ((with_reducible apply wl_alloc hS); (with_reducible rfl); rfl; (with_reducible first | exact Ty.z3 | exact Ty.z31 | exact Ty.z33 | exact Ty.z59 | exact Ty.z79 | exact Ty.z110); clear hS; intro b w hS; (simp only [Act.put, List.setIfInBounds_toArray, List.set_cons_succ, List.set_cons_zero, Nat.reduceAdd])))
                refine wp_region_flow2 [0, 1, 0, 7, 15, 0, 32, 127, 0, 511, 1023] (fun _ => false) [⟨some 10, none, fun _ => blk nb (arrL fun k => if k = (4 + it) then gs - xc else sumS L k) 59⟩] [none, none, some 10] (by kernel_rfl) (by kernel_rfl) rfl hS (CongOk.cons (fun _ _ _ => rfl) CongOk.nil) ?_
                intro nd
                (refine ch_pure rfl (by kernel_rfl) rfl rfl ?_; intro K hK; go_big_quiet_op; go_big_quiet_on)
                (apply ch_ld1; rfl; kernel_rfl; (with_reducible rfl); rfl; rfl; decide +kernel; (intro F; first | exact Cell.here rfl | exact Cell.there (Cell.here rfl) | exact Cell.there (Cell.there (Cell.here rfl)) | exact Cell.there (Cell.there (Cell.there (Cell.here rfl))) | exact Cell.there (Cell.there (Cell.there (Cell.there (Cell.here rfl)))) | exact Cell.there (Cell.there (Cell.there (Cell.there (Cell.there (Cell.here rfl))))) | exact Cell.there (Cell.there (Cell.there (Cell.there (Cell.there (Cell.there (Cell.here rfl)))))) | assumption); (simp only [Act.put, List.setIfInBounds_toArray, List.set_cons_succ, List.set_cons_zero, Nat.reduceAdd]))
                iterate 2 (refine ch_pure rfl (by kernel_rfl) rfl rfl ?_; intro K hK; go_big_quiet_op; go_big_quiet_on)
                (apply ch_ld1; rfl; kernel_rfl; (with_reducible rfl); rfl; rfl; decide +kernel; (intro F; exact Cell.there (Cell.there (Cell.here hcell))); (simp only [Act.put, List.setIfInBounds_toArray, List.set_cons_succ, List.set_cons_zero, Nat.reduceAdd]))
                (refine ch_pure rfl (by kernel_rfl) rfl rfl ?_; intro K hK; go_big_quiet_op; go_big_quiet_on)
                (apply ch_ld1; rfl; kernel_rfl; (with_reducible rfl); rfl; rfl; decide +kernel; (intro F; first | exact Cell.here rfl | exact Cell.there (Cell.here rfl) | exact Cell.there (Cell.there (Cell.here rfl)) | exact Cell.there (Cell.there (Cell.there (Cell.here rfl))) | exact Cell.there (Cell.there (Cell.there (Cell.there (Cell.here rfl)))) | exact Cell.there (Cell.there (Cell.there (Cell.there (Cell.there (Cell.here rfl))))) | exact Cell.there (Cell.there (Cell.there (Cell.there (Cell.there (Cell.there (Cell.here rfl)))))) | assumption); (simp only [Act.put, List.setIfInBounds_toArray, List.set_cons_succ, List.set_cons_zero, Nat.reduceAdd]))
                iterate 3 (refine ch_pure rfl (by kernel_rfl) rfl rfl ?_; intro K hK; go_big_quiet_op; go_big_quiet_on)
                (apply ch_st (vs := [Value.int .i64 (gs - xc)]); rfl; (with_reducible rfl); rfl; rfl; (focus ((conv => lhs; whnf); try rfl)); rfl; kernel_rfl; rfl; rfl; (simp [arrL]; omega); exact arrL_set _ (4 + it) (by omega) _; rfl; try (simp only [Act.put, List.setIfInBounds_toArray, List.set_cons_succ, List.set_cons_zero, Nat.reduceAdd]))
                refine ch_end ?_
                clear hS
                intro w hS
                have hS2 : St W [blk nb _ _, blk b _ _, bookP _ _, sats _] w := hS
                clear hS
                have hS := hS2.unpack [_, _, _]
                clear hS2
                simp only [List.cons_append, List.nil_append] at hS
                go_wp2_with fail
                go_roundw
                case rel =>
                  refine ⟨i + 1, b3, L2, rfl, hil, hi2, Hrep.out, ?_⟩
                  have hfin : arrL (fun k => if k = (4 + it) then gs - xc else sumS L k) = arrL (sumS L2) := arrL_congr fun s _ => by
                    have hs : sumS L2 s = sumS L s - (if (4 + it) = s then xc else 0) := Hs.out s
                    rw [hs]
                    by_cases hsx : s = (4 + it)
                    · rw [if_pos hsx, if_pos hsx.symm, hsx, hgs]
                    · rw [if_neg hsx, if_neg (fun h : (4 + it) = s => hsx h.symm)]; omega
                  rw [hfin] at hS
                  exact (hS.take .t1).drop.swap
                case measure => simp [intOf]; omega
        · have hk2f : (kd == 2) = false := by simpa using hk2
          cases oy
          · go_wp2_with (first | ((with_reducible apply wl_ld1 hS); (with_reducible rfl); rfl; rfl; decide +kernel; (first | exact Cell.old .head ck | exact Cell.old (.tail .head) ck | exact Cell.old (.tail (.tail .head)) ck | exact Cell.old (.tail (.tail (.tail .head))) ck | exact Cell.old (.tail (.tail (.tail (.tail .head)))) ck | exact Cell.old (.tail (.tail (.tail (.tail (.tail .head))))) ck); (simp only [Act.put, List.setIfInBounds_toArray, List.set_cons_succ, List.set_cons_zero, Nat.reduceAdd])) | ((with_reducible apply wl_ld1 hS); (with_reducible rfl); rfl; rfl; decide +kernel; (first | exact Cell.old .head cb | exact Cell.old (.tail .head) cb | exact Cell.old (.tail (.tail .head)) cb | exact Cell.old (.tail (.tail (.tail .head))) cb | exact Cell.old (.tail (.tail (.tail (.tail .head)))) cb | exact Cell.old (.tail (.tail (.tail (.tail (.tail .head))))) cb); (simp only [Act.put, List.setIfInBounds_toArray, List.set_cons_succ, List.set_cons_zero, Nat.reduceAdd])))
            go_roundw
            case rel => exact ⟨i + 1, b1, L, rfl, hil, hi2, Hr.out, hS⟩
            case measure => simp [intOf]; omega
          · go_wp2_with (first | ((with_reducible apply wl_ld1 hS); (with_reducible rfl); rfl; rfl; decide +kernel; (first | exact Cell.old .head ck | exact Cell.old (.tail .head) ck | exact Cell.old (.tail (.tail .head)) ck | exact Cell.old (.tail (.tail (.tail .head))) ck | exact Cell.old (.tail (.tail (.tail (.tail .head)))) ck | exact Cell.old (.tail (.tail (.tail (.tail (.tail .head))))) ck); (simp only [Act.put, List.setIfInBounds_toArray, List.set_cons_succ, List.set_cons_zero, Nat.reduceAdd])) | ((with_reducible apply wl_ld1 hS); (with_reducible rfl); rfl; rfl; decide +kernel; (first | exact Cell.old .head cb | exact Cell.old (.tail .head) cb | exact Cell.old (.tail (.tail .head)) cb | exact Cell.old (.tail (.tail (.tail .head))) cb | exact Cell.old (.tail (.tail (.tail (.tail .head)))) cb | exact Cell.old (.tail (.tail (.tail (.tail (.tail .head))))) cb); (simp only [Act.put, List.setIfInBounds_toArray, List.set_cons_succ, List.set_cons_zero, Nat.reduceAdd])))
            go_roundw
            case rel => exact ⟨i + 1, b1, L, rfl, hil, hi2, Hr.out, hS⟩
            case measure => simp [intOf]; omega
end Go.Proofs.Ytihciopankhjgaa
