/-
  The document's book: an order goes out of its row; how a row's parts are sources of append. For every row of orders.
-/
import Derived.Test.YtbcokphjpllbiaaGreatVaultPlaysM6
import Derived.Test.YtbcokphjpllbiaaGreatVaultPlaysM19
import Derived.Test.YtbcokphjpllbiaaGreatVaultPlaysM34

section
set_option linter.unusedSimpArgs false
set_option linter.unusedVariables false
namespace Go.Proofs.YtbcokphjpllbiaaGreat
open Go.RowKit Go.Sl
theorem flat_take (L : List Ord) (i j : Nat) (u : Value) (h : ((L.take i).flatMap Ord.cells)[j]? = some u) : (L.flatMap Ord.cells)[0 + j]? = some u := by
  rw [Nat.zero_add]
  have e : L.flatMap Ord.cells = (L.take i).flatMap Ord.cells ++ (L.drop i).flatMap Ord.cells := by rw [← List.flatMap_append, List.take_append_drop]
  rw [e, List.getElem?_append_left (List.getElem?_eq_some_iff.1 h).1]
  exact h
theorem flat_drop (L : List Ord) (i j : Nat) (u : Value) (hi : i ≤ L.length) (h : ((L.drop i).flatMap Ord.cells)[j]? = some u) : (L.flatMap Ord.cells)[i * 6 + j]? = some u := by
  have e : L.flatMap Ord.cells = (L.take i).flatMap Ord.cells ++ (L.drop i).flatMap Ord.cells := by rw [← List.flatMap_append, List.take_append_drop]
  have hl : ((L.take i).flatMap Ord.cells).length = i * 6 := by rw [flat_length Ord.len, List.length_take, Nat.min_eq_left hi]
  rw [e, List.getElem?_append_right (by omega), hl, Nat.add_sub_cancel_left]
  exact h
theorem src_behind {W w : World} {L : List HP} {R : List HP} {g c c' : Nat} {Lo : List Ord} {i : Nat} (hi : i ≤ Lo.length) (hc : Lo.length ≤ c) (hS : St W L w) (hu : Take L (pileR (.slice (some ⟨g, 0, none⟩) Lo.length c) Lo) R) :
    SrcW w (.slice (if c = i then some ⟨g, 0, none⟩ else some ⟨g, i * 6, none⟩) (Lo.length - i) c') (Lo.length - i) ((Lo.drop i).flatMap Ord.cells) := by
  split
  · have h0 : Lo.drop i = [] := List.drop_eq_nil_of_le (by omega)
    rw [h0]
    exact src_part hS hu (fun j u h => by simp at h)
  · exact src_part hS hu (fun j u h => flat_drop Lo i j u hi h)
set_option maxRecDepth 100000 in
set_option maxHeartbeats 4000000 in
theorem out_spec (L : List Ord) (i xb : Nat) (last : Int) (v : Value) (hlen : L.length ≤ 32) (hi : i < L.length) (W w : World) (Lr : List HP) (hS : St W (blk xb [v, .int .i64 last] 68 :: pileR v L :: Lr) w) :
    Calls Tryz.prog 93 #[.pointer (some ⟨xb, 0, none⟩), .int .i64 i] w fun e w' => e = .returned (.tuple #[]) ∧ ∃ v', St W (blk xb [v', .int .i64 last] 68 :: pileR v' (L.eraseIdx i) :: Lr) w' := by
  obtain ⟨a, cap, rfl⟩ := hS.drop.rowVal
  obtain ⟨⟨g, rfl⟩, hcap, hcn⟩ := St.rowAddr hS.drop (by omega)
  have hi1 : i ≤ cap := by omega
  have hi2 : i + 1 ≤ L.length := by omega
  go_enter Tryz.func93, Tryz.ntmps93
  refine wp_region_flow2 [0, 0, 0, 4, 12, 28, 0, 124, 254, 0, 512, 1536, 3584, 0, 8192, 32256, 65534, 131071, 262143, 524287] (fun i => i == 1 || i == 8 || i == 16) [⟨some 1, some 8, fun nd => row (nd 1) 6 41 0 []⟩, ⟨some 8, some 16, fun nd => row (nd 8) 6 41 (0 + i) ([] ++ (L.take i).flatMap Ord.cells)⟩, ⟨some 16, none, fun nd => row (nd 16) 6 41 (0 + i + (L.length - (i + 1))) ([] ++ (L.take i).flatMap Ord.cells ++ (L.drop (i + 1)).flatMap Ord.cells)⟩, ⟨some 19, none, fun nd => blk xb [nd 16, .int .i64 last] 68⟩] [some 19, none] (by kernel_rfl) (by kernel_rfl) rfl hS (CongOk.cons (fun nd nd' h => by dsimp only; rw [h 1 rfl rfl]) (CongOk.cons (fun nd nd' h => by dsimp only; rw [h 8 rfl rfl]) (CongOk.cons (fun nd nd' h => by dsimp only; rw [h 16 rfl rfl]) (CongOk.cons (fun nd nd' h => by dsimp only; rw [h 16 rfl rfl]) CongOk.nil)))) ?_
  intro nd
  (refine ch_pure rfl (by kernel_rfl) rfl rfl ?_; intro K hK; go_big_quiet_op; go_big_quiet_on)
  (apply ch_bsR; rfl; (with_reducible rfl); rfl; (focus (simp only [fD, List.map_cons, List.map_nil, Act.eval, fE, fF, fG, fH, Option.getD_some]; try rfl)); (exact Ty.e57); (exact Ty.r41); rfl; rfl; rfl; rfl; rfl; decide; (intro _; rfl); rfl; (intro _; rfl); (simp only [Act.put, fA, fB, fC, Nat.reduceAdd]))
  (refine ch_pure rfl (by kernel_rfl) rfl rfl ?_; intro K hK; go_big_quiet_op; go_big_quiet_on)
  (apply ch_nil; rfl; kernel_rfl; (with_reducible rfl); rfl; rfl; (simp only [Act.put, fA, fB, fC, Nat.reduceAdd]))
  (refine ch_pure rfl (by kernel_rfl) rfl rfl ?_; intro K hK; go_big_quiet_op; go_big_quiet_on)
  (apply ch_ld1; rfl; kernel_rfl; (with_reducible rfl); rfl; rfl; decide +kernel; (intro F; first | exact Cell.here rfl | exact Cell.there (Cell.here rfl) | exact Cell.there (Cell.there (Cell.here rfl)) | exact Cell.there (Cell.there (Cell.there (Cell.here rfl))) | exact Cell.there (Cell.there (Cell.there (Cell.there (Cell.here rfl)))) | exact Cell.there (Cell.there (Cell.there (Cell.there (Cell.there (Cell.here rfl))))) | exact Cell.there (Cell.there (Cell.there (Cell.there (Cell.there (Cell.there (Cell.here rfl)))))) | assumption); (simp only [Act.put, fA, fB, fC, Nat.reduceAdd]))
  (refine ch_pure rfl (by kernel_rfl) rfl rfl ?_; intro K hK; go_big_quiet_op; go_big_quiet_on)
  (refine ch_pure rfl (by kernel_rfl) rfl rfl ?_; intro K hK; go_big_quiet_op; go_big_quiet_on)
  (apply ch_append; rfl; (with_reducible rfl); rfl; (focus ((conv => lhs; whnf); try rfl)); (focus ((conv => lhs; whnf); try rfl)); (exact Ty.e57); (exact Ty.r41); rfl; decide; rfl; (intro F w hS; exact src_part hS (by (focus((repeat(first|exact .head|apply Take.tail));done))) (fun j u h => flat_take L i j u h)); (focus (rw [flat_length Ord.len, List.length_take, Nat.min_eq_left (by omega)])); (focus (exact flat_one _)); (focus (unfold maxLen; omega)); (focus (omega)); (intro _; rfl); (intro _; rfl); (simp only [Act.put, fA, fB, fC, Nat.reduceAdd]))
  (refine ch_pure rfl (by kernel_rfl) rfl rfl ?_; intro K hK; go_big_quiet_op; go_big_quiet_on)
  (apply ch_nil; rfl; kernel_rfl; (with_reducible rfl); rfl; rfl; (simp only [Act.put, fA, fB, fC, Nat.reduceAdd]))
  (refine ch_pure rfl (by kernel_rfl) rfl rfl ?_; intro K hK; go_big_quiet_op; go_big_quiet_on)
  (apply ch_ld1; rfl; kernel_rfl; (with_reducible rfl); rfl; rfl; decide +kernel; (intro F; first | exact Cell.here rfl | exact Cell.there (Cell.here rfl) | exact Cell.there (Cell.there (Cell.here rfl)) | exact Cell.there (Cell.there (Cell.there (Cell.here rfl))) | exact Cell.there (Cell.there (Cell.there (Cell.there (Cell.here rfl)))) | exact Cell.there (Cell.there (Cell.there (Cell.there (Cell.there (Cell.here rfl))))) | exact Cell.there (Cell.there (Cell.there (Cell.there (Cell.there (Cell.there (Cell.here rfl)))))) | assumption); (simp only [Act.put, fA, fB, fC, Nat.reduceAdd]))
  iterate 3 (refine ch_pure rfl (by kernel_rfl) rfl rfl ?_; intro K hK; go_big_quiet_op; go_big_quiet_on)
  (apply ch_append; rfl; (with_reducible rfl); rfl; (focus ((conv => lhs; whnf); try rfl)); (focus ((conv => lhs; whnf); try rfl)); (exact Ty.e57); (exact Ty.r41); rfl; decide; rfl; (intro F w hS; exact src_behind hi2 hcn hS (by (focus((repeat(first|exact .head|apply Take.tail));done)))); (focus (rw [flat_length Ord.len, List.length_drop])); (focus (exact flat_one _)); (focus (unfold maxLen; omega)); (focus (omega)); (intro _; rfl); (intro _; rfl); (simp only [Act.put, fA, fB, fC, Nat.reduceAdd]))
  (apply ch_nil; rfl; kernel_rfl; (with_reducible rfl); rfl; rfl; (simp only [Act.put, fA, fB, fC, Nat.reduceAdd]))
  (refine ch_pure rfl (by kernel_rfl) rfl rfl ?_; intro K hK; go_big_quiet_op; go_big_quiet_on)
  (apply ch_stV; rfl; (with_reducible rfl); rfl; rfl; (focus ((conv => lhs; whnf); try rfl)); kernel_rfl; rfl; (intro F w hS; exact hS.rowOne (by first | exact Take.head | exact Take.tail Take.head | exact Take.tail (Take.tail Take.head) | exact Take.tail (Take.tail (Take.tail Take.head)) | exact Take.tail (Take.tail (Take.tail (Take.tail Take.head))) | exact Take.tail (Take.tail (Take.tail (Take.tail (Take.tail Take.head)))) | exact Take.tail (Take.tail (Take.tail (Take.tail (Take.tail (Take.tail Take.head))))))); (focus (simp)); rfl; rfl; try (simp only [Act.put, fA, fB, fC, Nat.reduceAdd]))
  refine ch_end ?_
  clear hS
  intro w hS
  have hS2 : St W [row (nd 16) 6 _ _ _, blk xb _ _, pileR _ _, sats Lr] w := hS
  clear hS
  have hS := hS2.unpack [_, _, _]
  clear hS2
  simp only [List.cons_append, List.nil_append] at hS
  generalize nd 16 = v16 at *
  have e1 : L.eraseIdx i = L.take i ++ L.drop (i + 1) := List.eraseIdx_eq_take_drop_succ L i
  have e2 : (L.take i ++ L.drop (i + 1)).length = 0 + i + (L.length - (i + 1)) := by rw [List.length_append, List.length_take, List.length_drop, Nat.min_eq_left (by omega)]; omega
  have fin : St W (blk xb [v16, .int .i64 last] 68 :: pileR v16 (L.eraseIdx i) :: Lr) w := by
    have h1 := (hS.take .t2).drop.swap
    unfold pileR
    rw [e1, List.flatMap_append, e2]
    exact h1
  have Fin := Lib.hid fin
  clear fin hS e1 e2
  go_wp2_with fail
  all_goals go_end0
  all_goals exact ⟨rfl, v16, Fin.out⟩
def CanRR (W : World) (Lr : List HP) (L : List Ord) (id : Int) (v6 : Value) (w : World) : Prop :=
  ∃ k : Nat, v6 = .int .i64 k ∧ k ≤ L.length ∧ (∀ j, j < k → (at' L j).id ≠ id) ∧ St W Lr w
theorem cancelR_no {L : List Ord} {id : Int} (h : ∀ j, j < L.length → (at' L j).id ≠ id) : cancelR L id = ⟨o0, 7, L⟩ := by
  unfold cancelR
  rw [List.findIdx?_eq_none_iff.2]
  intro x hx
  obtain ⟨j, hj, rfl⟩ := mem_at' hx
  simpa using h j hj
theorem cancelR_yes {L : List Ord} {id : Int} {k : Nat} (hk : k < L.length) (h : ∀ j, j < k → (at' L j).id ≠ id) (hx : (at' L k).id = id) : cancelR L id = ⟨at' L k, 0, L.eraseIdx k⟩ := by
  unfold cancelR
  rw [List.findIdx?_eq_some_iff_getElem.2 ⟨hk, by rw [← at'_get hk]; simpa using hx, fun j hj => by
    rw [← at'_get (show j < L.length by omega)]
    simpa using h j hj⟩]
set_option maxRecDepth 100000 in
set_option maxHeartbeats 4000000 in
theorem refCancel_spec (L : List Ord) (id : Int) (xb : Nat) (last : Int) (v : Value) (hlen : L.length ≤ 32) (W w : World) (Lr : List HP) (hS : St W (blk xb [v, .int .i64 last] 68 :: pileR v L :: Lr) w) :
    Calls Tryz.prog 71 #[.pointer (some ⟨xb, 0, none⟩), .int .i64 id] w fun e w' => e = .returned (.tuple #[.agg (cancelR L id).o.cells.toArray, .int .i64 (cancelR L id).errno]) ∧ ∃ v', St W (blk xb [v', .int .i64 last] 68 :: pileR v' (cancelR L id).L :: Lr) w' := by
  obtain ⟨a, cap, rfl⟩ := hS.drop.rowVal
  go_enter Tryz.func71, Tryz.ntmps71
  go_wp2_with (first | ((with_reducible apply wl_ld1 hS); (with_reducible rfl); rfl; rfl; decide +kernel; (first | (focus((repeat(first|exact Cell.here rfl | apply Cell.there)); done)) | assumption); (simp only [Act.put, fA, fB, fC, Nat.reduceAdd])) | ((with_reducible apply wl_ldN hS); (with_reducible rfl); rfl; rfl; decide +kernel; (first | (focus((repeat(first|exact Cells.whole | apply Cells.there)); done)) | assumption); kernel_rfl; (simp only [Act.put, fA, fB, fC, Nat.reduceAdd])) | ((with_reducible apply wl_st1 hS); (with_reducible rfl); rfl; rfl; (focus ((conv => lhs; whnf); try rfl)); kernel_rfl; rfl; rfl; ((focus((repeat(first|exact Upd.head | apply Upd.tail)); done))); (simp only [List.length_cons, List.length_nil]; omega); ((simp only [List.set_cons_zero, List.set_cons_succ, setAll]); rfl); clear hS; intro w hS; try (simp only [Act.put, fA, fB, fC, Nat.reduceAdd])) | ((with_reducible apply wl_stN hS); (with_reducible rfl); rfl; rfl; (focus ((conv => lhs; whnf); try rfl)); kernel_rfl; rfl; ((focus((repeat(first|exact Upd.head | apply Upd.tail)); done))); (simp only [List.length_cons, List.length_nil]; omega); ((simp only [List.set_cons_zero, List.set_cons_succ, setAll]); rfl); clear hS; intro w hS; try (simp only [Act.put, fA, fB, fC, Nat.reduceAdd])) | ((with_reducible apply wl_box hS); (with_reducible rfl); rfl; rfl; rfl; clear hS; intro b w hS; (simp only [Act.put, fA, fB, fC, Nat.reduceAdd])) | ((with_reducible apply wl_alloc hS); (with_reducible rfl); rfl; (exact Ty.z41); clear hS; intro b w hS; (simp only [Act.put, fA, fB, fC, Nat.reduceAdd])))
  go_loopw [6] (fun v6 wr => CanRR W (blk b [.int .i64 0, .string ⟨#[]⟩, .bool false, .int .i64 0, .int .i64 0, .int .i64 0] 41 :: blk xb [.slice a L.length cap, .int .i64 last] 68 :: pileR (.slice a L.length cap) L :: Lr) L id v6 wr) (fun v _ => L.length - (intOf v).toNat)
  case atStart => exact ⟨0, rfl, by omega, fun j hj => absurd hj (Nat.not_lt_zero _), hS⟩
  case round =>
    clear hS
    obtain ⟨k, rfl, hk, hno, hS⟩ := hrel
    by_cases hkn : k = L.length
    · have E := Lib.hid (cancelR_no (L := L) (id := id) (hkn ▸ hno))
      subst hkn
      clear hno
      go_wp2_with (first | ((with_reducible apply wl_ld1 hS); (with_reducible rfl); rfl; rfl; decide +kernel; (first | (focus((repeat(first|exact Cell.here rfl | apply Cell.there)); done)) | assumption); (simp only [Act.put, fA, fB, fC, Nat.reduceAdd])) | ((with_reducible apply wl_ldN hS); (with_reducible rfl); rfl; rfl; decide +kernel; (first | (focus((repeat(first|exact Cells.whole | apply Cells.there)); done)) | assumption); kernel_rfl; (simp only [Act.put, fA, fB, fC, Nat.reduceAdd])) | ((with_reducible apply wl_st1 hS); (with_reducible rfl); rfl; rfl; (focus ((conv => lhs; whnf); try rfl)); kernel_rfl; rfl; rfl; ((focus((repeat(first|exact Upd.head | apply Upd.tail)); done))); (simp only [List.length_cons, List.length_nil]; omega); ((simp only [List.set_cons_zero, List.set_cons_succ, setAll]); rfl); clear hS; intro w hS; try (simp only [Act.put, fA, fB, fC, Nat.reduceAdd])) | ((with_reducible apply wl_stN hS); (with_reducible rfl); rfl; rfl; (focus ((conv => lhs; whnf); try rfl)); kernel_rfl; rfl; ((focus((repeat(first|exact Upd.head | apply Upd.tail)); done))); (simp only [List.length_cons, List.length_nil]; omega); ((simp only [List.set_cons_zero, List.set_cons_succ, setAll]); rfl); clear hS; intro w hS; try (simp only [Act.put, fA, fB, fC, Nat.reduceAdd])) | ((with_reducible apply wl_box hS); (with_reducible rfl); rfl; rfl; rfl; clear hS; intro b w hS; (simp only [Act.put, fA, fB, fC, Nat.reduceAdd])) | ((with_reducible apply wl_alloc hS); (with_reducible rfl); rfl; (exact Ty.z41); clear hS; intro b w hS; (simp only [Act.put, fA, fB, fC, Nat.reduceAdd])))
      (apply bp_cell_tmp; rfl; rfl; rfl; rfl; exact hS; decide +kernel; (first | (focus((repeat(first|exact Cells.whole | apply Cells.there)); done)) | assumption); kernel_rfl)
      rw [E.out]
      exact ⟨rfl, _, hS.drop⟩
    · have hkl : k < L.length := by omega
      clear hkn hk
      obtain ⟨⟨g, rfl⟩, hcap, hcn⟩ := St.rowAddr hS.drop.drop (by omega)
      have q0 : (Ord.cells L[k])[0]? = some (.int .i64 L[k].id) := rfl
      by_cases hid : L[k].id = id
      · have E := Lib.hid (cancelR_yes hkl hno (by rw [at'_get hkl]; exact hid))
        rw [hid] at q0
        have hxe : L[k] = at' L k := (at'_get hkl).symm
        clear hno hid
        have hcells : Cells (pileR (.slice (some ⟨g, 0, none⟩) L.length cap) L :: Lr) g (k * 6) (Ord.cells (at' L k)) := by rw [← hxe]; exact Cells.rowE Ord.len hkl
        clear hxe
        generalize at' L k = x at E hcells
        obtain ⟨xi, xu, xy, xt, xc, xp⟩ := x
        simp only [Ord.cells] at hcells
        go_wp2_with (first | ((with_reducible apply wl_ld1 hS); (with_reducible rfl); rfl; rfl; decide +kernel; (exact Cell.there (Cell.there (Cell.rowE Ord.len hkl q0))); (simp only [Act.put, fA, fB, fC, Nat.reduceAdd])) | ((with_reducible apply wl_ldN hS); (with_reducible rfl); rfl; rfl; decide +kernel; (exact Cells.there (Cells.there hcells)); kernel_rfl; (simp only [Act.put, fA, fB, fC, Nat.reduceAdd])) | (go_at_call 93; refine (out_spec L k xb last _ hlen hkl W _ _ ((hS.take .t3).take .t3)).mono ?_; clear hS; rintro e w ⟨rfl, v', hS⟩) | ((with_reducible apply wl_ld1 hS); (with_reducible rfl); rfl; rfl; decide +kernel; (first | (focus((repeat(first|exact Cell.here rfl | apply Cell.there)); done)) | assumption); (simp only [Act.put, fA, fB, fC, Nat.reduceAdd])) | ((with_reducible apply wl_ldN hS); (with_reducible rfl); rfl; rfl; decide +kernel; (first | (focus((repeat(first|exact Cells.whole | apply Cells.there)); done)) | assumption); kernel_rfl; (simp only [Act.put, fA, fB, fC, Nat.reduceAdd])) | ((with_reducible apply wl_st1 hS); (with_reducible rfl); rfl; rfl; (focus ((conv => lhs; whnf); try rfl)); kernel_rfl; rfl; rfl; ((focus((repeat(first|exact Upd.head | apply Upd.tail)); done))); (simp only [List.length_cons, List.length_nil]; omega); ((simp only [List.set_cons_zero, List.set_cons_succ, setAll]); rfl); clear hS; intro w hS; try (simp only [Act.put, fA, fB, fC, Nat.reduceAdd])) | ((with_reducible apply wl_stN hS); (with_reducible rfl); rfl; rfl; (focus ((conv => lhs; whnf); try rfl)); kernel_rfl; rfl; ((focus((repeat(first|exact Upd.head | apply Upd.tail)); done))); (simp only [List.length_cons, List.length_nil]; omega); ((simp only [List.set_cons_zero, List.set_cons_succ, setAll]); rfl); clear hS; intro w hS; try (simp only [Act.put, fA, fB, fC, Nat.reduceAdd])) | ((with_reducible apply wl_box hS); (with_reducible rfl); rfl; rfl; rfl; clear hS; intro b w hS; (simp only [Act.put, fA, fB, fC, Nat.reduceAdd])) | ((with_reducible apply wl_alloc hS); (with_reducible rfl); rfl; (exact Ty.z41); clear hS; intro b w hS; (simp only [Act.put, fA, fB, fC, Nat.reduceAdd])))
        (apply bp_cell_tmp; rfl; rfl; rfl; rfl; exact hS; decide +kernel; (first | (focus((repeat(first|exact Cells.whole | apply Cells.there)); done)) | assumption); kernel_rfl)
        rw [E.out]
        exact ⟨rfl, v', (((hS.take .t2).drop).take .t2).drop⟩
      · have hno' : ∀ j, j < k + 1 → (at' L j).id ≠ id := fun j hj => by
          by_cases hjk : j = k
          · rw [hjk, at'_get hkl]; exact hid
          · exact hno j (by omega)
        have Hno := Lib.hid hno'
        have hbf : (L[k].id == id) = false := by simpa using hid
        clear hno hno' hid
        generalize L[k].id = qi at q0 hbf
        go_wp2_with (first | ((with_reducible apply wl_ld1 hS); (with_reducible rfl); rfl; rfl; decide +kernel; (exact Cell.there (Cell.there (Cell.rowE Ord.len hkl q0))); (simp only [Act.put, fA, fB, fC, Nat.reduceAdd])) | ((with_reducible apply wl_ld1 hS); (with_reducible rfl); rfl; rfl; decide +kernel; (first | (focus((repeat(first|exact Cell.here rfl | apply Cell.there)); done)) | assumption); (simp only [Act.put, fA, fB, fC, Nat.reduceAdd])) | ((with_reducible apply wl_ldN hS); (with_reducible rfl); rfl; rfl; decide +kernel; (first | (focus((repeat(first|exact Cells.whole | apply Cells.there)); done)) | assumption); kernel_rfl; (simp only [Act.put, fA, fB, fC, Nat.reduceAdd])) | ((with_reducible apply wl_st1 hS); (with_reducible rfl); rfl; rfl; (focus ((conv => lhs; whnf); try rfl)); kernel_rfl; rfl; rfl; ((focus((repeat(first|exact Upd.head | apply Upd.tail)); done))); (simp only [List.length_cons, List.length_nil]; omega); ((simp only [List.set_cons_zero, List.set_cons_succ, setAll]); rfl); clear hS; intro w hS; try (simp only [Act.put, fA, fB, fC, Nat.reduceAdd])) | ((with_reducible apply wl_stN hS); (with_reducible rfl); rfl; rfl; (focus ((conv => lhs; whnf); try rfl)); kernel_rfl; rfl; ((focus((repeat(first|exact Upd.head | apply Upd.tail)); done))); (simp only [List.length_cons, List.length_nil]; omega); ((simp only [List.set_cons_zero, List.set_cons_succ, setAll]); rfl); clear hS; intro w hS; try (simp only [Act.put, fA, fB, fC, Nat.reduceAdd])) | ((with_reducible apply wl_box hS); (with_reducible rfl); rfl; rfl; rfl; clear hS; intro b w hS; (simp only [Act.put, fA, fB, fC, Nat.reduceAdd])) | ((with_reducible apply wl_alloc hS); (with_reducible rfl); rfl; (exact Ty.z41); clear hS; intro b w hS; (simp only [Act.put, fA, fB, fC, Nat.reduceAdd])))
        go_roundw
        case rel => exact ⟨k + 1, rfl, hkl, Hno.out, hS⟩
        case measure => simp [intOf]; omega
end Go.Proofs.YtbcokphjpllbiaaGreat
end
