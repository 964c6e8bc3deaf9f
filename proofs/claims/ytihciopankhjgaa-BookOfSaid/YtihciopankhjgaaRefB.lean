/-
  The document's book: an order goes out of its row; how a row's parts are sources of append. For every row of orders.
-/
import Derived.Test.YtihciopankhjgaaRefA
import Derived.Test.YtihciopankhjgaaSlx
set_option linter.unusedSimpArgs false
set_option linter.unusedVariables false
namespace Go.Sl
open Go.RowKit
section
variable {P : Program} {W : World} {ops : Array Oper} {t : List Nat} {toks : List Tok} {fresh : Nat → Bool} {pin : Nat → Option Value} {Qf : Act → Prop} {nd : Nat → Value} {i : Nat} {o : Oper} {l : List Oper} {a : Act}
/-- A slice literal as an owned row. -/
theorem ch_bsR {ty e n : TypeId} {z : Value} {k bytes : Nat} {xs : Array (Nat × Operand)} {parts : List (Nat × Value)} {ls : List Value} (hf : fresh i = true) (ho : o.op = .buildSlice ty n xs) (hg : Region.wanted o (yielded ops a.tmps) = true) (hx : (xs.map fun (i, x) => (i, a.eval x)) = parts.toArray)
    (ht : tyElem P ty = some e) (hi : tyRow P e = some (some z, k, bytes)) (hz : z.cells.size = k) (hn : decide (n * k ≤ 16777216) = true) (hp : partsOk k n parts = true) (hl : fillL k (zerosL z n) parts = ls) (hll : ls.length = n * k) (hn63 : n ≤ maxLen) (hk : ∀ v, kpL toks t i (upd nd i v) = kpL toks t i nd) (hc : cnL toks t i nd = [])
    (hm : ∀ v, mdL toks i (upd nd i v) = [row v k e n ls]) (h : Chain P W ops t toks fresh pin Qf nd (i + 1) l (a.put o.dst (nd i))) : Chain P W ops t toks fresh pin Qf nd i (o :: l) a :=
  ch_new hf hg hk (fun F w hS => by
    rw [hc] at hS
    obtain ⟨b, w', h1, h2⟩ := exec_bs (P := P) hS ho hx ht hi hz hn hp hl
    refine ⟨_, w', h1, ?_⟩
    rw [hm]
    have h3 : St W (blk b (ls ++ []) e :: (kpL toks t i nd ++ F)) w' := by rw [List.append_nil]; exact h2
    exact St.rowShut h3 (Nat.le_refl _) hn63 (by rw [List.append_nil]; exact hll) hll) h
end
/-- A part of a row is a source. -/
theorem src_part {W w : World} {L R : List HP} {g n c k m c' off : Nat} {T : TypeId} {cs news : List Value} (hS : St W L w) (hu : Take L (row (.slice (some ⟨g, 0, none⟩) n c) k T n cs) R) (h : ∀ j u, news[j]? = some u → cs[off + j]? = some u) :
    SrcW w (.slice (some ⟨g, off, none⟩) m c') m news := by
  refine .inr ⟨g, off, c', rfl, fun j u hj => ?_⟩
  have h1 := h j u hj
  rcases (hS.take hu).rowOpen with ⟨hv, _⟩ | ⟨g', cap, junk, hv, _, _, _, _, hS'⟩
  · cases hv
  · injection hv with e1 e2 e3
    injection e1 with e1
    injection e1 with e1
    subst e1
    exact hS'.cell .head (by rw [List.getElem?_append_left (List.getElem?_eq_some_iff.1 h1).1]; exact h1)
end Go.Sl
namespace Go.Proofs.Ytihciopankhjgaa
open Go.RowKit Go.Sl
theorem flat_take (L : List Ord) (i j : Nat) (u : Value) (h : ((L.take i).flatMap Ord.cells)[j]? = some u) : (L.flatMap Ord.cells)[0 + j]? = some u := by
  rw [Nat.zero_add]
  have e : L.flatMap Ord.cells = (L.take i).flatMap Ord.cells ++ (L.drop i).flatMap Ord.cells := by rw [← List.flatMap_append, List.take_append_drop]
  rw [e, List.getElem?_append_left (List.getElem?_eq_some_iff.1 h).1]
  exact h
theorem flat_drop (L : List Ord) (i j : Nat) (u : Value) (hi : i ≤ L.length) (h : ((L.drop i).flatMap Ord.cells)[j]? = some u) : (L.flatMap Ord.cells)[i * 6 + j]? = some u := by
  have e : L.flatMap Ord.cells = (L.take i).flatMap Ord.cells ++ (L.drop i).flatMap Ord.cells := by rw [← List.flatMap_append, List.take_append_drop]
  have hl : ((L.take i).flatMap Ord.cells).length = i * 6 := by rw [flat_length Ord.len, List.length_take, Nat.min_eq_left hi]
  rw [e, List.getElem?_append_right (by omega), hl, Nat.add_sub_cancel_left]
  exact h
theorem src_behind {W w : World} {L : List HP} {R : List HP} {g c c' : Nat} {Lo : List Ord} {i : Nat} (hi : i ≤ Lo.length) (hc : Lo.length ≤ c) (hS : St W L w) (hu : Take L (pileR (.slice (some ⟨g, 0, none⟩) Lo.length c) Lo) R) :
    SrcW w (.slice (if c = i then some ⟨g, 0, none⟩ else some ⟨g, i * 6, none⟩) (Lo.length - i) c') (Lo.length - i) ((Lo.drop i).flatMap Ord.cells) := by
  split
  · have h0 : Lo.drop i = [] := List.drop_eq_nil_of_le (by omega)
    rw [h0]
    exact src_part hS hu (fun j u h => by simp at h)
  · exact src_part hS hu (fun j u h => flat_drop Lo i j u hi h)
set_option maxRecDepth 100000 in
set_option maxHeartbeats 4000000 in
theorem out_spec (L : List Ord) (i xb : Nat) (last : Int) (v : Value) (hlen : L.length ≤ 32) (hi : i < L.length) (W w : World) (Lr : List HP) (hS : St W (blk xb [v, .int .i64 last] 52 :: pileR v L :: Lr) w) :
    Calls Try.prog 35 #[.pointer (some ⟨xb, 0, none⟩), .int .i64 i] w fun e w' => e = .returned (.tuple #[]) ∧ ∃ v', St W (blk xb [v', .int .i64 last] 52 :: pileR v' (L.eraseIdx i) :: Lr) w' := by
  obtain ⟨a, cap, rfl⟩ := hS.drop.rowVal
  obtain ⟨⟨g, rfl⟩, hcap, hcn⟩ := St.rowAddr hS.drop (by omega)
  have hi1 : i ≤ cap := by omega
  have hi2 : i + 1 ≤ L.length := by omega
  go_enter Try.func35, Try.ntmps35
  refine wp_region_flow2 [0, 0, 0, 4, 12, 28, 0, 124, 254, 0, 512, 1536, 3584, 0, 8192, 32256, 65534, 131071, 262143, 524287] (fun i => i == 1 || i == 8 || i == 16) [⟨some 1, some 8, fun nd => row (nd 1) 6 31 0 []⟩, ⟨some 8, some 16, fun nd => row (nd 8) 6 31 (0 + i) ([] ++ (L.take i).flatMap Ord.cells)⟩, ⟨some 16, none, fun nd => row (nd 16) 6 31 (0 + i + (L.length - (i + 1))) ([] ++ (L.take i).flatMap Ord.cells ++ (L.drop (i + 1)).flatMap Ord.cells)⟩, ⟨some 19, none, fun nd => blk xb [nd 16, .int .i64 last] 52⟩] [some 19, none] (by kernel_rfl) (by kernel_rfl) rfl hS (CongOk.cons (fun nd nd' h => by dsimp only; rw [h 1 rfl rfl]) (CongOk.cons (fun nd nd' h => by dsimp only; rw [h 8 rfl rfl]) (CongOk.cons (fun nd nd' h => by dsimp only; rw [h 16 rfl rfl]) (CongOk.cons (fun nd nd' h => by dsimp only; rw [h 16 rfl rfl]) CongOk.nil)))) ?_
  intro nd
  (refine ch_pure rfl (by kernel_rfl) rfl rfl ?_; intro K hK; go_big_quiet_op; go_big_quiet_on)
  (apply ch_bsR; rfl; (with_reducible rfl); rfl; (focus (simp only [List.map_toArray, List.map_cons, List.map_nil, Act.eval, Array.getD_eq_getD_getElem?, List.getElem?_toArray, List.getElem?_cons_succ, List.getElem?_cons_zero, Option.getD_some]; try rfl)); (with_reducible first | exact Ty.e22 | exact Ty.e26 | exact Ty.e40 | exact Ty.e46 | exact Ty.e74); (with_reducible first | exact Ty.r3 | exact Ty.r31 | exact Ty.r33 | exact Ty.r67 | exact Ty.r79); rfl; rfl; rfl; rfl; rfl; decide; (intro _; rfl); rfl; (intro _; rfl); (simp only [Act.put, List.setIfInBounds_toArray, List.set_cons_succ, List.set_cons_zero, Nat.reduceAdd]))
  (refine ch_pure rfl (by kernel_rfl) rfl rfl ?_; intro K hK; go_big_quiet_op; go_big_quiet_on)
  (apply ch_nil; rfl; kernel_rfl; (with_reducible rfl); rfl; rfl; (simp only [Act.put, List.setIfInBounds_toArray, List.set_cons_succ, List.set_cons_zero, Nat.reduceAdd]))
  (refine ch_pure rfl (by kernel_rfl) rfl rfl ?_; intro K hK; go_big_quiet_op; go_big_quiet_on)
  (apply ch_ld1; rfl; kernel_rfl; (with_reducible rfl); rfl; rfl; decide +kernel; (intro F; first | exact Cell.here rfl | exact Cell.there (Cell.here rfl) | exact Cell.there (Cell.there (Cell.here rfl)) | exact Cell.there (Cell.there (Cell.there (Cell.here rfl))) | exact Cell.there (Cell.there (Cell.there (Cell.there (Cell.here rfl)))) | exact Cell.there (Cell.there (Cell.there (Cell.there (Cell.there (Cell.here rfl))))) | exact Cell.there (Cell.there (Cell.there (Cell.there (Cell.there (Cell.there (Cell.here rfl)))))) | assumption); (simp only [Act.put, List.setIfInBounds_toArray, List.set_cons_succ, List.set_cons_zero, Nat.reduceAdd]))
  (refine ch_pure rfl (by kernel_rfl) rfl rfl ?_; intro K hK; go_big_quiet_op; go_big_quiet_on)
  (refine ch_pure rfl (by kernel_rfl) rfl rfl ?_; intro K hK; go_big_quiet_op; go_big_quiet_on)
  (apply ch_append; rfl; (with_reducible rfl); rfl; (focus ((conv => lhs; whnf); try rfl)); (focus ((conv => lhs; whnf); try rfl)); (with_reducible first | exact Ty.e22 | exact Ty.e26 | exact Ty.e40 | exact Ty.e46 | exact Ty.e74); (with_reducible first | exact Ty.r3 | exact Ty.r31 | exact Ty.r33 | exact Ty.r67 | exact Ty.r79); rfl; decide; rfl; (intro F w hS; exact src_part hS (by first | exact Take.head | exact Take.tail Take.head | exact Take.tail (Take.tail Take.head) | exact Take.tail (Take.tail (Take.tail Take.head)) | exact Take.tail (Take.tail (Take.tail (Take.tail Take.head))) | exact Take.tail (Take.tail (Take.tail (Take.tail (Take.tail Take.head)))) | exact Take.tail (Take.tail (Take.tail (Take.tail (Take.tail (Take.tail Take.head)))))) (fun j u h => flat_take L i j u h)); (focus (rw [flat_length Ord.len, List.length_take, Nat.min_eq_left (by omega)])); (focus (exact flat_one _)); (focus (unfold maxLen; omega)); (focus (omega)); (intro _; rfl); (intro _; rfl); (simp only [Act.put, List.setIfInBounds_toArray, List.set_cons_succ, List.set_cons_zero, Nat.reduceAdd]))
  (refine ch_pure rfl (by kernel_rfl) rfl rfl ?_; intro K hK; go_big_quiet_op; go_big_quiet_on)
  (apply ch_nil; rfl; kernel_rfl; (with_reducible rfl); rfl; rfl; (simp only [Act.put, List.setIfInBounds_toArray, List.set_cons_succ, List.set_cons_zero, Nat.reduceAdd]))
  (refine ch_pure rfl (by kernel_rfl) rfl rfl ?_; intro K hK; go_big_quiet_op; go_big_quiet_on)
  (apply ch_ld1; rfl; kernel_rfl; (with_reducible rfl); rfl; rfl; decide +kernel; (intro F; first | exact Cell.here rfl | exact Cell.there (Cell.here rfl) | exact Cell.there (Cell.there (Cell.here rfl)) | exact Cell.there (Cell.there (Cell.there (Cell.here rfl))) | exact Cell.there (Cell.there (Cell.there (Cell.there (Cell.here rfl)))) | exact Cell.there (Cell.there (Cell.there (Cell.there (Cell.there (Cell.here rfl))))) | exact Cell.there (Cell.there (Cell.there (Cell.there (Cell.there (Cell.there (Cell.here rfl)))))) | assumption); (simp only [Act.put, List.setIfInBounds_toArray, List.set_cons_succ, List.set_cons_zero, Nat.reduceAdd]))
  iterate 3 (refine ch_pure rfl (by kernel_rfl) rfl rfl ?_; intro K hK; go_big_quiet_op; go_big_quiet_on)
  (apply ch_append; rfl; (with_reducible rfl); rfl; (focus ((conv => lhs; whnf); try rfl)); (focus ((conv => lhs; whnf); try rfl)); (with_reducible first | exact Ty.e22 | exact Ty.e26 | exact Ty.e40 | exact Ty.e46 | exact Ty.e74); (with_reducible first | exact Ty.r3 | exact Ty.r31 | exact Ty.r33 | exact Ty.r67 | exact Ty.r79); rfl; decide; rfl; (intro F w hS; exact src_behind hi2 hcn hS (by first | exact Take.head | exact Take.tail Take.head | exact Take.tail (Take.tail Take.head) | exact Take.tail (Take.tail (Take.tail Take.head)) | exact Take.tail (Take.tail (Take.tail (Take.tail Take.head))) | exact Take.tail (Take.tail (Take.tail (Take.tail (Take.tail Take.head)))) | exact Take.tail (Take.tail (Take.tail (Take.tail (Take.tail (Take.tail Take.head))))))); (focus (rw [flat_length Ord.len, List.length_drop])); (focus (exact flat_one _)); (focus (unfold maxLen; omega)); (focus (omega)); (intro _; rfl); (intro _; rfl); (simp only [Act.put, List.setIfInBounds_toArray, List.set_cons_succ, List.set_cons_zero, Nat.reduceAdd]))
  (apply ch_nil; rfl; kernel_rfl; (with_reducible rfl); rfl; rfl; (simp only [Act.put, List.setIfInBounds_toArray, List.set_cons_succ, List.set_cons_zero, Nat.reduceAdd]))
  (refine ch_pure rfl (by kernel_rfl) rfl rfl ?_; intro K hK; go_big_quiet_op; go_big_quiet_on)
  (apply ch_stV; rfl; (with_reducible rfl); rfl; rfl; (focus ((conv => lhs; whnf); try rfl)); kernel_rfl; rfl; (intro F w hS; exact hS.rowOne (by first | exact Take.head | exact Take.tail Take.head | exact Take.tail (Take.tail Take.head) | exact Take.tail (Take.tail (Take.tail Take.head)) | exact Take.tail (Take.tail (Take.tail (Take.tail Take.head))) | exact Take.tail (Take.tail (Take.tail (Take.tail (Take.tail Take.head)))) | exact Take.tail (Take.tail (Take.tail (Take.tail (Take.tail (Take.tail Take.head))))))); (focus (simp)); rfl; rfl; try (simp only [Act.put, List.setIfInBounds_toArray, List.set_cons_succ, List.set_cons_zero, Nat.reduceAdd]))
  refine ch_end ?_
  clear hS
  intro w hS
  have hS2 : St W [row (nd 16) 6 _ _ _, blk xb _ _, pileR _ _, sats Lr] w := hS
  clear hS
  have hS := hS2.unpack [_, _, _]
  clear hS2
  simp only [List.cons_append, List.nil_append] at hS
  generalize nd 16 = v16 at *
  have e1 : L.eraseIdx i = L.take i ++ L.drop (i + 1) := List.eraseIdx_eq_take_drop_succ L i
  have e2 : (L.take i ++ L.drop (i + 1)).length = 0 + i + (L.length - (i + 1)) := by rw [List.length_append, List.length_take, List.length_drop, Nat.min_eq_left (by omega)]; omega
  have fin : St W (blk xb [v16, .int .i64 last] 52 :: pileR v16 (L.eraseIdx i) :: Lr) w := by
    have h1 := (hS.take .t2).drop.swap
    unfold pileR
    rw [e1, List.flatMap_append, e2]
    exact h1
  have Fin := Lib.hid fin
  clear fin hS e1 e2
  go_wp2_with fail
  all_goals go_end0
  all_goals exact ⟨rfl, v16, Fin.out⟩
def CanRR (W : World) (Lr : List HP) (L : List Ord) (id : Int) (v6 : Value) (w : World) : Prop :=
  ∃ k : Nat, v6 = .int .i64 k ∧ k ≤ L.length ∧ (∀ j, j < k → (at' L j).id ≠ id) ∧ St W Lr w
theorem cancelR_no {L : List Ord} {id : Int} (h : ∀ j, j < L.length → (at' L j).id ≠ id) : cancelR L id = ⟨o0, 7, L⟩ := by
  unfold cancelR
  rw [List.findIdx?_eq_none_iff.2]
  intro x hx
  obtain ⟨j, hj, rfl⟩ := mem_at' hx
  simpa using h j hj
theorem cancelR_yes {L : List Ord} {id : Int} {k : Nat} (hk : k < L.length) (h : ∀ j, j < k → (at' L j).id ≠ id) (hx : (at' L k).id = id) : cancelR L id = ⟨at' L k, 0, L.eraseIdx k⟩ := by
  unfold cancelR
  rw [List.findIdx?_eq_some_iff_getElem.2 ⟨hk, by rw [← at'_get hk]; simpa using hx, fun j hj => by
    rw [← at'_get (show j < L.length by omega)]
    simpa using h j hj⟩]
set_option maxRecDepth 100000 in
set_option maxHeartbeats 4000000 in
theorem refCancel_spec (L : List Ord) (id : Int) (xb : Nat) (last : Int) (v : Value) (hlen : L.length ≤ 32) (W w : World) (Lr : List HP) (hS : St W (blk xb [v, .int .i64 last] 52 :: pileR v L :: Lr) w) :
    Calls Try.prog 39 #[.pointer (some ⟨xb, 0, none⟩), .int .i64 id] w fun e w' => e = .returned (.tuple #[.agg (cancelR L id).o.cells.toArray, .int .i64 (cancelR L id).errno]) ∧ ∃ v', St W (blk xb [v', .int .i64 last] 52 :: pileR v' (cancelR L id).L :: Lr) w' := by
  obtain ⟨a, cap, rfl⟩ := hS.drop.rowVal
  go_enter Try.func39, Try.ntmps39
  go_wp2_with (first | ((with_reducible apply wl_ld1 hS); (with_reducible rfl); rfl; rfl; decide +kernel; (first | exact Cell.here rfl | exact Cell.there (Cell.here rfl) | exact Cell.there (Cell.there (Cell.here rfl)) | exact Cell.there (Cell.there (Cell.there (Cell.here rfl))) | exact Cell.there (Cell.there (Cell.there (Cell.there (Cell.here rfl)))) | exact Cell.there (Cell.there (Cell.there (Cell.there (Cell.there (Cell.here rfl))))) | exact Cell.there (Cell.there (Cell.there (Cell.there (Cell.there (Cell.there (Cell.here rfl)))))) | assumption); (simp only [Act.put, List.setIfInBounds_toArray, List.set_cons_succ, List.set_cons_zero, Nat.reduceAdd])) | ((with_reducible apply wl_ldN hS); (with_reducible rfl); rfl; rfl; decide +kernel; (first | exact Cells.whole | exact Cells.there Cells.whole | exact Cells.there (Cells.there Cells.whole) | exact Cells.there (Cells.there (Cells.there Cells.whole)) | exact Cells.there (Cells.there (Cells.there (Cells.there Cells.whole))) | exact Cells.there (Cells.there (Cells.there (Cells.there (Cells.there Cells.whole)))) | exact Cells.there (Cells.there (Cells.there (Cells.there (Cells.there (Cells.there Cells.whole))))) | assumption); kernel_rfl; (simp only [Act.put, List.setIfInBounds_toArray, List.set_cons_succ, List.set_cons_zero, Nat.reduceAdd])) | ((with_reducible apply wl_st1 hS); (with_reducible rfl); rfl; rfl; (focus ((conv => lhs; whnf); try rfl)); kernel_rfl; rfl; rfl; (first | exact Upd.head | exact Upd.tail Upd.head | exact Upd.tail (Upd.tail Upd.head) | exact Upd.tail (Upd.tail (Upd.tail Upd.head)) | exact Upd.tail (Upd.tail (Upd.tail (Upd.tail Upd.head))) | exact Upd.tail (Upd.tail (Upd.tail (Upd.tail (Upd.tail Upd.head)))) | exact Upd.tail (Upd.tail (Upd.tail (Upd.tail (Upd.tail (Upd.tail Upd.head)))))); (simp only [List.length_cons, List.length_nil]; omega); ((simp only [List.set_cons_zero, List.set_cons_succ, setAll]); rfl); clear hS; intro w hS; try (simp only [Act.put, List.setIfInBounds_toArray, List.set_cons_succ, List.set_cons_zero, Nat.reduceAdd])) | ((with_reducible apply wl_stN hS); (with_reducible rfl); rfl; rfl; (focus ((conv => lhs; whnf); try rfl)); kernel_rfl; rfl; (first | exact Upd.head | exact Upd.tail Upd.head | exact Upd.tail (Upd.tail Upd.head) | exact Upd.tail (Upd.tail (Upd.tail Upd.head)) | exact Upd.tail (Upd.tail (Upd.tail (Upd.tail Upd.head))) | exact Upd.tail (Upd.tail (Upd.tail (Upd.tail (Upd.tail Upd.head)))) | exact Upd.tail (Upd.tail (Upd.tail (Upd.tail (Upd.tail (Upd.tail Upd.head)))))); (simp only [List.length_cons, List.length_nil]; omega); ((simp only [List.set_cons_zero, List.set_cons_succ, setAll]); rfl); clear hS; intro w hS; try (simp only [Act.put, List.setIfInBounds_toArray, List.set_cons_succ, List.set_cons_zero, Nat.reduceAdd])) | ((with_reducible apply wl_box hS); (with_reducible rfl); rfl; rfl; rfl; clear hS; intro b w hS; (simp only [Act.put, List.setIfInBounds_toArray, List.set_cons_succ, List.set_cons_zero, Nat.reduceAdd])) | ((with_reducible apply wl_alloc hS); (with_reducible rfl); rfl; (with_reducible first | exact Ty.z3 | exact Ty.z31 | exact Ty.z33 | exact Ty.z59 | exact Ty.z79 | exact Ty.z110); clear hS; intro b w hS; (simp only [Act.put, List.setIfInBounds_toArray, List.set_cons_succ, List.set_cons_zero, Nat.reduceAdd])))
  go_loopw [6] (fun v6 wr => CanRR W (blk b [.int .i64 0, .string ⟨#[]⟩, .bool false, .int .i64 0, .int .i64 0, .int .i64 0] 31 :: blk xb [.slice a L.length cap, .int .i64 last] 52 :: pileR (.slice a L.length cap) L :: Lr) L id v6 wr) (fun v _ => L.length - (intOf v).toNat)
  case atStart => exact ⟨0, rfl, by omega, fun j hj => absurd hj (Nat.not_lt_zero _), hS⟩
  case round =>
    clear hS
    obtain ⟨k, rfl, hk, hno, hS⟩ := hrel
    by_cases hkn : k = L.length
    · have E := Lib.hid (cancelR_no (L := L) (id := id) (hkn ▸ hno))
      subst hkn
      clear hno
      go_wp2_with (first | ((with_reducible apply wl_ld1 hS); (with_reducible rfl); rfl; rfl; decide +kernel; (first | exact Cell.here rfl | exact Cell.there (Cell.here rfl) | exact Cell.there (Cell.there (Cell.here rfl)) | exact Cell.there (Cell.there (Cell.there (Cell.here rfl))) | exact Cell.there (Cell.there (Cell.there (Cell.there (Cell.here rfl)))) | exact Cell.there (Cell.there (Cell.there (Cell.there (Cell.there (Cell.here rfl))))) | exact Cell.there (Cell.there (Cell.there (Cell.there (Cell.there (Cell.there (Cell.here rfl)))))) | assumption); (simp only [Act.put, List.setIfInBounds_toArray, List.set_cons_succ, List.set_cons_zero, Nat.reduceAdd])) | ((with_reducible apply wl_ldN hS); (with_reducible rfl); rfl; rfl; decide +kernel; (first | exact Cells.whole | exact Cells.there Cells.whole | exact Cells.there (Cells.there Cells.whole) | exact Cells.there (Cells.there (Cells.there Cells.whole)) | exact Cells.there (Cells.there (Cells.there (Cells.there Cells.whole))) | exact Cells.there (Cells.there (Cells.there (Cells.there (Cells.there Cells.whole)))) | exact Cells.there (Cells.there (Cells.there (Cells.there (Cells.there (Cells.there Cells.whole))))) | assumption); kernel_rfl; (simp only [Act.put, List.setIfInBounds_toArray, List.set_cons_succ, List.set_cons_zero, Nat.reduceAdd])) | ((with_reducible apply wl_st1 hS); (with_reducible rfl); rfl; rfl; (focus ((conv => lhs; whnf); try rfl)); kernel_rfl; rfl; rfl; (first | exact Upd.head | exact Upd.tail Upd.head | exact Upd.tail (Upd.tail Upd.head) | exact Upd.tail (Upd.tail (Upd.tail Upd.head)) | exact Upd.tail (Upd.tail (Upd.tail (Upd.tail Upd.head))) | exact Upd.tail (Upd.tail (Upd.tail (Upd.tail (Upd.tail Upd.head)))) | exact Upd.tail (Upd.tail (Upd.tail (Upd.tail (Upd.tail (Upd.tail Upd.head)))))); (simp only [List.length_cons, List.length_nil]; omega); ((simp only [List.set_cons_zero, List.set_cons_succ, setAll]); rfl); clear hS; intro w hS; try (simp only [Act.put, List.setIfInBounds_toArray, List.set_cons_succ, List.set_cons_zero, Nat.reduceAdd])) | ((with_reducible apply wl_stN hS); (with_reducible rfl); rfl; rfl; (focus ((conv => lhs; whnf); try rfl)); kernel_rfl; rfl; (first | exact Upd.head | exact Upd.tail Upd.head | exact Upd.tail (Upd.tail Upd.head) | exact Upd.tail (Upd.tail (Upd.tail Upd.head)) | exact Upd.tail (Upd.tail (Upd.tail (Upd.tail Upd.head))) | exact Upd.tail (Upd.tail (Upd.tail (Upd.tail (Upd.tail Upd.head)))) | exact Upd.tail (Upd.tail (Upd.tail (Upd.tail (Upd.tail (Upd.tail Upd.head)))))); (simp only [List.length_cons, List.length_nil]; omega); ((simp only [List.set_cons_zero, List.set_cons_succ, setAll]); rfl); clear hS; intro w hS; try (simp only [Act.put, List.setIfInBounds_toArray, List.set_cons_succ, List.set_cons_zero, Nat.reduceAdd])) | ((with_reducible apply wl_box hS); (with_reducible rfl); rfl; rfl; rfl; clear hS; intro b w hS; (simp only [Act.put, List.setIfInBounds_toArray, List.set_cons_succ, List.set_cons_zero, Nat.reduceAdd])) | ((with_reducible apply wl_alloc hS); (with_reducible rfl); rfl; (with_reducible first | exact Ty.z3 | exact Ty.z31 | exact Ty.z33 | exact Ty.z59 | exact Ty.z79 | exact Ty.z110); clear hS; intro b w hS; (simp only [Act.put, List.setIfInBounds_toArray, List.set_cons_succ, List.set_cons_zero, Nat.reduceAdd])))
      (apply bp_cell_tmp; rfl; rfl; rfl; rfl; exact hS; decide +kernel; (first | exact Cells.whole | exact Cells.there Cells.whole | exact Cells.there (Cells.there Cells.whole) | exact Cells.there (Cells.there (Cells.there Cells.whole)) | exact Cells.there (Cells.there (Cells.there (Cells.there Cells.whole))) | exact Cells.there (Cells.there (Cells.there (Cells.there (Cells.there Cells.whole)))) | exact Cells.there (Cells.there (Cells.there (Cells.there (Cells.there (Cells.there Cells.whole))))) | assumption); kernel_rfl)
      rw [E.out]
      exact ⟨rfl, _, hS.drop⟩
    · have hkl : k < L.length := by omega
      clear hkn hk
      obtain ⟨⟨g, rfl⟩, hcap, hcn⟩ := St.rowAddr hS.drop.drop (by omega)
      have q0 : (Ord.cells L[k])[0]? = some (.int .i64 L[k].id) := rfl
      by_cases hid : L[k].id = id
      · have E := Lib.hid (cancelR_yes hkl hno (by rw [at'_get hkl]; exact hid))
        rw [hid] at q0
        have hxe : L[k] = at' L k := (at'_get hkl).symm
        clear hno hid
        have hcells : Cells (pileR (.slice (some ⟨g, 0, none⟩) L.length cap) L :: Lr) g (k * 6) (Ord.cells (at' L k)) := by rw [← hxe]; exact Cells.rowE Ord.len hkl
        clear hxe
        generalize at' L k = x at E hcells
        obtain ⟨xi, xu, xy, xt, xc, xp⟩ := x
        simp only [Ord.cells] at hcells
        go_wp2_with (first | ((with_reducible apply wl_ld1 hS); (with_reducible rfl); rfl; rfl; decide +kernel; (exact Cell.there (Cell.there (Cell.rowE Ord.len hkl q0))); (simp only [Act.put, List.setIfInBounds_toArray, List.set_cons_succ, List.set_cons_zero, Nat.reduceAdd])) | ((with_reducible apply wl_ldN hS); (with_reducible rfl); rfl; rfl; decide +kernel; (exact Cells.there (Cells.there hcells)); kernel_rfl; (simp only [Act.put, List.setIfInBounds_toArray, List.set_cons_succ, List.set_cons_zero, Nat.reduceAdd])) | (go_at_call 35; refine (out_spec L k xb last _ hlen hkl W _ _ ((hS.take .t3).take .t3)).mono ?_; clear hS; rintro e w ⟨rfl, v', hS⟩) | ((with_reducible apply wl_ld1 hS); (with_reducible rfl); rfl; rfl; decide +kernel; (first | exact Cell.here rfl | exact Cell.there (Cell.here rfl) | exact Cell.there (Cell.there (Cell.here rfl)) | exact Cell.there (Cell.there (Cell.there (Cell.here rfl))) | exact Cell.there (Cell.there (Cell.there (Cell.there (Cell.here rfl)))) | exact Cell.there (Cell.there (Cell.there (Cell.there (Cell.there (Cell.here rfl))))) | exact Cell.there (Cell.there (Cell.there (Cell.there (Cell.there (Cell.there (Cell.here rfl)))))) | assumption); (simp only [Act.put, List.setIfInBounds_toArray, List.set_cons_succ, List.set_cons_zero, Nat.reduceAdd])) | ((with_reducible apply wl_ldN hS); (with_reducible rfl); rfl; rfl; decide +kernel; (first | exact Cells.whole | exact Cells.there Cells.whole | exact Cells.there (Cells.there Cells.whole) | exact Cells.there (Cells.there (Cells.there Cells.whole)) | exact Cells.there (Cells.there (Cells.there (Cells.there Cells.whole))) | exact Cells.there (Cells.there (Cells.there (Cells.there (Cells.there Cells.whole)))) | exact Cells.there (Cells.there (Cells.there (Cells.there (Cells.there (Cells.there Cells.whole))))) | assumption); kernel_rfl; (simp only [Act.put, List.setIfInBounds_toArray, List.set_cons_succ, List.set_cons_zero, Nat.reduceAdd])) | ((with_reducible apply wl_st1 hS); (with_reducible rfl); rfl; rfl; (focus ((conv => lhs; whnf); try rfl)); kernel_rfl; rfl; rfl; (first | exact Upd.head | exact Upd.tail Upd.head | exact Upd.tail (Upd.tail Upd.head) | exact Upd.tail (Upd.tail (Upd.tail Upd.head)) | exact Upd.tail (Upd.tail (Upd.tail (Upd.tail Upd.head))) | exact Upd.tail (Upd.tail (Upd.tail (Upd.tail (Upd.tail Upd.head)))) | exact Upd.tail (Upd.tail (Upd.tail (Upd.tail (Upd.tail (Upd.tail Upd.head)))))); (simp only [List.length_cons, List.length_nil]; omega); ((simp only [List.set_cons_zero, List.set_cons_succ, setAll]); rfl); clear hS; intro w hS; try (simp only [Act.put, List.setIfInBounds_toArray, List.set_cons_succ, List.set_cons_zero, Nat.reduceAdd])) | ((with_reducible apply wl_stN hS); (with_reducible rfl); rfl; rfl; (focus ((conv => lhs; whnf); try rfl)); kernel_rfl; rfl; (first | exact Upd.head | exact Upd.tail Upd.head | exact Upd.tail (Upd.tail Upd.head) | exact Upd.tail (Upd.tail (Upd.tail Upd.head)) | exact Upd.tail (Upd.tail (Upd.tail (Upd.tail Upd.head))) | exact Upd.tail (Upd.tail (Upd.tail (Upd.tail (Upd.tail Upd.head)))) | exact Upd.tail (Upd.tail (Upd.tail (Upd.tail (Upd.tail (Upd.tail Upd.head)))))); (simp only [List.length_cons, List.length_nil]; omega); ((simp only [List.set_cons_zero, List.set_cons_succ, setAll]); rfl); clear hS; intro w hS; try (simp only [Act.put, List.setIfInBounds_toArray, List.set_cons_succ, List.set_cons_zero, Nat.reduceAdd])) | ((with_reducible apply wl_box hS); (with_reducible rfl); rfl; rfl; rfl; clear hS; intro b w hS; (simp only [Act.put, List.setIfInBounds_toArray, List.set_cons_succ, List.set_cons_zero, Nat.reduceAdd])) | ((with_reducible apply wl_alloc hS); (with_reducible rfl); rfl; (with_reducible first | exact Ty.z3 | exact Ty.z31 | exact Ty.z33 | exact Ty.z59 | exact Ty.z79 | exact Ty.z110); clear hS; intro b w hS; (simp only [Act.put, List.setIfInBounds_toArray, List.set_cons_succ, List.set_cons_zero, Nat.reduceAdd])))
        (apply bp_cell_tmp; rfl; rfl; rfl; rfl; exact hS; decide +kernel; (first | exact Cells.whole | exact Cells.there Cells.whole | exact Cells.there (Cells.there Cells.whole) | exact Cells.there (Cells.there (Cells.there Cells.whole)) | exact Cells.there (Cells.there (Cells.there (Cells.there Cells.whole))) | exact Cells.there (Cells.there (Cells.there (Cells.there (Cells.there Cells.whole)))) | exact Cells.there (Cells.there (Cells.there (Cells.there (Cells.there (Cells.there Cells.whole))))) | assumption); kernel_rfl)
        rw [E.out]
        exact ⟨rfl, v', (((hS.take .t2).drop).take .t2).drop⟩
      · have hno' : ∀ j, j < k + 1 → (at' L j).id ≠ id := fun j hj => by
          by_cases hjk : j = k
          · rw [hjk, at'_get hkl]; exact hid
          · exact hno j (by omega)
        have Hno := Lib.hid hno'
        have hbf : (L[k].id == id) = false := by simpa using hid
        clear hno hno' hid
        generalize L[k].id = qi at q0 hbf
        go_wp2_with (first | ((with_reducible apply wl_ld1 hS); (with_reducible rfl); rfl; rfl; decide +kernel; (exact Cell.there (Cell.there (Cell.rowE Ord.len hkl q0))); (simp only [Act.put, List.setIfInBounds_toArray, List.set_cons_succ, List.set_cons_zero, Nat.reduceAdd])) | ((with_reducible apply wl_ld1 hS); (with_reducible rfl); rfl; rfl; decide +kernel; (first | exact Cell.here rfl | exact Cell.there (Cell.here rfl) | exact Cell.there (Cell.there (Cell.here rfl)) | exact Cell.there (Cell.there (Cell.there (Cell.here rfl))) | exact Cell.there (Cell.there (Cell.there (Cell.there (Cell.here rfl)))) | exact Cell.there (Cell.there (Cell.there (Cell.there (Cell.there (Cell.here rfl))))) | exact Cell.there (Cell.there (Cell.there (Cell.there (Cell.there (Cell.there (Cell.here rfl)))))) | assumption); (simp only [Act.put, List.setIfInBounds_toArray, List.set_cons_succ, List.set_cons_zero, Nat.reduceAdd])) | ((with_reducible apply wl_ldN hS); (with_reducible rfl); rfl; rfl; decide +kernel; (first | exact Cells.whole | exact Cells.there Cells.whole | exact Cells.there (Cells.there Cells.whole) | exact Cells.there (Cells.there (Cells.there Cells.whole)) | exact Cells.there (Cells.there (Cells.there (Cells.there Cells.whole))) | exact Cells.there (Cells.there (Cells.there (Cells.there (Cells.there Cells.whole)))) | exact Cells.there (Cells.there (Cells.there (Cells.there (Cells.there (Cells.there Cells.whole))))) | assumption); kernel_rfl; (simp only [Act.put, List.setIfInBounds_toArray, List.set_cons_succ, List.set_cons_zero, Nat.reduceAdd])) | ((with_reducible apply wl_st1 hS); (with_reducible rfl); rfl; rfl; (focus ((conv => lhs; whnf); try rfl)); kernel_rfl; rfl; rfl; (first | exact Upd.head | exact Upd.tail Upd.head | exact Upd.tail (Upd.tail Upd.head) | exact Upd.tail (Upd.tail (Upd.tail Upd.head)) | exact Upd.tail (Upd.tail (Upd.tail (Upd.tail Upd.head))) | exact Upd.tail (Upd.tail (Upd.tail (Upd.tail (Upd.tail Upd.head)))) | exact Upd.tail (Upd.tail (Upd.tail (Upd.tail (Upd.tail (Upd.tail Upd.head)))))); (simp only [List.length_cons, List.length_nil]; omega); ((simp only [List.set_cons_zero, List.set_cons_succ, setAll]); rfl); clear hS; intro w hS; try (simp only [Act.put, List.setIfInBounds_toArray, List.set_cons_succ, List.set_cons_zero, Nat.reduceAdd])) | ((with_reducible apply wl_stN hS); (with_reducible rfl); rfl; rfl; (focus ((conv => lhs; whnf); try rfl)); kernel_rfl; rfl; (first | exact Upd.head | exact Upd.tail Upd.head | exact Upd.tail (Upd.tail Upd.head) | exact Upd.tail (Upd.tail (Upd.tail Upd.head)) | exact Upd.tail (Upd.tail (Upd.tail (Upd.tail Upd.head))) | exact Upd.tail (Upd.tail (Upd.tail (Upd.tail (Upd.tail Upd.head)))) | exact Upd.tail (Upd.tail (Upd.tail (Upd.tail (Upd.tail (Upd.tail Upd.head)))))); (simp only [List.length_cons, List.length_nil]; omega); ((simp only [List.set_cons_zero, List.set_cons_succ, setAll]); rfl); clear hS; intro w hS; try (simp only [Act.put, List.setIfInBounds_toArray, List.set_cons_succ, List.set_cons_zero, Nat.reduceAdd])) | ((with_reducible apply wl_box hS); (with_reducible rfl); rfl; rfl; rfl; clear hS; intro b w hS; (simp only [Act.put, List.setIfInBounds_toArray, List.set_cons_succ, List.set_cons_zero, Nat.reduceAdd])) | ((with_reducible apply wl_alloc hS); (with_reducible rfl); rfl; (with_reducible first | exact Ty.z3 | exact Ty.z31 | exact Ty.z33 | exact Ty.z59 | exact Ty.z79 | exact Ty.z110); clear hS; intro b w hS; (simp only [Act.put, List.setIfInBounds_toArray, List.set_cons_succ, List.set_cons_zero, Nat.reduceAdd])))
        go_roundw
        case rel => exact ⟨k + 1, rfl, hkl, Hno.out, hS⟩
        case measure => simp [intOf]; omega
end Go.Proofs.Ytihciopankhjgaa
