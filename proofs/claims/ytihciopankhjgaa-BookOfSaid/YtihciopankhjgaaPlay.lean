/-
  A script played in both books: they go on alike. For every script.
-/
import Derived.Test.YtihciopankhjgaaRefC
import Derived.Test.YtihciopankhjgaaPrB
set_option linter.unusedSimpArgs false
set_option linter.unusedVariables false
namespace Go.Proofs.Ytihciopankhjgaa
open Go.RowKit Go.Sl
def OrdR (W : World) (Lr : List HP) (n : Nat) (v : Value) (w : World) : Prop := ∃ i : Nat, v = .int .i64 i ∧ i ≤ n ∧ St W Lr w
set_option maxRecDepth 100000 in
set_option maxHeartbeats 4000000 in
theorem orders_spec (L : List Ord) (a1 a2 : Option Addr) (c1 c2 : Nat) (hlen : L.length ≤ 32) (W w : World) (Lr : List HP) (hS : St W (pileR (.slice a1 L.length c1) L :: pileR (.slice a2 L.length c2) L :: Lr) w) :
    Calls Try.prog 21 #[.slice a1 L.length c1, .slice a2 L.length c2] w fun e w' => e = .returned (.bool true) ∧ St W (pileR (.slice a1 L.length c1) L :: pileR (.slice a2 L.length c2) L :: Lr) w' := by
  go_enter Try.func21, Try.ntmps21
  go_wp2_with fail
  go_loopw [5] (fun v wr => OrdR W (pileR (.slice a1 L.length c1) L :: pileR (.slice a2 L.length c2) L :: Lr) L.length v wr) (fun v _ => L.length - (intOf v).toNat)
  case atStart => exact ⟨0, rfl, by omega, hS⟩
  case round =>
    clear hS
    obtain ⟨i, rfl, hi, hS⟩ := hrel
    by_cases hn : i = L.length
    · subst hn
      go_wp2_with fail
      go_ret
      exact ⟨rfl, hS⟩
    · have hil : i < L.length := by omega
      clear hn hi
      obtain ⟨⟨g1, rfl⟩, hc1, hn1⟩ := St.rowAddr hS (by omega)
      obtain ⟨⟨g2, rfl⟩, hc2, hn2⟩ := St.rowAddr hS.drop (by omega)
      have q1 : ∀ {X : List HP}, Cells (pileR (.slice (some ⟨g1, 0, none⟩) L.length c1) L :: X) g1 (i * 6) (Ord.cells L[i]) := fun {X} => Cells.rowE Ord.len hil
      have q2 : ∀ {X : List HP}, Cells (pileR (.slice (some ⟨g2, 0, none⟩) L.length c2) L :: X) g2 (i * 6) (Ord.cells L[i]) := fun {X} => Cells.rowE Ord.len hil
      generalize L[i] = x at q1 q2
      obtain ⟨xi, xu, xy, xt, xc, xp⟩ := x
      simp only [Ord.cells] at q1 q2
      go_wp2_with fail
      refine wp_region_flow2 [0, 0, 3, 7, 0, 0, 48, 112, 255] (fun _ => false) [] [none, none] (by kernel_rfl) (by kernel_rfl) rfl hS CongOk.nil ?_
      intro nd
      iterate 3 (refine ch_pure rfl (by kernel_rfl) rfl rfl ?_; intro K hK; go_big_quiet_op; go_big_quiet_on)
      (apply ch_ldN; rfl; kernel_rfl; (with_reducible rfl); rfl; rfl; decide +kernel; (intro F; exact q1); kernel_rfl; (simp only [Act.put, List.setIfInBounds_toArray, List.set_cons_succ, List.set_cons_zero, Nat.reduceAdd]))
      iterate 3 (refine ch_pure rfl (by kernel_rfl) rfl rfl ?_; intro K hK; go_big_quiet_op; go_big_quiet_on)
      (apply ch_ldN; rfl; kernel_rfl; (with_reducible rfl); rfl; rfl; decide +kernel; (intro F; exact Cells.there q2); kernel_rfl; (simp only [Act.put, List.setIfInBounds_toArray, List.set_cons_succ, List.set_cons_zero, Nat.reduceAdd]))
      (refine ch_pure rfl (by kernel_rfl) rfl rfl ?_; intro K hK; go_big_quiet_op; go_big_quiet_on)
      refine ch_end ?_
      clear hS q1 q2
      intro w hS
      have hS2 : St W [pileR _ _, pileR _ _, sats Lr] w := hS
      clear hS
      have hS := hS2.unpack [_, _]
      clear hS2
      simp only [List.cons_append, List.nil_append] at hS
      go_wp2_with fail
      go_roundw
      case rel => exact ⟨i + 1, rfl, hil, hS⟩
      case measure => simp [intOf]; omega
theorem orders_take {L : List Ord} {v1 v2 : Value} (hlen : L.length ≤ 32) {W w : World} {Lr R R2 : List HP} (hS : St W Lr w) (h1 : Take Lr (pileR v1 L) R) (h2 : Take R (pileR v2 L) R2) :
    Calls Try.prog 21 #[v1, v2] w fun e w' => e = .returned (.bool true) ∧ St W Lr w' := by
  obtain ⟨a1, c1, rfl⟩ := (hS.take h1).rowVal
  obtain ⟨a2, c2, rfl⟩ := ((hS.take h1).drop.take h2).rowVal
  have h3 : St W (pileR (.slice a2 L.length c2) L :: pileR (.slice a1 L.length c1) L :: R2) w := ⟨hS.os, hS.tape, hS.output, sep_swap (sep_mono (fun _ x => x) (fun _ x => h2.sats x) (h1.sats hS.sat))⟩
  refine (orders_spec L a1 a2 c1 c2 hlen W w R2 h3.swap).mono ?_
  rintro e w' ⟨rfl, h⟩
  refine ⟨rfl, St.back ⟨h.os, h.tape, h.output, sep_mono (fun _ x => x) (fun _ x => h2.back x) h.sat⟩ h1⟩
theorem list_new (bb : Nat) {b : Bk} {L : List Ord} (h : Rep b L) (W w : World) (Lr : List HP) (hS : St W (bookP bb b :: Lr) w) :
    Calls Try.prog 22 #[.pointer (some ⟨bb, 0, none⟩)] w fun e w' => ∃ v, e = .returned v ∧ St W (pileR v L :: bookP bb b :: Lr) w' := by
  refine (list_at bb h W w Lr hS).mono ?_
  rintro e w' ⟨a, c, rfl, hS⟩
  exact ⟨_, rfl, hS.swap⟩
theorem len_at (bb : Nat) {b : Bk} {L : List Ord} (h : Rep b L) (W w : World) (Lr : List HP) (hS : St W (bookP bb b :: Lr) w) :
    Calls Try.prog 16 #[.pointer (some ⟨bb, 0, none⟩)] w fun e w' => e = .returned (.int .i64 L.length) ∧ St W (bookP bb b :: Lr) w' := by
  have e : b.len = L.length := by rw [len_flat _ h.ok.n8, h.perm.length_eq]
  rw [← e]
  exact len_spec bb b (by have := h.ok.few; omega) W w Lr hS
/-- No two that stand there meet. -/
def ApartL (L : List Ord) : Prop := ∀ x ∈ L, ∀ z ∈ L, meetR x z = false
theorem meetR_cnt (x z : Ord) (c d : Int) : meetR { x with cnt := c } { z with cnt := d } = meetR x z := rfl
theorem apart_keep : ∀ (f : Nat) (o : Ord) (L : List Ord) (ts : List Trd), ApartL L → ApartL (refLoop f o L ts).2.1
  | 0, _, _, _, h => h
  | f + 1, o, L, ts, h => by
    rw [refLoop]
    by_cases h0 : 0 < o.cnt
    · rw [if_pos h0]
      cases hb : bestTo o L L.length with
      | none => exact h
      | some k =>
        obtain ⟨hk, _, _⟩ := best_some hb
        refine apart_keep f _ _ _ ?_
        intro x hx z hz
        have hm : ∀ y ∈ cutR L k ((at' L k).cnt - minI o.cnt (at' L k).cnt), ∃ y' ∈ L, ∃ c, y = { y' with cnt := c } := by
          intro y hy
          unfold cutR at hy
          split at hy
          · exact ⟨y, List.mem_of_mem_eraseIdx hy, y.cnt, rfl⟩
          · rcases List.mem_or_eq_of_mem_set hy with hy | rfl
            · exact ⟨y, hy, y.cnt, rfl⟩
            · exact ⟨_, at'_mem hk, _, rfl⟩
        obtain ⟨x', hx', c, rfl⟩ := hm x hx
        obtain ⟨z', hz', d, rfl⟩ := hm z hz
        rw [meetR_cnt]
        exact h x' hx' z' hz'
    · rw [if_neg h0]; exact h
/-- Behind the loop the order meets none, or nothing is left of it. -/
theorem ref_done : ∀ (f : Nat) (o : Ord) (L : List Ord) (ts : List Trd), (∀ x ∈ L, 1 ≤ x.cnt) → (L.length < f ∨ (o.cnt ≤ 0 ∧ 0 < f)) → (refLoop f o L ts).1.cnt ≤ 0 ∨ ∀ z ∈ (refLoop f o L ts).2.1, meetR (refLoop f o L ts).1 z = false
  | 0, _, _, _, _, h => by omega
  | f + 1, o, L, ts, hL, h => by
    rw [refLoop]
    by_cases h0 : 0 < o.cnt
    · rw [if_pos h0]
      cases hb : bestTo o L L.length with
      | none =>
        right
        intro z hz
        obtain ⟨i, hi, rfl⟩ := mem_at' hz
        exact best_none hb i hi
      | some k =>
        obtain ⟨hk, _, _⟩ := best_some hb
        have hx := hL _ (at'_mem hk)
        have hmin := minI_pos h0 (show 0 < (at' L k).cnt by omega)
        refine ref_done f _ _ _ ?_ ?_
        · unfold cutR
          split
          · exact fun x hx => hL x (List.mem_of_mem_eraseIdx hx)
          · intro x hxm
            rcases List.mem_or_eq_of_mem_set hxm with hx' | rfl
            · exact hL x hx'
            · simp only; omega
        · unfold cutR
          by_cases hz : (at' L k).cnt - minI o.cnt (at' L k).cnt = 0
          · left
            rw [if_pos hz, List.length_eraseIdx]
            split <;> omega
          · right
            refine ⟨?_, by omega⟩
            simp only
            unfold minI at hz ⊢
            split at hz <;> split <;> omega
    · rw [if_neg h0]
      left
      show o.cnt ≤ 0
      omega
theorem meetR_comm (x z : Ord) : meetR x z = meetR z x := by
  unfold meetR
  by_cases h1 : x.item = z.item
  · rw [h1]
    cases hx : x.buy <;> cases hz : z.buy <;> simp
  · have h2 : ¬ z.item = x.item := fun h => h1 h.symm
    simp [h1, h2]
theorem meetR_self (x : Ord) : meetR x x = false := by unfold meetR; simp
theorem place_apart {L : List Ord} (last : Int) (o : Ord) (h : ApartL L) (hL : ∀ x ∈ L, 1 ≤ x.cnt) : ApartL (placeR L last o).L := by
  unfold placeR
  split
  · exact h
  · split
    · exact h
    · have h1 := apart_keep (L.length + 1) o L [] h
      have h2 := ref_done (L.length + 1) o L [] hL (.inl (Nat.lt_succ_self _))
      simp only
      split
      · rename_i hc
        rcases h2 with h2 | h2
        · omega
        · intro x hx z hz
          rcases List.mem_append.1 hx with hx | hx <;> rcases List.mem_append.1 hz with hz | hz
          · exact h1 x hx z hz
          · rw [List.mem_singleton.1 hz, meetR_comm]; exact h2 x hx
          · rw [List.mem_singleton.1 hx]; exact h2 z hz
          · rw [List.mem_singleton.1 hx, List.mem_singleton.1 hz]; exact meetR_self _
      · exact h1
theorem cancel_apart {L : List Ord} (id : Int) (h : ApartL L) : ApartL (cancelR L id).L := by
  unfold cancelR
  split
  · exact h
  · exact fun x hx z hz => h x (List.mem_of_mem_eraseIdx hx) z (List.mem_of_mem_eraseIdx hz)
def PlayR (W : World) (Lr : List HP) (n bb xb : Nat) (v : Value) (w : World) : Prop :=
  ∃ (i : Nat) (b : Bk) (L : List Ord) (vx : Value), v = .int .i64 i ∧ i ≤ n ∧ i ≤ 120 ∧ Rep b L ∧ ApartL L ∧ St W (bookP bb b :: blk xb [vx, .int .i64 b.last] 52 :: pileR vx L :: Lr) w
set_option maxRecDepth 100000 in
set_option maxHeartbeats 8000000 in
theorem played_spec (xs : List Actn) (v : Value) (V : World) (hv : SliceV Actn.cells 8 V v xs) (W w : World) (Lr : List HP) (hS : St W (Old V :: Lr) w) :
    Calls Try.prog 23 #[v] w fun e w' => ∃ bb xb b L vx, e = .returned (.tuple #[.pointer (some ⟨bb, 0, none⟩), .pointer (some ⟨xb, 0, none⟩), .bool true]) ∧ Rep b L ∧ ApartL L ∧ St W (bookP bb b :: blk xb [vx, .int .i64 b.last] 52 :: pileR vx L :: Old V :: Lr) w' := by
  obtain ⟨a, cap, rfl, h63, hact⟩ := hv.act
  have Ha := Lib.hid hact
  clear hact
  go_enter Try.func23, Try.ntmps23
  go_wp2_with (first | (go_at_call 13; refine (new_book W _ _ hS).mono ?_; clear hS; rintro e w ⟨b2, rfl, hS⟩) | ((with_reducible apply wl_box hS); (with_reducible rfl); rfl; rfl; rfl; clear hS; intro xb w hS; (simp only [Act.put, List.setIfInBounds_toArray, List.set_cons_succ, List.set_cons_zero, Nat.reduceAdd])) | ((with_reducible apply wl_ld1 hS); (with_reducible rfl); rfl; rfl; decide +kernel; (first | exact Cell.here rfl | exact Cell.there (Cell.here rfl) | exact Cell.there (Cell.there (Cell.here rfl)) | exact Cell.there (Cell.there (Cell.there (Cell.here rfl))) | exact Cell.there (Cell.there (Cell.there (Cell.there (Cell.here rfl)))) | exact Cell.there (Cell.there (Cell.there (Cell.there (Cell.there (Cell.here rfl))))) | exact Cell.there (Cell.there (Cell.there (Cell.there (Cell.there (Cell.there (Cell.here rfl)))))) | assumption); (simp only [Act.put, List.setIfInBounds_toArray, List.set_cons_succ, List.set_cons_zero, Nat.reduceAdd])) | ((with_reducible apply wl_ldN hS); (with_reducible rfl); rfl; rfl; decide +kernel; (first | exact Cells.whole | exact Cells.there Cells.whole | exact Cells.there (Cells.there Cells.whole) | exact Cells.there (Cells.there (Cells.there Cells.whole)) | exact Cells.there (Cells.there (Cells.there (Cells.there Cells.whole))) | exact Cells.there (Cells.there (Cells.there (Cells.there (Cells.there Cells.whole)))) | exact Cells.there (Cells.there (Cells.there (Cells.there (Cells.there (Cells.there Cells.whole))))) | assumption); kernel_rfl; (simp only [Act.put, List.setIfInBounds_toArray, List.set_cons_succ, List.set_cons_zero, Nat.reduceAdd])) | ((with_reducible apply wl_st1 hS); (with_reducible rfl); rfl; rfl; (focus ((conv => lhs; whnf); try rfl)); kernel_rfl; rfl; rfl; (first | exact Upd.head | exact Upd.tail Upd.head | exact Upd.tail (Upd.tail Upd.head) | exact Upd.tail (Upd.tail (Upd.tail Upd.head)) | exact Upd.tail (Upd.tail (Upd.tail (Upd.tail Upd.head))) | exact Upd.tail (Upd.tail (Upd.tail (Upd.tail (Upd.tail Upd.head)))) | exact Upd.tail (Upd.tail (Upd.tail (Upd.tail (Upd.tail (Upd.tail Upd.head)))))); (simp only [List.length_cons, List.length_nil]; omega); ((simp only [List.set_cons_zero, List.set_cons_succ, setAll]); rfl); clear hS; intro w hS; try (simp only [Act.put, List.setIfInBounds_toArray, List.set_cons_succ, List.set_cons_zero, Nat.reduceAdd])) | ((with_reducible apply wl_stN hS); (with_reducible rfl); rfl; rfl; (focus ((conv => lhs; whnf); try rfl)); kernel_rfl; rfl; (first | exact Upd.head | exact Upd.tail Upd.head | exact Upd.tail (Upd.tail Upd.head) | exact Upd.tail (Upd.tail (Upd.tail Upd.head)) | exact Upd.tail (Upd.tail (Upd.tail (Upd.tail Upd.head))) | exact Upd.tail (Upd.tail (Upd.tail (Upd.tail (Upd.tail Upd.head)))) | exact Upd.tail (Upd.tail (Upd.tail (Upd.tail (Upd.tail (Upd.tail Upd.head)))))); (simp only [List.length_cons, List.length_nil]; omega); ((simp only [List.set_cons_zero, List.set_cons_succ, setAll]); rfl); clear hS; intro w hS; try (simp only [Act.put, List.setIfInBounds_toArray, List.set_cons_succ, List.set_cons_zero, Nat.reduceAdd])) | ((with_reducible apply wl_box hS); (with_reducible rfl); rfl; rfl; rfl; clear hS; intro b w hS; (simp only [Act.put, List.setIfInBounds_toArray, List.set_cons_succ, List.set_cons_zero, Nat.reduceAdd])) | ((with_reducible apply wl_alloc hS); (with_reducible rfl); rfl; (with_reducible first | exact Ty.z3 | exact Ty.z31 | exact Ty.z33 | exact Ty.z59 | exact Ty.z79 | exact Ty.z110); clear hS; intro b w hS; (simp only [Act.put, List.setIfInBounds_toArray, List.set_cons_succ, List.set_cons_zero, Nat.reduceAdd])))
  replace hS := (hS.swap.rowNil (k := 6) (T := 31)).perm (List.perm_middle (l₁ := [_, _])).symm
  go_loopw [7] (fun v wr => PlayR W (Old V :: Lr) xs.length b2 xb v wr) (fun v _ => xs.length - (intOf v).toNat)
  case atStart => exact ⟨0, bk0, [], _, rfl, by omega, by omega, rep0, fun x hx => (by cases hx), hS⟩
  case round =>
    clear hS
    obtain ⟨i, b1, L, vx, rfl, hi, hi120, hrep, hap, hS⟩ := hrel
    by_cases hend : i = xs.length ∨ i = 120
    · have Hr := Lib.hid hrep
      have Hap := Lib.hid hap
      clear hrep hap
      rcases hend with hend | hend
      · subst hend
        go_wp2_with fail
        go_ret3
        first | exact ⟨b2, xb, b1, L, vx, rfl, Hr.out, Hap.out, hS⟩ | exact ⟨b2, xb, rfl, b1, L, vx, Hr.out, Hap.out, hS⟩ | exact ⟨b2, xb, rfl, b1, L, Hr.out, Hap.out, vx, hS⟩
      · subst hend
        by_cases hlt : 120 < xs.length
        · go_wp2_with fail
          go_ret3
          first | exact ⟨b2, xb, b1, L, vx, rfl, Hr.out, Hap.out, hS⟩ | exact ⟨b2, xb, rfl, b1, L, vx, Hr.out, Hap.out, hS⟩ | exact ⟨b2, xb, rfl, b1, L, Hr.out, Hap.out, vx, hS⟩
        · have hd : decide ((120 : Int) < (xs.length : Int)) = false := by simp; omega
          have hlt' : ¬ (120 : Int) < (xs.length : Int) := by omega
          go_wp2_with fail
          go_ret3
          first | exact ⟨b2, xb, b1, L, vx, rfl, Hr.out, Hap.out, hS⟩ | exact ⟨b2, xb, rfl, b1, L, vx, Hr.out, Hap.out, hS⟩ | exact ⟨b2, xb, rfl, b1, L, Hr.out, Hap.out, vx, hS⟩
    · have hil : i < xs.length := by omega
      have hi2 : i < 120 := by omega
      clear hend hi hi120
      obtain ⟨pb, poff, rfl, hA⟩ := Ha.out i hil
      obtain ⟨ck, cn, cb, cit, cc, cp, call⟩ := hA
      generalize xs[i] = x at ck cn cb cit cc cp call
      obtain ⟨kd, nn, ⟨oi, ou, oy, ot, oc, op⟩⟩ := x
      simp only at ck cn cb cit cc cp call
      clear cb cit cc cp
      have hc1 : ∀ x ∈ L, 1 ≤ x.cnt := fun x hx => (hrep.each x hx).1.cnt0
      by_cases hk1 : kd = 1
      · subst hk1
        have hap2 := place_apart b1.last ⟨oi, ou, oy, ot, oc, op⟩ hap hc1
        generalize hPR : placeR L b1.last ⟨oi, ou, oy, ot, oc, op⟩ = PR at hap2
        have HPR := Lib.hid hPR
        have Hr := Lib.hid hrep
        have Hap := Lib.hid hap2
        clear hPR hrep hap hap2 hc1
        obtain ⟨trs, left, en, L2, la2⟩ := PR
        go_wp2_with (first | ((with_reducible apply wl_ld1 hS); (with_reducible rfl); rfl; rfl; decide +kernel; (first | exact Cell.old .head ck | exact Cell.old (.tail .head) ck | exact Cell.old (.tail (.tail .head)) ck | exact Cell.old (.tail (.tail (.tail .head))) ck | exact Cell.old (.tail (.tail (.tail (.tail .head)))) ck | exact Cell.old (.tail (.tail (.tail (.tail (.tail .head))))) ck); (simp only [Act.put, List.setIfInBounds_toArray, List.set_cons_succ, List.set_cons_zero, Nat.reduceAdd])) | ((with_reducible apply wl_ldN hS); (with_reducible rfl); rfl; rfl; decide +kernel; (first | exact Cells.old .head call | exact Cells.old (.tail .head) call | exact Cells.old (.tail (.tail .head)) call | exact Cells.old (.tail (.tail (.tail .head))) call | exact Cells.old (.tail (.tail (.tail (.tail .head)))) call | exact Cells.old (.tail (.tail (.tail (.tail (.tail .head))))) call); kernel_rfl; (simp only [Act.put, List.setIfInBounds_toArray, List.set_cons_succ, List.set_cons_zero, Nat.reduceAdd])) | (go_at_call 14; refine (place_at b2 Hr.out ⟨oi, ou, oy, ot, oc, op⟩ W _ _ hS).mono ?_; clear hS; rw [HPR.out]; rintro e w ⟨b3, ts, ta, tc, ⟨rfl, hla, hrep, -⟩, rfl, hS⟩; have Hrep := Lib.hid hrep; have Hla := Lib.hid hla; have Hl32 := Lib.hid (show L2.length ≤ 32 by have := hrep.ok.few; rw [len_flat _ hrep.ok.n8, ← hrep.perm.length_eq] at this; exact this); clear hrep hla; replace hS := (hS.take .t3).take .t3) | (go_at_call 20; refine (refPlace_spec Hr.out ⟨oi, ou, oy, ot, oc, op⟩ xb vx W _ _ hS).mono ?_; clear hS; rw [HPR.out]; rintro e w ⟨ua, uc, vx2, rfl, hS⟩))
        go_loopw [14] (fun v wr => OrdR W (blk xb [vx2, .int .i64 la2] 52 :: pileR vx2 L2 :: row (.slice ua ts.length uc) 8 79 ts.length (ts.flatMap Trd.cells) :: bookP b2 b3 :: tradesR (.slice ta ts.length tc) ts :: Old V :: Lr) ts.length v wr) (fun v _ => ts.length - (intOf v).toNat)
        case atStart => exact ⟨0, rfl, by omega, hS⟩
        case round =>
          clear hS
          obtain ⟨k, rfl, hk, hS⟩ := hrel
          by_cases hkn : k = ts.length
          · subst hkn
            replace hS := ((((hS.take .t3).take .t3).drop).take .t3).drop
            rw [← Hla.out] at hS
            obtain ⟨xa, xcap, rfl⟩ := hS.drop.drop.rowVal
            go_wp2_with fail
            refine wp_region_flow3 [0, 1, 0, 4, 12, 28, 60, 127, 255, 511, 1023, 511, 2559, 6655, 14847, 32767, 65535, 131071] (fun i => i == 10) (fun i => if i == 1 then some (.int .i64 L2.length) else if i == 15 then some (.bool true) else none) [⟨some 10, none, fun nd => pileR (nd 10) L2⟩] [none, none, none] (by kernel_rfl) (by kernel_rfl) rfl hS (CongOk.cons (fun nd nd' h => by dsimp only; rw [h 10 rfl rfl]) CongOk.nil) ?_
            intro nd
            (refine ch_pure rfl (by kernel_rfl) rfl rfl ?_; intro K hK; go_big_quiet_op; go_big_quiet_on)
            (apply ch_callF; rfl; rfl; rfl; (with_reducible rfl); decide +kernel; (focus (simp only [List.map_toArray, List.map_cons, List.map_nil, Act.eval, Array.getD_eq_getD_getElem?, List.getElem?_toArray, List.getElem?_cons_succ, List.getElem?_cons_zero, Option.getD_some]; try rfl)); (intro F w hS; (try clear hS0); exact len_at b2 Hrep.out W w _ hS); (simp only [Act.put, List.setIfInBounds_toArray, List.set_cons_succ, List.set_cons_zero, Nat.reduceAdd]))
            (refine ch_pure rfl (by kernel_rfl) rfl rfl ?_; intro K hK; go_big_quiet_op; go_big_quiet_on)
            (apply ch_nil; rfl; kernel_rfl; (with_reducible rfl); rfl; rfl; (simp only [Act.put, List.setIfInBounds_toArray, List.set_cons_succ, List.set_cons_zero, Nat.reduceAdd]))
            (refine ch_pure rfl (by kernel_rfl) rfl rfl ?_; intro K hK; go_big_quiet_op; go_big_quiet_on)
            (apply ch_ld1; rfl; kernel_rfl; (with_reducible rfl); rfl; rfl; decide +kernel; (intro F; first | exact Cell.here rfl | exact Cell.there (Cell.here rfl) | exact Cell.there (Cell.there (Cell.here rfl)) | exact Cell.there (Cell.there (Cell.there (Cell.here rfl))) | exact Cell.there (Cell.there (Cell.there (Cell.there (Cell.here rfl)))) | exact Cell.there (Cell.there (Cell.there (Cell.there (Cell.there (Cell.here rfl))))) | exact Cell.there (Cell.there (Cell.there (Cell.there (Cell.there (Cell.there (Cell.here rfl)))))) | assumption); (simp only [Act.put, List.setIfInBounds_toArray, List.set_cons_succ, List.set_cons_zero, Nat.reduceAdd]))
            iterate 4 (refine ch_pure rfl (by kernel_rfl) rfl rfl ?_; intro K hK; go_big_quiet_op; go_big_quiet_on)
            (apply ch_callN; rfl; rfl; (with_reducible rfl); decide +kernel; (focus (simp only [List.map_toArray, List.map_cons, List.map_nil, Act.eval, Array.getD_eq_getD_getElem?, List.getElem?_toArray, List.getElem?_cons_succ, List.getElem?_cons_zero, Option.getD_some]; try rfl)); (intro _; rfl); (intro F w hS; exact list_new b2 Hrep.out W w _ hS); (simp only [Act.put, List.setIfInBounds_toArray, List.set_cons_succ, List.set_cons_zero, Nat.reduceAdd]))
            (refine ch_pure rfl (by kernel_rfl) rfl rfl ?_; intro K hK; go_big_quiet_op; go_big_quiet_on)
            (apply ch_nil; rfl; kernel_rfl; (with_reducible rfl); rfl; rfl; (simp only [Act.put, List.setIfInBounds_toArray, List.set_cons_succ, List.set_cons_zero, Nat.reduceAdd]))
            (refine ch_pure rfl (by kernel_rfl) rfl rfl ?_; intro K hK; go_big_quiet_op; go_big_quiet_on)
            (apply ch_ld1; rfl; kernel_rfl; (with_reducible rfl); rfl; rfl; decide +kernel; (intro F; first | exact Cell.here rfl | exact Cell.there (Cell.here rfl) | exact Cell.there (Cell.there (Cell.here rfl)) | exact Cell.there (Cell.there (Cell.there (Cell.here rfl))) | exact Cell.there (Cell.there (Cell.there (Cell.there (Cell.here rfl)))) | exact Cell.there (Cell.there (Cell.there (Cell.there (Cell.there (Cell.here rfl))))) | exact Cell.there (Cell.there (Cell.there (Cell.there (Cell.there (Cell.there (Cell.here rfl)))))) | assumption); (simp only [Act.put, List.setIfInBounds_toArray, List.set_cons_succ, List.set_cons_zero, Nat.reduceAdd]))
            (apply ch_callF; rfl; rfl; rfl; (with_reducible rfl); decide +kernel; (focus (simp only [List.map_toArray, List.map_cons, List.map_nil, Act.eval, Array.getD_eq_getD_getElem?, List.getElem?_toArray, List.getElem?_cons_succ, List.getElem?_cons_zero, Option.getD_some]; try rfl)); (intro F w hS; (try clear hS0); exact orders_take Hl32.out hS (by first | exact Take.head | exact Take.tail Take.head | exact Take.tail (Take.tail Take.head) | exact Take.tail (Take.tail (Take.tail Take.head)) | exact Take.tail (Take.tail (Take.tail (Take.tail Take.head))) | exact Take.tail (Take.tail (Take.tail (Take.tail (Take.tail Take.head)))) | exact Take.tail (Take.tail (Take.tail (Take.tail (Take.tail (Take.tail Take.head)))))) (by first | exact Take.head | exact Take.tail Take.head | exact Take.tail (Take.tail Take.head) | exact Take.tail (Take.tail (Take.tail Take.head)) | exact Take.tail (Take.tail (Take.tail (Take.tail Take.head))) | exact Take.tail (Take.tail (Take.tail (Take.tail (Take.tail Take.head)))) | exact Take.tail (Take.tail (Take.tail (Take.tail (Take.tail (Take.tail Take.head))))))); (simp only [Act.put, List.setIfInBounds_toArray, List.set_cons_succ, List.set_cons_zero, Nat.reduceAdd]))
            iterate 2 (refine ch_pure rfl (by kernel_rfl) rfl rfl ?_; intro K hK; go_big_quiet_op; go_big_quiet_on)
            refine ch_end ?_
            clear hS
            intro w hS
            have hS2 : St W [pileR _ _, bookP _ _, blk xb _ _, pileR _ _, sats _] w := hS
            clear hS
            have hS := hS2.unpack [_, _, _, _]
            clear hS2
            simp only [List.cons_append, List.nil_append] at hS
            replace hS := hS.drop
            go_wp2_with fail
            go_roundw
            case rel => exact ⟨i + 1, b3, L2, _, rfl, hil, hi2, Hrep.out, Hap.out, hS⟩
            case measure => simp [intOf]; omega
          · have hkl : k < ts.length := by omega
            clear hkn hk
            obtain ⟨⟨g1, rfl⟩, htc, htn⟩ := St.rowAddr hS.drop.drop.drop.drop (by omega)
            obtain ⟨⟨g2, rfl⟩, huc, hun⟩ := St.rowAddr hS.drop.drop (by omega)
            have q1 : ∀ {X : List HP}, Cells (tradesR (.slice (some ⟨g1, 0, none⟩) ts.length tc) ts :: X) g1 (k * 8) (Trd.cells ts[k]) := fun {X} => Cells.rowE Trd.len hkl
            have q2 : ∀ {X : List HP}, Cells (row (.slice (some ⟨g2, 0, none⟩) ts.length uc) 8 79 ts.length (ts.flatMap Trd.cells) :: X) g2 (k * 8) (Trd.cells ts[k]) := fun {X} => Cells.rowE Trd.len hkl
            generalize ts[k] = tt at q1 q2
            obtain ⟨z1, z2, z3, z4, z5, z6, z7, z8⟩ := tt
            simp only [Trd.cells] at q1 q2
            go_wp2_with fail
            refine wp_region_flow2 [0, 0, 3, 7, 0, 0, 48, 112, 255] (fun _ => false) [] [none, none, none, none, none] (by kernel_rfl) (by kernel_rfl) rfl hS CongOk.nil ?_
            intro nd
            iterate 3 (refine ch_pure rfl (by kernel_rfl) rfl rfl ?_; intro K hK; go_big_quiet_op; go_big_quiet_on)
            (apply ch_ldN; rfl; kernel_rfl; (with_reducible rfl); rfl; rfl; decide +kernel; (intro F; exact (Cells.there (Cells.there (Cells.there (Cells.there q1))))); kernel_rfl; (simp only [Act.put, List.setIfInBounds_toArray, List.set_cons_succ, List.set_cons_zero, Nat.reduceAdd]))
            iterate 3 (refine ch_pure rfl (by kernel_rfl) rfl rfl ?_; intro K hK; go_big_quiet_op; go_big_quiet_on)
            (apply ch_ldN; rfl; kernel_rfl; (with_reducible rfl); rfl; rfl; decide +kernel; (intro F; exact (Cells.there (Cells.there q2))); kernel_rfl; (simp only [Act.put, List.setIfInBounds_toArray, List.set_cons_succ, List.set_cons_zero, Nat.reduceAdd]))
            (refine ch_pure rfl (by kernel_rfl) rfl rfl ?_; intro K hK; go_big_quiet_op; go_big_quiet_on)
            refine ch_end ?_
            clear hS q1 q2
            intro w hS
            have hS2 : St W [blk xb _ _, pileR _ _, row _ _ _ _ _, bookP _ _, tradesR _ _, sats _] w := hS
            clear hS
            have hS := hS2.unpack [_, _, _, _, _]
            clear hS2
            simp only [List.cons_append, List.nil_append] at hS
            go_wp2_with fail
            go_roundw
            case rel => exact ⟨k + 1, rfl, hkl, hS⟩
            case measure => simp [intOf]; omega
      · have hk1f : (kd == 1) = false := by simpa using hk1
        by_cases hk2 : kd = 2
        · subst hk2
          have hap2 := cancel_apart nn hap
          generalize hCR : cancelR L nn = CR at hap2
          have HCR := Lib.hid hCR
          have Hr := Lib.hid hrep
          have Hap := Lib.hid hap2
          clear hCR hrep hap hap2 hc1
          obtain ⟨⟨xi, xu, xy, xt, xc, xp⟩, en, L2⟩ := CR
          have hl0 : L.length ≤ 32 := by have := Hr.out.ok.few; rw [len_flat _ Hr.out.ok.n8, ← Hr.out.perm.length_eq] at this; exact this
          go_wp2_with (first | ((with_reducible apply wl_ld1 hS); (with_reducible rfl); rfl; rfl; decide +kernel; (first | exact Cell.old .head ck | exact Cell.old (.tail .head) ck | exact Cell.old (.tail (.tail .head)) ck | exact Cell.old (.tail (.tail (.tail .head))) ck | exact Cell.old (.tail (.tail (.tail (.tail .head)))) ck | exact Cell.old (.tail (.tail (.tail (.tail (.tail .head))))) ck); (simp only [Act.put, List.setIfInBounds_toArray, List.set_cons_succ, List.set_cons_zero, Nat.reduceAdd])) | ((with_reducible apply wl_ld1 hS); (with_reducible rfl); rfl; rfl; decide +kernel; (first | exact Cell.old .head cn | exact Cell.old (.tail .head) cn | exact Cell.old (.tail (.tail .head)) cn | exact Cell.old (.tail (.tail (.tail .head))) cn | exact Cell.old (.tail (.tail (.tail (.tail .head)))) cn | exact Cell.old (.tail (.tail (.tail (.tail (.tail .head))))) cn); (simp only [Act.put, List.setIfInBounds_toArray, List.set_cons_succ, List.set_cons_zero, Nat.reduceAdd])) | (go_at_call 17; refine (cancel_at b2 Hr.out nn W _ _ hS).mono ?_; clear hS; rw [HCR.out]; simp only [Ord.cells]; rintro e w ⟨b3, ⟨hla, hrep⟩, rfl, hS⟩; have Hrep := Lib.hid hrep; have Hl32 := Lib.hid (show L2.length ≤ 32 by have := hrep.ok.few; rw [len_flat _ hrep.ok.n8, ← hrep.perm.length_eq] at this; exact this); rw [← hla] at hS; clear hrep hla) | (go_at_call 39; refine (refCancel_spec L nn xb _ vx hl0 W _ _ ((hS.take .t3).take .t3)).mono ?_; clear hS; rw [HCR.out]; simp only [Ord.cells]; rintro e w ⟨rfl, vx2, hS⟩) | ((with_reducible apply wl_ld1 hS); (with_reducible rfl); rfl; rfl; decide +kernel; (first | exact Cell.here rfl | exact Cell.there (Cell.here rfl) | exact Cell.there (Cell.there (Cell.here rfl)) | exact Cell.there (Cell.there (Cell.there (Cell.here rfl))) | exact Cell.there (Cell.there (Cell.there (Cell.there (Cell.here rfl)))) | exact Cell.there (Cell.there (Cell.there (Cell.there (Cell.there (Cell.here rfl))))) | exact Cell.there (Cell.there (Cell.there (Cell.there (Cell.there (Cell.there (Cell.here rfl)))))) | assumption); (simp only [Act.put, List.setIfInBounds_toArray, List.set_cons_succ, List.set_cons_zero, Nat.reduceAdd])) | ((with_reducible apply wl_ldN hS); (with_reducible rfl); rfl; rfl; decide +kernel; (first | exact Cells.whole | exact Cells.there Cells.whole | exact Cells.there (Cells.there Cells.whole) | exact Cells.there (Cells.there (Cells.there Cells.whole)) | exact Cells.there (Cells.there (Cells.there (Cells.there Cells.whole))) | exact Cells.there (Cells.there (Cells.there (Cells.there (Cells.there Cells.whole)))) | exact Cells.there (Cells.there (Cells.there (Cells.there (Cells.there (Cells.there Cells.whole))))) | assumption); kernel_rfl; (simp only [Act.put, List.setIfInBounds_toArray, List.set_cons_succ, List.set_cons_zero, Nat.reduceAdd])) | ((with_reducible apply wl_st1 hS); (with_reducible rfl); rfl; rfl; (focus ((conv => lhs; whnf); try rfl)); kernel_rfl; rfl; rfl; (first | exact Upd.head | exact Upd.tail Upd.head | exact Upd.tail (Upd.tail Upd.head) | exact Upd.tail (Upd.tail (Upd.tail Upd.head)) | exact Upd.tail (Upd.tail (Upd.tail (Upd.tail Upd.head))) | exact Upd.tail (Upd.tail (Upd.tail (Upd.tail (Upd.tail Upd.head)))) | exact Upd.tail (Upd.tail (Upd.tail (Upd.tail (Upd.tail (Upd.tail Upd.head)))))); (simp only [List.length_cons, List.length_nil]; omega); ((simp only [List.set_cons_zero, List.set_cons_succ, setAll]); rfl); clear hS; intro w hS; try (simp only [Act.put, List.setIfInBounds_toArray, List.set_cons_succ, List.set_cons_zero, Nat.reduceAdd])) | ((with_reducible apply wl_stN hS); (with_reducible rfl); rfl; rfl; (focus ((conv => lhs; whnf); try rfl)); kernel_rfl; rfl; (first | exact Upd.head | exact Upd.tail Upd.head | exact Upd.tail (Upd.tail Upd.head) | exact Upd.tail (Upd.tail (Upd.tail Upd.head)) | exact Upd.tail (Upd.tail (Upd.tail (Upd.tail Upd.head))) | exact Upd.tail (Upd.tail (Upd.tail (Upd.tail (Upd.tail Upd.head)))) | exact Upd.tail (Upd.tail (Upd.tail (Upd.tail (Upd.tail (Upd.tail Upd.head)))))); (simp only [List.length_cons, List.length_nil]; omega); ((simp only [List.set_cons_zero, List.set_cons_succ, setAll]); rfl); clear hS; intro w hS; try (simp only [Act.put, List.setIfInBounds_toArray, List.set_cons_succ, List.set_cons_zero, Nat.reduceAdd])) | ((with_reducible apply wl_box hS); (with_reducible rfl); rfl; rfl; rfl; clear hS; intro b w hS; (simp only [Act.put, List.setIfInBounds_toArray, List.set_cons_succ, List.set_cons_zero, Nat.reduceAdd])) | ((with_reducible apply wl_alloc hS); (with_reducible rfl); rfl; (with_reducible first | exact Ty.z3 | exact Ty.z31 | exact Ty.z33 | exact Ty.z59 | exact Ty.z79 | exact Ty.z110); clear hS; intro b w hS; (simp only [Act.put, List.setIfInBounds_toArray, List.set_cons_succ, List.set_cons_zero, Nat.reduceAdd])))
          replace hS := ((((hS.take .t4).take .t1).drop).take .t3).drop
          obtain ⟨xa, xcap, rfl⟩ := hS.drop.drop.rowVal
          refine wp_region_flow3 [0, 1, 0, 4, 12, 28, 60, 127, 255, 511, 1023, 511, 2559, 6655, 14847, 32767, 65535, 131071] (fun i => i == 10) (fun i => if i == 1 then some (.int .i64 L2.length) else if i == 15 then some (.bool true) else none) [⟨some 10, none, fun nd => pileR (nd 10) L2⟩] [none, none, none] (by kernel_rfl) (by kernel_rfl) rfl hS (CongOk.cons (fun nd nd' h => by dsimp only; rw [h 10 rfl rfl]) CongOk.nil) ?_
          intro nd
          (refine ch_pure rfl (by kernel_rfl) rfl rfl ?_; intro K hK; go_big_quiet_op; go_big_quiet_on)
          (apply ch_callF; rfl; rfl; rfl; (with_reducible rfl); decide +kernel; (focus (simp only [List.map_toArray, List.map_cons, List.map_nil, Act.eval, Array.getD_eq_getD_getElem?, List.getElem?_toArray, List.getElem?_cons_succ, List.getElem?_cons_zero, Option.getD_some]; try rfl)); (intro F w hS; (try clear hS0); exact len_at b2 Hrep.out W w _ hS); (simp only [Act.put, List.setIfInBounds_toArray, List.set_cons_succ, List.set_cons_zero, Nat.reduceAdd]))
          (refine ch_pure rfl (by kernel_rfl) rfl rfl ?_; intro K hK; go_big_quiet_op; go_big_quiet_on)
          (apply ch_nil; rfl; kernel_rfl; (with_reducible rfl); rfl; rfl; (simp only [Act.put, List.setIfInBounds_toArray, List.set_cons_succ, List.set_cons_zero, Nat.reduceAdd]))
          (refine ch_pure rfl (by kernel_rfl) rfl rfl ?_; intro K hK; go_big_quiet_op; go_big_quiet_on)
          (apply ch_ld1; rfl; kernel_rfl; (with_reducible rfl); rfl; rfl; decide +kernel; (intro F; first | exact Cell.here rfl | exact Cell.there (Cell.here rfl) | exact Cell.there (Cell.there (Cell.here rfl)) | exact Cell.there (Cell.there (Cell.there (Cell.here rfl))) | exact Cell.there (Cell.there (Cell.there (Cell.there (Cell.here rfl)))) | exact Cell.there (Cell.there (Cell.there (Cell.there (Cell.there (Cell.here rfl))))) | exact Cell.there (Cell.there (Cell.there (Cell.there (Cell.there (Cell.there (Cell.here rfl)))))) | assumption); (simp only [Act.put, List.setIfInBounds_toArray, List.set_cons_succ, List.set_cons_zero, Nat.reduceAdd]))
          iterate 4 (refine ch_pure rfl (by kernel_rfl) rfl rfl ?_; intro K hK; go_big_quiet_op; go_big_quiet_on)
          (apply ch_callN; rfl; rfl; (with_reducible rfl); decide +kernel; (focus (simp only [List.map_toArray, List.map_cons, List.map_nil, Act.eval, Array.getD_eq_getD_getElem?, List.getElem?_toArray, List.getElem?_cons_succ, List.getElem?_cons_zero, Option.getD_some]; try rfl)); (intro _; rfl); (intro F w hS; exact list_new b2 Hrep.out W w _ hS); (simp only [Act.put, List.setIfInBounds_toArray, List.set_cons_succ, List.set_cons_zero, Nat.reduceAdd]))
          (refine ch_pure rfl (by kernel_rfl) rfl rfl ?_; intro K hK; go_big_quiet_op; go_big_quiet_on)
          (apply ch_nil; rfl; kernel_rfl; (with_reducible rfl); rfl; rfl; (simp only [Act.put, List.setIfInBounds_toArray, List.set_cons_succ, List.set_cons_zero, Nat.reduceAdd]))
          (refine ch_pure rfl (by kernel_rfl) rfl rfl ?_; intro K hK; go_big_quiet_op; go_big_quiet_on)
          (apply ch_ld1; rfl; kernel_rfl; (with_reducible rfl); rfl; rfl; decide +kernel; (intro F; first | exact Cell.here rfl | exact Cell.there (Cell.here rfl) | exact Cell.there (Cell.there (Cell.here rfl)) | exact Cell.there (Cell.there (Cell.there (Cell.here rfl))) | exact Cell.there (Cell.there (Cell.there (Cell.there (Cell.here rfl)))) | exact Cell.there (Cell.there (Cell.there (Cell.there (Cell.there (Cell.here rfl))))) | exact Cell.there (Cell.there (Cell.there (Cell.there (Cell.there (Cell.there (Cell.here rfl)))))) | assumption); (simp only [Act.put, List.setIfInBounds_toArray, List.set_cons_succ, List.set_cons_zero, Nat.reduceAdd]))
          (apply ch_callF; rfl; rfl; rfl; (with_reducible rfl); decide +kernel; (focus (simp only [List.map_toArray, List.map_cons, List.map_nil, Act.eval, Array.getD_eq_getD_getElem?, List.getElem?_toArray, List.getElem?_cons_succ, List.getElem?_cons_zero, Option.getD_some]; try rfl)); (intro F w hS; (try clear hS0); exact orders_take Hl32.out hS (by first | exact Take.head | exact Take.tail Take.head | exact Take.tail (Take.tail Take.head) | exact Take.tail (Take.tail (Take.tail Take.head)) | exact Take.tail (Take.tail (Take.tail (Take.tail Take.head))) | exact Take.tail (Take.tail (Take.tail (Take.tail (Take.tail Take.head)))) | exact Take.tail (Take.tail (Take.tail (Take.tail (Take.tail (Take.tail Take.head)))))) (by first | exact Take.head | exact Take.tail Take.head | exact Take.tail (Take.tail Take.head) | exact Take.tail (Take.tail (Take.tail Take.head)) | exact Take.tail (Take.tail (Take.tail (Take.tail Take.head))) | exact Take.tail (Take.tail (Take.tail (Take.tail (Take.tail Take.head)))) | exact Take.tail (Take.tail (Take.tail (Take.tail (Take.tail (Take.tail Take.head))))))); (simp only [Act.put, List.setIfInBounds_toArray, List.set_cons_succ, List.set_cons_zero, Nat.reduceAdd]))
          iterate 2 (refine ch_pure rfl (by kernel_rfl) rfl rfl ?_; intro K hK; go_big_quiet_op; go_big_quiet_on)
          refine ch_end ?_
          clear hS
          intro w hS
          have hS2 : St W [pileR _ _, bookP _ _, blk xb _ _, pileR _ _, sats _] w := hS
          clear hS
          have hS := hS2.unpack [_, _, _, _]
          clear hS2
          simp only [List.cons_append, List.nil_append] at hS
          replace hS := hS.drop
          go_wp2_with fail
          go_roundw
          case rel => exact ⟨i + 1, b3, L2, _, rfl, hil, hi2, Hrep.out, Hap.out, hS⟩
          case measure => simp [intOf]; omega
        · have hk2f : (kd == 2) = false := by simpa using hk2
          have Hrep := Lib.hid hrep
          have Hap := Lib.hid hap
          have Hl32 := Lib.hid (show L.length ≤ 32 by have := hrep.ok.few; rw [len_flat _ hrep.ok.n8, ← hrep.perm.length_eq] at this; exact this)
          clear hrep hap hc1
          obtain ⟨b3, rfl⟩ : ∃ b3, b3 = b1 := ⟨_, rfl⟩
          obtain ⟨xa, xcap, rfl⟩ := hS.drop.drop.rowVal
          go_wp2_with (first | ((with_reducible apply wl_ld1 hS); (with_reducible rfl); rfl; rfl; decide +kernel; (first | exact Cell.old .head ck | exact Cell.old (.tail .head) ck | exact Cell.old (.tail (.tail .head)) ck | exact Cell.old (.tail (.tail (.tail .head))) ck | exact Cell.old (.tail (.tail (.tail (.tail .head)))) ck | exact Cell.old (.tail (.tail (.tail (.tail (.tail .head))))) ck); (simp only [Act.put, List.setIfInBounds_toArray, List.set_cons_succ, List.set_cons_zero, Nat.reduceAdd])))
          refine wp_region_flow3 [0, 1, 0, 4, 12, 28, 60, 127, 255, 511, 1023, 511, 2559, 6655, 14847, 32767, 65535, 131071] (fun i => i == 10) (fun i => if i == 1 then some (.int .i64 L.length) else if i == 15 then some (.bool true) else none) [⟨some 10, none, fun nd => pileR (nd 10) L⟩] [none, none, none] (by kernel_rfl) (by kernel_rfl) rfl hS (CongOk.cons (fun nd nd' h => by dsimp only; rw [h 10 rfl rfl]) CongOk.nil) ?_
          intro nd
          (refine ch_pure rfl (by kernel_rfl) rfl rfl ?_; intro K hK; go_big_quiet_op; go_big_quiet_on)
          (apply ch_callF; rfl; rfl; rfl; (with_reducible rfl); decide +kernel; (focus (simp only [List.map_toArray, List.map_cons, List.map_nil, Act.eval, Array.getD_eq_getD_getElem?, List.getElem?_toArray, List.getElem?_cons_succ, List.getElem?_cons_zero, Option.getD_some]; try rfl)); (intro F w hS; (try clear hS0); exact len_at b2 Hrep.out W w _ hS); (simp only [Act.put, List.setIfInBounds_toArray, List.set_cons_succ, List.set_cons_zero, Nat.reduceAdd]))
          (refine ch_pure rfl (by kernel_rfl) rfl rfl ?_; intro K hK; go_big_quiet_op; go_big_quiet_on)
          (apply ch_nil; rfl; kernel_rfl; (with_reducible rfl); rfl; rfl; (simp only [Act.put, List.setIfInBounds_toArray, List.set_cons_succ, List.set_cons_zero, Nat.reduceAdd]))
          (refine ch_pure rfl (by kernel_rfl) rfl rfl ?_; intro K hK; go_big_quiet_op; go_big_quiet_on)
          (apply ch_ld1; rfl; kernel_rfl; (with_reducible rfl); rfl; rfl; decide +kernel; (intro F; first | exact Cell.here rfl | exact Cell.there (Cell.here rfl) | exact Cell.there (Cell.there (Cell.here rfl)) | exact Cell.there (Cell.there (Cell.there (Cell.here rfl))) | exact Cell.there (Cell.there (Cell.there (Cell.there (Cell.here rfl)))) | exact Cell.there (Cell.there (Cell.there (Cell.there (Cell.there (Cell.here rfl))))) | exact Cell.there (Cell.there (Cell.there (Cell.there (Cell.there (Cell.there (Cell.here rfl)))))) | assumption); (simp only [Act.put, List.setIfInBounds_toArray, List.set_cons_succ, List.set_cons_zero, Nat.reduceAdd]))
          iterate 4 (refine ch_pure rfl (by kernel_rfl) rfl rfl ?_; intro K hK; go_big_quiet_op; go_big_quiet_on)
          (apply ch_callN; rfl; rfl; (with_reducible rfl); decide +kernel; (focus (simp only [List.map_toArray, List.map_cons, List.map_nil, Act.eval, Array.getD_eq_getD_getElem?, List.getElem?_toArray, List.getElem?_cons_succ, List.getElem?_cons_zero, Option.getD_some]; try rfl)); (intro _; rfl); (intro F w hS; exact list_new b2 Hrep.out W w _ hS); (simp only [Act.put, List.setIfInBounds_toArray, List.set_cons_succ, List.set_cons_zero, Nat.reduceAdd]))
          (refine ch_pure rfl (by kernel_rfl) rfl rfl ?_; intro K hK; go_big_quiet_op; go_big_quiet_on)
          (apply ch_nil; rfl; kernel_rfl; (with_reducible rfl); rfl; rfl; (simp only [Act.put, List.setIfInBounds_toArray, List.set_cons_succ, List.set_cons_zero, Nat.reduceAdd]))
          (refine ch_pure rfl (by kernel_rfl) rfl rfl ?_; intro K hK; go_big_quiet_op; go_big_quiet_on)
          (apply ch_ld1; rfl; kernel_rfl; (with_reducible rfl); rfl; rfl; decide +kernel; (intro F; first | exact Cell.here rfl | exact Cell.there (Cell.here rfl) | exact Cell.there (Cell.there (Cell.here rfl)) | exact Cell.there (Cell.there (Cell.there (Cell.here rfl))) | exact Cell.there (Cell.there (Cell.there (Cell.there (Cell.here rfl)))) | exact Cell.there (Cell.there (Cell.there (Cell.there (Cell.there (Cell.here rfl))))) | exact Cell.there (Cell.there (Cell.there (Cell.there (Cell.there (Cell.there (Cell.here rfl)))))) | assumption); (simp only [Act.put, List.setIfInBounds_toArray, List.set_cons_succ, List.set_cons_zero, Nat.reduceAdd]))
          (apply ch_callF; rfl; rfl; rfl; (with_reducible rfl); decide +kernel; (focus (simp only [List.map_toArray, List.map_cons, List.map_nil, Act.eval, Array.getD_eq_getD_getElem?, List.getElem?_toArray, List.getElem?_cons_succ, List.getElem?_cons_zero, Option.getD_some]; try rfl)); (intro F w hS; (try clear hS0); exact orders_take Hl32.out hS (by first | exact Take.head | exact Take.tail Take.head | exact Take.tail (Take.tail Take.head) | exact Take.tail (Take.tail (Take.tail Take.head)) | exact Take.tail (Take.tail (Take.tail (Take.tail Take.head))) | exact Take.tail (Take.tail (Take.tail (Take.tail (Take.tail Take.head)))) | exact Take.tail (Take.tail (Take.tail (Take.tail (Take.tail (Take.tail Take.head)))))) (by first | exact Take.head | exact Take.tail Take.head | exact Take.tail (Take.tail Take.head) | exact Take.tail (Take.tail (Take.tail Take.head)) | exact Take.tail (Take.tail (Take.tail (Take.tail Take.head))) | exact Take.tail (Take.tail (Take.tail (Take.tail (Take.tail Take.head)))) | exact Take.tail (Take.tail (Take.tail (Take.tail (Take.tail (Take.tail Take.head))))))); (simp only [Act.put, List.setIfInBounds_toArray, List.set_cons_succ, List.set_cons_zero, Nat.reduceAdd]))
          iterate 2 (refine ch_pure rfl (by kernel_rfl) rfl rfl ?_; intro K hK; go_big_quiet_op; go_big_quiet_on)
          refine ch_end ?_
          clear hS
          intro w hS
          have hS2 : St W [pileR _ _, bookP _ _, blk xb _ _, pileR _ _, sats _] w := hS
          clear hS
          have hS := hS2.unpack [_, _, _, _]
          clear hS2
          simp only [List.cons_append, List.nil_append] at hS
          replace hS := hS.drop
          go_wp2_with fail
          go_roundw
          case rel => exact ⟨i + 1, b3, L, _, rfl, hil, hi2, Hrep.out, Hap.out, hS⟩
          case measure => simp [intOf]; omega
end Go.Proofs.Ytihciopankhjgaa
