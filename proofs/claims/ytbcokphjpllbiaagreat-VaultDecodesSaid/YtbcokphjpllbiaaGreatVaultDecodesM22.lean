/-
  The program's vault as bytes. For every vault.
  The vault's Total in all cases. For every vault.
-/
import Derived.Test.YtbcokphjpllbiaaGreatVaultDecodesM5
import Derived.Test.YtbcokphjpllbiaaGreatVaultDecodesM21

section
set_option linter.unusedSimpArgs false
set_option linter.unusedVariables false
namespace Go.Proofs.YtbcokphjpllbiaaGreat
open Go.RowKit Go.Sl
theorem wrNew {W w : World} {wb : Nat} {L : List HP} (h : St W (blk wb [.slice none 0 0] 91 :: L) w) : St W (wrR wb [] :: L) w := by
  have h1 := (h.rowNil (k := 1) (T := 5)).swap
  exact wrShut (d := []) h1
theorem numB_pos (n : Int) : 0 < (numB n).length := by
  unfold numB
  rw [show (8 : Nat) = 7 + 1 from rfl, encF]
  split <;> simp
theorem nums1E (wb : Nat) (d : List Int) (x : Int) (b c : Nat) (hd : d.length ≤ 90000000) (hx : -9223372036854775808 ≤ x ∧ x ≤ 9223372036854775807) (W w : World) (R : List HP) (hS : St W (wrR wb d :: blk b [.int .i64 x] 3 :: R) w) :
    Calls Tryz.prog 48 #[.pointer (some ⟨wb, 0, none⟩), .slice (some ⟨b, 0, none⟩) 1 c] w fun e w' => e = .returned (.tuple #[]) ∧ St W (wrR wb (d ++ numB x) :: blk b [.int .i64 x] 3 :: R) w' := by
  have h := nums_w wb d [x] b c hd (by simp) (fun y hy => by rw [List.mem_singleton.1 hy]; exact hx) W w R hS
  simpa using h
theorem nums4E (wb : Nat) (d : List Int) (x0 x1 x2 x3 : Int) (g off c : Nat) (hd : d.length ≤ 90000000) (hn : ∀ x ∈ [x0, x1, x2, x3], -9223372036854775808 ≤ x ∧ x ≤ 9223372036854775807) (W w : World) (R : List HP) (hc0 : Cell R g off (.int .i64 x0)) (hc1 : Cell R g (off + 1) (.int .i64 x1)) (hc2 : Cell R g (off + 2) (.int .i64 x2)) (hc3 : Cell R g (off + 3) (.int .i64 x3)) (hS : St W (wrR wb d :: R) w) :
    Calls Tryz.prog 48 #[.pointer (some ⟨wb, 0, none⟩), .slice (some ⟨g, off, none⟩) 4 c] w fun e w' => e = .returned (.tuple #[]) ∧ St W (wrR wb (d ++ numsB [x0, x1, x2, x3]) :: R) w' :=
  nums_g wb d [x0, x1, x2, x3] g off c hd (by simp) hn W w R (fun i hi => by
    have hi4 : i = 0 ∨ i = 1 ∨ i = 2 ∨ i = 3 := by simp at hi; omega
    rcases hi4 with rfl | rfl | rfl | rfl
    · exact hc0
    · exact hc1
    · exact hc2
    · exact hc3) hS
def CwR {α : Type} (W : World) (F : List HP) (wb : Nat) (f : α → List Int) (base : List Int) (xs : List α) (v : Value) (w : World) : Prop :=
  ∃ k : Nat, v = .int .i64 k ∧ k ≤ xs.length ∧ St W (wrR wb (base ++ (xs.take k).flatMap f) :: F) w
set_option maxRecDepth 100000 in
set_option maxHeartbeats 8000000 in
theorem encodeV (vb mb bb : Nat) (p : Ps) (L : List Ord) (n : Int) {N : Nat} (hp : PsOk p) (hw : PsW p N) (hN : N ≤ 1000000) (hn0 : 1 ≤ n) (hn1 : n ≤ 1099511627777) (W w : World) (R : List HP) (hS : St W (vaultL vb mb bb p L n R) w) :
    Calls Tryz.prog 12 #[.pointer (some ⟨vb, 0, none⟩)] w fun e w' => ∃ v, e = .returned v ∧ St W (byR v (encV p L n) :: vaultL vb mb bb p L n R) w' := by
  have hlh : (hdL p).length ≤ 1000000 := by rw [hdL_len]; exact Nat.le_trans hw.len hN
  have hl32 := bookL_len hS.drop.drop
  have hmay : ∀ x ∈ L, MayP x := fun x hx => (bookL_each hS.drop.drop x hx).1
  have hhw : ∀ x ∈ hdL p, x.who.size ≤ 16 ∧ isIt x.has = true := fun x hx => by
    refine ⟨?_, by rw [hdL_has hx]; exact hp _⟩
    have hk : x.who ∈ (hdL p).map Hd.who := List.mem_map_of_mem hx
    rw [hdL_who] at hk
    obtain ⟨y, hy, e⟩ := kL_mem hk
    rw [← e]
    exact whoB_le (hw.who y hy)
  have hN2 : N ≤ 1000000000 := by omega
  have Hmay := Lib.hid hmay
  have Hhw := Lib.hid hhw
  have Hw := Lib.hid hw
  clear hmay hw hp hhw
  unfold encV
  go_enter Tryz.func12, Tryz.ntmps12
  go_wp2_with (first | go_big_skip | (go_at_call 25; refine (listV_spec vb mb bb p L n Hw.out hN2 W _ _ hS).mono ?_; clear hS; rintro e w ⟨sa, sc, oa, oc, rfl, hS⟩) | ((fail_if_success (have := wb)); (with_reducible apply wl_alloc hS); (with_reducible rfl); rfl; (exact zsS); clear hS; intro wb w hS; (refine frS ?_)) | (refine zbs hS ?_; clear hS; intro bS w hS) | (go_at_call 48; refine (nums1E wb [] ((hdL p).length : Int) bS 1 (by simp) ⟨by omega, by omega⟩ W _ _ (wrNew (hS.sel (L' := blk wb _ _ :: blk bS _ _ :: blk vb _ _ :: amap eS eP mb p :: bookL bb L n :: hdR (.slice sa (hdL p).length sc) (hdL p) :: pileR (.slice oa L.length oc) L :: R) (by exact selS)))).mono ?_; clear hS; rw [List.nil_append]; rintro e w ⟨rfl, hS⟩))
  have hS1 := hS.sel (L' := wrR wb _ :: blk vb _ _ :: amap eS eP mb p :: bookL bb L n :: hdR (.slice sa (hdL p).length sc) (hdL p) :: pileR (.slice oa L.length oc) L :: R) (by exact selS)
  clear hS
  have hS := hS1
  clear hS1
  generalize hhs : hdL p = hs at hS hlh Hhw
  have Hhs := Lib.hid hhs
  clear hhs
  go_loopw [26] (fun v wr => CwR W (vaultL vb mb bb p L n (hdR (.slice sa hs.length sc) hs :: pileR (.slice oa L.length oc) L :: R)) wb encH (numB hs.length) hs v wr) (fun v _ => hs.length - (intOf v).toNat)
  case atStart => exact ⟨0, rfl, Nat.zero_le _, by simpa using hS⟩
  case round =>
    clear hS
    obtain ⟨k, rfl, hkl, hS⟩ := hrel
    by_cases hkn : k = hs.length
    · rw [hkn, List.take_length] at hS
      have hd1 : decide (k < hs.length) = false := by simp; omega
      clear hkl hkn
      have hlkk := numB_len hs.length
      generalize hacc : numB hs.length ++ hs.flatMap encH = acc at hS
      have hal : acc.length ≤ 70000100 := by
        have h1 := cat_len encH hs fun x hx => encH_len x (Hhw.out x hx).1
        rw [← hacc, List.length_append]
        omega
      have Hacc := Lib.hid hacc
      clear hacc hlkk
      have hln := numB_len L.length
      go_wp2_with (first | go_big_skip | (refine zbs hS ?_; clear hS; intro bS w hS) | (go_at_call 48; refine (nums1E wb acc (L.length : Int) bS 1 (by omega) ⟨by omega, by omega⟩ W _ _ (hS.sel (L' := wrR wb acc :: blk bS _ _ :: blk vb _ _ :: amap eS eP mb p :: bookL bb L n :: hdR _ hs :: pileR (.slice oa L.length oc) L :: R) (by exact selS))).mono ?_; clear hS; rintro e w ⟨rfl, hS⟩))
      have hS1 := hS.sel (L' := wrR wb _ :: blk vb _ _ :: amap eS eP mb p :: bookL bb L n :: hdR (.slice sa hs.length sc) hs :: pileR (.slice oa L.length oc) L :: R) (by exact selS)
      clear hS
      have hS := hS1
      clear hS1
      go_loopw [45] (fun v wr => CwR W (vaultL vb mb bb p L n (hdR (.slice sa hs.length sc) hs :: pileR (.slice oa L.length oc) L :: R)) wb encO (acc ++ numB L.length) L v wr) (fun v _ => L.length - (intOf v).toNat)
      case atStart => exact ⟨0, rfl, Nat.zero_le _, by simpa using hS⟩
      case round =>
        clear hS
        obtain ⟨j, rfl, hjl, hS⟩ := hrel
        by_cases hjn : j = L.length
        · rw [hjn, List.take_length] at hS
          have hd2 : decide (j < L.length) = false := by simp; omega
          clear hjl hjn
          have hlo := cat_len encO L fun x hx => encO_len x (Hmay.out x hx).who1
          generalize hd : acc ++ numB L.length ++ L.flatMap encO = d at hS
          have hdl : d.length ≤ 70010000 := by rw [← hd, List.length_append, List.length_append]; omega
          have Hd2 := Lib.hid hd
          have hlq := numB_len n
          have hlz : 0 < (d ++ numB n).length := by
            have : 0 < (numB n).length := numB_pos n
            rw [List.length_append]
            omega
          have hlz2 : (d ++ numB n).length ≤ 100000000 := by rw [List.length_append]; omega
          have Hz := Lib.hid hlz
          have Hz2 := Lib.hid hlz2
          clear hd hlz hlz2
          go_wp2_with (first | go_big_skip | (refine zbs hS ?_; clear hS; intro bS w hS) | (go_at_call 48; refine (nums1E wb d n bS 1 (by omega) ⟨by omega, by omega⟩ W _ _ (hS.sel (L' := wrR wb d :: blk bS _ _ :: blk vb _ _ :: amap eS eP mb p :: bookL bb L n :: hdR _ hs :: pileR (.slice oa L.length oc) L :: R) (by exact selS))).mono ?_; clear hS; rintro e w ⟨rfl, hS⟩) | (go_at_call 50; refine (out_w wb _ Hz2.out Hz.out W _ _ hS).mono ?_; clear hS; rintro e w ⟨vo, rfl, hS⟩))
          go_ret
          refine ⟨vo, rfl, ?_⟩
          rw [Hhs.out, Hacc.out, Hd2.out]
          exact hS.sel (by exact selS)
        · have hj1 : j < L.length := by omega
          obtain ⟨⟨g, rfl⟩, hcap, hcn⟩ := St.rowAddr hS.drop.drop.drop.drop.drop (by omega)
          have hcells : ∀ {K K' : List HP}, Take K (pileR (.slice (some ⟨g, 0, none⟩) L.length oc) L) K' → Cells K g (j * 6) (Ord.cells L[j]) := fun hu => Cells.elemM (enc := Ord.cells) Ord.len hu hj1
          have hst := cat_step encO (acc ++ numB L.length) L hj1
          have hmx := Hmay.out _ (List.getElem_mem hj1)
          have hlt := cat_len encO (L.take j) fun x hx => encO_len x (Hmay.out x (List.mem_of_mem_take hx)).who1
          rw [List.length_take] at hlt
          generalize hd : acc ++ numB L.length ++ (L.take j).flatMap encO = d at hS hst
          have hdl : d.length ≤ 70010000 := by rw [← hd, List.length_append, List.length_append]; omega
          generalize L[j] = x at hcells hst hmx
          obtain ⟨oi, ou, oy, ot, oc2, op⟩ := x
          have i0 : 1 ≤ oi := hmx.id0
          have i1 : oi ≤ 1099511627776 := hmx.id1
          have w1 : ou.size ≤ 16 := hmx.who1
          have t0 : 1 ≤ ot := hmx.item0
          have t1 : ot ≤ 3 := hmx.item1
          have c0 : 1 ≤ oc2 := hmx.cnt0
          have c1 : oc2 ≤ 1048576 := hmx.cnt1
          have p0 : 1 ≤ op := hmx.price0
          have p1 : op ≤ 1024 := hmx.price1
          have l1 := numB_len oi
          have l4 := strE_len ou w1
          have Hst := Lib.hid hst
          clear hst hmx hd hlt hjn hjl
          simp only [Ord.cells] at hcells
          have hq1 : (d ++ numB oi).length ≤ 90000000 := by rw [List.length_append]; omega
          have hq2 : (d ++ numB oi ++ strE ou).length ≤ 90000000 := by rw [List.length_append, List.length_append]; omega
          have Hq1 := Lib.hid hq1
          have Hq2 := Lib.hid hq2
          clear hq1 hq2
          cases oy with
          | false =>
            have Hst2 := Lib.hid (show acc ++ numB L.length ++ (L.take (j + 1)).flatMap encO = d ++ numB oi ++ strE ou ++ numsB [0, ot, oc2, op] by rw [Hst.out]; unfold encO; simp [boolI, List.append_assoc])
            have hn : ∀ x ∈ [(0 : Int), ot, oc2, op], -9223372036854775808 ≤ x ∧ x ≤ 9223372036854775807 := by
              intro x hx
              simp only [List.mem_cons, List.not_mem_nil, or_false] at hx
              rcases hx with rfl | rfl | rfl | rfl
              all_goals exact ⟨by omega, by omega⟩
            have Hn := Lib.hid hn
            clear hn
            go_wp2_with (first | go_big_skip | (refine zlN hS ?_ (hc := by exact hcells (by exact takeS))) | ((fail_if_success (have := b8)); ((have := wb); (with_reducible apply wl_alloc hS); (with_reducible rfl); rfl; (exact zsS); clear hS; intro b8 w hS; (refine frS ?_))) | (refine zsN hS ?_; clear hS; intro w hS) | (refine zl1 hS ?_) | ((with_reducible apply wl_strBytes hS); (with_reducible rfl); rfl; rfl; exact Tryz.underlying9; exact Tryz.underlying30; exact Tryz.underlying5; clear hS; intro g9 c9 w hS; (refine frS ?_)) | (refine zbs hS ?_; clear hS; intro bS w hS) | ((fail_if_success (have := mN1)); go_at_call 48; refine (nums1E wb d oi bS 1 (by omega) ⟨by omega, by omega⟩ W _ _ (hS.sel (L' := wrR wb d :: blk bS _ _ :: blk b8 _ _ :: blk vb _ _ :: amap eS eP mb p :: bookL bb L n :: hdR _ hs :: pileR _ L :: R) (by exact selS))).mono ?_; clear hS; rintro e w ⟨rfl, hS⟩; have mN1 : Nat := 0) | (go_at_call 49; (have hS2 : St W (blk bS [.slice (some ⟨g9, 0, none⟩) ou.size c9] 30 :: _) _ := hS); refine (bytes_w wb (d ++ numB oi) ou bS g9 c9 1 Hq1.out (by omega) W _ _ (hS2.sel (L' := wrR wb _ :: blk bS _ _ :: sbR g9 ou :: blk b8 _ _ :: blk vb _ _ :: amap eS eP mb p :: bookL bb L n :: hdR _ hs :: pileR _ L :: R) (by exact selS))).mono ?_; clear hS hS2; rintro e w ⟨rfl, hS⟩) | ((have := mN1); go_at_call 48; (have hS2 : St W (blk bS [.int .i64 0, .int .i64 ot, .int .i64 oc2, .int .i64 op] 3 :: _) _ := hS); refine (nums4E wb (d ++ numB oi ++ strE ou) 0 ot oc2 op bS 0 4 Hq2.out Hn.out W _ (blk bS [.int .i64 0, .int .i64 ot, .int .i64 oc2, .int .i64 op] 3 :: blk vb _ _ :: amap eS eP mb p :: bookL bb L n :: hdR _ hs :: pileR _ L :: R) (Cell.here rfl) (Cell.here rfl) (Cell.here rfl) (Cell.here rfl) (hS2.sel (by exact selS))).mono ?_; clear hS hS2; rintro e w ⟨rfl, hS⟩))
            go_roundw
            case rel => exact ⟨j + 1, rfl, hj1, by rw [Hst2.out]; exact hS.sel (by exact selS)⟩
            case measure => simp [intOf]; omega
          | true =>
            have Hst2 := Lib.hid (show acc ++ numB L.length ++ (L.take (j + 1)).flatMap encO = d ++ numB oi ++ strE ou ++ numsB [1, ot, oc2, op] by rw [Hst.out]; unfold encO; simp [boolI, List.append_assoc])
            have hn : ∀ x ∈ [(1 : Int), ot, oc2, op], -9223372036854775808 ≤ x ∧ x ≤ 9223372036854775807 := by
              intro x hx
              simp only [List.mem_cons, List.not_mem_nil, or_false] at hx
              rcases hx with rfl | rfl | rfl | rfl
              all_goals exact ⟨by omega, by omega⟩
            have Hn := Lib.hid hn
            clear hn
            go_wp2_with (first | go_big_skip | (refine zlN hS ?_ (hc := by exact hcells (by exact takeS))) | ((fail_if_success (have := b8)); ((have := wb); (with_reducible apply wl_alloc hS); (with_reducible rfl); rfl; (exact zsS); clear hS; intro b8 w hS; (refine frS ?_))) | (refine zsN hS ?_; clear hS; intro w hS) | (refine zl1 hS ?_) | ((with_reducible apply wl_strBytes hS); (with_reducible rfl); rfl; rfl; exact Tryz.underlying9; exact Tryz.underlying30; exact Tryz.underlying5; clear hS; intro g9 c9 w hS; (refine frS ?_)) | (refine zbs hS ?_; clear hS; intro bS w hS) | ((fail_if_success (have := mN1)); go_at_call 48; refine (nums1E wb d oi bS 1 (by omega) ⟨by omega, by omega⟩ W _ _ (hS.sel (L' := wrR wb d :: blk bS _ _ :: blk b8 _ _ :: blk vb _ _ :: amap eS eP mb p :: bookL bb L n :: hdR _ hs :: pileR _ L :: R) (by exact selS))).mono ?_; clear hS; rintro e w ⟨rfl, hS⟩; have mN1 : Nat := 0) | (go_at_call 49; (have hS2 : St W (blk bS [.slice (some ⟨g9, 0, none⟩) ou.size c9] 30 :: _) _ := hS); refine (bytes_w wb (d ++ numB oi) ou bS g9 c9 1 Hq1.out (by omega) W _ _ (hS2.sel (L' := wrR wb _ :: blk bS _ _ :: sbR g9 ou :: blk b8 _ _ :: blk vb _ _ :: amap eS eP mb p :: bookL bb L n :: hdR _ hs :: pileR _ L :: R) (by exact selS))).mono ?_; clear hS hS2; rintro e w ⟨rfl, hS⟩) | ((have := mN1); go_at_call 48; (have hS2 : St W (blk bS [.int .i64 1, .int .i64 ot, .int .i64 oc2, .int .i64 op] 3 :: _) _ := hS); refine (nums4E wb (d ++ numB oi ++ strE ou) 1 ot oc2 op bS 0 4 Hq2.out Hn.out W _ (blk bS [.int .i64 1, .int .i64 ot, .int .i64 oc2, .int .i64 op] 3 :: blk vb _ _ :: amap eS eP mb p :: bookL bb L n :: hdR _ hs :: pileR _ L :: R) (Cell.here rfl) (Cell.here rfl) (Cell.here rfl) (Cell.here rfl) (hS2.sel (by exact selS))).mono ?_; clear hS hS2; rintro e w ⟨rfl, hS⟩))
            go_roundw
            case rel => exact ⟨j + 1, rfl, hj1, by rw [Hst2.out]; exact hS.sel (by exact selS)⟩
            case measure => simp [intOf]; omega
    · have hk1 : k < hs.length := by omega
      obtain ⟨⟨g, rfl⟩, hcap, hcn⟩ := St.rowAddr hS.drop.drop.drop.drop (by omega)
      have hcells : ∀ {K K' : List HP}, Take K (hdR (.slice (some ⟨g, 0, none⟩) hs.length sc) hs) K' → Cells K g (k * 5) (Hd.cells hs[k]) := fun hu => Cells.elemM (enc := Hd.cells) Hd.len hu hk1
      have hst := cat_step encH (numB hs.length) hs hk1
      have hmx := Hhw.out _ (List.getElem_mem hk1)
      have hlt := cat_len encH (hs.take k) fun x hx => encH_len x (Hhw.out x (List.mem_of_mem_take hx)).1
      rw [List.length_take] at hlt
      have hlk := numB_len hs.length
      generalize hd : numB hs.length ++ (hs.take k).flatMap encH = d at hS hst
      have hdl : d.length ≤ 70000100 := by rw [← hd, List.length_append]; omega
      generalize hs[k] = x at hcells hst hmx
      obtain ⟨xw, ⟨x0, x1, x2, x3⟩⟩ := x
      obtain ⟨w1, hit⟩ := hmx
      simp only at w1
      obtain ⟨a0, a1, a2, a3⟩ := isIt_true.1 hit
      simp only at a0 a1 a2 a3
      have hn : ∀ x ∈ [x0, x1, x2, x3], -9223372036854775808 ≤ x ∧ x ≤ 9223372036854775807 := by
        intro x hx
        simp only [List.mem_cons, List.not_mem_nil, or_false] at hx
        rcases hx with rfl | rfl | rfl | rfl
        all_goals exact ⟨by omega, by omega⟩
      have l4 := strE_len xw w1
      have hdl2 : (d ++ strE xw).length ≤ 90000000 := by rw [List.length_append]; omega
      have Hdl2 := Lib.hid hdl2
      have Hn := Lib.hid hn
      have Hst := Lib.hid (show numB hs.length ++ (hs.take (k + 1)).flatMap encH = d ++ strE xw ++ numsB [x0, x1, x2, x3] by rw [hst, List.append_assoc]; rfl)
      clear hst hit hd hlt hkn hkl hdl2 hn
      simp only [Hd.cells, It.cells] at hcells
      go_wp2_with (first | go_big_skip | (refine zlN hS ?_ (hc := by exact hcells (by exact takeS))) | ((fail_if_success (have := b8)); ((have := wb); (with_reducible apply wl_alloc hS); (with_reducible rfl); rfl; (exact zsS); clear hS; intro b8 w hS; (refine frS ?_))) | (refine zsN hS ?_; clear hS; intro w hS) | (refine zl1 hS ?_) | ((with_reducible apply wl_strBytes hS); (with_reducible rfl); rfl; rfl; exact Tryz.underlying9; exact Tryz.underlying30; exact Tryz.underlying5; clear hS; intro g9 c9 w hS; (refine frS ?_)) | ((with_reducible apply wl_bs hS); (with_reducible rfl); rfl; (focus (simp only [fD, List.map_cons, List.map_nil, Act.eval, fE, fF, fG, fH, Option.getD_some]; try rfl)); (exact esS); (exact rsS); rfl; rfl; rfl; rfl; clear hS; intro bT w hS; (refine frS ?_)) | (go_at_call 49; refine (bytes_w wb d xw bT g9 c9 1 (by omega) (by omega) W _ _ (hS.sel (L' := wrR wb d :: blk bT _ _ :: sbR g9 xw :: blk b8 _ _ :: blk vb _ _ :: amap eS eP mb p :: bookL bb L n :: hdR _ hs :: pileR _ L :: R) (by exact selS))).mono ?_; clear hS; rintro e w ⟨rfl, hS⟩) | (go_at_call 48; refine (nums4E wb (d ++ strE xw) x0 x1 x2 x3 b8 1 4 Hdl2.out Hn.out W _ (blk b8 [.string xw, .int .i64 x0, .int .i64 x1, .int .i64 x2, .int .i64 x3] 94 :: blk vb _ _ :: amap eS eP mb p :: bookL bb L n :: hdR _ hs :: pileR _ L :: R) (Cell.here rfl) (Cell.here rfl) (Cell.here rfl) (Cell.here rfl) (hS.sel (by exact selS))).mono ?_; clear hS; rintro e w ⟨rfl, hS⟩))
      go_roundw
      case rel => exact ⟨k + 1, rfl, hk1, by rw [Hst.out]; exact hS.sel (by exact selS)⟩
      case measure => simp [intOf]; omega
end Go.Proofs.YtbcokphjpllbiaaGreat
end
section
set_option linter.unusedSimpArgs false
set_option linter.unusedVariables false
namespace Go.Proofs.YtbcokphjpllbiaaGreat
open Go.RowKit Go.Sl
set_option maxRecDepth 100000 in
set_option maxHeartbeats 4000000 in
theorem totalV_g (vb mb bb : Nat) (p : Ps) (L : List Ord) (n : Int) {N : Nat} (hw : PsW p N) (hN : N ≤ 1000000000) (W w : World) (R : List HP) (hS : St W (vaultL vb mb bb p L n R) w) :
    Calls Tryz.prog 26 #[.pointer (some ⟨vb, 0, none⟩)] w fun e w' => e = .returned (.tuple #[.agg (addF (allV ⟨p, L, n⟩)).cells.toArray, .bool (addL (allV ⟨p, L, n⟩) it0).isSome]) ∧ St W (vaultL vb mb bb p L n R) w' := by
  have hll := bookL_len hS.drop.drop
  have hmay : ∀ x ∈ L, MayP x := fun x hx => (bookL_each hS.drop.drop x hx).1
  have hlh : (hdL p).length ≤ 1000000000 := by rw [hdL_len]; exact Nat.le_trans hw.len hN
  have Hmay := Lib.hid hmay
  have Hw := Lib.hid hw
  clear hmay hw
  go_enter Tryz.func26, Tryz.ntmps26
  go_wp2_with (first | (go_at_call 25; refine (listV_spec vb mb bb p L n Hw.out hN W _ _ (hS.sel (L' := blk vb _ _ :: amap eS eP mb p :: bookL bb L n :: blk b0 _ _ :: R) (by exact selS))).mono ?_; clear hS; rintro e w ⟨sa, sc, oa, oc, rfl, hS⟩) | ((with_reducible apply wl_alloc hS); (with_reducible rfl); rfl; (exact zsS); clear hS; intro b0 w hS; (refine frS ?_)))
  generalize hhs : hdL p = hs at hS hlh
  have Hhs := Lib.hid hhs
  clear hhs
  have hS1 := hS.rowNil (k := 4) (T := 39)
  clear hS
  have hS := hS1
  clear hS1
  go_loopw [7, 22] (fun v7 v22 wr => TtR W (vaultL vb mb bb p L n (hdR (.slice sa hs.length sc) hs :: pileR (.slice oa L.length oc) L :: blk b0 [.int .i64 0, .int .i64 0, .int .i64 0, .int .i64 0] 39 :: R)) hs.length (fun k => (hs.take k).map Hd.has) v7 v22 wr) (fun _ v22 _ => hs.length - (intOf v22).toNat)
  case atStart => exact ⟨0, rfl, Nat.zero_le _, hS⟩
  case round =>
    clear hS
    obtain ⟨k, rfl, hkl, hS⟩ := hrel
    dsimp only at hS
    by_cases hkn : k = hs.length
    · rw [hkn, List.take_length] at hS
      have hd1 : decide (k < hs.length) = false := by simp; omega
      clear hkl hkn
      generalize hacc : hs.map Hd.has = acc at hS
      have hal : acc.length ≤ 1000000000 := by rw [← hacc, List.length_map]; exact hlh
      have Hacc := Lib.hid hacc
      clear hacc
      go_wp2_with (first | go_big_skip)
      go_loopw [7, 34] (fun v7 v34 wr => TtR W (vaultL vb mb bb p L n (hdR (.slice sa hs.length sc) hs :: pileR (.slice oa L.length oc) L :: blk b0 [.int .i64 0, .int .i64 0, .int .i64 0, .int .i64 0] 39 :: R)) L.length (fun k => acc ++ (L.take k).map holdsF) v7 v34 wr) (fun _ v34 _ => L.length - (intOf v34).toNat)
      case atStart => exact ⟨0, rfl, Nat.zero_le _, by simpa using hS⟩
      case round =>
        clear hS
        obtain ⟨j, rfl, hjl, hS⟩ := hrel
        dsimp only at hS
        by_cases hjn : j = L.length
        · rw [hjn, List.take_length] at hS
          have hd2 : decide (j < L.length) = false := by simp; omega
          have eall : allV ⟨p, L, n⟩ = acc ++ L.map holdsF := by
            unfold allV
            rw [Hhs.out, Hacc.out]
          have Eall := Lib.hid eall
          clear eall
          obtain ⟨q, hq⟩ : ∃ q, addF (acc ++ L.map holdsF) = q := ⟨_, rfl⟩
          obtain ⟨s0, s1, s2, s3⟩ := q
          obtain ⟨bo, hbo⟩ : ∃ b, (addL (acc ++ L.map holdsF) it0).isSome = b := ⟨_, rfl⟩
          have Hq := Lib.hid hq
          have Hbo := Lib.hid hbo
          clear hq hbo hjl hjn
          cases bo
          · skip
            go_wp2_with (first | go_big_skip | (go_at_call 60; refine (add_it _ _ W _ _ hS).mono ?_; clear hS; rw [Hq.out, Hbo.out]; simp only [It.cells]; rintro e w ⟨rfl, hS⟩) | ((with_reducible apply wl_alloc hS); (with_reducible rfl); rfl; (exact zsS); clear hS; intro bt w hS; (refine frS ?_)) | (refine zsN hS ?_; clear hS; intro w hS) | (refine zlN hS ?_))
            (apply bp_cell_tmp; rfl; rfl; rfl; rfl; exact hS; decide +kernel; (exact cesS); kernel_rfl)
            rw [Eall.out, Hq.out, Hbo.out]
            exact ⟨rfl, hS.sel (by exact selS)⟩
          · skip
            go_wp2_with (first | go_big_skip | (go_at_call 60; refine (add_it _ _ W _ _ hS).mono ?_; clear hS; rw [Hq.out, Hbo.out]; simp only [It.cells]; rintro e w ⟨rfl, hS⟩) | ((with_reducible apply wl_alloc hS); (with_reducible rfl); rfl; (exact zsS); clear hS; intro bt w hS; (refine frS ?_)) | (refine zsN hS ?_; clear hS; intro w hS) | (refine zlN hS ?_))
            (apply bp_cell_tmp; rfl; rfl; rfl; rfl; exact hS; decide +kernel; (exact cesS); kernel_rfl)
            rw [Eall.out, Hq.out, Hbo.out]
            exact ⟨rfl, hS.sel (by exact selS)⟩
        · have hj1 : j < L.length := by omega
          obtain ⟨⟨g, rfl⟩, hcap, hcn⟩ := St.rowAddr hS.drop.drop.drop.drop.drop (by omega)
          have hcells : ∀ {K K' : List HP}, Take K (pileR (.slice (some ⟨g, 0, none⟩) L.length oc) L) K' → Cells K g (j * 6) (Ord.cells L[j]) := fun hu => Cells.elemM (enc := Ord.cells) Ord.len hu hj1
          have hstep : acc ++ (L.take (j + 1)).map holdsF = (acc ++ (L.take j).map holdsF) ++ [holdsF L[j]] := by rw [maps_step _ _ hj1, List.append_assoc]
          have hmx := Hmay.out _ (List.getElem_mem hj1)
          have hbl : (acc ++ (L.take j).map holdsF).length ≤ 1000000100 := by rw [List.length_append, List.length_map, List.length_take]; omega
          have Hstep := Lib.hid hstep
          clear hstep hjn hjl
          generalize acc ++ (L.take j).map holdsF = accj at hS Hstep hbl
          generalize L[j] = x at hcells Hstep hmx
          obtain ⟨it, hit⟩ : ∃ y, holdsF x = y := ⟨_, rfl⟩
          obtain ⟨oi, ou, oy, ot, oc2, op⟩ := x
          obtain ⟨h0, h1, h2, h3⟩ := it
          have Hit := Lib.hid hit
          have Hm := Lib.hid hmx
          clear hit hmx
          simp only [Ord.cells] at hcells
          go_wp2_with (first | go_big_skip | (refine zlN hS ?_ (hc := by exact hcells (by exact takeS))) | (go_at_call 52; refine (holds_at (o := ⟨oi, ou, oy, ot, oc2, op⟩) Hm.out Hit.out W _ _ hS).mono ?_; clear hS; rintro e w ⟨rfl, hS⟩) | (refine zbs hS ?_; clear hS; intro bS w hS) | (refine zap hS ?_ (h63 := by unfold maxLen; omega) (hb := by omega); clear hS; intro v w hS) | ((with_reducible apply wl_alloc hS); (with_reducible rfl); rfl; (exact zsS); clear hS; intro bx w hS; (refine frS ?_)) | (refine zsN hS ?_; clear hS; intro w hS) | (refine zlN hS ?_))
          go_roundw
          case rel =>
            refine ⟨j + 1, rfl, hj1, ?_⟩
            dsimp only
            rw [Hstep.out, Hit.out]
            unfold itsR
            rw [its_push, List.length_append, List.length_singleton]
            have h0 : St W (row v 4 39 (accj.length + 1) (accj.flatMap It.cells ++ It.cells ⟨h0, h1, h2, h3⟩) :: _) w := hS
            exact h0.sel (by exact selS)
          case measure => simp [intOf]; omega
    · have hk1 : k < hs.length := by omega
      obtain ⟨⟨g, rfl⟩, hcap, hcn⟩ := St.rowAddr hS.drop.drop.drop.drop (by omega)
      have hcells : ∀ {K K' : List HP}, Take K (hdR (.slice (some ⟨g, 0, none⟩) hs.length sc) hs) K' → Cells K g (k * 5) (Hd.cells hs[k]) := fun hu => Cells.elemM (enc := Hd.cells) Hd.len hu hk1
      have hstep := maps_step Hd.has hs hk1
      have hbl : ((hs.take k).map Hd.has).length ≤ 1000000100 := by rw [List.length_map, List.length_take]; omega
      have Hstep := Lib.hid hstep
      clear hstep hkn hkl
      generalize (hs.take k).map Hd.has = accj at hS Hstep hbl
      generalize hs[k] = x at hcells Hstep
      obtain ⟨xw, ⟨x0, x1, x2, x3⟩⟩ := x
      simp only [Hd.cells, It.cells] at hcells
      go_wp2_with (first | go_big_skip | (refine zlN hS ?_ (hc := by exact hcells (by exact takeS))) | (refine zlN hS ?_ (hc := by exact Cells.here (vs := [.int .i64 x0, .int .i64 x1, .int .i64 x2, .int .i64 x3]) rfl)) | (refine zbs hS ?_; clear hS; intro bS w hS) | (refine zap hS ?_ (h63 := by unfold maxLen; omega) (hb := by omega); clear hS; intro v w hS) | ((with_reducible apply wl_alloc hS); (with_reducible rfl); rfl; (exact zsS); clear hS; intro bx w hS; (refine frS ?_)) | (refine zsN hS ?_; clear hS; intro w hS))
      go_roundw
      case rel =>
        refine ⟨k + 1, rfl, hk1, ?_⟩
        dsimp only
        rw [Hstep.out]
        unfold itsR
        rw [its_push, List.length_append, List.length_singleton]
        have h0 : St W (row v 4 39 (accj.length + 1) (accj.flatMap It.cells ++ It.cells ⟨x0, x1, x2, x3⟩) :: _) w := hS
        exact h0.sel (by exact selS)
      case measure => simp [intOf]; omega
end Go.Proofs.YtbcokphjpllbiaaGreat
end
