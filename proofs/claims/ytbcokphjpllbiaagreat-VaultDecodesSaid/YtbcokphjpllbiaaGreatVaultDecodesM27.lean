/-
  The document's purses out of bytes. For all of them.
  Orders out of bytes: how many bytes they take; the document's Of on a row of its own. For every row.
-/
import Derived.Test.YtbcokphjpllbiaaGreatVaultDecodesM5
import Derived.Test.YtbcokphjpllbiaaGreatVaultDecodesM16
import Derived.Test.YtbcokphjpllbiaaGreatVaultDecodesM26

section
set_option linter.unusedSimpArgs false
set_option linter.unusedVariables false
namespace Go.Proofs.YtbcokphjpllbiaaGreat
open Go.RowKit Go.Sl
theorem bytes_xa {D : HP} {rb : Nat} {s s1 : RS} {x : List Int} (hn : rdBytes s = (x, s1)) (h : RdOk s) (W w : World) (R R' : List HP) (ht : Take R D R') (hS : St W (rdX D rb s :: R) w) :
    Calls Tryz.prog 44 #[.pointer (some ⟨rb, 0, none⟩)] w fun e w' => ∃ v, e = .returned v ∧ St W (byR v x :: rdX D rb s1 :: R) w' := by
  have h1 := bytes_x D rb s h W w R R' ht hS
  rw [hn] at h1
  exact h1
theorem key_at {k : ByteArray} {r : Bool} (h : whoB k = r) (W w : World) (R : List HP) (hS : St W R w) :
    Calls Tryz.prog 61 #[.string k] w fun e w' => e = .returned (.bool r) ∧ St W R w' := h ▸ key8 k W w R hS
/-- How many bytes a reader has yet. -/
def szR (s : RS) (n N : Nat) : Prop := match s with
  | none => n ≤ N + 1
  | some b => n + b.length ≤ N
theorem RdOk.it {s : RS} (h : RdOk s) : RdOk (rdItS s) := h.num.num.num.num
theorem RdOk.hs {s : RS} (h : RdOk s) : RdOk (rdHS s) := h.bytes.it
theorem rdOk_none : RdOk none := ⟨fun l hl => (by cases hl), fun l hl => (by cases hl)⟩
theorem RdOk.cond {s : RS} (h : RdOk s) (c : Prop) [Decidable c] : RdOk (if c then s else none) := by
  split
  · exact h
  · exact rdOk_none
theorem szR_hs {b : List Int} {n N : Nat} (hb : RdOk (some b)) (h : szR (some b) n N) (c : Prop) [Decidable c] : szR (if c then rdHS (some b) else none) (n + 1) N := by
  have h1 : n + b.length ≤ N := h
  split
  · cases hs : rdHS (some b) with
    | none => show n + 1 ≤ N + 1; omega
    | some r =>
      have := rdH_len (hb.b b rfl) hs
      show n + 1 + r.length ≤ N
      omega
  · show n + 1 ≤ N + 1
    omega
/-- Is it behind the last one? -/
def aftB (l : List Hd) (k : ByteArray) : Bool := (l.getLast?).all fun y => Op.bytesLess y.who.toList k.toList
theorem aft_nil (k : ByteArray) : aftB [] k = true := rfl
theorem aft_last {l : List Hd} (h : 0 < l.length) (k : ByteArray) : aftB l k = Op.bytesLess (l[l.length - 1]).who.toList k.toList := by
  unfold aftB
  rw [List.getLast?_eq_getElem?, List.getElem?_eq_getElem (by omega)]
  rfl
theorem ok_if (l : List Hd) (u : ByteArray) (i : It) (s4 : RS) : (if okH l ⟨u, i⟩ = true then s4 else none) = (if (whoB u && (!(isZ i) && aftB l u)) = true then (if isIt i = true then s4 else none) else none) := by
  unfold okH aftB
  simp only
  cases whoB u <;> cases isIt i <;> cases isZ i <;> simp
def PuX (W : World) (D : HP) (rb : Nat) (L : List HP) (n N : Nat) (T : List Hd × RS) (v3 v5 : Value) (w : World) : Prop :=
  ∃ (l : List Hd) (s : RS), v5 = .int .i64 l.length ∧ l.length ≤ n ∧ RdOk s ∧ szR s l.length N ∧ purD (n - l.length) l s = T ∧ St W (rdX D rb s :: hdR v3 l :: L) w
theorem hd_push {W w : World} {v : Value} {l : List Hd} {u : ByteArray} {x0 x1 x2 x3 : Int} {R : List HP} (h : St W (row v 5 94 (l.length + 1) (l.flatMap Hd.cells ++ [.string u, .int .i64 x0, .int .i64 x1, .int .i64 x2, .int .i64 x3]) :: R) w) : St W (hdR v (l ++ [⟨u, ⟨x0, x1, x2, x3⟩⟩]) :: R) w := by
  unfold hdR
  rw [List.length_append, List.flatMap_append]
  exact h
set_option maxRecDepth 100000 in
set_option maxHeartbeats 8000000 in
theorem purses_x (D : HP) (rb : Nat) (s s0 : RS) (n : Int) (hn : rdNum s = (n, s0)) (h : RdOk s) (N : Nat) (hN : N ≤ 100000) (hsz : szR s0 0 N) (T : List Hd × RS) (hT : purD n.toNat [] s0 = T) (W w : World) (R R' : List HP) (ht : Take R D R') (hS : St W (rdX D rb s :: R) w) :
    Calls Tryz.prog 42 #[.pointer (some ⟨rb, 0, none⟩)] w fun e w' => ∃ v, e = .returned v ∧ T.1.length ≤ N + 1 ∧ RdOk T.2 ∧ St W (rdX D rb T.2 :: hdR v T.1 :: R) w' := by
  have hr := rdNum_rng s
  rw [hn] at hr
  obtain ⟨m, rfl⟩ : ∃ m : Nat, n = m := ⟨n.toNat, by omega⟩
  have hm : m ≤ 4611686018427387904 := by simp only at hr; omega
  have h0 := h.num
  rw [hn] at h0
  have H0 := Lib.hid h
  have Hn := Lib.hid hn
  have Hok0 := Lib.hid h0
  have Hsz0 := Lib.hid hsz
  have HT := Lib.hid hT
  clear h hn hr h0 hsz hT
  go_enter Tryz.func42, Tryz.ntmps42
  go_wp2_with (first | go_big_skip | (go_at_call 43; refine (num_xa Hn.out H0.out W _ _ _ ht hS).mono ?_; clear hS; rintro e w ⟨rfl, hS⟩))
  have hS1 := (hS.rowNil (k := 5) (T := 94)).swap
  clear hS
  have hS := hS1
  clear hS1
  go_loopw [3, 5] (fun v3 v5 wr => PuX W D rb R m N T v3 v5 wr) (fun _ v5 _ => m - (intOf v5).toNat)
  case atStart => exact ⟨[], s0, rfl, Nat.zero_le _, Hok0.out, Hsz0.out, HT.out, hS⟩
  case round =>
    clear hS
    obtain ⟨l, s, rfl, hlm, hok, hsz, hT, hS⟩ := hrel
    obtain ⟨va, vc, rfl⟩ := hS.drop.rowVal
    have Hok := Lib.hid hok
    have Hsz := Lib.hid hsz
    have HT2 := Lib.hid hT
    clear hok hsz hT
    have hlN : l.length ≤ N + 1 := by
      have h1 := Hsz.out
      cases s with
      | none => exact h1
      | some b => have h2 : l.length + b.length ≤ N := h1; omega
    by_cases hin : l.length = m
    · have hT3 := HT2.out
      rw [hin, Nat.sub_self, purD] at hT3
      have HT3 := Lib.hid hT3
      have hd1 : decide (l.length < m) = false := by simp; omega
      clear hT3 hin hlm
      go_wp2_with (first | go_big_skip)
      go_ret
      refine ⟨_, rfl, ?_⟩
      rw [← HT3.out]
      exact ⟨hlN, Hok.out, hS⟩
    · have hlt : l.length < m := by omega
      have hd1 : decide ((l.length : Int) < (m : Int)) = true := by simp; omega
      cases s with
      | none =>
        obtain ⟨v1, e1, ⟨rfl, rfl⟩, hS1⟩ := rdOpen hS
        clear hS
        have hS := hS1
        clear hS1
        have hT3 := HT2.out
        rw [purD_none] at hT3
        have HT3 := Lib.hid hT3
        clear hT3 hin
        go_wp2_with (first | go_big_skip | (refine zl1 hS ?_))
        go_ret
        refine ⟨_, rfl, ?_⟩
        rw [← HT3.out]
        exact ⟨hlN, rdOk_none, rdShut ⟨rfl, rfl⟩ hS⟩
      | some b =>
        obtain ⟨v1, e1, hv, hS1⟩ := rdOpen hS
        clear hS
        have hS := hS1
        clear hS1
        obtain ⟨a1, c1, rfl, rfl, Hv⟩ := rdSome hv
        clear hv
        obtain ⟨y, hy⟩ : ∃ y, rdBytes (some b) = y := ⟨_, rfl⟩
        obtain ⟨x, s1⟩ := y
        have h1 := Hok.out.bytes
        rw [hy] at h1
        obtain ⟨i, hi⟩ : ∃ i, rdIt s1 = i := ⟨_, rfl⟩
        obtain ⟨s5, h5⟩ : ∃ s5, (if isIt i = true then rdItS s1 else none) = s5 := ⟨_, rfl⟩
        obtain ⟨u, hu⟩ : ∃ u, bstr x = u := ⟨_, rfl⟩
        have e1 : rdH (some b) = ⟨u, i⟩ := by unfold rdH; rw [hy]; simp only; rw [hu, hi]
        have e2 : rdHS (some b) = rdItS s1 := by unfold rdHS; rw [hy]
        have hT3 := HT2.out
        have e3 : m - l.length = (m - (l.length + 1)) + 1 := by omega
        rw [e3, purD, e1, e2, ok_if, h5] at hT3
        have hok6 : RdOk (if (whoB u && (!(isZ i) && aftB l u)) = true then s5 else none) := by
          rw [← h5]
          exact (h1.it.cond _).cond _
        have hsz6 : szR (if (whoB u && (!(isZ i) && aftB l u)) = true then s5 else none) (l.length + 1) N := by
          rw [← h5, ← e2]
          have h7 : l.length + b.length ≤ N := Hsz.out
          split
          · exact szR_hs Hok.out Hsz.out _
          · show l.length + 1 ≤ N + 1
            omega
        obtain ⟨s6, h6⟩ : ∃ s6, (if (whoB u && (!(isZ i) && aftB l u)) = true then s5 else none) = s6 := ⟨_, rfl⟩
        rw [h6] at hT3 hok6 hsz6
        obtain ⟨x0, x1, x2, x3⟩ := i
        have Hx := Lib.hid hy
        have H1 := Lib.hid h1
        have Hi := Lib.hid hi
        have H5 := Lib.hid h5
        have Hu := Lib.hid hu
        have HT3 := Lib.hid hT3
        have H6 := Lib.hid h6
        have Hok6 := Lib.hid hok6
        have Hsz6 := Lib.hid hsz6
        clear hy h1 hi h5 hu e1 e2 e3 hT3 h6 hok6 hsz6 hin
        go_wp2_with (first | go_big_skip | (refine zl1 hS ?_) | (go_at_call 44; refine (bytes_xa Hx.out Hok.out W _ _ _ ht.tail (rdShut Hv.out hS)).mono ?_; clear hS; rintro e w ⟨v, rfl, hS⟩) | ((with_reducible apply wl_bytesStrR (ns := x) hS); (with_reducible rfl); rfl; rfl; exact Tryz.underlying30; exact Tryz.underlying5; exact Tryz.underlying9; (exact takeS); (rw [Hu.out]); (refine frS ?_)) | ((with_reducible apply wl_alloc hS); (with_reducible rfl); rfl; (exact zsS); clear hS; intro bH w hS; (refine frS ?_)) | (go_at_call 86; refine (read_x D rb s1 s5 ⟨x0, x1, x2, x3⟩ Hi.out H5.out H1.out W _ _ _ ht.tail.tail (hS.sel (L' := rdX D rb s1 :: blk bH _ _ :: hdR _ l :: R) (by exact selS))).mono ?_; clear hS; simp only [It.cells]; rintro e w ⟨rfl, hS⟩) | (refine zsN hS ?_; clear hS; intro w hS))
        have hS2 := hS.sel (L' := blk bH _ _ :: rdX D rb s5 :: hdR (.slice va l.length vc) l :: R) (by exact selS)
        clear hS
        have hS := hS2
        clear hS2
        cases hk : whoB u with
        | false =>
          have h7 := H6.out
          rw [hk, if_neg (by simp)] at h7
          subst h7
          have Hk := Lib.hid hk
          clear hk
          refine wp_region_reads (by kernel_rfl) (by kernel_rfl) hS ?_
          repeat (first | go_big_quiet_skip | (refine zq1 ?_) | (apply wq_ldN; (with_reducible rfl); rfl; rfl; decide +kernel; (exact Cells.here (vs := [.int .i64 x0, .int .i64 x1, .int .i64 x2, .int .i64 x3]) rfl); kernel_rfl; (refine frS ?_)) | (refine zqn ?_) | (apply wq_call; rfl; (intro w; apply exec_callF; (with_reducible rfl); decide +kernel; (focus (simp only [fD, List.map_cons, List.map_nil, Act.eval, fE, fF, fG, fH, Option.getD_some]; try rfl))); (intro w hS; exact key_at Hk.out W w _ hS); (refine frS ?_)) | ((with_reducible apply wq_eqA); (with_reducible rfl); rfl; rfl; rfl; kernel_rfl; exact eqI _ _ _ _ _ _ _ _; (rw [heq]); (refine frS ?_)) | (refine wq_pure rfl rfl ?_; intro K hK; go_big_quiet_op; go_big_quiet_on))
          clear hS
          intro w hS
          go_wp2_with (first | go_big_skip | (go_at_call 45; refine (bad_x D rb _ W _ _ (hS.sel (L' := rdX D rb s5 :: blk bH _ _ :: hdR _ l :: R) (by exact selS))).mono ?_; clear hS; rintro e w ⟨rfl, hS⟩) | (refine zlN hS ?_) | (refine zbs hS ?_; clear hS; intro bS w hS) | (refine zap hS ?_ (h63 := by unfold maxLen; omega) (hb := by omega); clear hS; intro v w hS))
          have hS3 := hS.sel (L' := row v 5 94 (l.length + 1) _ :: rdX D rb none :: R) (by exact selS)
          go_roundw
          case rel => exact ⟨l ++ [⟨u, ⟨x0, x1, x2, x3⟩⟩], none, by rw [List.length_append]; rfl, by rw [List.length_append]; exact hlt, Hok6.out, by rw [List.length_append]; exact Hsz6.out, by rw [List.length_append]; exact HT3.out, (hd_push hS3).swap⟩
          case measure => simp [intOf]; omega
        | true =>
          have Hk := Lib.hid hk
          cases hz : isZ ⟨x0, x1, x2, x3⟩ with
          | true =>
            have h7 := H6.out
            rw [hk, hz, if_neg (by simp)] at h7
            subst h7
            have heq : (x0 == 0 && (x1 == 0 && (x2 == 0 && x3 == 0))) = true := hz
            clear hk hz
            refine wp_region_reads (by kernel_rfl) (by kernel_rfl) hS ?_
            repeat (first | go_big_quiet_skip | (refine zq1 ?_) | (apply wq_ldN; (with_reducible rfl); rfl; rfl; decide +kernel; (exact Cells.here (vs := [.int .i64 x0, .int .i64 x1, .int .i64 x2, .int .i64 x3]) rfl); kernel_rfl; (refine frS ?_)) | (refine zqn ?_) | (apply wq_call; rfl; (intro w; apply exec_callF; (with_reducible rfl); decide +kernel; (focus (simp only [fD, List.map_cons, List.map_nil, Act.eval, fE, fF, fG, fH, Option.getD_some]; try rfl))); (intro w hS; exact key_at Hk.out W w _ hS); (refine frS ?_)) | ((with_reducible apply wq_eqA); (with_reducible rfl); rfl; rfl; rfl; kernel_rfl; exact eqI _ _ _ _ _ _ _ _; (rw [heq]); (refine frS ?_)) | (refine wq_pure rfl rfl ?_; intro K hK; go_big_quiet_op; go_big_quiet_on))
            clear hS
            intro w hS
            go_wp2_with (first | go_big_skip | (go_at_call 45; refine (bad_x D rb _ W _ _ (hS.sel (L' := rdX D rb s5 :: blk bH _ _ :: hdR _ l :: R) (by exact selS))).mono ?_; clear hS; rintro e w ⟨rfl, hS⟩) | (refine zlN hS ?_) | (refine zbs hS ?_; clear hS; intro bS w hS) | (refine zap hS ?_ (h63 := by unfold maxLen; omega) (hb := by omega); clear hS; intro v w hS))
            have hS3 := hS.sel (L' := row v 5 94 (l.length + 1) _ :: rdX D rb none :: R) (by exact selS)
            go_roundw
            case rel => exact ⟨l ++ [⟨u, ⟨x0, x1, x2, x3⟩⟩], none, by rw [List.length_append]; rfl, by rw [List.length_append]; exact hlt, Hok6.out, by rw [List.length_append]; exact Hsz6.out, by rw [List.length_append]; exact HT3.out, (hd_push hS3).swap⟩
            case measure => simp [intOf]; omega
          | false =>
            have heq : (x0 == 0 && (x1 == 0 && (x2 == 0 && x3 == 0))) = false := hz
            by_cases h0 : l.length = 0
            · have hl0 : l = [] := List.eq_nil_of_length_eq_zero h0
              subst hl0
              have h7 := H6.out
              rw [hk, hz, aft_nil, if_pos (by rfl)] at h7
              subst h7
              clear hk hz h0
              refine wp_region_reads (by kernel_rfl) (by kernel_rfl) hS ?_
              repeat (first | go_big_quiet_skip | (refine zq1 ?_) | (apply wq_ldN; (with_reducible rfl); rfl; rfl; decide +kernel; (exact Cells.here (vs := [.int .i64 x0, .int .i64 x1, .int .i64 x2, .int .i64 x3]) rfl); kernel_rfl; (refine frS ?_)) | (refine zqn ?_) | (apply wq_call; rfl; (intro w; apply exec_callF; (with_reducible rfl); decide +kernel; (focus (simp only [fD, List.map_cons, List.map_nil, Act.eval, fE, fF, fG, fH, Option.getD_some]; try rfl))); (intro w hS; exact key_at Hk.out W w _ hS); (refine frS ?_)) | ((with_reducible apply wq_eqA); (with_reducible rfl); rfl; rfl; rfl; kernel_rfl; exact eqI _ _ _ _ _ _ _ _; (rw [heq]); (refine frS ?_)) | (refine wq_pure rfl rfl ?_; intro K hK; go_big_quiet_op; go_big_quiet_on))
              clear hS
              intro w hS
              go_wp2_with (first | go_big_skip | (refine zlN hS ?_) | (refine zbs hS ?_; clear hS; intro bS w hS) | (refine zap hS ?_ (h63 := by unfold maxLen; omega) (hb := by omega); clear hS; intro v w hS))
              have hS3 := hS.sel (L' := row v 5 94 _ _ :: rdX D rb s5 :: R) (by exact selS)
              go_roundw
              case rel => exact ⟨[] ++ [⟨u, ⟨x0, x1, x2, x3⟩⟩], s5, by rw [List.length_append]; rfl, by rw [List.length_append]; exact hlt, Hok6.out, by rw [List.length_append]; exact Hsz6.out, by rw [List.length_append]; exact HT3.out, (hd_push (l := []) hS3).swap⟩
              case measure => simp [intOf]; omega
            · have hpos : 0 < l.length := by omega
              obtain ⟨⟨g, rfl⟩, _, _⟩ := St.rowAddr hS.drop.drop hpos
              have hlast : ∀ {K K' : List HP}, Take K (hdR (.slice (some ⟨g, 0, none⟩) l.length vc) l) K' → Cell K g ((l.length - 1) * 5) (.string (l[l.length - 1]'(by omega)).who) := fun hu => Cells.elemM (enc := Hd.cells) Hd.len hu (by omega) 0 _ rfl
              have haft := aft_last hpos u
              generalize (l[l.length - 1]'(by omega)).who = yw at hlast haft
              cases hb : Op.bytesLess yw.toList u.toList with
              | true =>
                have h7 := H6.out
                rw [hk, hz, haft, hb, if_pos (by rfl)] at h7
                subst h7
                clear hk hz h0 haft
                refine wp_region_reads (by kernel_rfl) (by kernel_rfl) hS ?_
                repeat (first | go_big_quiet_skip | (refine zq1 ?_) | (apply wq_ldN; (with_reducible rfl); rfl; rfl; decide +kernel; (exact Cells.here (vs := [.int .i64 x0, .int .i64 x1, .int .i64 x2, .int .i64 x3]) rfl); kernel_rfl; (refine frS ?_)) | (apply wq_ld1; (with_reducible rfl); rfl; rfl; decide +kernel; (exact hlast (.tail (.tail .head))); (refine frS ?_)) | (refine zqn ?_) | (apply wq_call; rfl; (intro w; apply exec_callF; (with_reducible rfl); decide +kernel; (focus (simp only [fD, List.map_cons, List.map_nil, Act.eval, fE, fF, fG, fH, Option.getD_some]; try rfl))); (intro w hS; exact key_at Hk.out W w _ hS); (refine frS ?_)) | ((with_reducible apply wq_eqA); (with_reducible rfl); rfl; rfl; rfl; kernel_rfl; exact eqI _ _ _ _ _ _ _ _; (rw [heq]); (refine frS ?_)) | (refine wq_pure rfl rfl ?_; intro K hK; go_big_quiet_op; go_big_quiet_on))
                clear hS
                intro w hS
                go_wp2_with (first | go_big_skip | (refine zlN hS ?_) | (refine zbs hS ?_; clear hS; intro bS w hS) | (refine zap hS ?_ (h63 := by unfold maxLen; omega) (hb := by omega); clear hS; intro v w hS))
                have hS3 := hS.sel (L' := row v 5 94 (l.length + 1) _ :: rdX D rb s5 :: R) (by exact selS)
                go_roundw
                case rel => exact ⟨l ++ [⟨u, ⟨x0, x1, x2, x3⟩⟩], s5, by rw [List.length_append]; rfl, by rw [List.length_append]; exact hlt, Hok6.out, by rw [List.length_append]; exact Hsz6.out, by rw [List.length_append]; exact HT3.out, (hd_push hS3).swap⟩
                case measure => simp [intOf]; omega
              | false =>
                have h7 := H6.out
                rw [hk, hz, haft, hb, if_neg (by simp)] at h7
                subst h7
                clear hk hz h0 haft
                refine wp_region_reads (by kernel_rfl) (by kernel_rfl) hS ?_
                repeat (first | go_big_quiet_skip | (refine zq1 ?_) | (apply wq_ldN; (with_reducible rfl); rfl; rfl; decide +kernel; (exact Cells.here (vs := [.int .i64 x0, .int .i64 x1, .int .i64 x2, .int .i64 x3]) rfl); kernel_rfl; (refine frS ?_)) | (apply wq_ld1; (with_reducible rfl); rfl; rfl; decide +kernel; (exact hlast (.tail (.tail .head))); (refine frS ?_)) | (refine zqn ?_) | (apply wq_call; rfl; (intro w; apply exec_callF; (with_reducible rfl); decide +kernel; (focus (simp only [fD, List.map_cons, List.map_nil, Act.eval, fE, fF, fG, fH, Option.getD_some]; try rfl))); (intro w hS; exact key_at Hk.out W w _ hS); (refine frS ?_)) | ((with_reducible apply wq_eqA); (with_reducible rfl); rfl; rfl; rfl; kernel_rfl; exact eqI _ _ _ _ _ _ _ _; (rw [heq]); (refine frS ?_)) | (refine wq_pure rfl rfl ?_; intro K hK; go_big_quiet_op; go_big_quiet_on))
                clear hS
                intro w hS
                go_wp2_with (first | go_big_skip | (go_at_call 45; refine (bad_x D rb _ W _ _ (hS.sel (L' := rdX D rb s5 :: blk bH _ _ :: hdR _ l :: R) (by exact selS))).mono ?_; clear hS; rintro e w ⟨rfl, hS⟩) | (refine zlN hS ?_) | (refine zbs hS ?_; clear hS; intro bS w hS) | (refine zap hS ?_ (h63 := by unfold maxLen; omega) (hb := by omega); clear hS; intro v w hS))
                have hS3 := hS.sel (L' := row v 5 94 (l.length + 1) _ :: rdX D rb none :: R) (by exact selS)
                go_roundw
                case rel => exact ⟨l ++ [⟨u, ⟨x0, x1, x2, x3⟩⟩], none, by rw [List.length_append]; rfl, by rw [List.length_append]; exact hlt, Hok6.out, by rw [List.length_append]; exact Hsz6.out, by rw [List.length_append]; exact HT3.out, (hd_push hS3).swap⟩
                case measure => simp [intOf]; omega
end Go.Proofs.YtbcokphjpllbiaaGreat
end
section
set_option linter.unusedSimpArgs false
set_option linter.unusedVariables false
namespace Go.Proofs.YtbcokphjpllbiaaGreat
open Go.RowKit Go.Sl
theorem row_slice {W w : World} {v : Value} {l : List Ord} {R : List HP} (hS : St W (pileR v l :: R) w) : SliceV Ord.cells 6 w v l := by
  rcases hS.rowOpen with ⟨rfl, h0, _, _⟩ | ⟨g, cap, junk, rfl, hn, hm, hj, hcl, hS'⟩
  · have hl : l = [] := List.eq_nil_of_length_eq_zero h0
    subst hl
    exact ⟨none, 0, rfl, by simp, fun i hi => absurd hi (Nat.not_lt_zero _)⟩
  · refine ⟨_, _, rfl, by unfold maxLen at hm; omega, fun i hi => ⟨g, 0, rfl, fun j u hj => ?_⟩⟩
    have h1 := Cells.elem (enc := Ord.cells) Ord.len (xs := l) (junk := junk) (g := g) (T := 41) (L := R) hi j u hj W w hS'
    rw [Nat.zero_add]
    exact h1
theorem refOf_row (l : List Ord) (v : Value) (W w : World) (R : List HP) (hS : St W (pileR v l :: R) w) :
    Calls Tryz.prog 47 #[v] w fun e w' => (Refused l ∧ e = .returned (.tuple #[.pointer none, .int .i64 1]) ∧ St W (pileR v l :: R) w') ∨
      (l.length ≤ 32 ∧ OkTo l l.length ∧ ∃ xb vx, e = .returned (.tuple #[.pointer (some ⟨xb, 0, none⟩), .int .i64 0]) ∧ St W (blk xb [vx, .int .i64 (lastOf l l.length)] 68 :: pileR vx l :: pileR v l :: R) w') := by
  refine (refOf_spec l v w (row_slice hS) w w [] (St.start w)).mono ?_
  rintro e w' (⟨h1, h2, h3⟩ | ⟨h1, h2, xb, vx, h3, h4⟩)
  · exact .inl ⟨h1, h2, St.framed hS [] h3⟩
  · exact .inr ⟨h1, h2, xb, vx, h3, St.framed hS [blk xb _ _, pileR vx l] h4⟩
theorem rdOk_of {s : RS} (hb : BS s) {l r : List Int} (hl : s = some l) (hr : (rdBytes s).2 = some r) : r.length ≤ l.length := by
  have h := (rdBytes_at hb hr).1
  rw [hl] at h
  simp only [Option.some.injEq] at h
  have h2 := congrArg List.length h
  rw [List.length_append] at h2
  omega
theorem rdO_len {b r : List Int} (hb : RdOk (some b)) (h : rdOS (some b) = some r) : r.length + 1 ≤ b.length := by
  unfold rdOS rdItS at h
  obtain ⟨l4, e4⟩ := rdNum_back h
  obtain ⟨l3, e3⟩ := rdNum_back e4
  obtain ⟨l2, e2⟩ := rdNum_back e3
  have e1 : ∃ l1, rdO1 (some b) = some l1 := rdNum_back e2
  obtain ⟨l1, e1⟩ := e1
  have hB : (rdBytes (rdNum (some b)).2).2 = some l1 := e1
  obtain ⟨l0, e0⟩ := rdBytes_back hB
  have k0 := rdNum_len hb.b e0 rfl
  have k1 := rdOk_of hb.num.b e0 hB
  have hok1 : RdOk (rdO1 (some b)) := hb.num.bytes
  have k2 := rdNum_le hok1.b e1 e2
  have k3 := rdNum_le hok1.num.b e2 e3
  have k4 := rdNum_le hok1.num.num.b e3 e4
  have k5 := rdNum_le hok1.num.num.num.b e4 h
  omega
theorem szR_os {b : List Int} {n N : Nat} (hb : RdOk (some b)) (h : szR (some b) n N) (c : Prop) [Decidable c] : szR (if c then rdOS (some b) else none) (n + 1) N := by
  have h1 : n + b.length ≤ N := h
  split
  · cases hs : rdOS (some b) with
    | none => show n + 1 ≤ N + 1; omega
    | some r =>
      have := rdO_len hb hs
      show n + 1 + r.length ≤ N
      omega
  · show n + 1 ≤ N + 1
    omega
theorem RdOk.os {s : RS} (h : RdOk s) : RdOk (rdOS s) := h.num.bytes.it
def OdR (W : World) (D : HP) (rb : Nat) (L : List HP) (n N : Nat) (T : List Ord × RS) (v7 v8 : Value) (w : World) : Prop :=
  ∃ (l : List Ord) (s : RS), v8 = .int .i64 l.length ∧ l.length ≤ n ∧ RdOk s ∧ szR s l.length N ∧ ordD (n - l.length) l s = T ∧ St W (rdX D rb s :: pileR v7 l :: L) w
theorem ord_push {W w : World} {v : Value} {l : List Ord} {oi ot oc op : Int} {ou : ByteArray} {oy : Bool} {R : List HP} (h : St W (row v 6 41 (l.length + 1) (l.flatMap Ord.cells ++ [.int .i64 oi, .string ou, .bool oy, .int .i64 ot, .int .i64 oc, .int .i64 op]) :: R) w) : St W (pileR v (l ++ [⟨oi, ou, oy, ot, oc, op⟩]) :: R) w := by
  unfold pileR
  rw [List.length_append, List.flatMap_append]
  exact h
end Go.Proofs.YtbcokphjpllbiaaGreat
end
