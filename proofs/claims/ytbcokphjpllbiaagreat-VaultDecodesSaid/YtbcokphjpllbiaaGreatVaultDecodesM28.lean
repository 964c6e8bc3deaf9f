/-
  The document's Decode: any bytes as a vault, or refused. For all bytes.
  The program's Reader: numbers into items, into an order; bytes.Equal. For all of them.
-/
import Derived.Test.YtbcokphjpllbiaaGreatVaultDecodesM5
import Derived.Test.YtbcokphjpllbiaaGreatVaultDecodesM27

section
set_option linter.unusedSimpArgs false
set_option linter.unusedVariables false
namespace Go.Proofs.YtbcokphjpllbiaaGreat
open Go.RowKit Go.Sl
theorem szR_all {s : RS} (h : RdOk s) : szR s 0 100000000 := by
  cases s with
  | none => exact Nat.zero_le _
  | some b =>
    have := h.l b rfl
    show 0 + b.length ≤ 100000000
    omega
theorem refOf_no {l : List Ord} (h : Refused l) (v : Value) (W w : World) (R : List HP) (hS : St W (pileR v l :: R) w) :
    Calls Tryz.prog 47 #[v] w fun e w' => e = .returned (.tuple #[.pointer none, .int .i64 1]) ∧ St W R w' := by
  refine (refOf_row l v W w R hS).mono ?_
  rintro e w' (⟨h1, h2, h3⟩ | ⟨h1, h2, _⟩)
  · exact ⟨h2, h3.drop⟩
  · exact absurd h (not_refused h1 h2)
theorem refOf_yes {l : List Ord} (h : ¬ Refused l) (v : Value) (W w : World) (R : List HP) (hS : St W (pileR v l :: R) w) :
    Calls Tryz.prog 47 #[v] w fun e w' => ∃ xb vx, e = .returned (.tuple #[.pointer (some ⟨xb, 0, none⟩), .int .i64 0]) ∧ (l.length ≤ 32 ∧ OkTo l l.length) ∧ St W (blk xb [vx, .int .i64 (lastOf l l.length)] 68 :: pileR vx l :: R) w' := by
  refine (refOf_row l v W w R hS).mono ?_
  rintro e w' (⟨h1, _⟩ | ⟨h1, h2, xb, vx, h3, h4⟩)
  · exact absurd h1 h
  · exact ⟨xb, vx, h3, ⟨h1, h2⟩, h4.swap.take (.tail (.tail .head)) |>.drop.swap⟩
theorem end_no {s : RS} (h : isEnd s = false) : s ≠ some [] := by
  rintro rfl
  cases h
theorem end_yes {s : RS} (h : isEnd s = true) : s = some [] := by
  cases s with
  | none => cases h
  | some l =>
    cases l with
    | nil => rfl
    | cons x t => cases h
set_option maxRecDepth 100000 in
set_option maxHeartbeats 8000000 in
theorem decode_x (D : HP) (a : Option Addr) (c : Nat) (b : List Int) (hat : At D a c b) (hcap : b.length ≤ c ∧ c ≤ 9223372036854775807) (hb : ByB b) (hN : b.length ≤ 1000) (W w : World) (R R' : List HP) (ht : Take R D R') (hS : St W R w) :
    Calls Tryz.prog 11 #[.slice a b.length c] w fun e w' => (¬ DOk b ∧ e = .returned (.tuple #[.pointer none, .int .i64 3]) ∧ St W R w') ∨
      (DOk b ∧ ∃ xb xB v, e = .returned (.tuple #[.pointer (some ⟨xb, 0, none⟩), .int .i64 0]) ∧ St W (blk xb [v, .pointer (some ⟨xB, 0, none⟩), .int .i64 (dN b).1] 65 :: hdR v (dP b).1 :: xkP xB (dO b).1 (dN b).1 :: R) w') := by
  have hok : RdOk (some b) := ⟨fun l hl => by cases hl; exact hb, fun l hl => by cases hl; omega⟩
  have hsz : szR (rdNum (some b)).2 0 b.length := by
    cases hs : (rdNum (some b)).2 with
    | none => exact Nat.zero_le _
    | some r =>
      have := rdNum_len hok.b hs rfl
      show 0 + r.length ≤ b.length
      omega
  have Hv : RowKit.Hid (rdV D (.slice a b.length c) false (some b)) := Lib.hid ⟨rfl, a, c, rfl, hcap.1, hcap.2, hat⟩
  have Hok := Lib.hid hok
  have Hsz := Lib.hid hsz
  clear hok hsz
  go_enter Tryz.func11, Tryz.ntmps11
  go_wp2_with (first | go_big_skip | ((with_reducible apply wl_box hS); (with_reducible rfl); rfl; rfl; rfl; clear hS; intro rb w hS; (refine frS ?_)) | (go_at_call 16; refine (new8 W _ _ hS).mono ?_; clear hS; rintro e w ⟨xb, xB, rfl, hS0⟩; obtain ⟨xv, hS⟩ := xvOpen hS0; clear hS0; obtain ⟨xa, xc, rfl⟩ := hS.drop.rowVal) | (go_at_call 42; refine (purses_x D rb (some b) _ _ rfl Hok.out b.length (by omega) Hsz.out (dP b) rfl W _ _ _ (.tail (.tail (.tail ht))) (rdShut Hv.out (hS.sel (L' := blk rb _ _ :: blk xb _ _ :: hdR _ (hdL []) :: xkP xB [] 1 :: R) (by exact selS)))).mono ?_; clear hS; rintro e w ⟨pv, rfl, hpl, hpo, hS⟩; (have hv := hS.drop.rowVal; obtain ⟨pa, pc, rfl⟩ := hv); have Hpo := Lib.hid hpo; clear hpo) | (refine zs1 hS ?_; clear hS; intro w hS) | ((fail_if_success (have := mN2)); go_at_call 43; refine (num_x D rb (dP b).2 Hpo.out W _ _ _ (by (focus((repeat(first|exact ht | apply Take.tail)); done))) (hS.sel (L' := rdX D rb (dP b).2 :: blk xb _ _ :: hdR _ (dP b).1 :: R) (by exact selS))).mono ?_; clear hS; have mN2 : Nat := 0; rintro e w ⟨rfl, hS⟩))
  have hr := rdNum_rng (dP b).2
  have hT0 : ordD (rdNum (dP b).2).1.toNat [] (rdNum (dP b).2).2 = dO b := rfl
  have hok2 := Hpo.out.num
  generalize rdNum (dP b).2 = q at hS hr hT0 hok2 ⊢
  obtain ⟨n2, s2⟩ := q
  simp only at hS hr hT0 hok2
  obtain ⟨m, rfl⟩ : ∃ m : Nat, n2 = m := ⟨n2.toNat, by omega⟩
  have hm : m ≤ 4611686018427387904 := by omega
  have HT0 := Lib.hid hT0
  have Hok2 := Lib.hid hok2
  clear hr hT0 hok2
  have hS1 := (hS.rowNil (k := 6) (T := 41)).swap
  clear hS
  have hS := hS1
  clear hS1
  go_loopw [7, 8] (fun v7 v8 wr => OdR W D rb (blk xb [.slice pa (dP b).1.length pc, .pointer (some ⟨xB, 0, none⟩), .int .i64 1] 65 :: hdR (.slice pa (dP b).1.length pc) (dP b).1 :: R) m 100000000 (dO b) v7 v8 wr) (fun _ v8 _ => m - (intOf v8).toNat)
  case atStart => exact ⟨[], s2, rfl, Nat.zero_le _, Hok2.out, szR_all Hok2.out, HT0.out, hS⟩
  case round =>
    clear hS Hok2 HT0
    obtain ⟨l, s, rfl, hlm, hok2, hsz2, hT2, hS⟩ := hrel
    unfold pileR at hS
    obtain ⟨va, vc, rfl⟩ := hS.drop.rowVal
    have hS1 : St W (rdX D rb s :: pileR (.slice va l.length vc) l :: _) _ := hS
    clear hS
    have hS := hS1
    clear hS1
    have Hok2 := Lib.hid hok2
    have Hsz2 := Lib.hid hsz2
    have HT2 := Lib.hid hT2
    clear hok2 hsz2 hT2
    have hlN : l.length ≤ 100000001 := by
      have h1 := Hsz2.out
      cases s with
      | none => exact h1
      | some b2 => have h2 : l.length + b2.length ≤ 100000000 := h1; omega
    cases s with
    | none =>
      have hT3 := HT2.out
      rw [ordD_none] at hT3
      have hno : ¬ DOk b := by
        rintro ⟨h1, _⟩
        unfold dN at h1
        rw [← hT3] at h1
        cases h1
      obtain ⟨v1, e1, ⟨rfl, rfl⟩, hS1⟩ := rdOpen hS
      clear hS hT3
      have hS := hS1
      clear hS1
      have E9 := Lib.hid rdNum_none
      have Hno := Lib.hid hno
      clear hno
      by_cases hin : l.length = m
      · have hd1 : decide (l.length < m) = false := by simp; omega
        clear hin
        go_wp2_with (first | go_big_skip | (go_at_call 43; refine (num_xa E9.out rdOk_none W _ _ _ (by (focus((repeat(first|exact ht | apply Take.tail)); done))) (rdShut ⟨rfl, rfl⟩ hS)).mono ?_; clear hS; rintro e w ⟨rfl, hS⟩) | (go_at_call 46; refine (whole_x D rb _ W _ _ (hS.sel (L' := rdX D rb none :: R) (by exact selS))).mono ?_; clear hS; rintro e w ⟨rfl, hS⟩) | (refine zs1 hS ?_; clear hS; intro w hS))
        go_ret2
        exact .inl ⟨Hno.out, rfl, hS.drop⟩
      · have hlt : l.length < m := by omega
        go_wp2_with (first | go_big_skip | (refine zl1 hS ?_) | (go_at_call 43; refine (num_xa E9.out rdOk_none W _ _ _ (by (focus((repeat(first|exact ht | apply Take.tail)); done))) (rdShut ⟨rfl, rfl⟩ hS)).mono ?_; clear hS; rintro e w ⟨rfl, hS⟩) | (go_at_call 46; refine (whole_x D rb _ W _ _ (hS.sel (L' := rdX D rb none :: R) (by exact selS))).mono ?_; clear hS; rintro e w ⟨rfl, hS⟩) | (refine zs1 hS ?_; clear hS; intro w hS))
        go_ret2
        exact .inl ⟨Hno.out, rfl, hS.drop⟩
    | some b2 =>
      by_cases hin : l.length = m
      · have hT3 := HT2.out
        rw [hin, Nat.sub_self, ordD] at hT3
        obtain ⟨v1, e1, hv, hS1⟩ := rdOpen hS
        clear hS
        have hS := hS1
        clear hS1
        obtain ⟨a1, c1, rfl, rfl, Hv2⟩ := rdSome hv
        clear hv
        have hd1 : decide (l.length < m) = false := by simp; omega
        obtain ⟨⟨n, s9⟩, q9⟩ : ∃ y, rdNum (some b2) = y := ⟨_, rfl⟩
        have hdn : dN b = (n, s9) := by unfold dN; rw [← hT3]; exact q9
        have hdo : (dO b).1 = l := by rw [← hT3]
        have E9 := Lib.hid q9
        have Hdn := Lib.hid hdn
        have Hdo := Lib.hid hdo
        obtain ⟨la, hla⟩ : ∃ la, lastOf l l.length = la := ⟨_, rfl⟩
        have Hla := Lib.hid hla
        clear hT3 q9 hdn hdo hin hla
        cases he : isEnd s9 with
        | false =>
          have hno : ¬ DOk b := by
            rintro ⟨h1, _⟩
            rw [Hdn.out] at h1
            exact end_no he h1
          have Hno := Lib.hid hno
          have He := Lib.hid he
          clear hno he
          go_wp2_with (first | go_big_skip | (refine zl1 hS ?_) | (go_at_call 43; refine (num_xa E9.out Hok2.out W _ _ _ (by (focus((repeat(first|exact ht | apply Take.tail)); done))) (rdShut Hv2.out hS)).mono ?_; clear hS; rintro e w ⟨rfl, hS⟩) | (go_at_call 46; refine (whole_x D rb _ W _ _ (hS.sel (L' := rdX D rb s9 :: R) (by exact selS))).mono ?_; clear hS; rw [He.out]; rintro e w ⟨rfl, hS⟩) | (refine zs1 hS ?_; clear hS; intro w hS))
          go_ret2
          exact .inl ⟨Hno.out, rfl, hS.drop⟩
        | true =>
          obtain rfl := end_yes he
          clear he
          by_cases hR : Refused l
          · have HR := Lib.hid hR
            have hno : ¬ DOk b := by
              rintro ⟨_, h1⟩
              rw [Hdo.out] at h1
              exact not_refused h1.few h1.ok hR
            have Hno := Lib.hid hno
            clear hno hR
            go_wp2_with (first | go_big_skip | (refine zl1 hS ?_) | (go_at_call 43; refine (num_xa E9.out Hok2.out W _ _ _ (by (focus((repeat(first|exact ht | apply Take.tail)); done))) (rdShut Hv2.out hS)).mono ?_; clear hS; rintro e w ⟨rfl, hS⟩) | (go_at_call 46; refine (whole_x D rb _ W _ _ (hS.sel (L' := rdX D rb (some []) :: pileR _ l :: blk xb _ _ :: hdR _ _ :: R) (by exact selS))).mono ?_; clear hS; rintro e w ⟨rfl, hS⟩) | (refine zs1 hS ?_; clear hS; intro w hS) | (go_at_call 47; refine (refOf_no HR.out _ W _ _ (hS.sel (L' := pileR _ l :: blk xb _ _ :: hdR _ _ :: R) (by exact selS))).mono ?_; clear hS; rintro e w ⟨rfl, hS⟩))
            refine wp_region_reads (by kernel_rfl) (by kernel_rfl) hS ?_
            repeat (first | go_big_quiet_skip | (refine zq1 ?_) | (refine zqn ?_) | (refine wq_pure rfl rfl ?_; intro K hK; go_big_quiet_op; go_big_quiet_on))
            clear hS
            intro w hS
            go_wp2_with (first | go_big_skip)
            go_ret2
            exact .inl ⟨Hno.out, rfl, hS.drop.drop⟩
          · have HR := Lib.hid hR
            clear hR
            by_cases c1 : n ≤ la
            · have hd5 : decide (n ≤ la) = true := by simpa using c1
              go_wp2_with (first | go_big_skip | (refine zl1 hS ?_) | (go_at_call 43; refine (num_xa E9.out Hok2.out W _ _ _ (by (focus((repeat(first|exact ht | apply Take.tail)); done))) (rdShut Hv2.out hS)).mono ?_; clear hS; rintro e w ⟨rfl, hS⟩) | (go_at_call 46; refine (whole_x D rb _ W _ _ (hS.sel (L' := rdX D rb (some []) :: pileR _ l :: blk xb _ _ :: hdR _ _ :: R) (by exact selS))).mono ?_; clear hS; rintro e w ⟨rfl, hS⟩) | (refine zs1 hS ?_; clear hS; intro w hS) | (go_at_call 47; refine (refOf_yes HR.out _ W _ _ (hS.sel (L' := pileR _ l :: blk xb _ _ :: hdR _ _ :: R) (by exact selS))).mono ?_; clear hS; rintro e w ⟨xk, vx, rfl, hok9, hS⟩; rw [Hla.out] at hS; have Hok9 := Lib.hid hok9; clear hok9))
              refine wp_region_reads (by kernel_rfl) (by kernel_rfl) hS ?_
              repeat (first | go_big_quiet_skip | (refine zq1 ?_) | (refine zqn ?_) | (refine wq_pure rfl rfl ?_; intro K hK; go_big_quiet_op; go_big_quiet_on))
              clear hS
              intro w hS
              go_wp2_with (first | go_big_skip)
              go_ret2
              refine .inl ⟨?_, rfl, hS.drop.drop.drop.drop⟩
              rintro ⟨_, h1⟩
              rw [Hdn.out, Hdo.out] at h1
              have h2 := h1.last
              rw [Hla.out] at h2
              simp only at h2
              omega
            · have hd5 : decide (n ≤ la) = false := by simpa using c1
              by_cases c2 : n < 1
              · have hd6 : decide (n < 1) = true := by simpa using c2
                go_wp2_with (first | go_big_skip | (refine zl1 hS ?_) | (go_at_call 43; refine (num_xa E9.out Hok2.out W _ _ _ (by (focus((repeat(first|exact ht | apply Take.tail)); done))) (rdShut Hv2.out hS)).mono ?_; clear hS; rintro e w ⟨rfl, hS⟩) | (go_at_call 46; refine (whole_x D rb _ W _ _ (hS.sel (L' := rdX D rb (some []) :: pileR _ l :: blk xb _ _ :: hdR _ _ :: R) (by exact selS))).mono ?_; clear hS; rintro e w ⟨rfl, hS⟩) | (refine zs1 hS ?_; clear hS; intro w hS) | (go_at_call 47; refine (refOf_yes HR.out _ W _ _ (hS.sel (L' := pileR _ l :: blk xb _ _ :: hdR _ _ :: R) (by exact selS))).mono ?_; clear hS; rintro e w ⟨xk, vx, rfl, hok9, hS⟩; rw [Hla.out] at hS; have Hok9 := Lib.hid hok9; clear hok9))
                refine wp_region_reads (by kernel_rfl) (by kernel_rfl) hS ?_
                repeat (first | go_big_quiet_skip | (refine zq1 ?_) | (refine zqn ?_) | (refine wq_pure rfl rfl ?_; intro K hK; go_big_quiet_op; go_big_quiet_on))
                clear hS
                intro w hS
                go_wp2_with (first | go_big_skip)
                go_ret2
                refine .inl ⟨?_, rfl, hS.drop.drop.drop.drop⟩
                rintro ⟨_, h1⟩
                rw [Hdn.out, Hdo.out] at h1
                have h2 := h1.n0
                simp only at h2
                omega
              · have hd6 : decide (n < 1) = false := by simpa using c2
                by_cases c3 : 1099511627777 < n
                · have hd7 : decide (1099511627777 < n) = true := by simpa using c3
                  go_wp2_with (first | go_big_skip | (refine zl1 hS ?_) | (go_at_call 43; refine (num_xa E9.out Hok2.out W _ _ _ (by (focus((repeat(first|exact ht | apply Take.tail)); done))) (rdShut Hv2.out hS)).mono ?_; clear hS; rintro e w ⟨rfl, hS⟩) | (go_at_call 46; refine (whole_x D rb _ W _ _ (hS.sel (L' := rdX D rb (some []) :: pileR _ l :: blk xb _ _ :: hdR _ _ :: R) (by exact selS))).mono ?_; clear hS; rintro e w ⟨rfl, hS⟩) | (refine zs1 hS ?_; clear hS; intro w hS) | (go_at_call 47; refine (refOf_yes HR.out _ W _ _ (hS.sel (L' := pileR _ l :: blk xb _ _ :: hdR _ _ :: R) (by exact selS))).mono ?_; clear hS; rintro e w ⟨xk, vx, rfl, hok9, hS⟩; rw [Hla.out] at hS; have Hok9 := Lib.hid hok9; clear hok9))
                  refine wp_region_reads (by kernel_rfl) (by kernel_rfl) hS ?_
                  repeat (first | go_big_quiet_skip | (refine zq1 ?_) | (refine zqn ?_) | (refine wq_pure rfl rfl ?_; intro K hK; go_big_quiet_op; go_big_quiet_on))
                  clear hS
                  intro w hS
                  go_wp2_with (first | go_big_skip)
                  go_ret2
                  refine .inl ⟨?_, rfl, hS.drop.drop.drop.drop⟩
                  rintro ⟨_, h1⟩
                  rw [Hdn.out, Hdo.out] at h1
                  have h2 := h1.n1
                  simp only at h2
                  omega
                · have hd7 : decide (1099511627777 < n) = false := by simpa using c3
                  go_wp2_with (first | go_big_skip | (refine zl1 hS ?_) | (go_at_call 43; refine (num_xa E9.out Hok2.out W _ _ _ (by (focus((repeat(first|exact ht | apply Take.tail)); done))) (rdShut Hv2.out hS)).mono ?_; clear hS; rintro e w ⟨rfl, hS⟩) | (go_at_call 46; refine (whole_x D rb _ W _ _ (hS.sel (L' := rdX D rb (some []) :: pileR _ l :: blk xb _ _ :: hdR _ _ :: R) (by exact selS))).mono ?_; clear hS; rintro e w ⟨rfl, hS⟩) | (refine zs1 hS ?_; clear hS; intro w hS) | (go_at_call 47; refine (refOf_yes HR.out _ W _ _ (hS.sel (L' := pileR _ l :: blk xb _ _ :: hdR _ _ :: R) (by exact selS))).mono ?_; clear hS; rintro e w ⟨xk, vx, rfl, hok9, hS⟩; rw [Hla.out] at hS; have Hok9 := Lib.hid hok9; clear hok9))
                  refine wp_region_reads (by kernel_rfl) (by kernel_rfl) hS ?_
                  repeat (first | go_big_quiet_skip | (refine zq1 ?_) | (refine zqn ?_) | (refine wq_pure rfl rfl ?_; intro K hK; go_big_quiet_op; go_big_quiet_on))
                  clear hS
                  intro w hS
                  go_wp2_with (first | go_big_skip | (refine zs1 hS ?_; clear hS; intro w hS))
                  refine wp_region_tail 11 (by kernel_rfl) (by kernel_rfl) hS ?_
                  repeat (first | go_big_quiet_skip | (refine zq1 ?_) | (refine zqn ?_) | (refine wq_pure rfl rfl ?_; intro K hK; go_big_quiet_op; go_big_quiet_on))
                  clear hS
                  intro w hS
                  simp only [List.drop_succ_cons, List.drop_zero]
                  go_wp2_with (first | go_big_skip | (refine zs1 hS ?_; clear hS; intro w hS))
                  go_ret2
                  refine .inr ⟨⟨by rw [Hdn.out], ?_⟩, xb, xk, .slice pa (dP b).1.length pc, ?_, ?_⟩
                  · rw [Hdo.out, Hdn.out]
                    exact ⟨Hok9.out.1, Hok9.out.2, by rw [Hla.out]; simp only; omega, by simp only; omega, by simp only; omega⟩
                  · rfl
                  · rw [Hdo.out, Hdn.out]
                    exact (xkShut (n := n) (by omega) hS).sel (by exact selS)
      · have hlt : l.length < m := by omega
        obtain ⟨v1, e1, hv, hS1⟩ := rdOpen hS
        clear hS
        have hS := hS1
        clear hS1
        obtain ⟨a1, c1, rfl, rfl, Hv2⟩ := rdSome hv
        clear hv
        have hT3 := HT2.out
        have e3 : m - l.length = (m - (l.length + 1)) + 1 := by omega
        rw [e3, ordD] at hT3
        have k1 := Hok2.out.num
        have hq1 : rdO (some b2) = ⟨(rdNum (some b2)).1, bstr (rdBytes (rdNum (some b2)).2).1, decide ((rdIt (rdO1 (some b2))).x0 = 1), (rdIt (rdO1 (some b2))).x1, (rdIt (rdO1 (some b2))).x2, (rdIt (rdO1 (some b2))).x3⟩ := rfl
        obtain ⟨⟨oi, s1⟩, q1⟩ : ∃ y, rdNum (some b2) = y := ⟨_, rfl⟩
        obtain ⟨⟨x, s2⟩, q2⟩ : ∃ y, rdBytes s1 = y := ⟨_, rfl⟩
        obtain ⟨⟨y0, s3⟩, q3⟩ : ∃ y, rdNum s2 = y := ⟨_, rfl⟩
        obtain ⟨⟨y1, s4⟩, q4⟩ : ∃ y, rdNum s3 = y := ⟨_, rfl⟩
        obtain ⟨⟨y2, s5⟩, q5⟩ : ∃ y, rdNum s4 = y := ⟨_, rfl⟩
        obtain ⟨⟨y3, s6⟩, q6⟩ : ∃ y, rdNum s5 = y := ⟨_, rfl⟩
        obtain ⟨u, hu⟩ : ∃ u, bstr x = u := ⟨_, rfl⟩
        have o1 : rdO1 (some b2) = s2 := by unfold rdO1; rw [q1]; simp only; rw [q2]
        have o2 : rdIt s2 = ⟨y0, y1, y2, y3⟩ := by unfold rdIt; simp only [q3, q4, q5, q6]
        have o3 : rdOS (some b2) = s6 := by unfold rdOS rdItS; simp only [o1, q3, q4, q5, q6]
        have o4 : rdO (some b2) = ⟨oi, u, decide (y0 = 1), y1, y2, y3⟩ := by rw [hq1, o1, o2, q1]; simp only; rw [q2]; simp only; rw [hu]
        rw [o4, o1, o2, o3] at hT3
        simp only at hT3
        have k2 : RdOk s1 := by rw [q1] at k1; exact k1
        have k3 : RdOk s2 := by have := k2.bytes; rw [q2] at this; exact this
        have k4 : RdOk s3 := by have := k3.num; rw [q3] at this; exact this
        have k5 : RdOk s4 := by have := k4.num; rw [q4] at this; exact this
        have k6 : RdOk s5 := by have := k5.num; rw [q5] at this; exact this
        have k7 : RdOk s6 := by have := k6.num; rw [q6] at this; exact this
        have hok7 : RdOk (if y0 ≤ 1 ∧ l.length < 32 then s6 else none) := k7.cond _
        have hsz7 : szR (if y0 ≤ 1 ∧ l.length < 32 then s6 else none) (l.length + 1) 100000000 := by
          have h7 := szR_os Hok2.out Hsz2.out (y0 ≤ 1 ∧ l.length < 32)
          rw [o3] at h7
          exact h7
        obtain ⟨s7, h7⟩ : ∃ s7, (if y0 ≤ 1 ∧ l.length < 32 then s6 else none) = s7 := ⟨_, rfl⟩
        rw [h7] at hT3 hok7 hsz7
        have E1 := Lib.hid q1
        have E2 := Lib.hid q2
        have E3 := Lib.hid q3
        have E4 := Lib.hid q4
        have E5 := Lib.hid q5
        have E6 := Lib.hid q6
        have Hu := Lib.hid hu
        have K1 := Lib.hid k2
        have K2 := Lib.hid k3
        have K3 := Lib.hid k4
        have K4 := Lib.hid k5
        have K5 := Lib.hid k6
        have HT3 := Lib.hid hT3
        have H7 := Lib.hid h7
        have Hok7 := Lib.hid hok7
        have Hsz7 := Lib.hid hsz7
        clear q1 q2 q3 q4 q5 q6 hu k1 k2 k3 k4 k5 k6 k7 hT3 h7 hok7 hsz7 o1 o2 o3 o4 hq1 e3 hin
        by_cases hc1 : y0 ≤ 1
        · by_cases hc2 : l.length < 32
          · have h8 := H7.out
            rw [if_pos ⟨hc1, hc2⟩] at h8
            subst h8
            have hd2 : decide (1 < y0) = false := by simp; omega
            have hd3 : decide (32 ≤ l.length) = false := by simp; omega
            go_wp2_with (first | go_big_skip | (refine zl1 hS ?_) | ((fail_if_success (have := m3)); go_at_call 43; refine (num_xa E1.out Hok2.out W _ _ _ (by (focus((repeat(first|exact ht | apply Take.tail)); done))) (rdShut Hv2.out hS)).mono ?_; clear hS; have m3 : Nat := 0; rintro e w ⟨rfl, hS⟩) | (go_at_call 44; refine (bytes_xa E2.out K1.out W _ _ _ (by (focus((repeat(first|exact ht | apply Take.tail)); done))) hS).mono ?_; clear hS; rintro e w ⟨v, rfl, hS⟩) | ((with_reducible apply wl_bytesStrR (ns := x) hS); (with_reducible rfl); rfl; rfl; exact Tryz.underlying30; exact Tryz.underlying5; exact Tryz.underlying9; (exact takeS); (rw [Hu.out]); (refine frS ?_)) | ((with_reducible apply wl_alloc hS); (with_reducible rfl); rfl; (exact zsS); clear hS; intro bO w hS; (refine frS ?_)) | (refine zsN hS ?_; clear hS; intro w hS) | (refine zs1 hS ?_; clear hS; intro w hS) | ((have := m3); (fail_if_success (have := m4)); go_at_call 43; refine (num_xa E3.out K2.out W _ _ _ (by (focus((repeat(first|exact ht | apply Take.tail)); done))) (hS.sel (L' := rdX D rb _ :: blk bO _ _ :: pileR _ l :: blk xb _ _ :: hdR _ _ :: R) (by exact selS))).mono ?_; clear hS; have m4 : Nat := 0; rintro e w ⟨rfl, hS⟩) | ((have := m4); (fail_if_success (have := m5)); go_at_call 43; refine (num_xa E4.out K3.out W _ _ _ (by (focus((repeat(first|exact ht | apply Take.tail)); done))) (hS.sel (L' := rdX D rb _ :: blk bO _ _ :: pileR _ l :: blk xb _ _ :: hdR _ _ :: R) (by exact selS))).mono ?_; clear hS; have m5 : Nat := 0; rintro e w ⟨rfl, hS⟩) | ((have := m5); (fail_if_success (have := m6)); go_at_call 43; refine (num_xa E5.out K4.out W _ _ _ (by (focus((repeat(first|exact ht | apply Take.tail)); done))) (hS.sel (L' := rdX D rb _ :: blk bO _ _ :: pileR _ l :: blk xb _ _ :: hdR _ _ :: R) (by exact selS))).mono ?_; clear hS; have m6 : Nat := 0; rintro e w ⟨rfl, hS⟩) | ((have := m6); (fail_if_success (have := m7)); go_at_call 43; refine (num_xa E6.out K5.out W _ _ _ (by (focus((repeat(first|exact ht | apply Take.tail)); done))) (hS.sel (L' := rdX D rb _ :: blk bO _ _ :: pileR _ l :: blk xb _ _ :: hdR _ _ :: R) (by exact selS))).mono ?_; clear hS; have m7 : Nat := 0; rintro e w ⟨rfl, hS⟩) | (go_at_call 45; refine (bad_x D rb _ W _ _ (hS.sel (L' := rdX D rb s6 :: blk bO _ _ :: pileR _ l :: blk xb _ _ :: hdR _ _ :: R) (by exact selS))).mono ?_; clear hS; rintro e w ⟨rfl, hS⟩) | (refine zlN hS ?_) | (refine zbs hS ?_; clear hS; intro bS w hS) | ((with_reducible apply wl_append hS); (with_reducible rfl); rfl; rfl; rfl; (exact esS); (exact rsS); rfl; decide; (exact takeS); (exact Src.mk Cells.whole); (focus (try rfl)); rfl; (focus (unfold maxLen; omega)); (focus (omega)); clear hS; intro v w hS; (refine frS ?_)))
            have hS3 := hS.sel (L' := row v 6 41 (l.length + 1) _ :: rdX D rb s6 :: blk xb _ _ :: hdR _ _ :: R) (by exact selS)
            go_roundw
            case rel => exact ⟨l ++ [⟨oi, u, decide (y0 = 1), y1, y2, y3⟩], s6, by rw [List.length_append]; rfl, by rw [List.length_append]; exact hlt, Hok7.out, by rw [List.length_append]; exact Hsz7.out, by rw [List.length_append]; exact HT3.out, (ord_push hS3).swap⟩
            case measure => simp [intOf]; omega
          · have h8 := H7.out
            rw [if_neg (fun h => hc2 h.2)] at h8
            subst h8
            have hd2 : decide (1 < y0) = false := by simp; omega
            have hd3 : decide (32 ≤ l.length) = true := by simp; omega
            go_wp2_with (first | go_big_skip | (refine zl1 hS ?_) | ((fail_if_success (have := m3)); go_at_call 43; refine (num_xa E1.out Hok2.out W _ _ _ (by (focus((repeat(first|exact ht | apply Take.tail)); done))) (rdShut Hv2.out hS)).mono ?_; clear hS; have m3 : Nat := 0; rintro e w ⟨rfl, hS⟩) | (go_at_call 44; refine (bytes_xa E2.out K1.out W _ _ _ (by (focus((repeat(first|exact ht | apply Take.tail)); done))) hS).mono ?_; clear hS; rintro e w ⟨v, rfl, hS⟩) | ((with_reducible apply wl_bytesStrR (ns := x) hS); (with_reducible rfl); rfl; rfl; exact Tryz.underlying30; exact Tryz.underlying5; exact Tryz.underlying9; (exact takeS); (rw [Hu.out]); (refine frS ?_)) | ((with_reducible apply wl_alloc hS); (with_reducible rfl); rfl; (exact zsS); clear hS; intro bO w hS; (refine frS ?_)) | (refine zsN hS ?_; clear hS; intro w hS) | (refine zs1 hS ?_; clear hS; intro w hS) | ((have := m3); (fail_if_success (have := m4)); go_at_call 43; refine (num_xa E3.out K2.out W _ _ _ (by (focus((repeat(first|exact ht | apply Take.tail)); done))) (hS.sel (L' := rdX D rb _ :: blk bO _ _ :: pileR _ l :: blk xb _ _ :: hdR _ _ :: R) (by exact selS))).mono ?_; clear hS; have m4 : Nat := 0; rintro e w ⟨rfl, hS⟩) | ((have := m4); (fail_if_success (have := m5)); go_at_call 43; refine (num_xa E4.out K3.out W _ _ _ (by (focus((repeat(first|exact ht | apply Take.tail)); done))) (hS.sel (L' := rdX D rb _ :: blk bO _ _ :: pileR _ l :: blk xb _ _ :: hdR _ _ :: R) (by exact selS))).mono ?_; clear hS; have m5 : Nat := 0; rintro e w ⟨rfl, hS⟩) | ((have := m5); (fail_if_success (have := m6)); go_at_call 43; refine (num_xa E5.out K4.out W _ _ _ (by (focus((repeat(first|exact ht | apply Take.tail)); done))) (hS.sel (L' := rdX D rb _ :: blk bO _ _ :: pileR _ l :: blk xb _ _ :: hdR _ _ :: R) (by exact selS))).mono ?_; clear hS; have m6 : Nat := 0; rintro e w ⟨rfl, hS⟩) | ((have := m6); (fail_if_success (have := m7)); go_at_call 43; refine (num_xa E6.out K5.out W _ _ _ (by (focus((repeat(first|exact ht | apply Take.tail)); done))) (hS.sel (L' := rdX D rb _ :: blk bO _ _ :: pileR _ l :: blk xb _ _ :: hdR _ _ :: R) (by exact selS))).mono ?_; clear hS; have m7 : Nat := 0; rintro e w ⟨rfl, hS⟩) | (go_at_call 45; refine (bad_x D rb _ W _ _ (hS.sel (L' := rdX D rb s6 :: blk bO _ _ :: pileR _ l :: blk xb _ _ :: hdR _ _ :: R) (by exact selS))).mono ?_; clear hS; rintro e w ⟨rfl, hS⟩) | (refine zlN hS ?_) | (refine zbs hS ?_; clear hS; intro bS w hS) | ((with_reducible apply wl_append hS); (with_reducible rfl); rfl; rfl; rfl; (exact esS); (exact rsS); rfl; decide; (exact takeS); (exact Src.mk Cells.whole); (focus (try rfl)); rfl; (focus (unfold maxLen; omega)); (focus (omega)); clear hS; intro v w hS; (refine frS ?_)))
            have hS3 := hS.sel (L' := row v 6 41 (l.length + 1) _ :: rdX D rb none :: blk xb _ _ :: hdR _ _ :: R) (by exact selS)
            go_roundw
            case rel => exact ⟨l ++ [⟨oi, u, decide (y0 = 1), y1, y2, y3⟩], none, by rw [List.length_append]; rfl, by rw [List.length_append]; exact hlt, Hok7.out, by rw [List.length_append]; exact Hsz7.out, by rw [List.length_append]; exact HT3.out, (ord_push hS3).swap⟩
            case measure => simp [intOf]; omega
        · have h8 := H7.out
          rw [if_neg (fun h => hc1 h.1)] at h8
          subst h8
          have hd2 : decide (1 < y0) = true := by simp; omega
          go_wp2_with (first | go_big_skip | (refine zl1 hS ?_) | ((fail_if_success (have := m3)); go_at_call 43; refine (num_xa E1.out Hok2.out W _ _ _ (by (focus((repeat(first|exact ht | apply Take.tail)); done))) (rdShut Hv2.out hS)).mono ?_; clear hS; have m3 : Nat := 0; rintro e w ⟨rfl, hS⟩) | (go_at_call 44; refine (bytes_xa E2.out K1.out W _ _ _ (by (focus((repeat(first|exact ht | apply Take.tail)); done))) hS).mono ?_; clear hS; rintro e w ⟨v, rfl, hS⟩) | ((with_reducible apply wl_bytesStrR (ns := x) hS); (with_reducible rfl); rfl; rfl; exact Tryz.underlying30; exact Tryz.underlying5; exact Tryz.underlying9; (exact takeS); (rw [Hu.out]); (refine frS ?_)) | ((with_reducible apply wl_alloc hS); (with_reducible rfl); rfl; (exact zsS); clear hS; intro bO w hS; (refine frS ?_)) | (refine zsN hS ?_; clear hS; intro w hS) | (refine zs1 hS ?_; clear hS; intro w hS) | ((have := m3); (fail_if_success (have := m4)); go_at_call 43; refine (num_xa E3.out K2.out W _ _ _ (by (focus((repeat(first|exact ht | apply Take.tail)); done))) (hS.sel (L' := rdX D rb _ :: blk bO _ _ :: pileR _ l :: blk xb _ _ :: hdR _ _ :: R) (by exact selS))).mono ?_; clear hS; have m4 : Nat := 0; rintro e w ⟨rfl, hS⟩) | ((have := m4); (fail_if_success (have := m5)); go_at_call 43; refine (num_xa E4.out K3.out W _ _ _ (by (focus((repeat(first|exact ht | apply Take.tail)); done))) (hS.sel (L' := rdX D rb _ :: blk bO _ _ :: pileR _ l :: blk xb _ _ :: hdR _ _ :: R) (by exact selS))).mono ?_; clear hS; have m5 : Nat := 0; rintro e w ⟨rfl, hS⟩) | ((have := m5); (fail_if_success (have := m6)); go_at_call 43; refine (num_xa E5.out K4.out W _ _ _ (by (focus((repeat(first|exact ht | apply Take.tail)); done))) (hS.sel (L' := rdX D rb _ :: blk bO _ _ :: pileR _ l :: blk xb _ _ :: hdR _ _ :: R) (by exact selS))).mono ?_; clear hS; have m6 : Nat := 0; rintro e w ⟨rfl, hS⟩) | ((have := m6); (fail_if_success (have := m7)); go_at_call 43; refine (num_xa E6.out K5.out W _ _ _ (by (focus((repeat(first|exact ht | apply Take.tail)); done))) (hS.sel (L' := rdX D rb _ :: blk bO _ _ :: pileR _ l :: blk xb _ _ :: hdR _ _ :: R) (by exact selS))).mono ?_; clear hS; have m7 : Nat := 0; rintro e w ⟨rfl, hS⟩) | (go_at_call 45; refine (bad_x D rb _ W _ _ (hS.sel (L' := rdX D rb s6 :: blk bO _ _ :: pileR _ l :: blk xb _ _ :: hdR _ _ :: R) (by exact selS))).mono ?_; clear hS; rintro e w ⟨rfl, hS⟩) | (refine zlN hS ?_) | (refine zbs hS ?_; clear hS; intro bS w hS) | ((with_reducible apply wl_append hS); (with_reducible rfl); rfl; rfl; rfl; (exact esS); (exact rsS); rfl; decide; (exact takeS); (exact Src.mk Cells.whole); (focus (try rfl)); rfl; (focus (unfold maxLen; omega)); (focus (omega)); clear hS; intro v w hS; (refine frS ?_)))
          have hS3 := hS.sel (L' := row v 6 41 (l.length + 1) _ :: rdX D rb none :: blk xb _ _ :: hdR _ _ :: R) (by exact selS)
          go_roundw
          case rel => exact ⟨l ++ [⟨oi, u, decide (y0 = 1), y1, y2, y3⟩], none, by rw [List.length_append]; rfl, by rw [List.length_append]; exact hlt, Hok7.out, by rw [List.length_append]; exact Hsz7.out, by rw [List.length_append]; exact HT3.out, (ord_push hS3).swap⟩
          case measure => simp [intOf]; omega
end Go.Proofs.YtbcokphjpllbiaaGreat
end
section
set_option linter.unusedSimpArgs false
set_option linter.unusedVariables false
namespace Go.Sl
open Go.RowKit
section
variable {P : Program} {ops : Array Oper} {Q : Exit → Act → World → Prop} {a : Act} {w : World} {W : World} {L R : List HP} {rest : List Oper} {o : Oper}
/-- A string out of an empty slice, wherever it stands. -/
theorem wl_bytesStr0 {src dst e : TypeId} {x : Operand} {p : Option Addr} {c : Nat} (ho : o.op = .convert src dst x) (hg : Region.wanted o (yielded ops a.tmps) = true) (hx : a.eval x = .slice p 0 c)
    (hp : p = none → c = 0) (hs : P.underlying src = some (.slice e)) (he : P.underlying e = some (.int .u8)) (hd : P.underlying dst = some .string)
    (h : wpList P ops Q rest (a.put o.dst (.string (bstr []))) w) : wpList P ops Q (o :: rest) a w := by
  refine wpList_run hg (v := .string (bstr [])) (w' := w) ?_ h
  cases p with
  | none =>
    obtain rfl := hp rfl
    unfold execOp
    simp [ho, hx, run_convert_bytes_string w src dst e none 0 0 hs he hd, Conv.bytesToString, bstr, Sem.run_pure]
  | some p =>
    have h1 : (loadCells p 0).run P w = .ok (([] : List Int).map (Value.int .u8)).toArray w := by simp [loadCells, loadCellsFrom]
    have h2 := run_bytesToString (P := P) w p 0 c [] h1
    unfold execOp
    simp [ho, hx, run_convert_bytes_string w src dst e (some p) 0 c hs he hd, h2, bstr]
theorem wl_bytesStrC {src dst e : TypeId} {x : Operand} {b off n c : Nat} {ns : List Int} (hS : St W L w) (ho : o.op = .convert src dst x) (hg : Region.wanted o (yielded ops a.tmps) = true) (hx : a.eval x = .slice (some ⟨b, off, none⟩) n c)
    (hs : P.underlying src = some (.slice e)) (he : P.underlying e = some (.int .u8)) (hd : P.underlying dst = some .string) (hc : Cells L b off (ns.map (Value.int .u8))) (hn : n = ns.length)
    (h : wpList P ops Q rest (a.put o.dst (.string (bstr ns))) w) : wpList P ops Q (o :: rest) a w := by
  refine wpList_run hg (v := .string (bstr ns)) (w' := w) ?_ h
  have h1 := run_loadCells_list (P := P) w ⟨b, off, none⟩ (ns.map (Value.int .u8)) (fun j v hj => by rw [Addr.add_lit]; exact hc j v hj W w hS)
  rw [List.length_map, ← hn] at h1
  have h2 := run_bytesToString (P := P) w ⟨b, off, none⟩ n c ns h1
  unfold execOp
  simp [ho, hx, run_convert_bytes_string w src dst e (some ⟨b, off, none⟩) n c hs he hd, h2, bstr]
end
end Go.Sl
namespace Go.Proofs.YtbcokphjpllbiaaGreat
open Go.RowKit Go.Sl
section
variable {D : HP} {rb bI bS bB bO c : Nat} {s : RS} {W w : World} {R R' : List HP}
theorem items_g (h : RdOk s) (ht : Take R D R') (hS : St W (rdG D rb s :: blk bI [.int .i64 0, .int .i64 0, .int .i64 0, .int .i64 0] 39 :: blk bS [.pointer (some ⟨bI, 0, none⟩), .pointer (some ⟨bI, 1, none⟩), .pointer (some ⟨bI, 2, none⟩), .pointer (some ⟨bI, 3, none⟩)] 73 :: R) w) :
    Calls Tryz.prog 35 #[.pointer (some ⟨rb, 0, none⟩), .slice (some ⟨bS, 0, none⟩) 4 c] w fun e w' => e = .returned (.tuple #[]) ∧ St W (rdG D rb (rdItS s) :: blk bI [.int .i64 (rdIt s).x0, .int .i64 (rdIt s).x1, .int .i64 (rdIt s).x2, .int .i64 (rdIt s).x3] 39 :: R) w' := by
  refine (nums_r D rb s h [(bI, 0), (bI, 1), (bI, 2), (bI, 3)] (by simp) bS c (fun xs => blk bI [.int .i64 (xs.getD 0 0), .int .i64 (xs.getD 1 0), .int .i64 (xs.getD 2 0), .int .i64 (xs.getD 3 0)] 39 :: blk bS [.pointer (some ⟨bI, 0, none⟩), .pointer (some ⟨bI, 1, none⟩), .pointer (some ⟨bI, 2, none⟩), .pointer (some ⟨bI, 3, none⟩)] 73 :: R) ⟨?_, fun xs => ⟨_, .tail (.tail ht)⟩⟩ ?_ W w hS).mono ?_
  · intro xs x hx
    match xs, hx with
    | [], _ => exact ⟨_, _, by simp, by simp, .head⟩
    | [_], _ => exact ⟨_, _, by simp, by simp, .head⟩
    | [_, _], _ => exact ⟨_, _, by simp, by simp, .head⟩
    | [_, _, _], _ => exact ⟨_, _, by simp, by simp, .head⟩
    | _ :: _ :: _ :: _ :: _, hx => simp at hx; omega
  · intro xs i hi
    match i, hi with
    | 0, _ => exact .there (.here rfl)
    | 1, _ => exact .there (.here rfl)
    | 2, _ => exact .there (.here rfl)
    | 3, _ => exact .there (.here rfl)
    | i + 4, hi => simp at hi; omega
  · rintro e w' ⟨rfl, hS⟩
    have hS2 : St W (rdG D rb (rdItS s) :: blk bI [.int .i64 (rdIt s).x0, .int .i64 (rdIt s).x1, .int .i64 (rdIt s).x2, .int .i64 (rdIt s).x3] 39 :: blk bS _ _ :: R) w' := hS
    exact ⟨rfl, hS2.sel (by exact selS)⟩
theorem id_g (h : RdOk s) (ht : Take R D R') (hS : St W (rdG D rb s :: blk bO [.int .i64 0, .string ⟨#[]⟩, .bool false, .int .i64 0, .int .i64 0, .int .i64 0] 41 :: blk bS [.pointer (some ⟨bO, 0, none⟩)] 73 :: R) w) :
    Calls Tryz.prog 35 #[.pointer (some ⟨rb, 0, none⟩), .slice (some ⟨bS, 0, none⟩) 1 c] w fun e w' => e = .returned (.tuple #[]) ∧ St W (rdG D rb (rdNum s).2 :: blk bO [.int .i64 (rdNum s).1, .string ⟨#[]⟩, .bool false, .int .i64 0, .int .i64 0, .int .i64 0] 41 :: R) w' := by
  refine (nums_r D rb s h [(bO, 0)] (by simp) bS c (fun xs => blk bO [.int .i64 (xs.getD 0 0), .string ⟨#[]⟩, .bool false, .int .i64 0, .int .i64 0, .int .i64 0] 41 :: blk bS [.pointer (some ⟨bO, 0, none⟩)] 73 :: R) ⟨?_, fun xs => ⟨_, .tail (.tail ht)⟩⟩ ?_ W w hS).mono ?_
  · intro xs x hx
    match xs, hx with
    | [], _ => exact ⟨_, _, by simp, by simp, .head⟩
    | _ :: _, hx => simp at hx
  · intro xs i hi
    match i, hi with
    | 0, _ => exact .there (.here rfl)
    | i + 1, hi => simp at hi
  · rintro e w' ⟨rfl, hS⟩
    have hS2 : St W (rdG D rb (rdNum s).2 :: blk bO [.int .i64 (rdNum s).1, .string ⟨#[]⟩, .bool false, .int .i64 0, .int .i64 0, .int .i64 0] 41 :: blk bS _ _ :: R) w' := hS
    exact ⟨rfl, hS2.sel (by exact selS)⟩
theorem four_g {oi : Int} {ou : ByteArray} (h : RdOk s) (ht : Take R D R') (hS : St W (rdG D rb s :: blk bB [.int .i64 0] 3 :: blk bO [.int .i64 oi, .string ou, .bool false, .int .i64 0, .int .i64 0, .int .i64 0] 41 :: blk bS [.pointer (some ⟨bB, 0, none⟩), .pointer (some ⟨bO, 3, none⟩), .pointer (some ⟨bO, 4, none⟩), .pointer (some ⟨bO, 5, none⟩)] 73 :: R) w) :
    Calls Tryz.prog 35 #[.pointer (some ⟨rb, 0, none⟩), .slice (some ⟨bS, 0, none⟩) 4 c] w fun e w' => e = .returned (.tuple #[]) ∧ St W (rdG D rb (rdItS s) :: blk bB [.int .i64 (rdIt s).x0] 3 :: blk bO [.int .i64 oi, .string ou, .bool false, .int .i64 (rdIt s).x1, .int .i64 (rdIt s).x2, .int .i64 (rdIt s).x3] 41 :: R) w' := by
  refine (nums_r D rb s h [(bB, 0), (bO, 3), (bO, 4), (bO, 5)] (by simp) bS c (fun xs => blk bB [.int .i64 (xs.getD 0 0)] 3 :: blk bO [.int .i64 oi, .string ou, .bool false, .int .i64 (xs.getD 1 0), .int .i64 (xs.getD 2 0), .int .i64 (xs.getD 3 0)] 41 :: blk bS [.pointer (some ⟨bB, 0, none⟩), .pointer (some ⟨bO, 3, none⟩), .pointer (some ⟨bO, 4, none⟩), .pointer (some ⟨bO, 5, none⟩)] 73 :: R) ⟨?_, fun xs => ⟨_, .tail (.tail (.tail ht))⟩⟩ ?_ W w hS).mono ?_
  · intro xs x hx
    match xs, hx with
    | [], _ => exact ⟨_, _, by simp, by simp, .head⟩
    | [_], _ => exact ⟨_, _, by simp, by simp, .tail .head⟩
    | [_, _], _ => exact ⟨_, _, by simp, by simp, .tail .head⟩
    | [_, _, _], _ => exact ⟨_, _, by simp, by simp, .tail .head⟩
    | _ :: _ :: _ :: _ :: _, hx => simp at hx; omega
  · intro xs i hi
    match i, hi with
    | 0, _ => exact .there (.there (.here rfl))
    | 1, _ => exact .there (.there (.here rfl))
    | 2, _ => exact .there (.there (.here rfl))
    | 3, _ => exact .there (.there (.here rfl))
    | i + 4, hi => simp at hi; omega
  · rintro e w' ⟨rfl, hS⟩
    have hS2 : St W (rdG D rb (rdItS s) :: blk bB [.int .i64 (rdIt s).x0] 3 :: blk bO [.int .i64 oi, .string ou, .bool false, .int .i64 (rdIt s).x1, .int .i64 (rdIt s).x2, .int .i64 (rdIt s).x3] 41 :: blk bS _ _ :: R) w' := hS
    exact ⟨rfl, hS2.sel (by exact selS)⟩
end
set_option maxRecDepth 100000 in
theorem equal_g (D : HP) (a : Option Addr) (c : Nat) (b xs : List Int) (v : Value) (hat : At D a c b) {r : Bool} (hr : ((bstr xs).toList == (bstr b).toList) = r) (W w : World) (R R' R2 : List HP) (ht : Take R D R') (hx : Take R (byR v xs) R2) (hS : St W R w) :
    Calls Tryz.prog 41 #[v, .slice a b.length c] w fun e w' => e = .returned (.bool r) ∧ St W R w' := by
  subst hr
  rcases hat with ⟨rfl, rfl, rfl⟩ | ⟨rfl, p, rfl⟩ | ⟨g, off, rfl, hD⟩
  · go_enter Tryz.func41, Tryz.ntmps41
    go_wp2_with (first | go_big_skip | ((with_reducible apply wl_bytesStr0); (with_reducible rfl); rfl; rfl; (first | (intro _; rfl) | (intro h; cases h)); exact Tryz.underlying30; exact Tryz.underlying5; exact Tryz.underlying9; (refine frS ?_)) | ((with_reducible apply wl_bytesStrR (ns := xs) hS); (with_reducible rfl); rfl; rfl; exact Tryz.underlying30; exact Tryz.underlying5; exact Tryz.underlying9; (exact hx); (refine frS ?_)))
    go_ret
    exact ⟨rfl, hS⟩
  · go_enter Tryz.func41, Tryz.ntmps41
    go_wp2_with (first | go_big_skip | ((with_reducible apply wl_bytesStr0); (with_reducible rfl); rfl; rfl; (first | (intro _; rfl) | (intro h; cases h)); exact Tryz.underlying30; exact Tryz.underlying5; exact Tryz.underlying9; (refine frS ?_)) | ((with_reducible apply wl_bytesStrR (ns := xs) hS); (with_reducible rfl); rfl; rfl; exact Tryz.underlying30; exact Tryz.underlying5; exact Tryz.underlying9; (exact hx); (refine frS ?_)))
    go_ret
    exact ⟨rfl, hS⟩
  · go_enter Tryz.func41, Tryz.ntmps41
    go_wp2_with (first | go_big_skip | ((with_reducible apply wl_bytesStrC (ns := b) hS); (with_reducible rfl); rfl; rfl; exact Tryz.underlying30; exact Tryz.underlying5; exact Tryz.underlying9; (exact hD _ _ ht); (exact rfl); (refine frS ?_)) | ((with_reducible apply wl_bytesStrR (ns := xs) hS); (with_reducible rfl); rfl; rfl; exact Tryz.underlying30; exact Tryz.underlying5; exact Tryz.underlying9; (exact hx); (refine frS ?_)))
    go_ret
    exact ⟨rfl, hS⟩
end Go.Proofs.YtbcokphjpllbiaaGreat
end
