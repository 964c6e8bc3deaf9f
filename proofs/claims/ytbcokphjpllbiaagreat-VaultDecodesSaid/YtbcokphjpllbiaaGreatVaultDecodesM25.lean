/-
  The document's Reader: bytes, numbers, rows of bytes. For all of them.
  The document's Reader: a number. For all of them.
-/
import Derived.Test.YtbcokphjpllbiaaGreatVaultDecodesM5
import Derived.Test.YtbcokphjpllbiaaGreatVaultDecodesM24

section
set_option linter.unusedSimpArgs false
set_option linter.unusedVariables false
namespace Go.Proofs.YtbcokphjpllbiaaGreat
open Go.RowKit Go.Sl
abbrev rdX := rdR 86
set_option maxRecDepth 100000 in
theorem bad_x (D : HP) (rb : Nat) (s : RS) (W w : World) (R : List HP) (hS : St W (rdX D rb s :: R) w) :
    Calls Tryz.prog 45 #[.pointer (some ⟨rb, 0, none⟩)] w fun e w' => e = .returned (.tuple #[]) ∧ St W (rdX D rb none :: R) w' := by
  obtain ⟨v0, e0, hv, hS1⟩ := rdOpen hS
  clear hS
  have hS := hS1
  clear hS1
  go_enter Tryz.func45, Tryz.ntmps45
  go_wp2_with (first | go_big_skip | (refine zs1 hS ?_; clear hS; intro w hS))
  go_end0
  exact ⟨rfl, rdShut ⟨rfl, rfl⟩ hS⟩
set_option maxRecDepth 100000 in
theorem whole_x (D : HP) (rb : Nat) (s : RS) (W w : World) (R : List HP) (hS : St W (rdX D rb s :: R) w) :
    Calls Tryz.prog 46 #[.pointer (some ⟨rb, 0, none⟩)] w fun e w' => e = .returned (.bool (isEnd s)) ∧ St W (rdX D rb s :: R) w' := by
  cases s with
  | none =>
    obtain ⟨v0, e0, ⟨rfl, rfl⟩, hS⟩ := rdOpen hS
    go_enter Tryz.func46, Tryz.ntmps46
    go_wp2_with (first | go_big_skip | (refine zl1 hS ?_))
    go_ret
    exact ⟨rfl, rdShut ⟨rfl, rfl⟩ hS⟩
  | some l =>
    obtain ⟨v0, e0, hv, hS1⟩ := rdOpen hS
    clear hS
    have hS := hS1
    clear hS1
    obtain ⟨a0, c0, rfl, rfl, Hv⟩ := rdSome hv
    clear hv
    cases l with
    | nil =>
      go_enter Tryz.func46, Tryz.ntmps46
      go_wp2_with (first | go_big_skip | (refine zl1 hS ?_))
      go_ret
      exact ⟨rfl, rdShut Hv.out hS⟩
    | cons x t =>
      have h0 : decide (((x :: t).length : Int) = 0) = false := by simp; omega
      go_enter Tryz.func46, Tryz.ntmps46
      go_wp2_with (first | go_big_skip | (refine zl1 hS ?_))
      go_ret
      refine ⟨?_, rdShut Hv.out hS⟩
      simp [isEnd]
      try omega
theorem byR_app0 {W w : World} {v : Value} {l : List Int} {R : List HP} {n : Nat} (hn : n = l.length) (h : St W (row v 1 5 (0 + n) ([] ++ u8s l) :: R) w) : St W (byR v l :: R) w := by
  subst hn
  rw [List.nil_append, Nat.zero_add] at h
  exact h
theorem row_0 {W w : World} {a : Option Addr} {c m : Nat} {cs : List Value} {T : TypeId} {R : List HP} (h : St W (row (.slice a (0 + m) c) 1 T (0 + m) ([] ++ cs) :: R) w) : St W (row (.slice a m c) 1 T m cs :: R) w := by
  rw [List.nil_append, Nat.zero_add] at h
  exact h
set_option maxRecDepth 100000 in
set_option maxHeartbeats 4000000 in
theorem raw_x (D : HP) (rb : Nat) (s : RS) (n : Int) (hn : -9223372036854775808 ≤ n ∧ n ≤ 9223372036854775807) (hl : ∀ l, s = some l → l.length ≤ 100000000) (W w : World) (R R' : List HP) (ht : Take R D R') (hS : St W (rdX D rb s :: R) w) :
    Calls Tryz.prog 87 #[.pointer (some ⟨rb, 0, none⟩), .int .i64 n] w fun e w' => ∃ v, e = .returned v ∧ St W (byR v (rdRaw n s).1 :: rdX D rb (rdRaw n s).2 :: R) w' := by
  cases s with
  | none =>
    rw [rdRaw_none]
    obtain ⟨v0, e0, hv, hS1⟩ := rdOpen hS
    clear hS hl
    obtain ⟨rfl, rfl⟩ := hv
    have hS := hS1
    clear hS1
    by_cases hlo : n < 0
    · go_enter Tryz.func87, Tryz.ntmps87
      go_wp2_with (first | go_big_skip | (refine zl1 hS ?_) | (go_at_call 45; refine (bad_x D rb none W _ _ (rdShut ⟨rfl, rfl⟩ hS)).mono ?_; clear hS; rintro e w ⟨rfl, hS1⟩; obtain ⟨v1, e1, ⟨rfl, rfl⟩, hS⟩ := rdOpen hS1; clear hS1))
      go_ret
      exact ⟨_, rfl, St.rowNil (rdShut ⟨rfl, rfl⟩ hS)⟩
    · by_cases hhi : 0 < n
      · go_enter Tryz.func87, Tryz.ntmps87
        go_wp2_with (first | go_big_skip | (refine zl1 hS ?_) | (go_at_call 45; refine (bad_x D rb none W _ _ (rdShut ⟨rfl, rfl⟩ hS)).mono ?_; clear hS; rintro e w ⟨rfl, hS1⟩; obtain ⟨v1, e1, ⟨rfl, rfl⟩, hS⟩ := rdOpen hS1; clear hS1))
        go_ret
        exact ⟨_, rfl, St.rowNil (rdShut ⟨rfl, rfl⟩ hS)⟩
      · obtain rfl : n = 0 := by omega
        clear hlo hhi hn
        go_enter Tryz.func87, Tryz.ntmps87
        go_wp2_with (first | go_big_skip | (refine zl1 hS ?_) | (go_at_call 45; refine (bad_x D rb none W _ _ (rdShut ⟨rfl, rfl⟩ hS)).mono ?_; clear hS; rintro e w ⟨rfl, hS1⟩; obtain ⟨v1, e1, ⟨rfl, rfl⟩, hS⟩ := rdOpen hS1; clear hS1))
        go_ret
        exact ⟨_, rfl, St.rowNil (rdShut ⟨rfl, rfl⟩ hS)⟩
  | some l =>
    have hll := hl l rfl
    clear hl
    obtain ⟨v0, e0, hv, hS1⟩ := rdOpen hS
    clear hS
    have hS := hS1
    clear hS1
    obtain ⟨a0, c0, rfl, rfl, Hv⟩ := rdSome hv
    clear hv
    by_cases hlo : n < 0
    · rw [rawN (by omega)]
      go_enter Tryz.func87, Tryz.ntmps87
      go_wp2_with (first | go_big_skip | (refine zl1 hS ?_) | (go_at_call 45; refine (bad_x D rb (some l) W _ _ (rdShut Hv.out hS)).mono ?_; clear hS; rintro e w ⟨rfl, hS1⟩; obtain ⟨v1, e1, ⟨rfl, rfl⟩, hS⟩ := rdOpen hS1; clear hS1))
      go_ret
      exact ⟨_, rfl, St.rowNil (rdShut ⟨rfl, rfl⟩ hS)⟩
    · obtain ⟨m, rfl⟩ : ∃ m : Nat, n = m := ⟨n.toNat, by omega⟩
      by_cases hhi : m ≤ l.length
      · rw [rawY hhi]
        have hsl := rdV_at Hv.out
        obtain ⟨hcl, hcm⟩ := rdV_cap Hv.out
        have hmc : m ≤ c0 := by omega
        have hd : decide ((l.length : Int) < (m : Int)) = false := by simp; omega
        rcases hsl with ⟨rfl, rfl, rfl⟩ | ⟨rfl, p, rfl⟩ | ⟨g, off, rfl, hD⟩
        · obtain rfl : m = 0 := by simpa using hhi
          go_enter Tryz.func87, Tryz.ntmps87
          go_wp2_with (first | go_big_skip | (refine zl1 hS ?_) | ((with_reducible apply wl_bsR (n := 0) hS); (with_reducible rfl); rfl; (focus (simp only [fD, List.map_cons, List.map_nil, Act.eval, fE, fF, fG, fH, Option.getD_some]; try rfl)); (exact esS); (exact rsS); rfl; rfl; rfl; rfl; rfl; decide; clear hS; intro bv w hS; (refine frS ?_)) | ((with_reducible apply wl_append hS); (with_reducible rfl); rfl; rfl; rfl; (exact esS); (exact rsS); rfl; decide; (exact takeS); exact .inl ⟨rfl, rfl, rfl⟩; (focus (rfl)); (first | exact u8_one _ | rfl); (focus (unfold maxLen; omega)); (focus (omega)); clear hS; intro v w hS; (have hv := hS.rowVal; obtain ⟨va, vc, rfl⟩ := hv); (refine frS ?_)) | (refine zs1 hS ?_; clear hS; intro w hS))
          go_ret
          exact ⟨_, rfl, St.swap (rdShut Hv.out (byR_app0 (l := []) rfl hS).swap)⟩
        · obtain rfl : m = 0 := by simpa using hhi
          by_cases hc0 : c0 = 0
          · subst hc0
            go_enter Tryz.func87, Tryz.ntmps87
            go_wp2_with (first | go_big_skip | (refine zl1 hS ?_) | ((with_reducible apply wl_bsR (n := 0) hS); (with_reducible rfl); rfl; (focus (simp only [fD, List.map_cons, List.map_nil, Act.eval, fE, fF, fG, fH, Option.getD_some]; try rfl)); (exact esS); (exact rsS); rfl; rfl; rfl; rfl; rfl; decide; clear hS; intro bv w hS; (refine frS ?_)) | ((with_reducible apply wl_append0 hS); (with_reducible rfl); rfl; rfl; rfl; (exact esS); (exact rsS); (exact takeS); (refine frS ?_)) | (refine zs1 hS ?_; clear hS; intro w hS))
            go_ret
            exact ⟨_, rfl, St.swap (rdShut Hv.out hS.swap)⟩
          · go_enter Tryz.func87, Tryz.ntmps87
            go_wp2_with (first | go_big_skip | (refine zl1 hS ?_) | ((with_reducible apply wl_bsR (n := 0) hS); (with_reducible rfl); rfl; (focus (simp only [fD, List.map_cons, List.map_nil, Act.eval, fE, fF, fG, fH, Option.getD_some]; try rfl)); (exact esS); (exact rsS); rfl; rfl; rfl; rfl; rfl; decide; clear hS; intro bv w hS; (refine frS ?_)) | ((with_reducible apply wl_append0 hS); (with_reducible rfl); rfl; rfl; rfl; (exact esS); (exact rsS); (exact takeS); (refine frS ?_)) | (refine zs1 hS ?_; clear hS; intro w hS))
            go_ret
            exact ⟨_, rfl, St.swap (rdShut (v := .slice (some _) 0 c0) ⟨rfl, _, c0, rfl, Nat.zero_le _, hcm, .inr (.inl ⟨rfl, _, rfl⟩)⟩ hS.swap)⟩
        · have hD1 := hD.take m
          have hlm : (l.take m).length = m := by rw [List.length_take]; omega
          have hsrc : Src R (.slice (some ⟨g, off, none⟩) m c0) m (u8s (l.take m)) := Src.mk (hD1 _ _ ht)
          go_enter Tryz.func87, Tryz.ntmps87
          go_wp2_with (first | go_big_skip | (refine zl1 hS ?_) | ((with_reducible apply wl_bsR (n := 0) hS); (with_reducible rfl); rfl; (focus (simp only [fD, List.map_cons, List.map_nil, Act.eval, fE, fF, fG, fH, Option.getD_some]; try rfl)); (exact esS); (exact rsS); rfl; rfl; rfl; rfl; rfl; decide; clear hS; intro bv w hS; (refine frS ?_)) | ((with_reducible apply wl_append hS); (with_reducible rfl); rfl; rfl; rfl; (exact esS); (exact rsS); rfl; decide; (exact takeS); exact hsrc.there.there; (focus (rw [u8s_len, Nat.mul_one, hlm])); (first | exact u8_one _ | rfl); (focus (unfold maxLen; omega)); (focus (omega)); clear hS; intro v w hS; (have hv := hS.rowVal; obtain ⟨va, vc, rfl⟩ := hv); (refine frS ?_)) | (refine zs1 hS ?_; clear hS; intro w hS))
          all_goals go_ret
          all_goals exact ⟨_, rfl, St.swap (rdShut (rdV_drop hD hhi hcl hcm) (byR_of hlm (row_0 (show St W (row (.slice va (0 + m) vc) 1 _ (0 + m) ([] ++ u8s (l.take m)) :: _) w from hS))).swap)⟩
      · rw [rawN (by omega)]
        have hd : decide ((l.length : Int) < (m : Int)) = true := by simp; omega
        go_enter Tryz.func87, Tryz.ntmps87
        go_wp2_with (first | go_big_skip | (refine zl1 hS ?_) | (go_at_call 45; refine (bad_x D rb (some l) W _ _ (rdShut Hv.out hS)).mono ?_; clear hS; rintro e w ⟨rfl, hS1⟩; obtain ⟨v1, e1, ⟨rfl, rfl⟩, hS⟩ := rdOpen hS1; clear hS1))
        go_ret
        exact ⟨_, rfl, St.rowNil (rdShut ⟨rfl, rfl⟩ hS)⟩
end Go.Proofs.YtbcokphjpllbiaaGreat
end
section
set_option linter.unusedSimpArgs false
set_option linter.unusedVariables false
namespace Go.Proofs.YtbcokphjpllbiaaGreat
open Go.RowKit Go.Sl
def NxR (W : World) (D : HP) (rb : Nat) (L : List HP) (l : List Int) (v3 v4 : Value) (w : World) : Prop :=
  ∃ (k u : Nat), v3 = .int .u64 u ∧ v4 = .int .i64 k ∧ k ≤ l.length ∧ k ≤ 9 ∧ u < 2 ^ (7 * k) ∧ numD l = stepN k u (l.drop k) ∧ St W (rdX D rb (some (l.drop k)) :: L) w
theorem rdRaw_1 (x : Int) (t : List Int) : rdRaw 1 (some (x :: t)) = ([x], some t) := by
  unfold rdRaw
  simp only
  rw [if_pos ⟨by decide, by rw [List.length_cons]; omega⟩]
  rfl
theorem raw1_nil (D : HP) (rb : Nat) (W w : World) (R R' : List HP) (ht : Take R D R') (hS : St W (rdX D rb (some []) :: R) w) :
    Calls Tryz.prog 87 #[.pointer (some ⟨rb, 0, none⟩), .int .i64 1] w fun e w' => ∃ v, e = .returned v ∧ St W (blk rb [.slice none 0 0, .bool true] 86 :: R) w' := by
  refine (raw_x D rb (some []) 1 ⟨by omega, by omega⟩ (fun l hl => by cases hl; simp) W w R R' ht hS).mono ?_
  rintro e w' ⟨v, rfl, hS⟩
  obtain ⟨v0, e0, ⟨rfl, rfl⟩, hS⟩ := rdOpen hS.drop
  exact ⟨v, rfl, hS⟩
theorem raw1_cons (D : HP) (rb : Nat) (x : Int) (t : List Int) (hl : (x :: t).length ≤ 100000000) (W w : World) (R R' : List HP) (ht : Take R D R') (hS : St W (rdX D rb (some (x :: t)) :: R) w) :
    Calls Tryz.prog 87 #[.pointer (some ⟨rb, 0, none⟩), .int .i64 1] w fun e w' => ∃ g c a1 c1, e = .returned (.slice (some ⟨g, 0, none⟩) 1 c) ∧ RowKit.Hid (rdV D (.slice a1 t.length c1) false (some t)) ∧ St W (blk rb [.slice a1 t.length c1, .bool false] 86 :: byR (.slice (some ⟨g, 0, none⟩) 1 c) [x] :: R) w' := by
  refine (raw_x D rb (some (x :: t)) 1 ⟨by omega, by omega⟩ (fun l hl2 => by cases hl2; exact hl) W w R R' ht hS).mono ?_
  rw [rdRaw_1]
  rintro e w' ⟨v, rfl, hS⟩
  obtain ⟨a, c, rfl⟩ := hS.rowVal
  obtain ⟨⟨g, rfl⟩, _, _⟩ := St.rowAddr hS (by simp)
  obtain ⟨v0, e0, hv, hS⟩ := rdOpen hS.swap
  obtain ⟨a1, c1, rfl, rfl, Hv⟩ := rdSome hv
  exact ⟨g, c, a1, c1, rfl, Hv, hS⟩
theorem cast_pow2 (a k : Nat) : ((a : Nat) : Int) * 2 ^ k = ((a * 2 ^ k : Nat) : Int) := by
  rw [Int.natCast_mul, Int.natCast_pow]
  rfl
theorem or_walk9 {u x k : Nat} (hk : k = 9) (hu : u < 2 ^ (7 * k)) (hx : x ≤ 1) :
    bits .or .u64 (u : Int) (IntKind.u64.wrap (IntKind.u64.wrap (bits .and .u8 (x : Int) 127) * 2 ^ (7 * k))) = ((u + x * 9223372036854775808 : Nat) : Int) := by
  have hp : 2 ^ (7 * k) = 9223372036854775808 := by rw [hk]
  have hm : x % 128 = x := by omega
  have hb : x * 9223372036854775808 < 18446744073709551616 := by omega
  have e : IntKind.u64.wrap (IntKind.u64.wrap (bits .and .u8 (x : Int) 127) * 2 ^ (7 * k)) = ((x % 128 * 2 ^ (7 * k) : Nat) : Int) := by
    rw [byte_127 (by omega), IntKind.wrap_u64, IntKind.wrap_u64]
    have e1 : (((x % 128 : Nat) : Int) % 18446744073709551616) = ((x % 128 : Nat) : Int) := by omega
    rw [e1, cast_pow2, hp, hm]
    omega
  rw [e, or_step (by omega) hu (by rw [hp, hm]; exact hb), hp, hm]
set_option maxRecDepth 100000 in
set_option maxHeartbeats 4000000 in
theorem num_x (D : HP) (rb : Nat) (s : RS) (h : RdOk s) (W w : World) (R R' : List HP) (ht : Take R D R') (hS : St W (rdX D rb s :: R) w) :
    Calls Tryz.prog 43 #[.pointer (some ⟨rb, 0, none⟩)] w fun e w' => e = .returned (.int .i64 (rdNum s).1) ∧ St W (rdX D rb (rdNum s).2 :: R) w' := by
  cases s with
  | none =>
    rw [rdNum_none]
    go_enter Tryz.func43, Tryz.ntmps43
    go_wp2_with (first | go_big_skip)
    go_loopw [4] (fun v4 wr => v4 = .int .i64 0 ∧ St W (rdX D rb none :: R) wr) (fun _ _ => 0)
    case atStart => exact ⟨rfl, hS⟩
    case round =>
      clear hS
      obtain ⟨rfl, hS⟩ := hrel
      go_wp2_with (first | go_big_skip | (go_at_call 87; refine (raw_x D rb none 1 ⟨by omega, by omega⟩ (fun l hl => by cases hl) W _ _ _ ht hS).mono ?_; clear hS; rintro e w ⟨v, rfl, hS0⟩; obtain ⟨v1, e1, ⟨rfl, rfl⟩, hS⟩ := rdOpen hS0.drop; clear hS0) | (refine zl1 hS ?_))
      go_ret
      exact ⟨rfl, rdShut ⟨rfl, rfl⟩ hS⟩
  | some l =>
    have Hok := Lib.hid h
    clear h
    go_enter Tryz.func43, Tryz.ntmps43
    go_wp2_with (first | go_big_skip)
    go_loopw [3, 4] (fun v3 v4 wr => NxR W D rb R l v3 v4 wr) (fun _ v4 _ => 10 - (intOf v4).toNat)
    case atStart => exact ⟨0, 0, rfl, rfl, Nat.zero_le _, by decide, by decide, stepN_0 l, hS⟩
    case round =>
      clear hS
      obtain ⟨k, u, rfl, rfl, hkl, hk9, hu, hnum, hS⟩ := hrel
      by_cases hin : k = l.length
      · rw [hin, List.drop_length] at hS
        rw [hin, List.drop_length, stepN_nil] at hnum
        have Hn := Lib.hid (rdN_none hnum)
        clear hnum hu hin
        have hd10 : decide ((k : Int) < 10) = true := by simp; omega
        go_wp2_with (first | go_big_skip | (go_at_call 87; refine (raw1_nil D rb W _ _ _ ht hS).mono ?_; clear hS; rintro e w ⟨v, rfl, hS⟩) | (refine zl1 hS ?_))
        go_ret
        exact ⟨by rw [Hn.out]; rfl, by rw [Hn.out]; exact rdShut ⟨rfl, rfl⟩ hS⟩
      · have hk1 : k < l.length := by omega
        have hdr : l.drop k = l[k] :: l.drop (k + 1) := List.drop_eq_getElem_cons hk1
        have hx := Hok.out.b l rfl l[k] (List.getElem_mem hk1)
        have hlt : (l[k] :: l.drop (k + 1)).length ≤ 100000000 := by
          rw [← hdr, List.length_drop]
          have := Hok.out.l l rfl
          omega
        have hd10 : decide ((k : Int) < 10) = true := by simp; omega
        rw [hdr] at hnum hS
        clear hdr
        generalize l[k] = c at hx hnum hS hlt
        generalize hl2 : l.drop (k + 1) = t at hnum hS hlt
        obtain ⟨x, rfl⟩ : ∃ x : Nat, c = x := ⟨c.toNat, by omega⟩
        have hx255 : x ≤ 255 := by omega
        have Hl2 := Lib.hid hl2
        clear hx hin hkl hl2
        by_cases h9 : k = 9
        · rw [h9, stepN_9] at hnum
          have Hn := Lib.hid (rdN_none hnum)
          have hd9 : ((k : Int) == 9) = true := by simp; omega
          clear hnum
          by_cases hx128 : 127 < x
          · have hd1 : decide (127 < (x : Int)) = true := by simp; omega
            clear h9
            (go_wp2_with (first | go_big_skip | (go_at_call 87; refine (raw1_cons D rb _ _ hlt W _ _ _ ht hS).mono ?_; clear hS; rintro e w ⟨g, c1, a1, c2, rfl, Hv, hS⟩) | (refine zl1 hS ?_ (hc := by exact Cell.there (Cell.row (by decide) rfl))) | (refine zl1 hS ?_) | (go_at_call 45; refine (bad_x D rb (some _) W _ _ (rdShut Hv.out hS)).mono ?_; clear hS; rintro e w ⟨rfl, hS⟩)); go_ret; exact ⟨by rw [Hn.out]; rfl, by rw [Hn.out]; exact hS.sel (by exact selS)⟩)
          · have hd1 : decide (127 < (x : Int)) = false := by simp; omega
            by_cases hx1 : 1 < x
            · have hd2 : decide (1 < (x : Int)) = true := by simp; omega
              clear h9
              (go_wp2_with (first | go_big_skip | (go_at_call 87; refine (raw1_cons D rb _ _ hlt W _ _ _ ht hS).mono ?_; clear hS; rintro e w ⟨g, c1, a1, c2, rfl, Hv, hS⟩) | (refine zl1 hS ?_ (hc := by exact Cell.there (Cell.row (by decide) rfl))) | (refine zl1 hS ?_) | (go_at_call 45; refine (bad_x D rb (some _) W _ _ (rdShut Hv.out hS)).mono ?_; clear hS; rintro e w ⟨rfl, hS⟩)); go_ret; exact ⟨by rw [Hn.out]; rfl, by rw [Hn.out]; exact hS.sel (by exact selS)⟩)
            · have hd2 : decide (1 < (x : Int)) = false := by simp; omega
              have hor := or_walk9 h9 hu (by omega : x ≤ 1)
              have hd0 : decide (0 < (k : Int)) = true := by simp; omega
              have hk0 : 0 < k := by omega
              clear h9 hu
              by_cases hx0 : x = 0
              · have hdx : ((x : Int) == 0) = true := by simp; omega
                generalize u + x * 9223372036854775808 = u1 at hor
                clear hx0 hx1
                (go_wp2_with (first | go_big_skip | (go_at_call 87; refine (raw1_cons D rb _ _ hlt W _ _ _ ht hS).mono ?_; clear hS; rintro e w ⟨g, c1, a1, c2, rfl, Hv, hS⟩) | (refine zl1 hS ?_ (hc := by exact Cell.there (Cell.row (by decide) rfl))) | (refine zl1 hS ?_) | (go_at_call 45; refine (bad_x D rb (some _) W _ _ (rdShut Hv.out hS)).mono ?_; clear hS; rintro e w ⟨rfl, hS⟩)); go_ret; exact ⟨by rw [Hn.out]; rfl, by rw [Hn.out]; exact hS.sel (by exact selS)⟩)
              · have hdx : ((x : Int) == 0) = false := by simp; omega
                have hbig : 4611686018427387904 < u + x * 9223372036854775808 := by omega
                generalize u + x * 9223372036854775808 = u1 at hor hbig
                have hd3 : decide (4611686018427387904 < ((u1 : Nat) : Int)) = true := by simp; omega
                (go_wp2_with (first | go_big_skip | (go_at_call 87; refine (raw1_cons D rb _ _ hlt W _ _ _ ht hS).mono ?_; clear hS; rintro e w ⟨g, c1, a1, c2, rfl, Hv, hS⟩) | (refine zl1 hS ?_ (hc := by exact Cell.there (Cell.row (by decide) rfl))) | (refine zl1 hS ?_) | (go_at_call 45; refine (bad_x D rb (some _) W _ _ (rdShut Hv.out hS)).mono ?_; clear hS; rintro e w ⟨rfl, hS⟩)); go_ret; exact ⟨by rw [Hn.out]; rfl, by rw [Hn.out]; exact hS.sel (by exact selS)⟩)
        · have hk8 : k ≤ 8 := by omega
          have hd9 : ((k : Int) == 9) = false := by simp; omega
          clear h9 hk9
          by_cases hx128 : x < 128
          · have hd1 : decide (127 < (x : Int)) = false := by simp; omega
            have hor := or_walk hk8 hu hx255
            have hx2 : x % 128 = x := Nat.mod_eq_of_lt hx128
            rw [hx2] at hor
            clear hx2 hu
            by_cases hz : 0 < k ∧ x = 0
            · obtain ⟨hk0, hx0⟩ := hz
              rw [hx0] at hnum
              have Hn := Lib.hid (rdN_none (hnum.trans (stepN_zero hk0)))
              have hd0 : decide (0 < (k : Int)) = true := by simp; omega
              have hdx : ((x : Int) == 0) = true := by simp; omega
              clear hnum hx0
              generalize u + x * 2 ^ (7 * k) = u1 at hor
              (go_wp2_with (first | go_big_skip | (go_at_call 87; refine (raw1_cons D rb _ _ hlt W _ _ _ ht hS).mono ?_; clear hS; rintro e w ⟨g, c1, a1, c2, rfl, Hv, hS⟩) | (refine zl1 hS ?_ (hc := by exact Cell.there (Cell.row (by decide) rfl))) | (refine zl1 hS ?_) | (go_at_call 45; refine (bad_x D rb (some _) W _ _ (rdShut Hv.out hS)).mono ?_; clear hS; rintro e w ⟨rfl, hS⟩)); go_ret; exact ⟨by rw [Hn.out]; rfl, by rw [Hn.out]; exact hS.sel (by exact selS)⟩)
            · rw [stepN_last hk8 hx128 (by omega)] at hnum
              generalize u + x * 2 ^ (7 * k) = u1 at hor hnum
              by_cases hbig : u1 ≤ 4611686018427387904
              · rw [if_pos hbig] at hnum
                have Hn := Lib.hid (rdN_some hnum)
                have hd2 : decide (4611686018427387904 < ((u1 : Nat) : Int)) = false := by simp; omega
                clear hnum
                by_cases hk0 : 0 < k
                · have hd0 : decide (0 < (k : Int)) = true := by simp; omega
                  have hdx : ((x : Int) == 0) = false := by simp; omega
                  (go_wp2_with (first | go_big_skip | (go_at_call 87; refine (raw1_cons D rb _ _ hlt W _ _ _ ht hS).mono ?_; clear hS; rintro e w ⟨g, c1, a1, c2, rfl, Hv, hS⟩) | (refine zl1 hS ?_ (hc := by exact Cell.there (Cell.row (by decide) rfl))) | (refine zl1 hS ?_)); go_ret; exact ⟨by rw [Hn.out]; rfl, by rw [Hn.out]; exact rdShut Hv.out (hS.sel (by exact selS))⟩)
                · have hd0 : decide (0 < (k : Int)) = false := by simp; omega
                  (go_wp2_with (first | go_big_skip | (go_at_call 87; refine (raw1_cons D rb _ _ hlt W _ _ _ ht hS).mono ?_; clear hS; rintro e w ⟨g, c1, a1, c2, rfl, Hv, hS⟩) | (refine zl1 hS ?_ (hc := by exact Cell.there (Cell.row (by decide) rfl))) | (refine zl1 hS ?_)); go_ret; exact ⟨by rw [Hn.out]; rfl, by rw [Hn.out]; exact rdShut Hv.out (hS.sel (by exact selS))⟩)
              · rw [if_neg hbig] at hnum
                have Hn := Lib.hid (rdN_none hnum)
                have hd2 : decide (4611686018427387904 < ((u1 : Nat) : Int)) = true := by simp; omega
                clear hnum
                by_cases hk0 : 0 < k
                · have hd0 : decide (0 < (k : Int)) = true := by simp; omega
                  have hdx : ((x : Int) == 0) = false := by simp; omega
                  (go_wp2_with (first | go_big_skip | (go_at_call 87; refine (raw1_cons D rb _ _ hlt W _ _ _ ht hS).mono ?_; clear hS; rintro e w ⟨g, c1, a1, c2, rfl, Hv, hS⟩) | (refine zl1 hS ?_ (hc := by exact Cell.there (Cell.row (by decide) rfl))) | (refine zl1 hS ?_) | (go_at_call 45; refine (bad_x D rb (some _) W _ _ (rdShut Hv.out hS)).mono ?_; clear hS; rintro e w ⟨rfl, hS⟩)); go_ret; exact ⟨by rw [Hn.out]; rfl, by rw [Hn.out]; exact hS.sel (by exact selS)⟩)
                · have hd0 : decide (0 < (k : Int)) = false := by simp; omega
                  (go_wp2_with (first | go_big_skip | (go_at_call 87; refine (raw1_cons D rb _ _ hlt W _ _ _ ht hS).mono ?_; clear hS; rintro e w ⟨g, c1, a1, c2, rfl, Hv, hS⟩) | (refine zl1 hS ?_ (hc := by exact Cell.there (Cell.row (by decide) rfl))) | (refine zl1 hS ?_) | (go_at_call 45; refine (bad_x D rb (some _) W _ _ (rdShut Hv.out hS)).mono ?_; clear hS; rintro e w ⟨rfl, hS⟩)); go_ret; exact ⟨by rw [Hn.out]; rfl, by rw [Hn.out]; exact hS.sel (by exact selS)⟩)
          · rw [stepN_more hk8 (by omega) hx255] at hnum
            have hd1 : decide (127 < (x : Int)) = true := by simp; omega
            have hor := or_walk hk8 hu hx255
            have hlt2 := step_lt (x := x) hu
            clear hu
            generalize u + x % 128 * 2 ^ (7 * k) = u1 at hor hnum hlt2
            have Hq := Lib.hid hnum
            clear hnum
            go_wp2_with (first | go_big_skip | (go_at_call 87; refine (raw1_cons D rb _ _ hlt W _ _ _ ht hS).mono ?_; clear hS; rintro e w ⟨g, c1, a1, c2, rfl, Hv, hS⟩) | (refine zl1 hS ?_ (hc := by exact Cell.there (Cell.row (by decide) rfl))) | (refine zl1 hS ?_))
            go_roundw
            case rel => exact ⟨k + 1, u1, rfl, rfl, by omega, by omega, hlt2, by rw [Hl2.out]; exact Hq.out, by rw [Hl2.out]; exact rdShut Hv.out (hS.sel (by exact selS))⟩
            case measure => simp [intOf]; omega
end Go.Proofs.YtbcokphjpllbiaaGreat
end
