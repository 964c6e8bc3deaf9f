/-
  The program's Reader: a number. For all of them.
  The program's Reader: rows of bytes, numbers into places. For all of them.
  The document's Reader: bytes, numbers, rows of bytes. For all of them.
  The document's Reader: a number. For all of them.
-/
import Derived.Test.YtbcokphjpllbiaaGreatVaultBackM5
import Derived.Test.YtbcokphjpllbiaaGreatVaultBackM30
import Derived.Laws.Shifts
section
set_option linter.unusedSimpArgs false
set_option linter.unusedVariables false
namespace Go.Proofs.YtbcokphjpllbiaaGreat
open Go.RowKit Go.Sl
/-- What is left to read of a number, at its k-th byte. -/
def stepN (k u : Nat) (s : List Int) : Option (Nat × List Int) :=
  if k = 9 then none else
  match decF (8 - k) (decide (k = 0)) s with
  | none => none
  | some (v, r) => if u + v * 2 ^ (7 * k) ≤ 4611686018427387904 then some (u + v * 2 ^ (7 * k), r) else none
theorem stepN_0 (s : List Int) : numD s = stepN 0 0 s := by
  unfold numD stepN
  rw [if_neg (by decide)]
  show _ = match decF 8 true s with
    | none => none
    | some (v, r) => if 0 + v * 2 ^ 0 ≤ 4611686018427387904 then some (0 + v * 2 ^ 0, r) else none
  cases decF 8 true s with
  | none => rfl
  | some x =>
    obtain ⟨v, r⟩ := x
    simp
theorem stepN_9 (u : Nat) (s : List Int) : stepN 9 u s = none := rfl
theorem stepN_nil (k u : Nat) : stepN k u [] = none := by
  unfold stepN
  rw [decF_nil]
  split <;> rfl
theorem stepN_zero {k u : Nat} {s : List Int} (hk : 0 < k) : stepN k u (0 :: s) = none := by
  unfold stepN
  split
  · rfl
  · rw [decF_small (by decide), if_pos ⟨by simp; omega, rfl⟩]
theorem stepN_last {k u x : Nat} {s : List Int} (hk : k ≤ 8) (hx : x < 128) (hz : k = 0 ∨ x ≠ 0) : stepN k u ((x : Int) :: s) = if u + x * 2 ^ (7 * k) ≤ 4611686018427387904 then some (u + x * 2 ^ (7 * k), s) else none := by
  unfold stepN
  rw [if_neg (by omega), decF_small (by omega), if_neg]
  · simp
  · rintro ⟨h1, h2⟩
    rcases hz with h3 | h3
    · rw [h3] at h1; cases h1
    · omega
theorem stepN_more {k u x : Nat} {s : List Int} (hk : k ≤ 8) (hx : 128 ≤ x) (hx2 : x ≤ 255) : stepN k u ((x : Int) :: s) = stepN (k + 1) (u + x % 128 * 2 ^ (7 * k)) s := by
  have e0 : (((x : Int) - 128).toNat) = x % 128 := by omega
  by_cases h8 : k = 8
  · subst h8
    rw [stepN_9]
    unfold stepN
    rw [if_neg (by omega), decF_big0 (by omega)]
  · unfold stepN
    rw [if_neg (by omega), if_neg (by omega)]
    obtain ⟨f, hf⟩ : ∃ f, 8 - k = f + 1 := ⟨8 - k - 1, by omega⟩
    have hf2 : 8 - (k + 1) = f := by omega
    have hz : decide (k + 1 = 0) = false := by simp
    rw [hf, hf2, hz, decF_big (by omega)]
    cases decF f false s with
    | none => rfl
    | some y =>
      obtain ⟨v, r⟩ := y
      dsimp only
      have e1 : u + ((x : Int) - 128).toNat * 2 ^ (7 * k) + 128 * v * 2 ^ (7 * k) = u + x % 128 * 2 ^ (7 * k) + v * 2 ^ (7 * (k + 1)) := by
        have e2 : 7 * (k + 1) = 7 * k + 7 := by omega
        rw [e0, e2, Nat.pow_add]
        have : 128 * v * 2 ^ (7 * k) = v * (2 ^ (7 * k) * 2 ^ 7) := by
          rw [Nat.mul_comm 128 v, Nat.mul_assoc, Nat.mul_comm 128]
        omega
      have e3 : u + (((x : Int) - 128).toNat + 128 * v) * 2 ^ (7 * k) = u + x % 128 * 2 ^ (7 * k) + v * 2 ^ (7 * (k + 1)) := by
        rw [Nat.add_mul, ← Nat.add_assoc]
        exact e1
      rw [e3]
theorem and_127 : ∀ v : Fin 256, bits .and .u8 ((v.val : Nat) : Int) 127 = ((v.val % 128 : Nat) : Int) := by decide +kernel
theorem byte_127 {x : Nat} (h : x ≤ 255) : bits .and .u8 (x : Int) 127 = ((x % 128 : Nat) : Int) := and_127 ⟨x, by omega⟩
theorem pow7 {k : Nat} (hk : k ≤ 9) : 2 ^ (7 * k) ≤ 9223372036854775808 := by
  have : 2 ^ (7 * k) ≤ 2 ^ 63 := Nat.pow_le_pow_right (by decide) (by omega)
  exact this
theorem or_step {u x k : Nat} (hk : k ≤ 9) (hu : u < 2 ^ (7 * k)) (hx : x % 128 * 2 ^ (7 * k) < 18446744073709551616) :
    bits .or .u64 (u : Int) ((x % 128 * 2 ^ (7 * k) : Nat) : Int) = ((u + x % 128 * 2 ^ (7 * k) : Nat) : Int) := by
  have h1 := pow7 hk
  rw [bits_or_u64_nat u _ (by omega) hx, or_add hu]
theorem step_lt {u x k : Nat} (hu : u < 2 ^ (7 * k)) : u + x % 128 * 2 ^ (7 * k) < 2 ^ (7 * (k + 1)) := by
  have h1 : 2 ^ (7 * (k + 1)) = 128 * 2 ^ (7 * k) := by
    rw [show 7 * (k + 1) = 7 * k + 7 from by omega, Nat.pow_add, Nat.mul_comm]
  have h2 : x % 128 * 2 ^ (7 * k) ≤ 127 * 2 ^ (7 * k) := Nat.mul_le_mul_right _ (by omega)
  omega
def NgR (W : World) (L : List HP) (l : List Int) (v3 v13 : Value) (w : World) : Prop :=
  ∃ (k u : Nat), v3 = .int .u64 u ∧ v13 = .int .i64 k ∧ k ≤ l.length ∧ k ≤ 9 ∧ u < 2 ^ (7 * k) ∧ numD l = stepN k u (l.drop k) ∧ St W L w
theorem rdN_none {l : List Int} (h : numD l = none) : rdNum (some l) = (0, none) := by
  unfold rdNum
  simp only
  rw [h]
theorem rdN_some {l r : List Int} {u : Nat} (h : numD l = some (u, r)) : rdNum (some l) = ((u : Int), some r) := by
  unfold rdNum
  simp only
  rw [h]
theorem or_walk {u x k : Nat} (hk : k ≤ 8) (hu : u < 2 ^ (7 * k)) (hx : x ≤ 255) :
    bits .or .u64 (u : Int) (IntKind.u64.wrap (IntKind.u64.wrap (bits .and .u8 (x : Int) 127) * 2 ^ (7 * k))) = ((u + x % 128 * 2 ^ (7 * k) : Nat) : Int) := by
  have h1 : 2 ^ (7 * k) ≤ 72057594037927936 := by
    have : 2 ^ (7 * k) ≤ 2 ^ 56 := Nat.pow_le_pow_right (by decide) (by omega)
    exact this
  have h2 : x % 128 * 2 ^ (7 * k) ≤ 127 * 72057594037927936 := Nat.mul_le_mul (by omega) h1
  have e : IntKind.u64.wrap (IntKind.u64.wrap (bits .and .u8 (x : Int) 127) * 2 ^ (7 * k)) = ((x % 128 * 2 ^ (7 * k) : Nat) : Int) := by
    rw [byte_127 hx, IntKind.wrap_u64, IntKind.wrap_u64]
    have e1 : (((x % 128 : Nat) : Int) % 18446744073709551616) = ((x % 128 : Nat) : Int) := by omega
    rw [e1]
    have e2 : ((x % 128 : Nat) : Int) * 2 ^ (7 * k) = ((x % 128 * 2 ^ (7 * k) : Nat) : Int) := by push_cast; rfl
    rw [e2]
    omega
  rw [e]
  exact or_step (by omega) hu (by omega)
theorem rdV_drop {D : HP} {g off c m : Nat} {l : List Int} (hD : Dat D g off l) (hm : m ≤ l.length) (hc : l.length ≤ c) (hM : c ≤ 9223372036854775807) :
    rdV D (.slice (if c = m then some ⟨g, off, none⟩ else some ⟨g, off + m, none⟩) (l.length - m) (c - m)) false (some (l.drop m)) := by
  have hld : (l.drop m).length = l.length - m := List.length_drop ..
  refine ⟨rfl, _, _, by rw [hld], by rw [hld]; omega, by omega, ?_⟩
  by_cases h : c = m
  · exact .inr (.inl ⟨List.eq_nil_of_length_eq_zero (by rw [hld]; omega), _, if_pos h⟩)
  · exact .inr (.inr ⟨g, off + m, if_neg h, hD.drop m⟩)
set_option maxRecDepth 100000 in
set_option maxHeartbeats 4000000 in
theorem num_g (D : HP) (rb : Nat) (s : RS) (hb : BS s) (hl : ∀ l, s = some l → l.length ≤ 100000000) (W w : World) (R R' : List HP) (ht : Take R D R') (hS : St W (rdG D rb s :: R) w) :
    Calls Tryz.prog 32 #[.pointer (some ⟨rb, 0, none⟩)] w fun e w' => e = .returned (.int .i64 (rdNum s).1) ∧ St W (rdG D rb (rdNum s).2 :: R) w' := by
  cases s with
  | none =>
    rw [rdNum_none]
    obtain ⟨v0, e0, hv, hS1⟩ := rdOpen hS
    clear hS hl hb
    obtain ⟨rfl, rfl⟩ := hv
    have hS := hS1
    clear hS1
    go_enter Tryz.func32, Tryz.ntmps32
    go_wp2_with (first | go_big_skip | (refine zl1 hS ?_))
    go_loopw [13] (fun v13 wr => v13 = .int .i64 0 ∧ St W (blk rb [.slice none 0 0, .bool true] 134 :: R) wr) (fun _ _ => 0)
    case atStart => exact ⟨rfl, hS⟩
    case round =>
      clear hS
      obtain ⟨rfl, hS⟩ := hrel
      go_wp2_with (first | go_big_skip | (refine zl1 hS ?_) | (go_at_call 80; refine (bad_g D rb none W _ _ (rdShut ⟨rfl, rfl⟩ hS)).mono ?_; clear hS; rintro e w ⟨rfl, hS⟩))
      go_ret
      exact ⟨rfl, hS⟩
  | some l =>
    have hll := hl l rfl
    have hbl := hb l rfl
    clear hl hb
    obtain ⟨v0, e0, hv, hS1⟩ := rdOpen hS
    clear hS
    have hS := hS1
    clear hS1
    obtain ⟨a0, c0, rfl, rfl, Hv⟩ := rdSome hv
    clear hv
    have Hb := Lib.hid hbl
    clear hbl
    go_enter Tryz.func32, Tryz.ntmps32
    go_wp2_with (first | go_big_skip | (refine zl1 hS ?_))
    go_loopw [3, 13] (fun v3 v13 wr => NgR W (blk rb [.slice a0 l.length c0, .bool false] 134 :: R) l v3 v13 wr) (fun _ v13 _ => l.length - (intOf v13).toNat)
    case atStart => exact ⟨0, 0, rfl, rfl, Nat.zero_le _, by decide, by decide, stepN_0 l, hS⟩
    case round =>
      clear hS
      obtain ⟨k, u, rfl, rfl, hkl, hk9, hu, hnum, hS⟩ := hrel
      by_cases hin : k = l.length
      · have hn : rdNum (some l) = (0, none) := rdN_none (by rw [hnum, hin, List.drop_length, stepN_nil])
        have Hn := Lib.hid hn
        clear hn hnum hu
        go_wp2_with (first | go_big_skip | (refine zl1 hS ?_) | (go_at_call 80; refine (bad_g D rb (some l) W _ _ (rdShut Hv.out hS)).mono ?_; clear hS; rintro e w ⟨rfl, hS⟩))
        go_ret
        exact ⟨by rw [Hn.out]; rfl, by rw [Hn.out]; exact hS⟩
      · have hk1 : k < l.length := by omega
        have hat := rdV_at Hv.out
        have hcap := rdV_cap Hv.out
        rcases hat with ⟨rfl, _, _⟩ | ⟨rfl, _⟩ | ⟨g, off, rfl, hD⟩
        · simp at hk1
        · simp at hk1
        · have hx := Hb.out l[k] (List.getElem_mem hk1)
          have hdr : l.drop k = l[k] :: l.drop (k + 1) := List.drop_eq_getElem_cons hk1
          have hxc : (u8s l)[k]? = some (.int .u8 l[k]) := by
            unfold u8s
            rw [List.getElem?_map, List.getElem?_eq_getElem hk1]
            rfl
          rw [hdr] at hnum
          clear hdr
          generalize l[k] = c at hx hxc hnum
          obtain ⟨x, rfl⟩ : ∃ x : Nat, c = x := ⟨c.toNat, by omega⟩
          have hx255 : x ≤ 255 := by omega
          clear hx hin hkl
          by_cases h9 : k = 9
          · rw [h9, stepN_9] at hnum
            have Hn := Lib.hid (rdN_none hnum)
            have hd9 : decide (9 ≤ (k : Int)) = true := by simp; omega
            clear hnum hu h9
            go_wp2_with (first | go_big_skip | (refine zl1 hS ?_ (hc := by exact hD _ _ ht.tail k _ hxc)) | (refine zl1 hS ?_) | (go_at_call 80; refine (bad_g D rb (some l) W _ _ (rdShut Hv.out hS)).mono ?_; clear hS; rintro e w ⟨rfl, hS⟩))
            go_ret
            exact ⟨by rw [Hn.out]; rfl, by rw [Hn.out]; exact hS⟩
          · have hk8 : k ≤ 8 := by omega
            have hd9 : decide (9 ≤ (k : Int)) = false := by simp; omega
            clear h9 hk9
            by_cases hz : 0 < k ∧ x = 0
            · obtain ⟨hk0, hx0⟩ := hz
              rw [hx0] at hnum
              have Hn := Lib.hid (rdN_none (hnum.trans (stepN_zero hk0)))
              have hd0 : decide (0 < (k : Int)) = true := by simp; omega
              have hdx : ((x : Int) == 0) = true := by simp; omega
              clear hnum hu hx0
              go_wp2_with (first | go_big_skip | (refine zl1 hS ?_ (hc := by exact hD _ _ ht.tail k _ hxc)) | (refine zl1 hS ?_) | (go_at_call 80; refine (bad_g D rb (some l) W _ _ (rdShut Hv.out hS)).mono ?_; clear hS; rintro e w ⟨rfl, hS⟩))
              go_ret
              exact ⟨by rw [Hn.out]; rfl, by rw [Hn.out]; exact hS⟩
            · by_cases hx128 : x < 128
              · rw [stepN_last hk8 hx128 (by omega)] at hnum
                have hd1 : decide ((x : Int) < 128) = true := by simp; omega
                have hor := or_walk hk8 hu hx255
                have hx2 : x % 128 = x := Nat.mod_eq_of_lt hx128
                rw [hx2] at hor
                clear hx2 hu
                generalize u + x * 2 ^ (7 * k) = u1 at hor hnum
                by_cases hbig : u1 ≤ 4611686018427387904
                · rw [if_pos hbig] at hnum
                  have Hn := Lib.hid (rdN_some hnum)
                  have hd2 : decide (4611686018427387904 < ((u1 : Nat) : Int)) = false := by simp; omega
                  clear hnum
                  by_cases hk0 : 0 < k
                  · have hd0 : decide (0 < (k : Int)) = true := by simp; omega
                    have hdx : ((x : Int) == 0) = false := by simp; omega
                    go_wp2_with (first | go_big_skip | (refine zl1 hS ?_ (hc := by exact hD _ _ ht.tail k _ hxc)) | (refine zl1 hS ?_) | (refine zs1 hS ?_; clear hS; intro w hS))
                    all_goals go_ret
                    all_goals exact ⟨by rw [Hn.out]; rfl, by rw [Hn.out]; exact rdShut (rdV_drop hD (by omega) hcap.1 hcap.2) hS⟩
                  · have hd0 : decide (0 < (k : Int)) = false := by simp; omega
                    go_wp2_with (first | go_big_skip | (refine zl1 hS ?_ (hc := by exact hD _ _ ht.tail k _ hxc)) | (refine zl1 hS ?_) | (refine zs1 hS ?_; clear hS; intro w hS))
                    all_goals go_ret
                    all_goals exact ⟨by rw [Hn.out]; rfl, by rw [Hn.out]; exact rdShut (rdV_drop hD (by omega) hcap.1 hcap.2) hS⟩
                · rw [if_neg hbig] at hnum
                  have Hn := Lib.hid (rdN_none hnum)
                  have hd2 : decide (4611686018427387904 < ((u1 : Nat) : Int)) = true := by simp; omega
                  clear hnum
                  by_cases hk0 : 0 < k
                  · have hd0 : decide (0 < (k : Int)) = true := by simp; omega
                    have hdx : ((x : Int) == 0) = false := by simp; omega
                    go_wp2_with (first | go_big_skip | (refine zl1 hS ?_ (hc := by exact hD _ _ ht.tail k _ hxc)) | (refine zl1 hS ?_) | (go_at_call 80; refine (bad_g D rb (some l) W _ _ (rdShut Hv.out hS)).mono ?_; clear hS; rintro e w ⟨rfl, hS⟩))
                    go_ret
                    exact ⟨by rw [Hn.out]; rfl, by rw [Hn.out]; exact hS⟩
                  · have hd0 : decide (0 < (k : Int)) = false := by simp; omega
                    go_wp2_with (first | go_big_skip | (refine zl1 hS ?_ (hc := by exact hD _ _ ht.tail k _ hxc)) | (refine zl1 hS ?_) | (go_at_call 80; refine (bad_g D rb (some l) W _ _ (rdShut Hv.out hS)).mono ?_; clear hS; rintro e w ⟨rfl, hS⟩))
                    go_ret
                    exact ⟨by rw [Hn.out]; rfl, by rw [Hn.out]; exact hS⟩
              · rw [stepN_more hk8 (by omega) hx255] at hnum
                have hd1 : decide ((x : Int) < 128) = false := by simp; omega
                have hor := or_walk hk8 hu hx255
                have hlt := step_lt (x := x) hu
                clear hu
                generalize u + x % 128 * 2 ^ (7 * k) = u1 at hor hnum hlt
                have Hq := Lib.hid hnum
                clear hnum
                by_cases hk0 : 0 < k
                · have hd0 : decide (0 < (k : Int)) = true := by simp; omega
                  have hdx : ((x : Int) == 0) = false := by simp; omega
                  go_wp2_with (first | go_big_skip | (refine zl1 hS ?_ (hc := by exact hD _ _ ht.tail k _ hxc)) | (refine zl1 hS ?_))
                  go_roundw
                  case rel => exact ⟨k + 1, u1, rfl, rfl, by omega, by omega, hlt, Hq.out, hS⟩
                  case measure => simp [intOf]; omega
                · have hd0 : decide (0 < (k : Int)) = false := by simp; omega
                  go_wp2_with (first | go_big_skip | (refine zl1 hS ?_ (hc := by exact hD _ _ ht.tail k _ hxc)) | (refine zl1 hS ?_))
                  go_roundw
                  case rel => exact ⟨k + 1, u1, rfl, rfl, by omega, by omega, hlt, Hq.out, hS⟩
                  case measure => simp [intOf]; omega
end Go.Proofs.YtbcokphjpllbiaaGreat
end
section
set_option linter.unusedSimpArgs false
set_option linter.unusedVariables false
namespace Go.Proofs.YtbcokphjpllbiaaGreat
open Go.RowKit Go.Sl
theorem byB_nums {s : RS} (hb : BS s) : BS (rdNum s).2 := by
  cases s with
  | none => exact hb
  | some l =>
    intro r hr
    exact (rdNum_some (hb l rfl) (show rdNum (some l) = ((rdNum (some l)).1, some r) by rw [← hr])).2.2.2
theorem rdNum_le {s : RS} (hb : BS s) {l r : List Int} (hl : s = some l) (hr : (rdNum s).2 = some r) : r.length ≤ l.length := by
  subst hl
  have h := (rdNum_some (hb l rfl) (show rdNum (some l) = ((rdNum (some l)).1, some r) by rw [← hr])).1
  have h2 := congrArg List.length h
  rw [List.length_append] at h2
  omega
theorem rdNum_rng (s : RS) : 0 ≤ (rdNum s).1 ∧ (rdNum s).1 ≤ 4611686018427387904 := by
  cases s with
  | none => exact ⟨Int.le_refl _, by decide⟩
  | some l =>
    unfold rdNum
    simp only
    cases h : numD l with
    | none => exact ⟨Int.le_refl _, by decide⟩
    | some x =>
      obtain ⟨u, r⟩ := x
      unfold numD at h
      split at h
      · cases h
      · split at h
        · cases h
          exact ⟨by simp, by simp only; omega⟩
        · cases h
/-- A reader's bytes: bytes, not too many. -/
structure RdOk (s : RS) : Prop where
  b : BS s
  l : ∀ l, s = some l → l.length ≤ 100000000
theorem RdOk.num {s : RS} (h : RdOk s) : RdOk (rdNum s).2 := ⟨byB_nums h.b, fun r hr => by
  cases s with
  | none => cases hr
  | some l => exact Nat.le_trans (rdNum_le h.b rfl hr) (h.l l rfl)⟩
theorem RdOk.raw {s : RS} (h : RdOk s) (n : Int) : RdOk (rdRaw n s).2 := by
  cases s with
  | none => exact h
  | some l =>
    unfold rdRaw
    simp only
    split
    · refine ⟨fun r hr => ?_, fun r hr => ?_⟩
      · cases hr; exact byB_drop (h.b l rfl) _
      · cases hr
        have := h.l l rfl
        rw [List.length_drop]
        omega
    · exact ⟨fun r hr => (by cases hr), fun r hr => (by cases hr)⟩
theorem RdOk.bytes {s : RS} (h : RdOk s) : RdOk (rdBytes s).2 := h.num.raw _
set_option maxRecDepth 100000 in
theorem bytes_g (D : HP) (rb : Nat) (s : RS) (h : RdOk s) (W w : World) (R R' : List HP) (ht : Take R D R') (hS : St W (rdG D rb s :: R) w) :
    Calls Tryz.prog 34 #[.pointer (some ⟨rb, 0, none⟩)] w fun e w' => ∃ v, e = .returned v ∧ St W (byR v (rdBytes s).1 :: rdG D rb (rdBytes s).2 :: R) w' := by
  have hr := rdNum_rng s
  have H1 := Lib.hid h
  clear h
  go_enter Tryz.func34, Tryz.ntmps34
  go_wp2_with (first | go_big_skip | (go_at_call 32; refine (num_g D rb s H1.out.b H1.out.l W _ _ _ ht hS).mono ?_; clear hS; rintro e w ⟨rfl, hS⟩) | (go_at_call 81; refine (raw_g D rb (rdNum s).2 (rdNum s).1 ⟨by omega, by omega⟩ H1.out.num.l W _ _ _ ht hS).mono ?_; clear hS; rintro e w ⟨v, rfl, hS⟩))
  go_ret
  exact ⟨_, rfl, hS⟩
/-! Numbers into places. -/
/-- The k-th of the places, in resources F: there the number goes. -/
structure Into (F : List Int → List HP) (D : HP) (ps : List (Nat × Nat)) : Prop where
  st : ∀ (xs : List Int) (x : Int), ∀ h : xs.length < ps.length, ∃ l T, l.length ≤ 100 ∧ (ps[xs.length]).2 < l.length ∧ Upd (F xs) (blk (ps[xs.length]).1 l T) (blk (ps[xs.length]).1 (l.set (ps[xs.length]).2 (.int .i64 x)) T) (F (xs ++ [x]))
  dat : ∀ xs, ∃ R', Take (F xs) D R'
theorem rdNums_len : ∀ (k : Nat) (s : RS), (rdNums k s).1.length = k
  | 0, _ => rfl
  | k + 1, s => by rw [rdNums, List.length_cons, rdNums_len]
theorem rdNums_step : ∀ (k : Nat) (s : RS), rdNums (k + 1) s = ((rdNums k s).1 ++ [(rdNum (rdNums k s).2).1], (rdNum (rdNums k s).2).2)
  | 0, s => rfl
  | k + 1, s => by
    rw [rdNums, rdNums_step k]
    rfl
theorem RdOk.nums : ∀ (k : Nat) {s : RS}, RdOk s → RdOk (rdNums k s).2
  | 0, _, h => h
  | k + 1, _, h => RdOk.nums k h.num
def pV (p : Nat × Nat) : Value := .pointer (some ⟨p.1, p.2, none⟩)
def NpR (W : World) (F : List Int → List HP) (D : HP) (rb : Nat) (s : RS) (n : Nat) (v : Value) (w : World) : Prop :=
  ∃ i : Nat, v = .int .i64 i ∧ i ≤ n ∧ St W (rdG D rb (rdNums i s).2 :: F (rdNums i s).1) w
set_option maxRecDepth 100000 in
set_option maxHeartbeats 4000000 in
theorem nums_r (D : HP) (rb : Nat) (s : RS) (hr : RdOk s) (ps : List (Nat × Nat)) (hl : ps.length ≤ 100) (g c : Nat) (F : List Int → List HP) (hF : Into F D ps) (hg : ∀ xs i, ∀ h : i < ps.length, Cell (F xs) g i (pV ps[i])) (W w : World) (hS : St W (rdG D rb s :: F []) w) :
    Calls Tryz.prog 35 #[.pointer (some ⟨rb, 0, none⟩), .slice (some ⟨g, 0, none⟩) ps.length c] w fun e w' => e = .returned (.tuple #[]) ∧ St W (rdG D rb (rdNums ps.length s).2 :: F (rdNums ps.length s).1) w' := by
  have HR := Lib.hid hr
  have HF := Lib.hid hF
  have HG := Lib.hid hg
  clear hr hF hg
  go_enter Tryz.func35, Tryz.ntmps35
  go_wp2_with (first | go_big_skip)
  go_loopw [9] (fun v wr => NpR W F D rb s ps.length v wr) (fun v _ => ps.length - (intOf v).toNat)
  case atStart => exact ⟨0, rfl, Nat.zero_le _, hS⟩
  case round =>
    clear hS
    obtain ⟨i, rfl, hil, hS⟩ := hrel
    by_cases hin : i = ps.length
    · have Hi := Lib.hid hin
      clear hil
      go_wp2_with (first | go_big_skip)
      go_end0
      refine ⟨rfl, ?_⟩
      rw [← Hi.out]
      exact hS
    · have hi1 : i < ps.length := by omega
      have hlen : (rdNums i s).1.length = i := rdNums_len i s
      have hpx := HG.out (rdNums i s).1 i hi1
      obtain ⟨R', ht⟩ := HF.out.dat (rdNums i s).1
      obtain ⟨l, T, h100, hoff, hup⟩ := HF.out.st (rdNums i s).1 (rdNum (rdNums i s).2).1 (by rw [hlen]; exact hi1)
      simp only [hlen] at hoff hup
      have hst := rdNums_step i s
      have hr2 := HR.out.nums i
      generalize rdNums i s = q at *
      obtain ⟨xs, s2⟩ := q
      simp only at hlen hpx ht hup hst hr2 hS
      generalize ps[i] = p at hpx hoff hup
      obtain ⟨pb, poff⟩ := p
      unfold pV at hpx
      simp only at hpx hoff hup
      have Hst := Lib.hid hst
      clear hst hin hil
      go_wp2_with (first | go_big_skip | (refine zl1 hS ?_ (hc := by exact Cell.there hpx)) | (go_at_call 32; refine (num_g D rb s2 hr2.b hr2.l W _ _ _ ht hS).mono ?_; clear hS; rintro e w ⟨rfl, hS⟩) | ((with_reducible apply wl_st1 hS); (with_reducible rfl); rfl; rfl; rfl; kernel_rfl; rfl; rfl; exact Upd.tail hup; (focus omega); rfl; clear hS; intro w hS; try (refine frS ?_)))
      go_roundw
      case rel => exact ⟨i + 1, rfl, hi1, by rw [Hst.out]; exact hS⟩
      case measure => simp [intOf]; omega
end Go.Proofs.YtbcokphjpllbiaaGreat
end
section
set_option linter.unusedSimpArgs false
set_option linter.unusedVariables false
namespace Go.Proofs.YtbcokphjpllbiaaGreat
open Go.RowKit Go.Sl
abbrev rdX := rdR 86
end Go.Proofs.YtbcokphjpllbiaaGreat
end
section
set_option linter.unusedSimpArgs false
set_option linter.unusedVariables false
namespace Go.Proofs.YtbcokphjpllbiaaGreat
open Go.RowKit Go.Sl
def NxR (W : World) (D : HP) (rb : Nat) (L : List HP) (l : List Int) (v3 v4 : Value) (w : World) : Prop :=
  ∃ (k u : Nat), v3 = .int .u64 u ∧ v4 = .int .i64 k ∧ k ≤ l.length ∧ k ≤ 9 ∧ u < 2 ^ (7 * k) ∧ numD l = stepN k u (l.drop k) ∧ St W (rdX D rb (some (l.drop k)) :: L) w
end Go.Proofs.YtbcokphjpllbiaaGreat
end
