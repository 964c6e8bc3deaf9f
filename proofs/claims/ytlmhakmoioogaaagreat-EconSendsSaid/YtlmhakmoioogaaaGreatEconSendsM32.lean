/-
  EconSends: the walk. For every three numbers.
  What a law's walk gives its row: true came back, and what was there before the call is as it was: so the arguments read as they did. For every law that writes only what it made itself.
-/
import Derived.Test.YtlmhakmoioogaaaGreatEconSendsM1
import Derived.Test.YtlmhakmoioogaaaGreatEconSendsM5
import Derived.Test.YtlmhakmoioogaaaGreatEconSendsM29
import Derived.Test.YtlmhakmoioogaaaGreatEconSendsM31
import Derived.WalkKit
import Derived.ProofKit
import Derived.OpenShut
import Derived.ChangeSame
import Derived.ReadAgain
section
set_option linter.unusedSimpArgs false
set_option linter.unusedVariables false
namespace Go.Proofs.YtlmhakmoioogaaaGreat
open Go.RowKit Go.Sl
theorem eqItE {x y : Int} (h : x = y) (w : World) : (Op.equalIn 10000 29 (.agg #[.int .i64 x, .int .i64 0, .int .i64 0, .int .i64 0]) (.agg #[.int .i64 y, .int .i64 0, .int .i64 0, .int .i64 0])).run Tryz.prog w = .ok true w := by
  subst h
  have h1 := eqI x 0 0 0 x 0 0 0 w
  simpa using h1
/-- An economy that is in order. -/
def ecQ (eb : Nat) (e : Ec) (i : Nat) : HP := fun f => EOk e i ∧ ecP eb e f
theorem applyF {eb : Nat} {e e2 : Ec} {i : Nat} {r : Rpl} {b : Bool} (hE : EOk e i) (hi : i ≤ 1000000) {kd cl sq : Int} {ak aw tk tw : ByteArray} {it ct pr : Int} {bu : Bool} {id : Int} (h : appE e ⟨kd, cl, sq, ak, aw, tk, tw, it, ct, pr, bu, id⟩ = (r, b, e2)) (W w : World) (R : List HP) (hS : St W (ecP eb e :: R) w) :
    Calls Tryz.prog 16 #[.pointer (some ⟨eb, 0, none⟩), oV kd cl sq ak aw tk tw it ct pr bu id] w fun x w' => x = .returned (.tuple #[rV r.err r.id r.has.x0 r.has.x1 r.has.x2 r.has.x3, .bool b]) ∧ St W (ecQ eb e2 (i + 1) :: R) w' :=
  (apply_at hE hi h W w R hS).mono fun _ _ ⟨h1, h2, h3⟩ => ⟨h2, St.mkAnd h1 h3⟩
abbrev trR (gt vc : Nat) (c : Int) : HP := row (.slice (some ⟨gt, 0, none⟩) 1 vc) 8 40 1 [.int .i64 1, .int .i64 2, .string kA, .string kX, .string kB, .string kY, .int .i64 0, .int .i64 c]
theorem trCells {gt vc : Nat} {c : Int} {K : List HP} (hu : ∃ K', Take K (trR gt vc c) K') : Cells K gt 0 [.int .i64 1, .int .i64 2, .string kA, .string kX, .string kB, .string kY, .int .i64 0, .int .i64 c] :=
  let ⟨_, hu⟩ := hu
  Cells.elemM (enc := Tns.cells) (xs := [tnsOf (sS c)]) (i := 0) Tns.len hu (by simp)
theorem trTo {gt vc : Nat} {c : Int} {K : List HP} (hu : ∃ K', Take K (trR gt vc c) K') : Cells K gt 4 [.string kB, .string kY] := fun j v hj => by
  have h := trCells hu (4 + j) v
  rw [Nat.zero_add] at h
  refine h ?_
  match j with
  | 0 => exact hj
  | 1 => exact hj
  | j + 2 => simp at hj
def S1R (W : World) (eb : Nat) (n c : Int) (F : List HP) (m : Nat) (v : Value) (w : World) : Prop :=
  ∃ i : Nat, v = .int .i64 i ∧ i ≤ m ∧ ((i = 0 ∧ EOk (s2 n c) 2 ∧ St W (ecP eb (s2 n c) :: F) w) ∨ (1 ≤ i ∧ EOk (s3 n c) (2 + i) ∧ St W (ecP eb (s3 n c) :: F) w))
def S2R (W : World) (eb : Nat) (n c : Int) (F : List HP) (m : Nat) (v : Value) (w : World) : Prop :=
  ∃ i : Nat, v = .int .i64 i ∧ i ≤ m ∧ ((i = 0 ∧ EOk (s3 n c) (2 + m) ∧ St W (ecP eb (s3 n c) :: F) w) ∨ (1 ≤ i ∧ EOk (s4 n c) (2 + m + i) ∧ St W (ecP eb (s4 n c) :: F) w))
set_option maxRecDepth 100000 in
set_option maxHeartbeats 8000000 in
theorem eSends_spec (n c t : Int) (W w : World) (R : List HP) (hS : St W R w) :
    Calls Tryz.prog 3 #[.int .i64 n, .int .i64 c, .int .i64 t] w fun e w' => e = .returned (.bool true) ∧ St W R w' := by
  go_enter Tryz.func3, Tryz.ntmps3
  by_cases n0 : 1 ≤ n
  case neg =>
    have d : decide (n < 1) = true := by simp; omega
    go_wp2_with (first | go_big_skip | (go_at_call 14; refine (knownE_spec W _ _ hS).mono ?_; clear hS; rintro e w ⟨rfl, hS⟩))
    go_ret
    exact ⟨rfl, hS⟩
  have d1 : decide (n < 1) = false := by simp; omega
  by_cases n1 : n ≤ 1048576
  case neg =>
    have d : decide (1048576 < n) = true := by simp; omega
    go_wp2_with (first | go_big_skip | (go_at_call 14; refine (knownE_spec W _ _ hS).mono ?_; clear hS; rintro e w ⟨rfl, hS⟩))
    go_ret
    exact ⟨rfl, hS⟩
  have d2 : decide (1048576 < n) = false := by simp; omega
  by_cases c0 : 1 ≤ c
  case neg =>
    have d : decide (c < 1) = true := by simp; omega
    go_wp2_with (first | go_big_skip | (go_at_call 14; refine (knownE_spec W _ _ hS).mono ?_; clear hS; rintro e w ⟨rfl, hS⟩))
    go_ret
    exact ⟨rfl, hS⟩
  have d3 : decide (c < 1) = false := by simp; omega
  by_cases c1 : c ≤ 1048576
  case neg =>
    have d : decide (1048576 < c) = true := by simp; omega
    go_wp2_with (first | go_big_skip | (go_at_call 14; refine (knownE_spec W _ _ hS).mono ?_; clear hS; rintro e w ⟨rfl, hS⟩))
    go_ret
    exact ⟨rfl, hS⟩
  have d4 : decide (1048576 < c) = false := by simp; omega
  by_cases t0 : 1 ≤ t
  case neg =>
    have d : decide (t < 1) = true := by simp; omega
    go_wp2_with (first | go_big_skip | (go_at_call 14; refine (knownE_spec W _ _ hS).mono ?_; clear hS; rintro e w ⟨rfl, hS⟩))
    go_ret
    exact ⟨rfl, hS⟩
  have d5 : decide (t < 1) = false := by simp; omega
  by_cases t1 : t ≤ 20
  case neg =>
    have d : decide (20 < t) = true := by simp; omega
    go_wp2_with (first | go_big_skip | (go_at_call 14; refine (knownE_spec W _ _ hS).mono ?_; clear hS; rintro e w ⟨rfl, hS⟩))
    go_ret
    exact ⟨rfl, hS⟩
  have d6 : decide (20 < t) = false := by simp; omega
  by_cases hc : n < c
  · have d7 : decide (n < c) = true := by simp; omega
    go_wp2_with (first | go_big_skip | (go_at_call 15; refine (newE_spec W _ _ hS).mono ?_; clear hS; rintro e w ⟨eb, rfl, hS⟩) | ((fail_if_success (have := pA)); (refine zal hS ?_; clear hS; have pA : Nat := 0; intro bA w hS)) | ((have := pA); (fail_if_success (have := pB)); (refine zal hS ?_; clear hS; have pB : Nat := 0; intro bB w hS)) | ((have := pB); (refine zal hS ?_; clear hS; intro bR w hS)) | (refine zsN hS ?_; clear hS; intro w hS) | (refine zl1 hS ?_) | (refine zlN hS ?_) | (refine zlN hS ?_ (vs := [.string kA, .string kX]) (hc := by focus ((repeat (first | exact Cells.here rfl | apply Cells.there)); done))) | ((fail_if_success (have := gA)); go_at_call 16; refine (apply_at (eOk0 0) (by decide) (app_sM n0 n1) W _ _ (hS.sel (L' := ecP eb ec0 :: blk bA [.string kA, .string kX] 26 :: blk bB [.string kB, .string kY] 26 :: R) (by exact selS))).mono ?_; clear hS; have gA : Nat := 0; rintro e w ⟨hok, rfl, hS⟩; have Hok := Lib.hid hok; clear hok) | ((have := gA); go_at_call 16; refine (apply_at Hok.out (by decide) (app_no n0 n1 c0 c1 hc) W _ _ hS).mono ?_; clear hS; rintro e w ⟨hok, rfl, hS⟩; have Hok2 := Lib.hid hok; clear hok) | (go_at_call 17; refine (transits_spec (show ([] : List ((Int × Int) × Tns)).length ≤ 1000000000 by decide) W _ _ (hS.sel (L' := ecP eb (s2n n) :: blk bR _ _ :: blk bA _ _ :: blk bB _ _ :: R) (by exact selS))).mono ?_; clear hS; rintro e w ⟨v, T, rfl, hT, _, hS⟩; obtain rfl := List.Perm.eq_nil hT; obtain ⟨va2, vc2, rfl⟩ := hS.rowVal) | (go_at_call 18; with_reducible refine (atP_spec kA kX ((rfl : purseA (atV (s2n n) kA).ps kX = ⟨n, 0, 0, 0⟩)) W _ _ (hS.sel (L' := ecP eb (s2n n) :: row _ 8 _ _ _ :: blk bR _ _ :: blk bA _ _ :: blk bB _ _ :: R) (by exact selS))).mono ?_; clear hS; rintro e w ⟨rfl, hS⟩) | ((with_reducible apply wl_eqA); (with_reducible rfl); rfl; rfl; rfl; kernel_rfl; exact eqItE rfl; (refine frS ?_)) | (go_at_call 14; refine (knownE_spec W _ _ hS).mono ?_; clear hS; rintro e w ⟨rfl, hS⟩))
    go_ret
    exact ⟨rfl, hS.sel (by exact selS)⟩
  obtain ⟨m, rfl⟩ : ∃ m : Nat, t = (m : Int) := ⟨t.toNat, by omega⟩
  have hm1 : 1 ≤ m := by omega
  have hm2 : m ≤ 20 := by omega
  have hle : c ≤ n := by omega
  have d7 : decide (n < c) = false := by simp; omega
  have hbz : purseA (atV (s2 n c) kB).ps kY = ⟨0, 0, 0, 0⟩ := by rw [s2_atB]; rfl
  have Hbz := Lib.hid hbz
  clear hbz hc
  go_wp2_with (first | go_big_skip | (go_at_call 15; refine (newE_spec W _ _ hS).mono ?_; clear hS; rintro e w ⟨eb, rfl, hS⟩) | ((fail_if_success (have := pA)); (refine zal hS ?_; clear hS; have pA : Nat := 0; intro bA w hS)) | ((have := pA); (fail_if_success (have := pB)); (refine zal hS ?_; clear hS; have pB : Nat := 0; intro bB w hS)) | ((have := pB); (refine zal hS ?_; clear hS; intro bR w hS)) | (refine zsN hS ?_; clear hS; intro w hS) | (refine zl1 hS ?_) | (refine zlN hS ?_) | (refine zlN hS ?_ (vs := [.string kA, .string kX]) (hc := by focus ((repeat (first | exact Cells.here rfl | apply Cells.there)); done))) | (refine zlN hS ?_ (vs := [.string kB, .string kY]) (hc := by focus ((repeat (first | exact Cells.here rfl | apply Cells.there)); done))) | ((fail_if_success (have := gA)); go_at_call 16; refine (apply_at (eOk0 0) (by decide) (app_sM n0 n1) W _ _ (hS.sel (L' := ecP eb ec0 :: blk bA [.string kA, .string kX] 26 :: blk bB [.string kB, .string kY] 26 :: R) (by exact selS))).mono ?_; clear hS; have gA : Nat := 0; rintro e w ⟨hok, rfl, hS⟩; have Hok := Lib.hid hok; clear hok) | ((have := gA); go_at_call 16; refine (apply_at Hok.out (by decide) (app_yes n0 n1 c0 c1 hle) W _ _ hS).mono ?_; clear hS; rintro e w ⟨hok, rfl, hS⟩; have Hok2 := Lib.hid hok; clear hok) | (go_at_call 17; refine (transits_spec (ec := s2 n c) (show (1 : Nat) ≤ 1000000000 by decide) W _ _ (hS.sel (L' := ecP eb (s2 n c) :: blk bR _ _ :: blk bA _ _ :: blk bB _ _ :: R) (by exact selS))).mono ?_; clear hS; rintro e w ⟨v, T, rfl, hT, _, hS⟩; obtain rfl := List.perm_singleton.1 hT; obtain ⟨va, vc, rfl⟩ := hS.rowVal; change St W (row (.slice va 1 vc) 8 40 1 [.int .i64 1, .int .i64 2, .string kA, .string kX, .string kB, .string kY, .int .i64 0, .int .i64 c] :: _) _ at hS) | (go_at_call 18; with_reducible refine (atP_spec kA kX (s2_atA) W _ _ (hS.sel (L' := ecP eb (s2 n c) :: row _ 8 _ _ _ :: blk bR _ _ :: blk bA _ _ :: blk bB _ _ :: R) (by exact selS))).mono ?_; clear hS; rintro e w ⟨rfl, hS⟩) | (go_at_call 18; with_reducible refine (atP_spec kB kY (Hbz.out) W _ _ (hS.sel (L' := ecP eb (s2 n c) :: row _ 8 _ _ _ :: blk bR _ _ :: blk bA _ _ :: blk bB _ _ :: R) (by exact selS))).mono ?_; clear hS; rintro e w ⟨rfl, hS⟩) | ((with_reducible apply wl_neA); (with_reducible rfl); rfl; rfl; rfl; kernel_rfl; exact eqItE rfl; (simp only [Bool.not_true]); (refine frS ?_)))
  obtain ⟨⟨gt, rfl⟩, hcap, hcn⟩ := St.rowAddr hS.drop (by decide)
  have hS1 := hS.sel (L' := ecP eb (s2 n c) :: trR gt vc c :: blk bR _ _ :: blk bA _ _ :: blk bB _ _ :: R) (by exact selS)
  clear hS hcap hcn
  have hS := hS1
  clear hS1
  go_loopw [13] (fun v13 wr => S1R W eb n c (trR gt vc c :: blk bR [.int .i64 0, .int .i64 0, .int .i64 0, .int .i64 0, .int .i64 0, .int .i64 0] 31 :: blk bA [.string kA, .string kX] 26 :: blk bB [.string kB, .string kY] 26 :: R) m v13 wr) (fun v13 _ => m - (intOf v13).toNat)
  case atStart => exact ⟨0, rfl, Nat.zero_le _, .inl ⟨rfl, Hok2.out, hS⟩⟩
  case round =>
    clear hS
    obtain ⟨i, rfl, him, hc⟩ := hrel
    rcases hc with ⟨rfl, hok, hS⟩ | ⟨hi1, hok, hS⟩
    · have Hk := Lib.hid hok
      have dm : decide (0 < m) = true := by simp; omega
      clear hok him
      go_wp2_with (first | go_big_skip)
      have hS1 := hS.sel (L' := ecP eb (s2 n c) :: trR gt vc c :: blk bR _ _ :: blk bA _ _ :: blk bB _ _ :: R) (by exact selS)
      clear hS
      refine wp_region_flow3 [0, 0, 2, 6, 14, 0, 32, 96, 224, 0, 512, 1536, 3584, 8190, 16383, 32767, 65535, 65535, 0, 393215, 1048575] (fun i => i == 18) (fun i => if i == 14 then some (.tuple #[rV 0 0 0 0 0 0, .bool true]) else none) [⟨some 14, none, fun _ => ecQ eb (s3 n c) (2 + 1)⟩, ⟨some 18, some 19, fun nd => ptrTo (nd 18) [.int .i64 0, .int .i64 0, .int .i64 0, .int .i64 0, .int .i64 0, .int .i64 0] 31⟩, ⟨some 19, none, fun nd => ptrTo (nd 18) [.int .i64 0, .int .i64 0, .int .i64 0, .int .i64 0, .int .i64 0, .int .i64 0] 31⟩] [some 14, none] (by kernel_rfl) (by kernel_rfl) rfl hS1 (CongOk.cons (fun _ _ _ => rfl) (CongOk.cons (fun nd nd' h => by dsimp only; rw [h 18 rfl rfl]) (CongOk.cons (fun nd nd' h => by dsimp only; rw [h 18 rfl rfl]) CongOk.nil))) ?_
      clear hS1
      intro nd
      iterate 4 (refine ch_pure rfl (by kernel_rfl) rfl rfl ?_; intro K hK; go_big_quiet_op; go_big_quiet_on)
      (refine zcN ?_ (hc := by (intro F; exact trTo ⟨_, by exact takO⟩)))
      iterate 3 (refine ch_pure rfl (by kernel_rfl) rfl rfl ?_; intro K hK; go_big_quiet_op; go_big_quiet_on)
      (refine zc1 ?_ (hc := by (intro F; exact trCells ⟨_, by exact takO⟩ 6 _ rfl)))
      iterate 3 (refine ch_pure rfl (by kernel_rfl) rfl rfl ?_; intro K hK; go_big_quiet_op; go_big_quiet_on)
      (refine zc1 ?_ (hc := by (intro F; exact trCells ⟨_, by exact takO⟩ 7 _ rfl)))
      (refine ch_pure rfl (by kernel_rfl) rfl rfl ?_; intro K hK; go_big_quiet_op; go_big_quiet_on)
      (refine zcv ?_ (hs := by (intro F w hS; (try clear hS0); exact applyF Hk.out (by omega) (app_sA c0 c1) W w _ hS)))
      iterate 3 (refine ch_pure rfl (by kernel_rfl) rfl rfl ?_; intro K hK; go_big_quiet_op; go_big_quiet_on)
      (refine zca ?_)
      (refine zct ?_)
      (refine ch_pure rfl (by kernel_rfl) rfl rfl ?_; intro K hK; go_big_quiet_op; go_big_quiet_on)
      refine ch_end ?_
      intro w hS
      have hS2 : St W [ecQ eb (s3 n c) (2 + 1), ptrTo (nd 18) _ _, trR gt vc c, sats (blk bR [.int .i64 0, .int .i64 0, .int .i64 0, .int .i64 0, .int .i64 0, .int .i64 0] 31 :: blk bA [.string kA, .string kX] 26 :: blk bB [.string kB, .string kY] 26 :: R)] w := hS
      clear hS
      have hS := hS2.unpack [_, _, _]
      clear hS2
      simp only [List.cons_append, List.nil_append] at hS
      generalize nd 18 = v18 at *
      obtain ⟨hok2, hS3⟩ := St.and (show St W ((fun f => EOk (s3 n c) (2 + 1) ∧ ecP eb (s3 n c) f) :: _) w from hS)
      have Hk2 := Lib.hid hok2
      clear hS hok2
      have hS := hS3.sel (L' := ecP eb (s3 n c) :: trR gt vc c :: blk bR _ _ :: blk bA _ _ :: blk bB _ _ :: R) (by exact selS)
      clear hS3
      go_wp2_with (first | go_big_skip | (refine zlN hS ?_ (vs := [.string kB, .string kY]) (hc := by focus ((repeat (first | exact Cells.here rfl | apply Cells.there)); done))) | (go_at_call 18; with_reducible refine (atP_spec kB kY (s3_atB) W _ _ (hS.sel (L' := ecP eb (s3 n c) :: trR gt vc c :: blk bR _ _ :: blk bA _ _ :: blk bB _ _ :: R) (by exact selS))).mono ?_; clear hS; rintro e w ⟨rfl, hS⟩) | ((with_reducible apply wl_neA); (with_reducible rfl); rfl; rfl; rfl; kernel_rfl; exact eqItE rfl; (simp only [Bool.not_true]); (refine frS ?_)) | (go_at_call 19; refine (arrived_spec 1 2 (b := true) rfl W _ _ hS).mono ?_; clear hS; rintro e w ⟨rfl, hS⟩))
      go_roundw
      case rel => exact ⟨1, by simp, by omega, .inr ⟨Nat.le_refl _, Hk2.out, hS⟩⟩
      case measure => simp [intOf]; omega
    · by_cases hin : i = m
      · have dm : decide (i < m) = false := by simp; omega
        rw [hin] at hok
        have Hk := Lib.hid hok
        clear hok him hin hi1
        go_wp2_with (first | go_big_skip)
        go_loopw [16] (fun v16 wr => S2R W eb n c (trR gt vc c :: blk bR [.int .i64 0, .int .i64 0, .int .i64 0, .int .i64 0, .int .i64 0, .int .i64 0] 31 :: blk bA [.string kA, .string kX] 26 :: blk bB [.string kB, .string kY] 26 :: R) m v16 wr) (fun v16 _ => m - (intOf v16).toNat)
        case atStart => exact ⟨0, rfl, Nat.zero_le _, .inl ⟨rfl, Hk.out, hS⟩⟩
        case round =>
          clear hS Hk dm
          obtain ⟨j, rfl, hjm, hc⟩ := hrel
          rcases hc with ⟨rfl, hok, hS⟩ | ⟨hj1, hok, hS⟩
          · have Hk := Lib.hid hok
            have dm : decide (0 < m) = true := by simp; omega
            have hi2 : 2 + m ≤ 1000000 := by omega
            clear hok hjm
            go_wp2_with (first | go_big_skip | (go_at_call 16; refine (apply_at Hk.out (by omega) (app_sD) W _ _ hS).mono ?_; clear hS; rintro e w ⟨hok2, rfl, hS⟩; have Hk2 := Lib.hid hok2; clear hok2) | (refine zlN hS ?_ (vs := [.string kA, .string kX]) (hc := by focus ((repeat (first | exact Cells.here rfl | apply Cells.there)); done))) | (refine zal hS ?_; clear hS; intro bT w hS) | (refine zsN hS ?_; clear hS; intro w hS) | (go_at_call 17; refine (transits_spec (show ([] : List ((Int × Int) × Tns)).length ≤ 1000000000 by decide) W _ _ (hS.sel (L' := ecP eb (s4 n c) :: blk bT _ _ :: trR gt vc c :: blk bR _ _ :: blk bA _ _ :: blk bB _ _ :: R) (by exact selS))).mono ?_; clear hS; rintro e w ⟨v, T, rfl, hT, _, hS⟩; obtain rfl := List.Perm.eq_nil hT; obtain ⟨va2, vc2, rfl⟩ := hS.rowVal))
            go_roundw
            case rel => exact ⟨1, by simp, by omega, .inr ⟨Nat.le_refl _, Hk2.out, hS.sel (L' := ecP eb (s4 n c) :: trR gt vc c :: blk bR _ _ :: blk bA _ _ :: blk bB _ _ :: R) (by exact selS)⟩⟩
            case measure => simp [intOf]; omega
          · by_cases hjn : j = m
            · have dm : decide (j < m) = false := by simp; omega
              clear hok hjm hjn hj1
              go_wp2_with (first | go_big_skip | (go_at_call 14; refine (knownE_spec W _ _ hS).mono ?_; clear hS; rintro e w ⟨rfl, hS⟩))
              go_ret
              exact ⟨rfl, hS.sel (by exact selS)⟩
            · have dm : decide (j < m) = true := by simp; omega
              have dz : ((j : Int) == 0) = false := by simp; omega
              have dn : (j == 0) = false := by simp; omega
              have hi2 : 2 + m + j ≤ 1000000 := by omega
              have Hk := Lib.hid hok
              clear hok
              go_wp2_with (first | go_big_skip | (go_at_call 16; refine (apply_at Hk.out (by omega) (app_sD2) W _ _ hS).mono ?_; clear hS; rintro e w ⟨hok2, rfl, hS⟩; have Hk2 := Lib.hid hok2; clear hok2) | (refine zlN hS ?_ (vs := [.string kA, .string kX]) (hc := by focus ((repeat (first | exact Cells.here rfl | apply Cells.there)); done))) | (refine zal hS ?_; clear hS; intro bT w hS) | (refine zsN hS ?_; clear hS; intro w hS) | (go_at_call 17; refine (transits_spec (show ([] : List ((Int × Int) × Tns)).length ≤ 1000000000 by decide) W _ _ (hS.sel (L' := ecP eb (s4 n c) :: blk bT _ _ :: trR gt vc c :: blk bR _ _ :: blk bA _ _ :: blk bB _ _ :: R) (by exact selS))).mono ?_; clear hS; rintro e w ⟨v, T, rfl, hT, _, hS⟩; obtain rfl := List.Perm.eq_nil hT; obtain ⟨va2, vc2, rfl⟩ := hS.rowVal))
              go_roundw
              case rel => exact ⟨j + 1, by simp, by omega, .inr ⟨by omega, Hk2.out, hS.sel (L' := ecP eb (s4 n c) :: trR gt vc c :: blk bR _ _ :: blk bA _ _ :: blk bB _ _ :: R) (by exact selS)⟩⟩
              case measure => simp [intOf]; omega
      · have dm : decide (i < m) = true := by simp; omega
        have dz : ((i : Int) == 0) = false := by simp; omega
        have dn : (i == 0) = false := by simp; omega
        have hi2 : 2 + i ≤ 1000000 := by omega
        have Hk := Lib.hid hok
        clear hok
        go_wp2_with (first | go_big_skip)
        have hS1 := hS.sel (L' := ecP eb (s3 n c) :: trR gt vc c :: blk bR _ _ :: blk bA _ _ :: blk bB _ _ :: R) (by exact selS)
        clear hS
        refine wp_region_flow3 [0, 0, 2, 6, 14, 0, 32, 96, 224, 0, 512, 1536, 3584, 8190, 16383, 32767, 65535, 65535, 0, 393215, 1048575] (fun i => i == 18) (fun i => if i == 14 then some (.tuple #[rV 0 0 0 0 0 0, .bool false]) else none) [⟨some 14, none, fun _ => ecQ eb (s3 n c) ((2 + i) + 1)⟩, ⟨some 18, some 19, fun nd => ptrTo (nd 18) [.int .i64 0, .int .i64 0, .int .i64 0, .int .i64 0, .int .i64 0, .int .i64 0] 31⟩, ⟨some 19, none, fun nd => ptrTo (nd 18) [.int .i64 0, .int .i64 0, .int .i64 0, .int .i64 0, .int .i64 0, .int .i64 0] 31⟩] [some 14, none] (by kernel_rfl) (by kernel_rfl) rfl hS1 (CongOk.cons (fun _ _ _ => rfl) (CongOk.cons (fun nd nd' h => by dsimp only; rw [h 18 rfl rfl]) (CongOk.cons (fun nd nd' h => by dsimp only; rw [h 18 rfl rfl]) CongOk.nil))) ?_
        clear hS1
        intro nd
        iterate 4 (refine ch_pure rfl (by kernel_rfl) rfl rfl ?_; intro K hK; go_big_quiet_op; go_big_quiet_on)
        (refine zcN ?_ (hc := by (intro F; exact trTo ⟨_, by exact takO⟩)))
        iterate 3 (refine ch_pure rfl (by kernel_rfl) rfl rfl ?_; intro K hK; go_big_quiet_op; go_big_quiet_on)
        (refine zc1 ?_ (hc := by (intro F; exact trCells ⟨_, by exact takO⟩ 6 _ rfl)))
        iterate 3 (refine ch_pure rfl (by kernel_rfl) rfl rfl ?_; intro K hK; go_big_quiet_op; go_big_quiet_on)
        (refine zc1 ?_ (hc := by (intro F; exact trCells ⟨_, by exact takO⟩ 7 _ rfl)))
        (refine ch_pure rfl (by kernel_rfl) rfl rfl ?_; intro K hK; go_big_quiet_op; go_big_quiet_on)
        (refine zcv ?_ (hs := by (intro F w hS; (try clear hS0); exact applyF Hk.out (by omega) (app_sA2 c0 c1) W w _ hS)))
        iterate 3 (refine ch_pure rfl (by kernel_rfl) rfl rfl ?_; intro K hK; go_big_quiet_op; go_big_quiet_on)
        (refine zca ?_)
        (refine zct ?_)
        (refine ch_pure rfl (by kernel_rfl) rfl rfl ?_; intro K hK; go_big_quiet_op; go_big_quiet_on)
        refine ch_end ?_
        intro w hS
        have hS2 : St W [ecQ eb (s3 n c) ((2 + i) + 1), ptrTo (nd 18) _ _, trR gt vc c, sats (blk bR [.int .i64 0, .int .i64 0, .int .i64 0, .int .i64 0, .int .i64 0, .int .i64 0] 31 :: blk bA [.string kA, .string kX] 26 :: blk bB [.string kB, .string kY] 26 :: R)] w := hS
        clear hS
        have hS := hS2.unpack [_, _, _]
        clear hS2
        simp only [List.cons_append, List.nil_append] at hS
        generalize nd 18 = v18 at *
        obtain ⟨hok2, hS3⟩ := St.and (show St W ((fun f => EOk (s3 n c) ((2 + i) + 1) ∧ ecP eb (s3 n c) f) :: _) w from hS)
        have Hk2 := Lib.hid hok2
        clear hS hok2
        have hS := hS3.sel (L' := ecP eb (s3 n c) :: trR gt vc c :: blk bR _ _ :: blk bA _ _ :: blk bB _ _ :: R) (by exact selS)
        clear hS3
        go_wp2_with (first | go_big_skip | (refine zlN hS ?_ (vs := [.string kB, .string kY]) (hc := by focus ((repeat (first | exact Cells.here rfl | apply Cells.there)); done))) | (go_at_call 18; with_reducible refine (atP_spec kB kY (s3_atB) W _ _ (hS.sel (L' := ecP eb (s3 n c) :: trR gt vc c :: blk bR _ _ :: blk bA _ _ :: blk bB _ _ :: R) (by exact selS))).mono ?_; clear hS; rintro e w ⟨rfl, hS⟩) | ((with_reducible apply wl_neA); (with_reducible rfl); rfl; rfl; rfl; kernel_rfl; exact eqItE rfl; (simp only [Bool.not_true]); (refine frS ?_)) | (go_at_call 19; refine (arrived_spec 1 2 (b := true) rfl W _ _ hS).mono ?_; clear hS; rintro e w ⟨rfl, hS⟩))
        go_roundw
        case rel => exact ⟨i + 1, by simp, by omega, .inr ⟨by omega, Hk2.out, hS⟩⟩
        case measure => simp [intOf]; omega
end Go.Proofs.YtlmhakmoioogaaaGreat
end
section
set_option linter.unusedSimpArgs false
set_option linter.unusedVariables false
namespace Go.Sl
open Go.ChangeShapes Go.WideShapes Go.ChangeAt Go.RowKit
section
variable {H : Type} {enc : TypeId × Value → H} {P : Program}
theorem trodAll_carry {w w' : World} {base : Nat} {spare : Nat → Bool} {held : Bool} : ∀ {ts : List TypeId} {vs : List Value} {ds : List (DataW H)} {ps : List MemPlace},
    DataW.TrodAll enc P w base spare held ts vs ds ps → (∀ p ∈ ps, w.sameAt w' p) → DataW.TrodAll enc P w' base spare held ts vs ds ps
  | [], [], [], _, h, _ => h
  | _ :: _, _ :: _, _ :: _, _, ⟨p, q, ⟨n, hn⟩, h2, e⟩, hs =>
    ⟨p, q, ⟨n, DataW.trod_carry n _ _ _ hn fun x hx => hs x (by rw [e]; exact List.mem_append_left _ hx)⟩, trodAll_carry h2 (fun x hx => hs x (by rw [e]; exact List.mem_append_right _ hx)), e⟩

/-- The end of a law: true, nothing that was there has turned. -/
theorem law_post {f : Func} {s : ChangeSpec} {apart fresh handsOn again : Bool} {W W' : World} {args : Array Value} {ds gs : List (DataW H)} {before : List MemPlace} {tb : TypeId}
    (hl : laidOutB P = true) (hm : mapsRowed P = true) (hz : ((List.range P.types.size).all fun t => match P.underlying t with | some (.slice e) => decide (0 < P.cellsOf e) | _ => true) = true)
    (hT : f.params.toList.all (· < P.types.size) = true) (hr : f.resultTypes = #[tb]) (hb : P.underlying tb = some .bool) (hv : s.vars = [])
    (hW : DataW.Whole enc P f.params.toList s.vars apart W args.toList ds gs before)
    (hres : (s.fn H (ds ++ gs)).results = [.lit (.bool true)]) (hargs : (s.fn H (ds ++ gs)).args = ds) (hvars : (s.fn H (ds ++ gs)).vars = [])
    (hB : Below W.heap.size W W') : s.post enc P f apart fresh handsOn again W args (.bool true) W' := by
  have hW0 := hW
  obtain ⟨p, q, hA, hV, rfl, hfz, hnd⟩ := hW
  rw [hv] at hV
  obtain ⟨rfl, rfl⟩ := trodVars_none hV
  have hlt : ∀ x ∈ p ++ [], x.block < W.heap.size := fun x hx => hW0.lt x hx
  have hA' : ∀ sp : Nat → Bool, (∀ x ∈ p ++ [], sp x.block = true) → DataW.TrodAll enc P W' 0 sp true f.params.toList args.toList (s.fn H (ds ++ [])).args p := fun sp hs => by
    rw [hargs]
    refine trodAll_carry (DataW.TrodAll.respare (kids_rows hl hm) (fun t e => slices_full_of P hz t e) (fun t ht => by simpa using List.all_eq_true.1 hT t ht) hA fun x hx => hs x (by simpa using hx)) fun x hx => hB.same (hlt x (by simpa using hx))
  have hR : ∀ (b : Nat) (sp : Nat → Bool) (hd : Bool), DataW.TrodAll enc P W' b sp hd f.resultTypes.toList ((Value.bool true).resultList f.resultTypes.size) (s.fn H (ds ++ [])).results [] := fun b sp hd => by
    rw [hres, hr]
    exact trodAll_cons_mk (shut_bool hb _) trodAll_mk0
  have hU : ∀ sp : Nat → Bool, DataW.TrodVars enc P W' sp s.vars (s.fn H (ds ++ [])).vars [] := fun sp => by
    rw [hv, hvars]; rfl
  have hold : ∀ x ∈ p ++ [], (fun b => decide (b < W.heap.size)) x.block = true := fun x hx => by simpa using hlt x hx
  refine ⟨ds, [], p ++ [], [], p, [], hW0, hR _ _ _, hA' _ hold, hU _, World.keptBut_mono (fun x hx => ⟨hx, ?_⟩) (hB.frame (· ∈ p ++ [])), fun _ => ?_⟩
  · exact Or.inr (by simpa using hx)
  · refine ⟨ok_one hr rfl (okWide_bool_mk hb _), _, _, ([] ++ p) ++ [], ⟨[] ++ p, [], trodAll_append (hA' _ (fun _ _ => rfl)) (hR _ _ _), hU _, rfl, ?_, ?_⟩, ?_⟩
    · intro b off hx
      rw [hB.frozen (hlt _ (by simpa using hx))]
      exact hfz b off (by simpa using hx)
    · intro ha
      simpa using hnd ha
    · intro x hx _
      simpa using hx
end
end Go.Sl
end
