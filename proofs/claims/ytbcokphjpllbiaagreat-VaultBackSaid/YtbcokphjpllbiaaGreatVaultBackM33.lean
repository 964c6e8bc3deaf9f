/-
  The program's Decode: any bytes as a vault, or refused. For all bytes.
-/
import Derived.Test.YtbcokphjpllbiaaGreatVaultBackM5
import Derived.Test.YtbcokphjpllbiaaGreatVaultBackM32

section
set_option linter.unusedSimpArgs false
set_option linter.unusedVariables false
namespace Go.Proofs.YtbcokphjpllbiaaGreat
open Go.RowKit Go.Sl
theorem num_ga {D : HP} {rb : Nat} {s s2 : RS} {n : Int} (hn : rdNum s = (n, s2)) (h : RdOk s) (W w : World) (R R' : List HP) (ht : Take R D R') (hS : St W (rdG D rb s :: R) w) :
    Calls Tryz.prog 32 #[.pointer (some ⟨rb, 0, none⟩)] w fun e w' => e = .returned (.int .i64 n) ∧ St W (rdG D rb s2 :: R) w' := by
  have h1 := num_g D rb s h.b h.l W w R R' ht hS
  rw [hn] at h1
  exact h1
theorem bytes_ga {D : HP} {rb : Nat} {s s1 : RS} {x : List Int} (hn : rdBytes s = (x, s1)) (h : RdOk s) (W w : World) (R R' : List HP) (ht : Take R D R') (hS : St W (rdG D rb s :: R) w) :
    Calls Tryz.prog 34 #[.pointer (some ⟨rb, 0, none⟩)] w fun e w' => ∃ v, e = .returned v ∧ St W (byR v x :: rdG D rb s1 :: R) w' := by
  have h1 := bytes_g D rb s h W w R R' ht hS
  rw [hn] at h1
  exact h1
theorem who_at {k : ByteArray} {r : Bool} (h : whoB k = r) (W w : World) (R : List HP) (hS : St W R w) :
    Calls Tryz.prog 36 #[.string k] w fun e w' => e = .returned (.bool r) ∧ St W R w' := h ▸ who_spec k W w R hS
theorem isP_at {x0 x1 x2 x3 : Int} {r : Bool} (h : isIt ⟨x0, x1, x2, x3⟩ = r) (W w : World) (R : List HP) (hS : St W R w) :
    Calls Tryz.prog 37 #[.agg #[.int .i64 x0, .int .i64 x1, .int .i64 x2, .int .i64 x3]] w fun e w' => e = .returned (.bool r) ∧ St W R w' := h ▸ is_spec ⟨x0, x1, x2, x3⟩ W w R hS
theorem lays_at (vb mb : Nat) (p : Ps) (k : ByteArray) (u1 u2 : Value) (W w : World) (R : List HP) (x0 x1 x2 x3 : Int) (hS : St W (blk vb [.map (some mb), u1, u2] 80 :: amap eS eP mb p :: R) w) :
    Calls Tryz.prog 38 #[.pointer (some ⟨vb, 0, none⟩), .string k, .agg #[.int .i64 x0, .int .i64 x1, .int .i64 x2, .int .i64 x3]] w fun e w' => e = .returned (.tuple #[]) ∧ St W (blk vb [.map (some mb), u1, u2] 80 :: amap eS eP mb (layP p k ⟨x0, x1, x2, x3⟩) :: R) w' :=
  lays_spec vb mb p k u1 u2 W w R ⟨x0, x1, x2, x3⟩ hS
def GOk (b : List Int) (p : Ps) (l : List Ord) (n : Int) : Prop := ∃ s, gP b = some (p, s) ∧ (gO s).1 = l ∧ gN s = (n, some []) ∧ OkN l n ∧ encV p l n = b
def PgR (W : World) (D : HP) (rb vb mb bb : Nat) (L : List HP) (T : Option (Ps × RS)) (v : Value) (w : World) : Prop :=
  ∃ (k : Nat) (p : Ps) (s : RS), v = .int .i64 k ∧ k ≤ 4611686018427387904 ∧ RdOk s ∧ szR s 0 900000 ∧ purP k p s = T ∧ St W (rdG D rb s :: blk vb [.map (some mb), .pointer (some ⟨bb, 0, none⟩), .int .i64 1] 80 :: amap eS eP mb p :: L) w
theorem sz_step {b r : List Int} (h : RdOk (some b)) (hs : szR (some b) 0 900000) (hr : rdHS (some b) = some r) : szR (some r) 0 900000 := by
  have h1 := rdH_len (h.b b rfl) hr
  have h2 : 0 + b.length ≤ 900000 := hs
  show 0 + r.length ≤ 900000
  omega
theorem sz_hs {b : List Int} (h : RdOk (some b)) (hs : szR (some b) 0 900000) : szR (rdHS (some b)) 0 900000 := by
  cases hr : rdHS (some b) with
  | none => exact Nat.zero_le _
  | some r => exact sz_step h hs hr
theorem good_no {D : HP} {rb : Nat} (W w : World) (R : List HP) (hS : St W (rdG D rb none :: R) w) :
    Calls Tryz.prog 33 #[.pointer (some ⟨rb, 0, none⟩)] w fun e w' => e = .returned (.bool false) ∧ St W (rdG D rb none :: R) w' := good_g D rb none W w R hS
theorem good_yes {D : HP} {rb : Nat} {l : List Int} (W w : World) (R : List HP) (hS : St W (rdG D rb (some l) :: R) w) :
    Calls Tryz.prog 33 #[.pointer (some ⟨rb, 0, none⟩)] w fun e w' => e = .returned (.bool true) ∧ St W (rdG D rb (some l) :: R) w' := good_g D rb (some l) W w R hS
theorem whole_at {D : HP} {rb : Nat} {s : RS} {r : Bool} (h : isEnd s = r) (W w : World) (R : List HP) (hS : St W (rdG D rb s :: R) w) :
    Calls Tryz.prog 39 #[.pointer (some ⟨rb, 0, none⟩)] w fun e w' => e = .returned (.bool r) ∧ St W (rdG D rb s :: R) w' := h ▸ whole_g D rb s W w R hS
def OgR (W : World) (D : HP) (rb : Nat) (L : List HP) (T : List Ord × RS) (v9 v10 : Value) (w : World) : Prop :=
  ∃ (k : Nat) (l : List Ord) (s : RS), v10 = .int .i64 k ∧ k ≤ 4611686018427387904 ∧ RdOk s ∧ szR s l.length 900000 ∧ ordP k l s = T ∧ St W (rdG D rb s :: pileR v9 l :: L) w
theorem gno_none {b : List Int} {p : Ps} {s : RS} (h : gP b = some (p, s)) (h2 : (gO s).2 = none) : ∀ p l n, ¬ GOk b p l n := by
  rintro p2 l n ⟨s2, h3, _, h5, _⟩
  rw [h] at h3
  cases h3
  unfold gN at h5
  rw [h2] at h5
  cases h5
theorem encF_byB : ∀ f u, u < 128 ^ (f + 1) → ByB (encF f u)
  | 0, u, hu => by
    intro c hc
    rw [show encF 0 u = [(u : Int)] from rfl, List.mem_singleton] at hc
    subst hc
    simp at hu
    omega
  | f + 1, u, hu => by
    rw [encF]
    split
    · intro c hc
      rcases List.mem_cons.1 hc with rfl | hc
      · omega
      · exact encF_byB f (u / 128) (Nat.div_lt_of_lt_mul (by rw [Nat.pow_succ] at hu; omega)) c hc
    · intro c hc
      rw [List.mem_singleton] at hc
      omega
theorem byB_cat {s t : List Int} (h : ByB s) (h2 : ByB t) : ByB (s ++ t) := fun c hc => (List.mem_append.1 hc).elim (h c) (h2 c)
theorem numB_byB (n : Int) : ByB (numB n) := encF_byB _ _ (lt_pow9 (numU_le n))
theorem byB_flat {α : Type} {f : α → List Int} (h : ∀ x, ByB (f x)) : ∀ l : List α, ByB (l.flatMap f)
  | [] => fun c hc => (by cases hc)
  | x :: l => by
    rw [List.flatMap_cons]
    exact byB_cat (h x) (byB_flat h l)
theorem strE_byB (u : ByteArray) : ByB (strE u) := byB_cat (numB_byB _) (strI_byB u)
theorem encV_byB (p : Ps) (l : List Ord) (n : Int) : ByB (encV p l n) := byB_cat (byB_cat (byB_cat (byB_cat (numB_byB _) (byB_flat (fun h => byB_cat (strE_byB _) (byB_flat numB_byB _)) _)) (numB_byB _)) (byB_flat (fun o => byB_cat (byB_cat (numB_byB _) (strE_byB _)) (byB_flat numB_byB _)) _)) (numB_byB _)
theorem gno_ref {b : List Int} (h : gP b = none) : ∀ p l n, ¬ GOk b p l n := by
  rintro p2 l n ⟨s2, h3, _⟩
  rw [h] at h3
  cases h3
theorem gok_inv {b : List Int} {p p2 : Ps} {l l2 : List Ord} {n n2 : Int} {s s9 : RS} (h : GOk b p2 l2 n2) (hg : gP b = some (p, s)) (ho : (gO s).1 = l) (hn : gN s = (n, s9)) : s9 = some [] ∧ OkN l n ∧ encV p l n = b := by
  obtain ⟨s2, h1, h2, h3, h4, h5⟩ := h
  rw [hg] at h1
  cases h1
  rw [ho] at h2
  subst h2
  rw [hn] at h3
  cases h3
  exact ⟨rfl, h4, h5⟩
theorem ofG_no {l : List Ord} (h : Refused l) (hl : l.length ≤ 10000000) (v : Value) (W w : World) (R : List HP) (hS : St W (pileR v l :: R) w) :
    Calls Tryz.prog 40 #[v] w fun e w' => e = .returned (.tuple #[.pointer none, .int .i64 1]) ∧ St W R w' := by
  refine (of_spec l v W w R hl hS).mono ?_
  rintro e w' (⟨h1, h2, h3⟩ | ⟨h1, h2, _⟩)
  · exact ⟨h2, h3⟩
  · exact absurd h (not_refused h1 h2)
theorem ofG_yes {l : List Ord} {n : Int} (h : ¬ Refused l) (hl : l.length ≤ 10000000) (hla : lastOf l l.length < n) (v : Value) (W w : World) (R : List HP) (hS : St W (pileR v l :: R) w) :
    Calls Tryz.prog 40 #[v] w fun e w' => ∃ bb, e = .returned (.tuple #[.pointer (some ⟨bb, 0, none⟩), .int .i64 0]) ∧ (l.length ≤ 32 ∧ OkTo l l.length) ∧ St W (bookL bb l n :: R) w' := by
  refine (of_spec l v W w R hl hS).mono ?_
  rintro e w' (⟨h1, _⟩ | ⟨h1, h2, bb, b, h3, h4, h5, h6⟩)
  · exact absurd h1 h
  · exact ⟨bb, h3, ⟨h1, h2⟩, bookLShut h4 (by rw [h5]; exact hla) h6⟩
theorem last_aux (l : List Ord) : ∀ k, 0 < k → lastOf l k = (at' l (k - 1)).id
  | _ + 1, _ => rfl
theorem last_at {l : List Ord} (h : 0 < l.length) : lastOf l l.length = (l[l.length - 1]).id := by
  rw [last_aux l _ h, at'_get (by omega)]
theorem ordP_none (k : Nat) (l : List Ord) : ordP k l none = (l, none) := by
  cases k <;> rfl
theorem purP_none (k : Nat) (p : Ps) : purP k p none = some (p, none) := by
  cases k <;> rfl
theorem gO_none : gO none = ([], none) := rfl
set_option maxRecDepth 100000 in
set_option maxHeartbeats 8000000 in
theorem decode_g (D0 : HP) (a : Option Addr) (c : Nat) (b : List Int) (hat : At D0 a c b) (hb : ByB b) (hN : b.length ≤ 900000) (W w : World) (R R' : List HP) (ht : Take R D0 R') (hS : St W R w) :
    Calls Tryz.prog 10 #[.slice a b.length c] w fun e w' => ((∀ p l n, ¬ GOk b p l n) ∧ e = .returned (.tuple #[.pointer none, .int .i64 3]) ∧ St W R w') ∨
      (∃ p l n, GOk b p l n ∧ ∃ vb mb bb, e = .returned (.tuple #[.pointer (some ⟨vb, 0, none⟩), .int .i64 0]) ∧ St W (vaultL vb mb bb p l n R) w') := by
  have hok : RdOk (some b) := ⟨fun l hl => by cases hl; exact hb, fun l hl => by cases hl; omega⟩
  have Hok := Lib.hid hok
  clear hok
  go_enter Tryz.func10, Tryz.ntmps10
  go_wp2_with (first | go_big_skip | (go_at_call 15; refine (newV_spec W _ _ hS).mono ?_; clear hS; rintro e w ⟨vb, mb, bb, rfl, hS⟩) | (go_at_call 31; refine (newR_g D0 a c b hat (by omega) W _ _ _ (by (focus((repeat(first|exact ht | apply Take.tail)); done))) hS).mono ?_; clear hS; rintro e w ⟨dv, rb, rfl, hS⟩; (have hv := hS.drop.rowVal; obtain ⟨da, dc, rfl⟩ := hv)) | ((fail_if_success (have := m1)); go_at_call 32; refine (num_g _ rb (some b) Hok.out.b Hok.out.l W _ _ _ (.tail (.tail (.tail .head))) (hS.sel (L' := rdG _ rb (some b) :: blk vb _ _ :: amap eS eP mb [] :: bookL bb [] 1 :: byR _ b :: R) (by exact selS))).mono ?_; clear hS; have m1 : Nat := 0; rintro e w ⟨rfl, hS⟩))
  have hr := rdNum_rng (some b)
  have hT0 : purP (rdNum (some b)).1.toNat [] (rdNum (some b)).2 = gP b := rfl
  have hok2 := Hok.out.num
  have hsz2 : szR (rdNum (some b)).2 0 900000 := by
    cases hs : (rdNum (some b)).2 with
    | none => exact Nat.zero_le _
    | some r =>
      have := rdNum_len Hok.out.b hs rfl
      show 0 + r.length ≤ 900000
      omega
  generalize rdNum (some b) = q at hS hr hT0 hok2 hsz2 ⊢
  obtain ⟨n2, s2⟩ := q
  simp only at hS hr hT0 hok2 hsz2
  obtain ⟨m, rfl⟩ : ∃ m : Nat, n2 = m := ⟨n2.toNat, by omega⟩
  have hm : m ≤ 4611686018427387904 := by omega
  obtain ⟨D, hD⟩ : ∃ D, D = byR (.slice da b.length dc) b := ⟨_, rfl⟩
  rw [← hD] at hS
  have hS1 := hS.sel (L' := rdG D rb s2 :: blk vb _ _ :: amap eS eP mb [] :: D :: R) (by exact selS)
  clear hS
  have hS := hS1
  have HT0 := Lib.hid hT0
  have Hok2 := Lib.hid hok2
  have Hsz2 := Lib.hid hsz2
  clear hr hT0 hok2 hsz2 hS1 hD
  go_loopw [6] (fun v wr => PgR W D rb vb mb bb (D :: R) (gP b) v wr) (fun v _ => (intOf v).toNat)
  case atStart => exact ⟨m, [], s2, rfl, hm, Hok2.out, Hsz2.out, HT0.out, hS⟩
  case round =>
    clear hS Hok2 HT0 Hsz2 hm
    obtain ⟨k, p, s, rfl, hk, hok, hsz, hT, hS⟩ := hrel
    have Hsz := Lib.hid hsz
    have Hok1 := Lib.hid hok
    have HT := Lib.hid hT
    clear hok hT hsz
    cases s with
    | none =>
      have hT2 := HT.out
      rw [purP_none] at hT2
      have Hno := Lib.hid (gno_none hT2.symm (by rw [gO_none]))
      clear hT2
      by_cases hk0 : k = 0
      · subst hk0
        go_wp2_with (first | go_big_skip | (go_at_call 32; refine (num_ga rdNum_none rdOk_none W _ _ _ (by (focus((repeat(first|exact .head|apply Take.tail));done))) hS).mono ?_; clear hS; rintro e w ⟨rfl, hS⟩))
        have hS1 := (hS.rowNil (k := 6) (T := 41)).swap
        clear hS
        have hS := hS1
        clear hS1
        go_loopw [9, 10] (fun v9 v10 wr => v9 = .slice none 0 0 ∧ v10 = .int .i64 0 ∧ St W (rdG D rb none :: row (.slice none 0 0) 6 41 0 [] :: blk vb [.map (some mb), .pointer (some ⟨bb, 0, none⟩), .int .i64 1] 80 :: amap eS eP mb p :: D :: R) wr) (fun _ _ _ => 0)
        case atStart => exact ⟨rfl, rfl, hS⟩
        case round =>
          clear hS
          obtain ⟨rfl, rfl, hS⟩ := hrel
          go_wp2_with (first | go_big_skip | (go_at_call 33; refine (good_no W _ _ hS).mono ?_; clear hS; rintro e w ⟨rfl, hS⟩) | (go_at_call 32; refine (num_ga rdNum_none rdOk_none W _ _ _ (by (focus((repeat(first|exact .head|apply Take.tail));done))) hS).mono ?_; clear hS; rintro e w ⟨rfl, hS⟩) | (refine zs1 hS ?_; clear hS; intro w hS))
          have He := Lib.hid (show isEnd none = false from rfl)
          refine wp_region_reads (by kernel_rfl) (by kernel_rfl) hS ?_
          repeat (first | go_big_quiet_skip | (refine zq1 ?_) | (apply wq_ld1; (with_reducible rfl); rfl; rfl; decide +kernel; (exact hlast (.tail .head)); (refine frS ?_)) | (refine zqn ?_) | (apply wq_call; rfl; (intro w; apply exec_callF; (with_reducible rfl); decide +kernel; (focus (simp only [fD, List.map_cons, List.map_nil, Act.eval, fE, fF, fG, fH, Option.getD_some]; try rfl))); (intro w hS; exact whole_at He.out W w _ hS); (refine frS ?_)) | (refine wq_pure rfl rfl ?_; intro K hK; go_big_quiet_op; go_big_quiet_on))
          clear hS
          intro w hS
          go_wp2_with (first | go_big_skip)
          go_ret2
          exact .inl ⟨Hno.out, rfl, hS.drop.drop.drop.drop.drop⟩
      · have hd1 : decide (0 < k) = true := by simp; omega
        have hk1 : 0 < k := by omega
        go_wp2_with (first | go_big_skip | (go_at_call 33; refine (good_no W _ _ hS).mono ?_; clear hS; rintro e w ⟨rfl, hS⟩) | (go_at_call 32; refine (num_ga rdNum_none rdOk_none W _ _ _ (by (focus((repeat(first|exact .head|apply Take.tail));done))) hS).mono ?_; clear hS; rintro e w ⟨rfl, hS⟩))
        have hS1 := (hS.rowNil (k := 6) (T := 41)).swap
        clear hS
        have hS := hS1
        clear hS1
        go_loopw [9, 10] (fun v9 v10 wr => v9 = .slice none 0 0 ∧ v10 = .int .i64 0 ∧ St W (rdG D rb none :: row (.slice none 0 0) 6 41 0 [] :: blk vb [.map (some mb), .pointer (some ⟨bb, 0, none⟩), .int .i64 1] 80 :: amap eS eP mb p :: D :: R) wr) (fun _ _ _ => 0)
        case atStart => exact ⟨rfl, rfl, hS⟩
        case round =>
          clear hS
          obtain ⟨rfl, rfl, hS⟩ := hrel
          go_wp2_with (first | go_big_skip | (go_at_call 33; refine (good_no W _ _ hS).mono ?_; clear hS; rintro e w ⟨rfl, hS⟩) | (go_at_call 32; refine (num_ga rdNum_none rdOk_none W _ _ _ (by (focus((repeat(first|exact .head|apply Take.tail));done))) hS).mono ?_; clear hS; rintro e w ⟨rfl, hS⟩) | (refine zs1 hS ?_; clear hS; intro w hS))
          have He := Lib.hid (show isEnd none = false from rfl)
          refine wp_region_reads (by kernel_rfl) (by kernel_rfl) hS ?_
          repeat (first | go_big_quiet_skip | (refine zq1 ?_) | (apply wq_ld1; (with_reducible rfl); rfl; rfl; decide +kernel; (exact hlast (.tail .head)); (refine frS ?_)) | (refine zqn ?_) | (apply wq_call; rfl; (intro w; apply exec_callF; (with_reducible rfl); decide +kernel; (focus (simp only [fD, List.map_cons, List.map_nil, Act.eval, fE, fF, fG, fH, Option.getD_some]; try rfl))); (intro w hS; exact whole_at He.out W w _ hS); (refine frS ?_)) | (refine wq_pure rfl rfl ?_; intro K hK; go_big_quiet_op; go_big_quiet_on))
          clear hS
          intro w hS
          go_wp2_with (first | go_big_skip)
          go_ret2
          exact .inl ⟨Hno.out, rfl, hS.drop.drop.drop.drop.drop⟩
    | some b2 =>
      by_cases hk0 : k = 0
      · subst hk0
        have hg := HT.out
        rw [purP] at hg
        have Hg := Lib.hid hg.symm
        have hr := rdNum_rng (some b2)
        have hT0 : ordP (rdNum (some b2)).1.toNat [] (rdNum (some b2)).2 = gO (some b2) := rfl
        have hok2 := Hok1.out.num
        have hsz2 : szR (rdNum (some b2)).2 0 900000 := by
          have h9 : 0 + b2.length ≤ 900000 := Hsz.out
          cases hs : (rdNum (some b2)).2 with
          | none => exact Nat.zero_le _
          | some r =>
            have := rdNum_len Hok1.out.b hs rfl
            show 0 + r.length ≤ 900000
            omega
        obtain ⟨⟨n2, s2⟩, q2⟩ : ∃ y, rdNum (some b2) = y := ⟨_, rfl⟩
        rw [q2] at hr hT0 hok2 hsz2
        simp only at hr hT0 hok2 hsz2
        obtain ⟨m, rfl⟩ : ∃ m : Nat, n2 = m := ⟨n2.toNat, by omega⟩
        have hm : m ≤ 4611686018427387904 := by omega
        have E2 := Lib.hid q2
        have K0 := Lib.hid Hok1.out
        have HT0 := Lib.hid hT0
        have Hok2 := Lib.hid hok2
        have Hsz2 := Lib.hid hsz2
        generalize hTT : gO (some b2) = T at HT0
        have HTT := Lib.hid hTT
        clear hr hT0 hok2 hsz2 q2 hg hTT
        go_wp2_with (first | go_big_skip | (go_at_call 32; refine (num_ga E2.out K0.out W _ _ _ (by (focus((repeat(first|exact .head|apply Take.tail));done))) hS).mono ?_; clear hS; rintro e w ⟨rfl, hS⟩))
        have hS1 := (hS.rowNil (k := 6) (T := 41)).swap
        clear hS
        have hS := hS1
        clear hS1
        go_loopw [9, 10] (fun v9 v10 wr => OgR W D rb (blk vb [.map (some mb), .pointer (some ⟨bb, 0, none⟩), .int .i64 1] 80 :: amap eS eP mb p :: D :: R) T v9 v10 wr) (fun _ v10 _ => (intOf v10).toNat)
        case atStart => exact ⟨m, [], s2, rfl, hm, Hok2.out, Hsz2.out, HT0.out, hS⟩
        case round =>
          clear hS K0 E2 HT0 Hok2 Hsz2 hm
          obtain ⟨k, l, s, rfl, hk, hok, hsz, hT, hS⟩ := hrel
          unfold pileR at hS
          obtain ⟨va, vc, rfl⟩ := hS.drop.rowVal
          have hS1 : St W (rdG D rb s :: pileR (.slice va l.length vc) l :: _) _ := hS
          clear hS
          have hS := hS1
          clear hS1
          have K0 := Lib.hid hok
          have Hsz3 := Lib.hid hsz
          have HT3 := Lib.hid hT
          have hl1 : l.length ≤ 900001 := by
            cases s with
            | none => exact hsz
            | some b3 => have h9 : l.length + b3.length ≤ 900000 := hsz; omega
          clear hok hsz hT
          cases s with
          | none =>
            have hT4 := HT3.out
            rw [ordP_none] at hT4
            have Hno := Lib.hid (gno_none Hg.out (by rw [HTT.out, ← hT4]))
            have He := Lib.hid (show isEnd none = false from rfl)
            clear hT4
            by_cases hk0 : k = 0
            · subst hk0
              go_wp2_with (first | go_big_skip | (go_at_call 32; refine (num_ga rdNum_none rdOk_none W _ _ _ (by (focus((repeat(first|exact .head|apply Take.tail));done))) hS).mono ?_; clear hS; rintro e w ⟨rfl, hS⟩) | (refine zs1 hS ?_; clear hS; intro w hS))
              refine wp_region_reads (by kernel_rfl) (by kernel_rfl) hS ?_
              repeat (first | go_big_quiet_skip | (refine zq1 ?_) | (apply wq_ld1; (with_reducible rfl); rfl; rfl; decide +kernel; (exact hlast (.tail .head)); (refine frS ?_)) | (refine zqn ?_) | (apply wq_call; rfl; (intro w; apply exec_callF; (with_reducible rfl); decide +kernel; (focus (simp only [fD, List.map_cons, List.map_nil, Act.eval, fE, fF, fG, fH, Option.getD_some]; try rfl))); (intro w hS; exact whole_at He.out W w _ hS); (refine frS ?_)) | (refine wq_pure rfl rfl ?_; intro K hK; go_big_quiet_op; go_big_quiet_on))
              clear hS
              intro w hS
              go_wp2_with (first | go_big_skip)
              go_ret2
              exact .inl ⟨Hno.out, rfl, hS.drop.drop.drop.drop.drop⟩
            · have hk1 : 0 < k := by omega
              go_wp2_with (first | go_big_skip | (go_at_call 33; refine (good_no W _ _ hS).mono ?_; clear hS; rintro e w ⟨rfl, hS⟩) | (go_at_call 32; refine (num_ga rdNum_none rdOk_none W _ _ _ (by (focus((repeat(first|exact .head|apply Take.tail));done))) hS).mono ?_; clear hS; rintro e w ⟨rfl, hS⟩) | (refine zs1 hS ?_; clear hS; intro w hS))
              refine wp_region_reads (by kernel_rfl) (by kernel_rfl) hS ?_
              repeat (first | go_big_quiet_skip | (refine zq1 ?_) | (apply wq_ld1; (with_reducible rfl); rfl; rfl; decide +kernel; (exact hlast (.tail .head)); (refine frS ?_)) | (refine zqn ?_) | (apply wq_call; rfl; (intro w; apply exec_callF; (with_reducible rfl); decide +kernel; (focus (simp only [fD, List.map_cons, List.map_nil, Act.eval, fE, fF, fG, fH, Option.getD_some]; try rfl))); (intro w hS; exact whole_at He.out W w _ hS); (refine frS ?_)) | (refine wq_pure rfl rfl ?_; intro K hK; go_big_quiet_op; go_big_quiet_on))
              clear hS
              intro w hS
              go_wp2_with (first | go_big_skip)
              go_ret2
              exact .inl ⟨Hno.out, rfl, hS.drop.drop.drop.drop.drop⟩
          | some b3 =>
            by_cases hk0 : k = 0
            · subst hk0
              have hT4 := HT3.out
              rw [ordP] at hT4
              obtain ⟨⟨n, s9⟩, q9⟩ : ∃ y, rdNum (some b3) = y := ⟨_, rfl⟩
              have Hgn := Lib.hid (show gN (some b2) = (n, s9) by unfold gN; rw [HTT.out, ← hT4]; exact q9)
              have Hgo := Lib.hid (show (gO (some b2)).1 = l by rw [HTT.out, ← hT4])
              have E9 := Lib.hid q9
              have Hpi := Lib.hid (gP_ok hb Hg.out).1
              clear hT4 q9
              cases he : isEnd s9 with
              | false =>
                have Hno := Lib.hid (fun p l n h => end_no he (gok_inv h Hg.out Hgo.out Hgn.out).1 : ∀ p l n, ¬ GOk b p l n)
                have He := Lib.hid he
                clear he
                go_wp2_with (first | go_big_skip | (go_at_call 32; refine (num_ga E9.out K0.out W _ _ _ (by (focus((repeat(first|exact .head|apply Take.tail));done))) hS).mono ?_; clear hS; rintro e w ⟨rfl, hS⟩) | (refine zs1 hS ?_; clear hS; intro w hS))
                refine wp_region_reads (by kernel_rfl) (by kernel_rfl) hS ?_
                repeat (first | go_big_quiet_skip | (refine zq1 ?_) | (apply wq_ld1; (with_reducible rfl); rfl; rfl; decide +kernel; (exact hlast (.tail .head)); (refine frS ?_)) | (refine zqn ?_) | (apply wq_call; rfl; (intro w; apply exec_callF; (with_reducible rfl); decide +kernel; (focus (simp only [fD, List.map_cons, List.map_nil, Act.eval, fE, fF, fG, fH, Option.getD_some]; try rfl))); (intro w hS; exact whole_at He.out W w _ hS); (refine frS ?_)) | (refine wq_pure rfl rfl ?_; intro K hK; go_big_quiet_op; go_big_quiet_on))
                clear hS
                intro w hS
                go_wp2_with (first | go_big_skip)
                go_ret2
                exact .inl ⟨Hno.out, rfl, hS.drop.drop.drop.drop.drop⟩
              | true =>
                obtain rfl := end_yes he
                have He := Lib.hid he
                clear he
                by_cases c1 : n < 1
                · have hd5 : decide (n < 1) = true := by simpa using c1
                  have Hno := Lib.hid (fun p l n h => absurd (gok_inv h Hg.out Hgo.out Hgn.out).2.1.n0 (by omega) : ∀ p l n, ¬ GOk b p l n)
                  go_wp2_with (first | go_big_skip | (go_at_call 32; refine (num_ga E9.out K0.out W _ _ _ (by (focus((repeat(first|exact .head|apply Take.tail));done))) hS).mono ?_; clear hS; rintro e w ⟨rfl, hS⟩) | (refine zs1 hS ?_; clear hS; intro w hS))
                  refine wp_region_reads (by kernel_rfl) (by kernel_rfl) hS ?_
                  repeat (first | go_big_quiet_skip | (refine zq1 ?_) | (apply wq_ld1; (with_reducible rfl); rfl; rfl; decide +kernel; (exact hlast (.tail .head)); (refine frS ?_)) | (refine zqn ?_) | (apply wq_call; rfl; (intro w; apply exec_callF; (with_reducible rfl); decide +kernel; (focus (simp only [fD, List.map_cons, List.map_nil, Act.eval, fE, fF, fG, fH, Option.getD_some]; try rfl))); (intro w hS; exact whole_at He.out W w _ hS); (refine frS ?_)) | (refine wq_pure rfl rfl ?_; intro K hK; go_big_quiet_op; go_big_quiet_on))
                  clear hS
                  intro w hS
                  go_wp2_with (first | go_big_skip)
                  go_ret2
                  exact .inl ⟨Hno.out, rfl, hS.drop.drop.drop.drop.drop⟩
                · have hd5 : decide (n < 1) = false := by simpa using c1
                  by_cases c2 : 1099511627777 < n
                  · have hd6 : decide (1099511627777 < n) = true := by simpa using c2
                    have Hno := Lib.hid (fun p l n h => absurd (gok_inv h Hg.out Hgo.out Hgn.out).2.1.n1 (by omega) : ∀ p l n, ¬ GOk b p l n)
                    go_wp2_with (first | go_big_skip | (go_at_call 32; refine (num_ga E9.out K0.out W _ _ _ (by (focus((repeat(first|exact .head|apply Take.tail));done))) hS).mono ?_; clear hS; rintro e w ⟨rfl, hS⟩) | (refine zs1 hS ?_; clear hS; intro w hS))
                    refine wp_region_reads (by kernel_rfl) (by kernel_rfl) hS ?_
                    repeat (first | go_big_quiet_skip | (refine zq1 ?_) | (apply wq_ld1; (with_reducible rfl); rfl; rfl; decide +kernel; (exact hlast (.tail .head)); (refine frS ?_)) | (refine zqn ?_) | (apply wq_call; rfl; (intro w; apply exec_callF; (with_reducible rfl); decide +kernel; (focus (simp only [fD, List.map_cons, List.map_nil, Act.eval, fE, fF, fG, fH, Option.getD_some]; try rfl))); (intro w hS; exact whole_at He.out W w _ hS); (refine frS ?_)) | (refine wq_pure rfl rfl ?_; intro K hK; go_big_quiet_op; go_big_quiet_on))
                    clear hS
                    intro w hS
                    go_wp2_with (first | go_big_skip)
                    go_ret2
                    exact .inl ⟨Hno.out, rfl, hS.drop.drop.drop.drop.drop⟩
                  · have hd6 : decide (1099511627777 < n) = false := by simpa using c2
                    by_cases c3 : l.length = 0
                    · have hd7 : decide (0 < l.length) = false := by rw [c3]; rfl
                      have Hla := Lib.hid (show lastOf l l.length < n by rw [c3]; show (0 : Int) < n; omega)
                      clear c3
                      go_wp2_with (first | go_big_skip | (go_at_call 32; refine (num_ga E9.out K0.out W _ _ _ (by (focus((repeat(first|exact .head|apply Take.tail));done))) hS).mono ?_; clear hS; rintro e w ⟨rfl, hS⟩) | (refine zs1 hS ?_; clear hS; intro w hS))
                      refine wp_region_reads (by kernel_rfl) (by kernel_rfl) hS ?_
                      repeat (first | go_big_quiet_skip | (refine zq1 ?_) | (apply wq_ld1; (with_reducible rfl); rfl; rfl; decide +kernel; (exact hlast (.tail .head)); (refine frS ?_)) | (refine zqn ?_) | (apply wq_call; rfl; (intro w; apply exec_callF; (with_reducible rfl); decide +kernel; (focus (simp only [fD, List.map_cons, List.map_nil, Act.eval, fE, fF, fG, fH, Option.getD_some]; try rfl))); (intro w hS; exact whole_at He.out W w _ hS); (refine frS ?_)) | (refine wq_pure rfl rfl ?_; intro K hK; go_big_quiet_op; go_big_quiet_on))
                      clear hS
                      intro w hS
                      by_cases hR : Refused l
                      · have HR := Lib.hid hR
                        have Hno := Lib.hid (fun p l n h => not_refused (gok_inv h Hg.out Hgo.out Hgn.out).2.1.few (gok_inv h Hg.out Hgo.out Hgn.out).2.1.ok hR : ∀ p l n, ¬ GOk b p l n)
                        clear hR
                        go_wp2_with (first | go_big_skip | (go_at_call 40; refine (ofG_no HR.out (by omega) _ W _ _ (hS.sel (L' := pileR _ l :: blk vb _ _ :: R) (by exact selS))).mono ?_; clear hS; rintro e w ⟨rfl, hS⟩) | (refine zs1 hS ?_; clear hS; intro w hS))
                        go_ret2
                        exact .inl ⟨Hno.out, rfl, hS.drop⟩
                      · have HR := Lib.hid hR
                        clear hR
                        by_cases hE : encV p l n = b
                        · have Heq := Lib.hid (show ((bstr (encV p l n)).toList == (bstr b).toList) = true by rw [hE]; exact who_beq.2 rfl)
                          have HE := Lib.hid hE
                          clear hE
                          go_wp2_with (first | go_big_skip | (go_at_call 40; refine (ofG_yes HR.out (by omega) Hla.out _ W _ _ (hS.sel (L' := pileR _ l :: blk vb _ _ :: amap eS eP mb p :: R) (by exact selS))).mono ?_; clear hS; rintro e w ⟨bk, rfl, hok9, hS⟩; have Hok9 := Lib.hid hok9; clear hok9) | (refine zs1 hS ?_; clear hS; intro w hS) | (go_at_call 12; refine (encodeV vb mb bk p l n Hpi.out.ok Hpi.out.w (by omega) (by omega) (by omega) W _ _ (hS.sel (L' := blk vb _ _ :: amap eS eP mb p :: bookL bk l n :: R) (by exact selS))).mono ?_; clear hS; rintro e w ⟨ev, rfl, hS⟩) | (go_at_call 41; refine (equal_g D0 a c b (encV p l n) ev hat Heq.out W _ _ _ _ (.tail (.tail (.tail (.tail ht)))) .head hS).mono ?_; clear hS; rintro e w ⟨rfl, hS⟩))
                          go_ret2
                          exact .inr ⟨p, l, n, ⟨_, Hg.out, Hgo.out, Hgn.out, ⟨Hok9.out.1, Hok9.out.2, Hla.out, by omega, by omega⟩, HE.out⟩, vb, mb, bk, rfl, hS.drop⟩
                        · have Heq := Lib.hid (show ((bstr (encV p l n)).toList == (bstr b).toList) = false by rw [← Bool.not_eq_true, who_beq]; intro e; exact hE (by rw [← strI_bstr (encV_byB p l n), ← strI_bstr hb, e]))
                          have Hno := Lib.hid (fun p l n h => hE (gok_inv h Hg.out Hgo.out Hgn.out).2.2 : ∀ p l n, ¬ GOk b p l n)
                          clear hE
                          go_wp2_with (first | go_big_skip | (go_at_call 40; refine (ofG_yes HR.out (by omega) Hla.out _ W _ _ (hS.sel (L' := pileR _ l :: blk vb _ _ :: amap eS eP mb p :: R) (by exact selS))).mono ?_; clear hS; rintro e w ⟨bk, rfl, hok9, hS⟩; have Hok9 := Lib.hid hok9; clear hok9) | (refine zs1 hS ?_; clear hS; intro w hS) | (go_at_call 12; refine (encodeV vb mb bk p l n Hpi.out.ok Hpi.out.w (by omega) (by omega) (by omega) W _ _ (hS.sel (L' := blk vb _ _ :: amap eS eP mb p :: bookL bk l n :: R) (by exact selS))).mono ?_; clear hS; rintro e w ⟨ev, rfl, hS⟩) | (go_at_call 41; refine (equal_g D0 a c b (encV p l n) ev hat Heq.out W _ _ _ _ (.tail (.tail (.tail (.tail ht)))) .head hS).mono ?_; clear hS; rintro e w ⟨rfl, hS⟩))
                          go_ret2
                          exact .inl ⟨Hno.out, rfl, hS.drop.drop.drop.drop⟩
                    · have hpos : 0 < l.length := by omega
                      have hd7 : decide (0 < l.length) = true := by simpa using hpos
                      obtain ⟨⟨g, rfl⟩, _, _⟩ := St.rowAddr (show St W (row (.slice va l.length vc) 6 41 l.length (l.flatMap Ord.cells) :: _) _ from hS.drop) hpos
                      have hlast : ∀ {K K' : List HP}, Take K (pileR (.slice (some ⟨g, 0, none⟩) l.length vc) l) K' → Cell K g ((l.length - 1) * 6) (.int .i64 (l[l.length - 1]'(by omega)).id) := fun hu => Cells.elemM (enc := Ord.cells) Ord.len hu (by omega) 0 _ rfl
                      have hla := last_at hpos
                      generalize (l[l.length - 1]'(by omega)).id = la at hlast hla
                      by_cases c4 : n ≤ la
                      · have hd8 : decide (n ≤ la) = true := by simpa using c4
                        have Hno := Lib.hid (fun p l n h => absurd (gok_inv h Hg.out Hgo.out Hgn.out).2.1.last (by rw [hla]; omega) : ∀ p l n, ¬ GOk b p l n)
                        clear hla
                        go_wp2_with (first | go_big_skip | (go_at_call 32; refine (num_ga E9.out K0.out W _ _ _ (by (focus((repeat(first|exact .head|apply Take.tail));done))) hS).mono ?_; clear hS; rintro e w ⟨rfl, hS⟩) | (refine zs1 hS ?_; clear hS; intro w hS))
                        refine wp_region_reads (by kernel_rfl) (by kernel_rfl) hS ?_
                        repeat (first | go_big_quiet_skip | (refine zq1 ?_) | (apply wq_ld1; (with_reducible rfl); rfl; rfl; decide +kernel; (exact hlast (.tail .head)); (refine frS ?_)) | (refine zqn ?_) | (apply wq_call; rfl; (intro w; apply exec_callF; (with_reducible rfl); decide +kernel; (focus (simp only [fD, List.map_cons, List.map_nil, Act.eval, fE, fF, fG, fH, Option.getD_some]; try rfl))); (intro w hS; exact whole_at He.out W w _ hS); (refine frS ?_)) | (refine wq_pure rfl rfl ?_; intro K hK; go_big_quiet_op; go_big_quiet_on))
                        clear hS
                        intro w hS
                        go_wp2_with (first | go_big_skip)
                        go_ret2
                        exact .inl ⟨Hno.out, rfl, hS.drop.drop.drop.drop.drop⟩
                      · have hd8 : decide (n ≤ la) = false := by simpa using c4
                        have Hla := Lib.hid (show lastOf l l.length < n by rw [hla]; omega)
                        clear hla
                        go_wp2_with (first | go_big_skip | (go_at_call 32; refine (num_ga E9.out K0.out W _ _ _ (by (focus((repeat(first|exact .head|apply Take.tail));done))) hS).mono ?_; clear hS; rintro e w ⟨rfl, hS⟩) | (refine zs1 hS ?_; clear hS; intro w hS))
                        refine wp_region_reads (by kernel_rfl) (by kernel_rfl) hS ?_
                        repeat (first | go_big_quiet_skip | (refine zq1 ?_) | (apply wq_ld1; (with_reducible rfl); rfl; rfl; decide +kernel; (exact hlast (.tail .head)); (refine frS ?_)) | (refine zqn ?_) | (apply wq_call; rfl; (intro w; apply exec_callF; (with_reducible rfl); decide +kernel; (focus (simp only [fD, List.map_cons, List.map_nil, Act.eval, fE, fF, fG, fH, Option.getD_some]; try rfl))); (intro w hS; exact whole_at He.out W w _ hS); (refine frS ?_)) | (refine wq_pure rfl rfl ?_; intro K hK; go_big_quiet_op; go_big_quiet_on))
                        clear hS
                        intro w hS
                        by_cases hR : Refused l
                        · have HR := Lib.hid hR
                          have Hno := Lib.hid (fun p l n h => not_refused (gok_inv h Hg.out Hgo.out Hgn.out).2.1.few (gok_inv h Hg.out Hgo.out Hgn.out).2.1.ok hR : ∀ p l n, ¬ GOk b p l n)
                          clear hR
                          go_wp2_with (first | go_big_skip | (go_at_call 40; refine (ofG_no HR.out (by omega) _ W _ _ (hS.sel (L' := pileR _ l :: blk vb _ _ :: R) (by exact selS))).mono ?_; clear hS; rintro e w ⟨rfl, hS⟩) | (refine zs1 hS ?_; clear hS; intro w hS))
                          go_ret2
                          exact .inl ⟨Hno.out, rfl, hS.drop⟩
                        · have HR := Lib.hid hR
                          clear hR
                          by_cases hE : encV p l n = b
                          · have Heq := Lib.hid (show ((bstr (encV p l n)).toList == (bstr b).toList) = true by rw [hE]; exact who_beq.2 rfl)
                            have HE := Lib.hid hE
                            clear hE
                            go_wp2_with (first | go_big_skip | (go_at_call 40; refine (ofG_yes HR.out (by omega) Hla.out _ W _ _ (hS.sel (L' := pileR _ l :: blk vb _ _ :: amap eS eP mb p :: R) (by exact selS))).mono ?_; clear hS; rintro e w ⟨bk, rfl, hok9, hS⟩; have Hok9 := Lib.hid hok9; clear hok9) | (refine zs1 hS ?_; clear hS; intro w hS) | (go_at_call 12; refine (encodeV vb mb bk p l n Hpi.out.ok Hpi.out.w (by omega) (by omega) (by omega) W _ _ (hS.sel (L' := blk vb _ _ :: amap eS eP mb p :: bookL bk l n :: R) (by exact selS))).mono ?_; clear hS; rintro e w ⟨ev, rfl, hS⟩) | (go_at_call 41; refine (equal_g D0 a c b (encV p l n) ev hat Heq.out W _ _ _ _ (.tail (.tail (.tail (.tail ht)))) .head hS).mono ?_; clear hS; rintro e w ⟨rfl, hS⟩))
                            go_ret2
                            exact .inr ⟨p, l, n, ⟨_, Hg.out, Hgo.out, Hgn.out, ⟨Hok9.out.1, Hok9.out.2, Hla.out, by omega, by omega⟩, HE.out⟩, vb, mb, bk, rfl, hS.drop⟩
                          · have Heq := Lib.hid (show ((bstr (encV p l n)).toList == (bstr b).toList) = false by rw [← Bool.not_eq_true, who_beq]; intro e; exact hE (by rw [← strI_bstr (encV_byB p l n), ← strI_bstr hb, e]))
                            have Hno := Lib.hid (fun p l n h => hE (gok_inv h Hg.out Hgo.out Hgn.out).2.2 : ∀ p l n, ¬ GOk b p l n)
                            clear hE
                            go_wp2_with (first | go_big_skip | (go_at_call 40; refine (ofG_yes HR.out (by omega) Hla.out _ W _ _ (hS.sel (L' := pileR _ l :: blk vb _ _ :: amap eS eP mb p :: R) (by exact selS))).mono ?_; clear hS; rintro e w ⟨bk, rfl, hok9, hS⟩; have Hok9 := Lib.hid hok9; clear hok9) | (refine zs1 hS ?_; clear hS; intro w hS) | (go_at_call 12; refine (encodeV vb mb bk p l n Hpi.out.ok Hpi.out.w (by omega) (by omega) (by omega) W _ _ (hS.sel (L' := blk vb _ _ :: amap eS eP mb p :: bookL bk l n :: R) (by exact selS))).mono ?_; clear hS; rintro e w ⟨ev, rfl, hS⟩) | (go_at_call 41; refine (equal_g D0 a c b (encV p l n) ev hat Heq.out W _ _ _ _ (.tail (.tail (.tail (.tail ht)))) .head hS).mono ?_; clear hS; rintro e w ⟨rfl, hS⟩))
                            go_ret2
                            exact .inl ⟨Hno.out, rfl, hS.drop.drop.drop.drop⟩
            · obtain ⟨k, rfl⟩ : ∃ k', k = k' + 1 := ⟨k - 1, by omega⟩
              have hT4 := HT3.out
              rw [ordP] at hT4
              have k1 := K0.out.num
              have hst := szR_os K0.out Hsz3.out True
              rw [if_pos trivial] at hst
              have k9 := K0.out.os
              have hq1 : rdO (some b3) = ⟨(rdNum (some b3)).1, bstr (rdBytes (rdNum (some b3)).2).1, decide ((rdIt (rdO1 (some b3))).x0 = 1), (rdIt (rdO1 (some b3))).x1, (rdIt (rdO1 (some b3))).x2, (rdIt (rdO1 (some b3))).x3⟩ := rfl
              obtain ⟨⟨oi, s1⟩, q1⟩ : ∃ y, rdNum (some b3) = y := ⟨_, rfl⟩
              obtain ⟨⟨x, s2⟩, q2⟩ : ∃ y, rdBytes s1 = y := ⟨_, rfl⟩
              obtain ⟨i, hi⟩ : ∃ i, rdIt s2 = i := ⟨_, rfl⟩
              obtain ⟨u, hu⟩ : ∃ u, bstr x = u := ⟨_, rfl⟩
              have o1 : rdO1 (some b3) = s2 := by unfold rdO1; rw [q1]; simp only; rw [q2]
              have o3 : rdOS (some b3) = rdItS s2 := by unfold rdOS; rw [o1]
              have o4 : rdO (some b3) = ⟨oi, u, decide (i.x0 = 1), i.x1, i.x2, i.x3⟩ := by rw [hq1, o1, hi, q1]; simp only; rw [q2]; simp only; rw [hu]
              rw [o4, o3] at hT4
              rw [o3] at hst k9
              rw [q1] at k1
              have k2 : RdOk s2 := by have := RdOk.bytes k1; rw [q2] at this; exact this
              obtain ⟨y0, y1, y2, y3⟩ := i
              simp only at hT4
              have E1 := Lib.hid q1
              have E2 := Lib.hid q2
              have Hi := Lib.hid hi
              have Hu := Lib.hid hu
              have K1 := Lib.hid k1
              have K2 := Lib.hid k2
              have K9 := Lib.hid k9
              have Hst := Lib.hid hst
              have HT4 := Lib.hid hT4
              clear q1 q2 hi hu k1 k2 k9 hst hT4 o1 o3 o4 hq1 hk0
              go_wp2_with (first | go_big_skip | (go_at_call 33; refine (good_yes W _ _ hS).mono ?_; clear hS; rintro e w ⟨rfl, hS⟩) | ((fail_if_success (have := mO)); (with_reducible apply wl_alloc hS); (with_reducible rfl); rfl; (exact zsS); clear hS; have mO : Nat := 0; intro bO w hS; (refine frS ?_)) | ((have := mO); (with_reducible apply wl_alloc hS); (with_reducible rfl); rfl; (exact zsS); clear hS; intro bB w hS; (refine frS ?_)) | (refine zbs hS ?_; clear hS; intro bS w hS) | ((fail_if_success (have := mI)); go_at_call 35; have hS2 := hS.sel (L' := rdG D rb (some b3) :: blk bO _ _ :: blk bS _ _ :: blk bB _ _ :: pileR _ l :: blk vb _ _ :: amap eS eP mb p :: D :: R) (by exact selS); refine (id_g K0.out (by (focus((repeat(first|exact .head|apply Take.tail));done))) hS2).mono ?_; clear hS hS2; rw [E1.out]; have mI : Nat := 0; rintro e w ⟨rfl, hS⟩) | (go_at_call 34; refine (bytes_ga E2.out K1.out W _ _ _ (by (focus((repeat(first|exact .head|apply Take.tail));done))) hS).mono ?_; clear hS; rintro e w ⟨v, rfl, hS⟩) | ((with_reducible apply wl_bytesStrR (ns := x) hS); (with_reducible rfl); rfl; rfl; exact Tryz.underlying30; exact Tryz.underlying5; exact Tryz.underlying9; (exact takeS); (rw [Hu.out]); (refine frS ?_)) | ((have := mI); go_at_call 35; have hS2 := hS.sel (L' := rdG D rb s2 :: blk bB _ _ :: blk bO _ _ :: blk bS _ _ :: pileR _ l :: blk vb _ _ :: amap eS eP mb p :: D :: R) (by exact selS); refine (four_g K2.out (by (focus((repeat(first|exact .head|apply Take.tail));done))) hS2).mono ?_; clear hS hS2; rw [Hi.out]; rintro e w ⟨rfl, hS⟩) | (refine zl1 hS ?_) | (refine zlN hS ?_) | (refine zs1 hS ?_; clear hS; intro w hS) | ((with_reducible apply wl_append hS); (with_reducible rfl); rfl; rfl; rfl; (exact esS); (exact rsS); rfl; decide; (exact takeS); (exact Src.mk Cells.whole); (focus (try rfl)); rfl; (focus (unfold maxLen; omega)); (focus (omega)); clear hS; intro v w hS; (refine frS ?_)))
              have hS3 := hS.sel (L' := row v 6 41 (l.length + 1) _ :: rdG D rb (rdItS s2) :: blk vb _ _ :: amap eS eP mb p :: D :: R) (by exact selS)
              go_roundw
              case rel => exact ⟨k, l ++ [⟨oi, u, decide (y0 = 1), y1, y2, y3⟩], rdItS s2, by simp, by omega, K9.out, by rw [List.length_append]; exact Hst.out, HT4.out, (ord_push hS3).swap⟩
              case measure => simp [intOf]
      · obtain ⟨k, rfl⟩ : ∃ k', k = k' + 1 := ⟨k - 1, by omega⟩
        have hT2 := HT.out
        rw [purP] at hT2
        have hst := sz_hs Hok1.out Hsz.out
        have k0 := Hok1.out
        have k1 := Hok1.out.bytes
        have k9 := Hok1.out.hs
        obtain ⟨⟨x, s1⟩, q2⟩ : ∃ y, rdBytes (some b2) = y := ⟨_, rfl⟩
        rw [q2] at k1
        obtain ⟨i, hi⟩ : ∃ i, rdIt s1 = i := ⟨_, rfl⟩
        obtain ⟨u, hu⟩ : ∃ u, bstr x = u := ⟨_, rfl⟩
        have e1 : rdH (some b2) = ⟨u, i⟩ := by unfold rdH; rw [q2]; simp only; rw [hu, hi]
        have e2 : rdHS (some b2) = rdItS s1 := by unfold rdHS; rw [q2]
        rw [e1, e2] at hT2
        rw [e2] at hst k9
        obtain ⟨x0, x1, x2, x3⟩ := i
        simp only at hT2
        have E2 := Lib.hid q2
        have K0 := Lib.hid k0
        have K1 := Lib.hid k1
        have K9 := Lib.hid k9
        have Hi := Lib.hid hi
        have Hu := Lib.hid hu
        have HT2 := Lib.hid hT2
        have Hst := Lib.hid hst
        clear q2 k0 k1 k9 hi hu hT2 hst e1 e2 hk0
        cases hw : whoB u with
        | false =>
          have h7 := HT2.out
          rw [hw, if_neg (by simp)] at h7
          have Hno := Lib.hid (gno_ref h7.symm)
          have Hk := Lib.hid hw
          clear h7 hw
          go_wp2_with (first | go_big_skip | (go_at_call 33; refine (good_yes W _ _ hS).mono ?_; clear hS; rintro e w ⟨rfl, hS⟩) | (go_at_call 34; refine (bytes_ga E2.out K0.out W _ _ _ (by (focus((repeat(first|exact .head|apply Take.tail));done))) hS).mono ?_; clear hS; rintro e w ⟨v, rfl, hS⟩) | ((with_reducible apply wl_bytesStrR (ns := x) hS); (with_reducible rfl); rfl; rfl; exact Tryz.underlying30; exact Tryz.underlying5; exact Tryz.underlying9; (exact takeS); (rw [Hu.out]); (refine frS ?_)) | ((with_reducible apply wl_alloc hS); (with_reducible rfl); rfl; (exact zsS); clear hS; intro bI w hS; (refine frS ?_)) | (refine zbs hS ?_; clear hS; intro bS w hS) | (go_at_call 35; have hS2 := hS.sel (L' := rdG D rb s1 :: blk bI _ _ :: blk bS _ _ :: blk vb _ _ :: amap eS eP mb p :: D :: R) (by exact selS); refine (items_g K1.out (by (focus((repeat(first|exact .head|apply Take.tail));done))) hS2).mono ?_; clear hS hS2; rw [Hi.out]; rintro e w ⟨rfl, hS⟩) | (go_at_call 36; refine (who_at Hk.out W _ _ hS).mono ?_; clear hS; rintro e w ⟨rfl, hS⟩))
          go_ret2
          exact .inl ⟨Hno.out, rfl, hS.sel (by exact selS)⟩
        | true =>
          cases hit : isIt ⟨x0, x1, x2, x3⟩ with
          | false =>
            have h7 := HT2.out
            rw [hw, hit, if_neg (by simp)] at h7
            have Hno := Lib.hid (gno_ref h7.symm)
            have Hk := Lib.hid hw
            have Hit := Lib.hid hit
            clear h7 hw hit
            go_wp2_with (first | go_big_skip | (go_at_call 33; refine (good_yes W _ _ hS).mono ?_; clear hS; rintro e w ⟨rfl, hS⟩) | (go_at_call 34; refine (bytes_ga E2.out K0.out W _ _ _ (by (focus((repeat(first|exact .head|apply Take.tail));done))) hS).mono ?_; clear hS; rintro e w ⟨v, rfl, hS⟩) | ((with_reducible apply wl_bytesStrR (ns := x) hS); (with_reducible rfl); rfl; rfl; exact Tryz.underlying30; exact Tryz.underlying5; exact Tryz.underlying9; (exact takeS); (rw [Hu.out]); (refine frS ?_)) | ((with_reducible apply wl_alloc hS); (with_reducible rfl); rfl; (exact zsS); clear hS; intro bI w hS; (refine frS ?_)) | (refine zbs hS ?_; clear hS; intro bS w hS) | (go_at_call 35; have hS2 := hS.sel (L' := rdG D rb s1 :: blk bI _ _ :: blk bS _ _ :: blk vb _ _ :: amap eS eP mb p :: D :: R) (by exact selS); refine (items_g K1.out (by (focus((repeat(first|exact .head|apply Take.tail));done))) hS2).mono ?_; clear hS hS2; rw [Hi.out]; rintro e w ⟨rfl, hS⟩) | (go_at_call 36; refine (who_at Hk.out W _ _ hS).mono ?_; clear hS; rintro e w ⟨rfl, hS⟩) | (refine zlN hS ?_) | (go_at_call 37; refine (isP_at Hit.out W _ _ hS).mono ?_; clear hS; rintro e w ⟨rfl, hS⟩))
            go_ret2
            exact .inl ⟨Hno.out, rfl, hS.sel (by exact selS)⟩
          | true =>
            have h7 := HT2.out
            rw [hw, hit, if_pos (by rfl)] at h7
            have H7 := Lib.hid h7
            have Hk := Lib.hid hw
            have Hit := Lib.hid hit
            clear h7 hw hit
            go_wp2_with (first | go_big_skip | (go_at_call 33; refine (good_yes W _ _ hS).mono ?_; clear hS; rintro e w ⟨rfl, hS⟩) | (go_at_call 34; refine (bytes_ga E2.out K0.out W _ _ _ (by (focus((repeat(first|exact .head|apply Take.tail));done))) hS).mono ?_; clear hS; rintro e w ⟨v, rfl, hS⟩) | ((with_reducible apply wl_bytesStrR (ns := x) hS); (with_reducible rfl); rfl; rfl; exact Tryz.underlying30; exact Tryz.underlying5; exact Tryz.underlying9; (exact takeS); (rw [Hu.out]); (refine frS ?_)) | ((with_reducible apply wl_alloc hS); (with_reducible rfl); rfl; (exact zsS); clear hS; intro bI w hS; (refine frS ?_)) | (refine zbs hS ?_; clear hS; intro bS w hS) | (go_at_call 35; have hS2 := hS.sel (L' := rdG D rb s1 :: blk bI _ _ :: blk bS _ _ :: blk vb _ _ :: amap eS eP mb p :: D :: R) (by exact selS); refine (items_g K1.out (by (focus((repeat(first|exact .head|apply Take.tail));done))) hS2).mono ?_; clear hS hS2; rw [Hi.out]; rintro e w ⟨rfl, hS⟩) | (go_at_call 36; refine (who_at Hk.out W _ _ hS).mono ?_; clear hS; rintro e w ⟨rfl, hS⟩) | (refine zlN hS ?_) | (go_at_call 37; refine (isP_at Hit.out W _ _ hS).mono ?_; clear hS; rintro e w ⟨rfl, hS⟩) | (go_at_call 38; refine (lays_at vb mb p u _ _ W _ _ x0 x1 x2 x3 (hS.sel (L' := blk vb _ _ :: amap eS eP mb p :: rdG D rb _ :: D :: R) (by exact selS))).mono ?_; clear hS; rintro e w ⟨rfl, hS⟩))
            go_roundw
            case rel => exact ⟨k, layP p u ⟨x0, x1, x2, x3⟩, rdItS s1, by simp, by omega, K9.out, Hst.out, H7.out, hS.sel (by exact selS)⟩
            case measure => simp [intOf]
end Go.Proofs.YtbcokphjpllbiaaGreat
end
