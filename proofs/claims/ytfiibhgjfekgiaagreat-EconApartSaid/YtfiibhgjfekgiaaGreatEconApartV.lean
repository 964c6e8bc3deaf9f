/-
  EconApart: the walk. For every requests, every key.
-/
import Derived.Test.YtfiibhgjfekgiaaGreatEconApartX
set_option linter.unusedSimpArgs false
set_option linter.unusedVariables false
namespace Go.Proofs.YtfiibhgjfekgiaaGreat
open Go.RowKit Go.Sl
theorem runE_step {xs : List Opn} {i : Nat} (h : i < xs.length) (e : Ec) : runE (xs.take (i + 1)) e = (appE (runE (xs.take i) e) xs[i]).2.2 := by
  unfold runE
  rw [List.take_succ_eq_append_getElem h, List.foldl_append]
  rfl
theorem atKey_yes {xs : List Opn} {i : Nat} (h : i < xs.length) {k : ByteArray} (hk : xs[i].ak = k) (e : Ec) : runE (atKey k (xs.take (i + 1))) e = (appE (runE (atKey k (xs.take i)) e) xs[i]).2.2 := by
  unfold runE atKey
  rw [List.take_succ_eq_append_getElem h, List.filter_append, List.foldl_append, List.filter_cons, if_pos (by simpa using hk)]
  rfl
theorem atKey_no {xs : List Opn} {i : Nat} (h : i < xs.length) {k : ByteArray} (hk : xs[i].ak ≠ k) : atKey k (xs.take (i + 1)) = atKey k (xs.take i) := by
  unfold atKey
  rw [List.take_succ_eq_append_getElem h, List.filter_append, List.filter_cons, if_neg (by simpa using hk)]
  simp
def ApR (W : World) (Lr : List HP) (eb fb : Nat) (xs : List Opn) (k : ByteArray) (v : Value) (w : World) : Prop :=
  ∃ i : Nat, v = .int .i64 i ∧ i ≤ xs.length ∧ EOk (runE (xs.take i) ec0) i ∧ EOk (runE (atKey k (xs.take i)) ec0) i ∧ St W (ecP eb (runE (xs.take i) ec0) :: ecP fb (runE (atKey k (xs.take i)) ec0) :: Lr) w
/-- Of each client that asked at the key, all was asked there. -/
def OneK (xs ys : List Opn) (k : ByteArray) : Prop := ∀ x ∈ ys, x.ak = k → ∀ y ∈ xs, y.client = x.client → y.ak = k
def OutR (W : World) (L : List HP) (xs : List Opn) (k : ByteArray) (v : Value) (w : World) : Prop := ∃ i : Nat, v = .int .i64 i ∧ i ≤ xs.length ∧ OneK xs (xs.take i) k ∧ St W L w
def InR (W : World) (L : List HP) (xs : List Opn) (k : ByteArray) (c : Int) (v : Value) (w : World) : Prop := ∃ j : Nat, v = .int .i64 j ∧ j ≤ xs.length ∧ (∀ y ∈ xs.take j, y.client = c → y.ak = k) ∧ St W L w
def WhoR (W : World) (L : List HP) (v : Value) (w : World) : Prop := ∃ j : Nat, v = .int .i64 j ∧ j ≤ 3 ∧ St W L w
theorem eOk_on {e : Ec} {i : Nat} (h : EOk e i) : EOk e (i + 1) := fun x hx => (h x hx).on
theorem oneK_step {xs : List Opn} {i : Nat} {k : ByteArray} (h : i < xs.length) (h1 : OneK xs (xs.take i) k) (h2 : xs[i].ak = k → ∀ y ∈ xs, y.client = xs[i].client → y.ak = k) : OneK xs (xs.take (i + 1)) k := by
  intro x hx
  rw [List.take_succ_eq_append_getElem h] at hx
  rcases List.mem_append.1 hx with hx | hx
  · exact h1 x hx
  · rw [List.mem_singleton.1 hx]
    exact h2
theorem in_step {xs : List Opn} {j : Nat} {c : Int} {k : ByteArray} (h : j < xs.length) (h1 : ∀ y ∈ xs.take j, y.client = c → y.ak = k) (h2 : xs[j].client = c → xs[j].ak = k) : ∀ y ∈ xs.take (j + 1), y.client = c → y.ak = k := by
  intro y hy
  rw [List.take_succ_eq_append_getElem h] at hy
  rcases List.mem_append.1 hy with hy | hy
  · exact h1 y hy
  · rw [List.mem_singleton.1 hy]
    exact h2
abbrev kWb : ByteArray := ⟨#[119]⟩
theorem atA {eb : Nat} {e : Ec} {k u : ByteArray} {x0 x1 x2 x3 : Int} {W w : World} {L R : List HP} (ht : Take L (ecP eb e) R) (hx : purseA (atV e k).ps u = ⟨x0, x1, x2, x3⟩) (hS : St W L w) :
    Calls Tryz.prog 10 #[.pointer (some ⟨eb, 0, none⟩), .agg #[.string k, .string u]] w fun x w' => x = .returned (.agg #[.int .i64 x0, .int .i64 x1, .int .i64 x2, .int .i64 x3]) ∧ St W L w' := by
  refine (atP_spec k u hx W w R (hS.take ht)).mono ?_
  rintro x w' ⟨rfl, hS⟩
  exact ⟨rfl, hS.back ht⟩
theorem ba_eq {a b : ByteArray} (h : a.toList = b.toList) : a = b := by
  rw [Lib.toList_data, Lib.toList_data] at h
  exact bytes_ext h
set_option maxRecDepth 100000 in
set_option maxHeartbeats 8000000 in
theorem apart_spec (xs : List Opn) (k : ByteArray) (v : Value) (V : World) (hv : SliceV Opn.cells 12 V v xs) (W w : World) (Lr : List HP) (hS : St W (Old V :: Lr) w) :
    Calls Tryz.prog 4 #[v, .string k] w fun e w' => e = .returned (.bool true) ∧ St W (Old V :: Lr) w' := by
  obtain ⟨a, cap, rfl, h63, hact⟩ := hv.opn
  have Ha := Lib.hid hact
  clear hact hv
  go_enter Tryz.func4, Tryz.ntmps4
  by_cases hk1 : 1 ≤ k.size
  case neg =>
    have d1 : decide ((k.size : Int) < 1) = true := by simp; omega
    go_wp2_with (first | go_big_skip | (go_at_call 6; refine (heavyOps_spec xs a cap h63 (fun i hi => (Ha.out i hi).imp fun b h => h.imp fun off h => ⟨h.1, fun j v hj => Cell.old .head (h.2.all j v hj)⟩) W _ hS).mono ?_; clear hS; rintro e w ⟨hv, h150, rfl, hS⟩; cases hv))
    · go_ret
      exact ⟨rfl, hS⟩
    · go_ret
      exact ⟨rfl, hS⟩
  have d1 : decide ((k.size : Int) < 1) = false := by simp; omega
  by_cases hk2 : k.size ≤ 16
  case neg =>
    have d2 : decide ((16 : Int) < (k.size : Int)) = true := by simp; omega
    go_wp2_with (first | go_big_skip | (go_at_call 6; refine (heavyOps_spec xs a cap h63 (fun i hi => (Ha.out i hi).imp fun b h => h.imp fun off h => ⟨h.1, fun j v hj => Cell.old .head (h.2.all j v hj)⟩) W _ hS).mono ?_; clear hS; rintro e w ⟨hv, h150, rfl, hS⟩; cases hv))
    · go_ret
      exact ⟨rfl, hS⟩
    · go_ret
      exact ⟨rfl, hS⟩
  have d2 : decide ((16 : Int) < (k.size : Int)) = false := by simp; omega
  go_wp2_with (first | go_big_skip | (go_at_call 6; refine (heavyOps_spec xs a cap h63 (fun i hi => (Ha.out i hi).imp fun b h => h.imp fun off h => ⟨h.1, fun j v hj => Cell.old .head (h.2.all j v hj)⟩) W _ hS).mono ?_; clear hS; rintro e w ⟨hv, h150, rfl, hS⟩; cases hv) | ((fail_if_success (have := gA)); go_at_call 7; refine (newE_spec W _ _ hS).mono ?_; clear hS; have gA : Nat := 0; rintro e w ⟨eb, rfl, hS⟩) | ((have := gA); go_at_call 7; refine (newE_spec W _ _ hS).mono ?_; clear hS; rintro e w ⟨fb, rfl, hS⟩))
  rotate_left
  · go_ret
    exact ⟨rfl, hS⟩
  have hlen : xs.length ≤ 150 := by first | exact h150 rfl | exact h150 trivial
  clear h150
  have hS1 := hS.sel (L' := ecP eb ec0 :: ecP fb ec0 :: Old V :: Lr) (by exact selS)
  clear hS
  have hS := hS1
  clear hS1
  go_loopw [7] (fun v wr => ApR W (Old V :: Lr) eb fb xs k v wr) (fun v _ => xs.length - (intOf v).toNat)
  case atStart => exact ⟨0, rfl, Nat.zero_le _, eOk0 0, eOk0 0, hS⟩
  case round =>
    clear hS
    obtain ⟨i, rfl, hi, hE, hF, hS⟩ := hrel
    by_cases hend : i = xs.length
    · subst hend
      have d3 : decide ((xs.length : Int) < (xs.length : Int)) = false := by simp
      rw [List.take_length] at hS
      clear hE hF
      have hef := apart_key xs k
      obtain ⟨e, he⟩ : ∃ e, runE xs ec0 = e := ⟨_, rfl⟩
      obtain ⟨f, hf⟩ : ∃ f, runE (atKey k xs) ec0 = f := ⟨_, rfl⟩
      rw [he, hf] at hS hef
      have Hef := Lib.hid hef
      clear hef he hf
      go_wp2_with (first | go_big_skip)
      go_loopw [8] (fun v wr => OutR W (ecP eb e :: ecP fb f :: Old V :: Lr) xs k v wr) (fun v _ => xs.length - (intOf v).toNat)
      case atStart => exact ⟨0, rfl, Nat.zero_le _, fun x hx => (by simp at hx), hS⟩
      case round =>
        clear hS
        obtain ⟨i, rfl, hi, hone, hS⟩ := hrel
        by_cases hend : i = xs.length
        · subst hend
          rw [List.take_length] at hone
          have hat := Hef.out hone
          have Hat := Lib.hid hat
          clear hone hat
          go_wp2_with (first | go_big_skip | (refine zbs hS ?_ (l := [.string kX, .string kY, .string kWb]) (ht := Ty.e39) (hi := Ty.r9); clear hS; intro bS w hS))
          go_loopw [11] (fun v wr => WhoR W (blk bS [.string kX, .string kY, .string kWb] 9 :: ecP eb e :: ecP fb f :: Old V :: Lr) v wr) (fun v _ => 3 - (intOf v).toNat)
          case atStart => exact ⟨0, rfl, by omega, hS⟩
          case round =>
            clear hS
            obtain ⟨j, rfl, hj, hS⟩ := hrel
            by_cases hj3 : j = 3
            · subst hj3
              go_wp2_with (first | go_big_skip | (go_at_call 9; refine (knownE_spec W _ _ hS).mono ?_; clear hS; rintro e w ⟨rfl, hS⟩))
              go_ret
              exact ⟨rfl, hS.drop.drop.drop⟩
            have hjj : j = 0 ∨ j = 1 ∨ j = 2 := by omega
            clear hj hj3
            rcases hjj with rfl | rfl | rfl
            · skip
              obtain ⟨z, hz⟩ : ∃ z, purseA (atV f k).ps kX = z := ⟨_, rfl⟩
              obtain ⟨x0, x1, x2, x3⟩ := z
              have hz2 : purseA (atV e k).ps kX = ⟨x0, x1, x2, x3⟩ := by rw [Hat.out]; exact hz
              have heq : ((x0 == x0) && ((x1 == x1) && ((x2 == x2) && (x3 == x3)))) = true := by simp
              have Hz := Lib.hid hz
              have Hz2 := Lib.hid hz2
              clear hz hz2
              go_wp2_with (first | go_big_skip | (refine zl1 hS ?_) | (refine zal hS ?_; clear hS; intro b12 w hS) | (refine zsN hS ?_; clear hS; intro w hS))
              have hS1 := hS.sel (L' := blk b12 _ _ :: ecP eb e :: ecP fb f :: blk bS _ _ :: Old V :: Lr) (by exact selS)
              clear hS
              refine wp_region_reads (by kernel_rfl) (by kernel_rfl) hS1 ?_
              repeat (first | go_big_quiet_skip | (refine zqN ?_) | (apply wq_call; rfl; (intro w; apply exec_callF; (with_reducible rfl); decide +kernel; (focus (simp only [List.map_toArray, List.map_cons, List.map_nil, Act.eval, Array.getD_eq_getD_getElem?, List.getElem?_toArray, List.getElem?_cons_succ, List.getElem?_cons_zero, Option.getD_some]; try rfl))); (intro w hS; exact atA (.tail .head) Hz2.out hS); (refine frS ?_)) | (apply wq_call; rfl; (intro w; apply exec_callF; (with_reducible rfl); decide +kernel; (focus (simp only [List.map_toArray, List.map_cons, List.map_nil, Act.eval, Array.getD_eq_getD_getElem?, List.getElem?_toArray, List.getElem?_cons_succ, List.getElem?_cons_zero, Option.getD_some]; try rfl))); (intro w hS; exact atA (.tail (.tail .head)) Hz.out hS); (refine frS ?_)) | ((apply wq_neA); (with_reducible rfl); rfl; rfl; rfl; kernel_rfl; exact eqI _ _ _ _ _ _ _ _; (rw [heq]); (simp only [Bool.not_true]); (refine frS ?_)) | (refine wq_pure rfl rfl ?_; intro K hK; go_big_quiet_op; go_big_quiet_on))
              clear hS1 heq
              intro w hS
              go_wp2_with (first | go_big_skip)
              go_roundw
              case rel => exact ⟨1, rfl, by omega, hS.sel (by exact selS)⟩
              case measure => simp [intOf]
            · skip
              obtain ⟨z, hz⟩ : ∃ z, purseA (atV f k).ps kY = z := ⟨_, rfl⟩
              obtain ⟨x0, x1, x2, x3⟩ := z
              have hz2 : purseA (atV e k).ps kY = ⟨x0, x1, x2, x3⟩ := by rw [Hat.out]; exact hz
              have heq : ((x0 == x0) && ((x1 == x1) && ((x2 == x2) && (x3 == x3)))) = true := by simp
              have Hz := Lib.hid hz
              have Hz2 := Lib.hid hz2
              clear hz hz2
              go_wp2_with (first | go_big_skip | (refine zl1 hS ?_) | (refine zal hS ?_; clear hS; intro b12 w hS) | (refine zsN hS ?_; clear hS; intro w hS))
              have hS1 := hS.sel (L' := blk b12 _ _ :: ecP eb e :: ecP fb f :: blk bS _ _ :: Old V :: Lr) (by exact selS)
              clear hS
              refine wp_region_reads (by kernel_rfl) (by kernel_rfl) hS1 ?_
              repeat (first | go_big_quiet_skip | (refine zqN ?_) | (apply wq_call; rfl; (intro w; apply exec_callF; (with_reducible rfl); decide +kernel; (focus (simp only [List.map_toArray, List.map_cons, List.map_nil, Act.eval, Array.getD_eq_getD_getElem?, List.getElem?_toArray, List.getElem?_cons_succ, List.getElem?_cons_zero, Option.getD_some]; try rfl))); (intro w hS; exact atA (.tail .head) Hz2.out hS); (refine frS ?_)) | (apply wq_call; rfl; (intro w; apply exec_callF; (with_reducible rfl); decide +kernel; (focus (simp only [List.map_toArray, List.map_cons, List.map_nil, Act.eval, Array.getD_eq_getD_getElem?, List.getElem?_toArray, List.getElem?_cons_succ, List.getElem?_cons_zero, Option.getD_some]; try rfl))); (intro w hS; exact atA (.tail (.tail .head)) Hz.out hS); (refine frS ?_)) | ((apply wq_neA); (with_reducible rfl); rfl; rfl; rfl; kernel_rfl; exact eqI _ _ _ _ _ _ _ _; (rw [heq]); (simp only [Bool.not_true]); (refine frS ?_)) | (refine wq_pure rfl rfl ?_; intro K hK; go_big_quiet_op; go_big_quiet_on))
              clear hS1 heq
              intro w hS
              go_wp2_with (first | go_big_skip)
              go_roundw
              case rel => exact ⟨2, rfl, by omega, hS.sel (by exact selS)⟩
              case measure => simp [intOf]
            · skip
              obtain ⟨z, hz⟩ : ∃ z, purseA (atV f k).ps kWb = z := ⟨_, rfl⟩
              obtain ⟨x0, x1, x2, x3⟩ := z
              have hz2 : purseA (atV e k).ps kWb = ⟨x0, x1, x2, x3⟩ := by rw [Hat.out]; exact hz
              have heq : ((x0 == x0) && ((x1 == x1) && ((x2 == x2) && (x3 == x3)))) = true := by simp
              have Hz := Lib.hid hz
              have Hz2 := Lib.hid hz2
              clear hz hz2
              go_wp2_with (first | go_big_skip | (refine zl1 hS ?_) | (refine zal hS ?_; clear hS; intro b12 w hS) | (refine zsN hS ?_; clear hS; intro w hS))
              have hS1 := hS.sel (L' := blk b12 _ _ :: ecP eb e :: ecP fb f :: blk bS _ _ :: Old V :: Lr) (by exact selS)
              clear hS
              refine wp_region_reads (by kernel_rfl) (by kernel_rfl) hS1 ?_
              repeat (first | go_big_quiet_skip | (refine zqN ?_) | (apply wq_call; rfl; (intro w; apply exec_callF; (with_reducible rfl); decide +kernel; (focus (simp only [List.map_toArray, List.map_cons, List.map_nil, Act.eval, Array.getD_eq_getD_getElem?, List.getElem?_toArray, List.getElem?_cons_succ, List.getElem?_cons_zero, Option.getD_some]; try rfl))); (intro w hS; exact atA (.tail .head) Hz2.out hS); (refine frS ?_)) | (apply wq_call; rfl; (intro w; apply exec_callF; (with_reducible rfl); decide +kernel; (focus (simp only [List.map_toArray, List.map_cons, List.map_nil, Act.eval, Array.getD_eq_getD_getElem?, List.getElem?_toArray, List.getElem?_cons_succ, List.getElem?_cons_zero, Option.getD_some]; try rfl))); (intro w hS; exact atA (.tail (.tail .head)) Hz.out hS); (refine frS ?_)) | ((apply wq_neA); (with_reducible rfl); rfl; rfl; rfl; kernel_rfl; exact eqI _ _ _ _ _ _ _ _; (rw [heq]); (simp only [Bool.not_true]); (refine frS ?_)) | (refine wq_pure rfl rfl ?_; intro K hK; go_big_quiet_op; go_big_quiet_on))
              clear hS1 heq
              intro w hS
              go_wp2_with (first | go_big_skip)
              go_roundw
              case rel => exact ⟨3, rfl, by omega, hS.sel (by exact selS)⟩
              case measure => simp [intOf]
        have hil : i < xs.length := by omega
        clear hend hi
        obtain ⟨pb, poff, rfl, hA⟩ := Ha.out i hil
        have hak := hA.ak
        have hcl := hA.client
        clear hA
        have hst := @oneK_step xs i k hil hone
        clear hone
        generalize xs[i] = x at hak hcl hst
        obtain ⟨kd, cl, sq, ak, aw, tk, tw, it, ct, pr, bu, id⟩ := x
        simp only at hak hcl hst
        have Hst := Lib.hid hst
        clear hst
        by_cases hk : ak = k
        case neg =>
          have d4 : (ak.toList == k.toList) = false := by
            rw [beq_eq_false_iff_ne]
            exact fun h => hk (ba_eq h)
          have hno := Hst.out (fun h => absurd h hk)
          have Hno := Lib.hid hno
          clear hno hk
          go_wp2_with (first | go_big_skip | (refine zl1 hS ?_ (hc := by exact Cell.old (by exact memS) hak)))
          go_roundw
          case rel => exact ⟨i + 1, rfl, hil, Hno.out, hS⟩
          case measure => simp [intOf]; try omega
        have d4 : (ak.toList == k.toList) = true := by rw [hk]; simp
        have Hst2 := Lib.hid (fun h => Hst.out (fun _ => h))
        clear Hst hk
        go_wp2_with (first | go_big_skip | (refine zl1 hS ?_ (hc := by exact Cell.old (by exact memS) hak)))
        go_loopw [9] (fun v wr => InR W (ecP eb e :: ecP fb f :: Old V :: Lr) xs k cl v wr) (fun v _ => xs.length - (intOf v).toNat)
        case atStart => exact ⟨0, rfl, Nat.zero_le _, fun x hx => (by simp at hx), hS⟩
        case round =>
          clear hS
          obtain ⟨j, rfl, hj, hin, hS⟩ := hrel
          by_cases hend : j = xs.length
          · subst hend
            rw [List.take_length] at hin
            have hno := Hst2.out hin
            have Hno := Lib.hid hno
            clear hno hin
            go_wp2_with (first | go_big_skip)
            go_roundw
            case rel => exact ⟨i + 1, rfl, hil, Hno.out, hS⟩
            case measure => simp [intOf]; try omega
          have hjl : j < xs.length := by omega
          clear hend hj
          obtain ⟨pb2, poff2, hpp, hA⟩ := Ha.out j hjl
          cases hpp
          have hak2 := hA.ak
          have hcl2 := hA.client
          clear hA
          have hst := @in_step xs j cl k hjl hin
          clear hin
          generalize xs[j] = y at hak2 hcl2 hst
          obtain ⟨ykd, ycl, ysq, yak, yaw, ytk, ytw, yit, yct, ypr, ybu, yid⟩ := y
          simp only at hak2 hcl2 hst
          have Hs3 := Lib.hid hst
          clear hst
          by_cases hc : ycl = cl
          · subst hc
            by_cases hy : yak = k
            · have d5 : (yak.toList == k.toList) = true := by rw [hy]; simp
              have Hs4 := Lib.hid (Hs3.out (fun _ => hy))
              clear hy
              go_wp2_with (first | go_big_skip)
              refine wp_region_reads (by kernel_rfl) (by kernel_rfl) hS ?_
              repeat (first | go_big_quiet_skip | (refine zq1 ?_ (hc := by first | exact Cell.old (by exact memS) hcl2 | exact Cell.old (by exact memS) hak2 | exact Cell.old (by exact memS) hcl)) | (refine wq_pure rfl rfl ?_; intro K hK; go_big_quiet_op; go_big_quiet_on))
              clear hS
              intro w hS
              go_wp2_with (first | go_big_skip | (go_at_call 9; refine (knownE_spec W _ _ hS).mono ?_; clear hS; rintro e w ⟨rfl, hS⟩))
              go_roundw
              case rel => exact ⟨j + 1, rfl, hjl, Hs4.out, hS⟩
              case measure => simp [intOf]; try omega
            · have d5 : (yak.toList == k.toList) = false := by
                rw [beq_eq_false_iff_ne]
                exact fun h => hy (ba_eq h)
              clear hy
              go_wp2_with (first | go_big_skip)
              refine wp_region_reads (by kernel_rfl) (by kernel_rfl) hS ?_
              repeat (first | go_big_quiet_skip | (refine zq1 ?_ (hc := by first | exact Cell.old (by exact memS) hcl2 | exact Cell.old (by exact memS) hak2 | exact Cell.old (by exact memS) hcl)) | (refine wq_pure rfl rfl ?_; intro K hK; go_big_quiet_op; go_big_quiet_on))
              clear hS
              intro w hS
              go_wp2_with (first | go_big_skip | (go_at_call 9; refine (knownE_spec W _ _ hS).mono ?_; clear hS; rintro e w ⟨rfl, hS⟩))
              go_ret
              exact ⟨rfl, hS.drop.drop⟩
          · have d6 : (ycl == cl) = false := by simpa using hc
            have Hs4 := Lib.hid (Hs3.out (fun h => absurd h hc))
            clear hc
            go_wp2_with (first | go_big_skip)
            refine wp_region_reads (by kernel_rfl) (by kernel_rfl) hS ?_
            repeat (first | go_big_quiet_skip | (refine zq1 ?_ (hc := by first | exact Cell.old (by exact memS) hcl2 | exact Cell.old (by exact memS) hak2 | exact Cell.old (by exact memS) hcl)) | (refine wq_pure rfl rfl ?_; intro K hK; go_big_quiet_op; go_big_quiet_on))
            clear hS
            intro w hS
            go_wp2_with (first | go_big_skip | (go_at_call 9; refine (knownE_spec W _ _ hS).mono ?_; clear hS; rintro e w ⟨rfl, hS⟩))
            go_roundw
            case rel => exact ⟨j + 1, rfl, hjl, Hs4.out, hS⟩
            case measure => simp [intOf]; try omega
    have hil : i < xs.length := by omega
    have hi6 : i ≤ 1000000 := by omega
    clear hend hi
    obtain ⟨pb, poff, rfl, hA⟩ := Ha.out i hil
    have hall := hA.all
    have hak := hA.ak
    clear hA
    have hs1 := runE_step hil ec0
    have hs2 := @atKey_yes xs i hil k
    have hs3 := @atKey_no xs i hil k
    obtain ⟨e, he⟩ : ∃ e, runE (xs.take i) ec0 = e := ⟨_, rfl⟩
    obtain ⟨f, hf⟩ : ∃ f, runE (atKey k (xs.take i)) ec0 = f := ⟨_, rfl⟩
    have hs2 := fun h => hs2 h ec0
    rw [he] at hE hS hs1
    rw [hf] at hF hS hs2
    generalize xs[i] = x at hall hak hs1 hs2 hs3
    obtain ⟨kd, cl, sq, ak, aw, tk, tw, it, ct, pr, bu, id⟩ := x
    simp only [Opn.cells] at hall hak hs2 hs3
    obtain ⟨⟨r, b, e2⟩, h1⟩ : ∃ z, appE e ⟨kd, cl, sq, ak, aw, tk, tw, it, ct, pr, bu, id⟩ = z := ⟨_, rfl⟩
    obtain ⟨⟨r2, b2, f2⟩, h2⟩ : ∃ z, appE f ⟨kd, cl, sq, ak, aw, tk, tw, it, ct, pr, bu, id⟩ = z := ⟨_, rfl⟩
    rw [h1] at hs1
    rw [h2] at hs2
    have HE := Lib.hid hE
    have HF := Lib.hid hF
    have H1 := Lib.hid h1
    have H2 := Lib.hid h2
    have S1 := Lib.hid hs1
    have S2 := Lib.hid hs2
    have S3 := Lib.hid hs3
    have Hf := Lib.hid hf
    clear hE hF h1 h2 hs1 hs2 hs3 he hf
    by_cases hk : ak = k
    · have d4 : (ak.toList == k.toList) = true := by rw [hk]; simp
      have S4 := Lib.hid (S2.out hk)
      clear hk
      go_wp2_with (first | go_big_skip | (refine zlN hS ?_ (vs := [.int .i64 kd, .int .i64 cl, .int .i64 sq, .string ak, .string aw, .string tk, .string tw, .int .i64 it, .int .i64 ct, .int .i64 pr, .bool bu, .int .i64 id]) (hc := by exact Cells.old (by exact memS) hall)) | (refine zl1 hS ?_ (hc := by exact Cell.old (by exact memS) hak)) | ((fail_if_success (have := gB)); go_at_call 8; refine (apply_at HE.out hi6 H1.out W _ _ (hS.sel (L' := ecP eb e :: ecP fb f :: Old V :: Lr) (by exact selS))).mono ?_; clear hS; have gB : Nat := 0; rintro ex w ⟨hok2, rfl, hS⟩; have Hok2 := Lib.hid hok2; clear hok2) | ((have := gB); go_at_call 8; refine (apply_at HF.out hi6 H2.out W _ _ (hS.sel (L' := ecP fb f :: ecP eb e2 :: Old V :: Lr) (by exact selS))).mono ?_; clear hS; rintro ex w ⟨hok3, rfl, hS⟩; have Hok3 := Lib.hid hok3; clear hok3))
      go_roundw
      case rel => exact ⟨i + 1, rfl, hil, by rw [S1.out]; exact Hok2.out, by rw [S4.out]; exact Hok3.out, by rw [S1.out, S4.out]; exact hS.sel (by exact selS)⟩
      case measure => simp [intOf]; try omega
    · have d4 : (ak.toList == k.toList) = false := by
        rw [beq_eq_false_iff_ne]
        exact fun h => hk (ba_eq h)
      have S4 := Lib.hid (S3.out hk)
      clear hk
      go_wp2_with (first | go_big_skip | (refine zlN hS ?_ (vs := [.int .i64 kd, .int .i64 cl, .int .i64 sq, .string ak, .string aw, .string tk, .string tw, .int .i64 it, .int .i64 ct, .int .i64 pr, .bool bu, .int .i64 id]) (hc := by exact Cells.old (by exact memS) hall)) | (refine zl1 hS ?_ (hc := by exact Cell.old (by exact memS) hak)) | ((fail_if_success (have := gB)); go_at_call 8; refine (apply_at HE.out hi6 H1.out W _ _ (hS.sel (L' := ecP eb e :: ecP fb f :: Old V :: Lr) (by exact selS))).mono ?_; clear hS; have gB : Nat := 0; rintro ex w ⟨hok2, rfl, hS⟩; have Hok2 := Lib.hid hok2; clear hok2) | ((have := gB); go_at_call 8; refine (apply_at HF.out hi6 H2.out W _ _ (hS.sel (L' := ecP fb f :: ecP eb e2 :: Old V :: Lr) (by exact selS))).mono ?_; clear hS; rintro ex w ⟨hok3, rfl, hS⟩; have Hok3 := Lib.hid hok3; clear hok3))
      go_roundw
      case rel => exact ⟨i + 1, rfl, hil, by rw [S1.out]; exact Hok2.out, by rw [S4.out, Hf.out]; exact eOk_on HF.out, by rw [S1.out, S4.out, Hf.out]; exact hS⟩
      case measure => simp [intOf]; try omega
end Go.Proofs.YtfiibhgjfekgiaaGreat
