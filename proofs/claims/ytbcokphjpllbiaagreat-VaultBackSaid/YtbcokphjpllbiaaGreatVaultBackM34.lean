/-
  A row of bytes that comes in as an argument. For every row.
  VaultDecodes: the walk. For all bytes.
  A vault that is written and read again: the same purses as listed, the same orders, the same next ID. The plain law, with what a book says of its orders.
  VaultBack: the walk. For every two scripts.
  What a law's walk gives its row: true came back, and what was there before the call is as it was: so the arguments read as they did. For every law that writes only what it made itself.
-/
import Derived.Test.YtbcokphjpllbiaaGreatVaultBackM1
import Derived.Test.YtbcokphjpllbiaaGreatVaultBackM5
import Derived.Test.YtbcokphjpllbiaaGreatVaultBackM29
import Derived.Test.YtbcokphjpllbiaaGreatVaultBackM33
import Derived.Test.YtbcokphjpllbiaaGreatRows
import Derived.Lib.SmallJoins
import Derived.ChangeArms
import Derived.ProofKit
import Derived.WalkKit
import Derived.OpenShut
import Derived.ChangeSame
import Derived.ReadAgain
section
set_option linter.unusedSimpArgs false
set_option linter.unusedVariables false
namespace Go.Proofs.YtbcokphjpllbiaaGreat
open Go.Joins Go.ChangeShapes Go.WideShapes Go.RowKit Go.Deep Go.Sl
/-- v is a slice that holds these bytes in the world w. -/
def BytesV (w : World) (v : Value) (zs : List Int) : Prop :=
  ByB zs ∧ ∃ a c, v = .slice a zs.length c ∧ zs.length ≤ c ∧ c ≤ 9223372036854775807 ∧ At (Old w) a c zs
end Go.Proofs.YtbcokphjpllbiaaGreat
end
section
set_option linter.unusedSimpArgs false
set_option linter.unusedVariables false
namespace Go.Proofs.YtbcokphjpllbiaaGreat
open Go.RowKit Go.Sl
theorem gok_uniq {b : List Int} {p p2 : Ps} {l l2 : List Ord} {n n2 : Int} (h : GOk b p l n) (h2 : GOk b p2 l2 n2) : p2 = p ∧ l2 = l ∧ n2 = n := by
  obtain ⟨s, a1, a2, a3, a4, a5⟩ := h
  obtain ⟨s2, b1, b2, b3, b4, b5⟩ := h2
  rw [a1] at b1
  cases b1
  rw [a2] at b2
  rw [a3] at b3
  cases b3
  exact ⟨rfl, b2.symm, rfl⟩
section
variable {D0 : HP} {a : Option Addr} {c : Nat} {b : List Int} {W w : World} {R R' : List HP}
theorem decG_yes {p : Ps} {l : List Ord} {n : Int} (h : GOk b p l n) (hat : At D0 a c b) (hb : ByB b) (hN : b.length ≤ 900000) (ht : Take R D0 R') (hS : St W R w) :
    Calls Tryz.prog 10 #[.slice a b.length c] w fun e w' => ∃ vb mb bb, e = .returned (.tuple #[.pointer (some ⟨vb, 0, none⟩), .int .i64 0]) ∧ St W (vaultL vb mb bb p l n R) w' := by
  refine (decode_g D0 a c b hat hb hN W w R R' ht hS).mono ?_
  rintro e w' (⟨h1, _⟩ | ⟨p2, l2, n2, h2, vb, mb, bb, h3, h4⟩)
  · exact absurd h (h1 p l n)
  · obtain ⟨rfl, rfl, rfl⟩ := gok_uniq h h2
    exact ⟨vb, mb, bb, h3, h4⟩
end
end Go.Proofs.YtbcokphjpllbiaaGreat
end
section
set_option linter.unusedSimpArgs false
set_option linter.unusedVariables false
namespace Go.Proofs.YtbcokphjpllbiaaGreat
open Go.RowKit Go.Sl
theorem bookL_byId {W w : World} {R : List HP} {bb : Nat} {L : List Ord} {m : Int} (h : St W (bookL bb L m :: R) w) : ById L := by
  obtain ⟨b, hr, _, _⟩ := bookLOpen h
  exact hr.byId
theorem puI_of {p : Ps} {N : Nat} (h : PsOk p) (hw : PsW p N) : PuI p N := ⟨h, hw, hw.who⟩
theorem okN_of {L : List Ord} {n : Int} (h32 : L.length ≤ 32) (hid : ById L) (hap : ApartL L) (heach : ∀ x ∈ L, MayP x ∧ x.id < n) (h0 : 1 ≤ n) (h1 : n ≤ 1099511627777) : OkN L n := by
  refine ⟨h32, ?_, ?_, h0, h1⟩
  · intro j hj
    have hmem : at' L j ∈ L := at'_mem hj
    have hm := (heach _ hmem).1
    unfold badAt
    rw [mayB_true.2 hm]
    have hlast : ¬ ((at' L j).id ≤ lastOf L j) := by
      cases j with
      | zero =>
        have := hm.id0
        show ¬ ((at' L 0).id ≤ 0)
        omega
      | succ k =>
        have := hid.lt hj (Nat.lt_succ_self k)
        show ¬ ((at' L (k + 1)).id ≤ (at' L k).id)
        omega
    have hbest : bestTo (at' L j) (L.take j) (L.take j).length = none := by
      cases hb : bestTo (at' L j) (L.take j) (L.take j).length with
      | none => rfl
      | some k =>
        obtain ⟨hk, hmt, _⟩ := best_some hb
        have h2 := hap _ hmem _ (List.mem_of_mem_take (at'_mem hk))
        rw [h2] at hmt
        cases hmt
    rw [hbest, decide_eq_false hlast]
    rfl
  · rcases Nat.eq_zero_or_pos L.length with h | h
    · rw [h]
      show (0 : Int) < n
      omega
    · rw [last_at h]
      exact (heach _ (List.getElem_mem _)).2
theorem back_gok {p : Ps} {N : Nat} {L : List Ord} {n : Int} (hp : PsOk p) (hw : PsW p N) (hN : N ≤ 4611686018427387904) (hn : OkN L n) : ∃ q, GOk (encV p L n) q L n ∧ hdL q = hdL p := by
  obtain ⟨h1, h2, h3, h4⟩ := enc_good (puI_of hp hw) hN hn rfl
  obtain ⟨q, s, g1, g2, g3, g4⟩ := doc_good (encV_byB p L n) h1
  refine ⟨q, ⟨s, g1, ?_, ?_, hn, ?_⟩, by rw [g2, h2]⟩
  · rw [g3, h3]
  · unfold gN
    rw [g3]
    exact (Prod.ext h4 h1.1 : dN (encV p L n) = (n, some []))
  · rw [h3, h4] at g4
    exact g4
theorem xvP_of {p q : Ps} (h : hdL q = hdL p) (xb : Nat) (vB : Value) (n : Int) : xvP xb vB n p = xvP xb vB n q := by
  unfold xvP
  rw [h]
theorem gok_ps {b : List Int} {q : Ps} {L : List Ord} {n : Int} (hb : ByB b) (h : GOk b q L n) : PsOk q ∧ PsW q (b.length + 1) := by
  obtain ⟨s, h1, _⟩ := h
  have h2 := (gP_ok hb h1).1
  exact ⟨h2.ok, h2.w⟩
theorem encV_len {p : Ps} {N : Nat} {L : List Ord} {n : Int} (hw : PsW p N) (hp : PsOk p) (hN : N ≤ 10000) (hmay : ∀ x ∈ L, MayP x) (hl : L.length ≤ 32) : (encV p L n).length ≤ 900000 := by
  have hhw : ∀ x ∈ hdL p, (encH x).length ≤ 70 := fun x hx => by
    have hk : x.who ∈ (hdL p).map Hd.who := List.mem_map_of_mem hx
    rw [hdL_who] at hk
    obtain ⟨y, hy, e⟩ := kL_mem hk
    exact encH_len x (by rw [← e]; exact whoB_le (hw.who y hy))
  have h1 := cat_len encH (hdL p) hhw
  have h2 := cat_len encO L fun x hx => encO_len x (hmay x hx).who1
  have h3 : (hdL p).length ≤ 10000 := by rw [hdL_len]; exact Nat.le_trans hw.len hN
  have h4 := numB_len (hdL p).length
  have h5 := numB_len L.length
  have h6 := numB_len n
  unfold encV
  simp only [List.length_append]
  omega
end Go.Proofs.YtbcokphjpllbiaaGreat
end
section
set_option linter.unusedSimpArgs false
set_option linter.unusedVariables false
namespace Go.Proofs.YtbcokphjpllbiaaGreat
open Go.RowKit Go.Sl
def BakR (W : World) (Lr : List HP) (m vb mb bb xb xB : Nat) (v : Value) (w : World) : Prop :=
  ∃ (i : Nat) (p : Ps) (L : List Ord) (n : Int), v = .int .i64 i ∧ i ≤ m ∧ i ≤ 100 ∧ VOk p n (100 + i) ∧ St W (vaultL vb mb bb p L n (xvR xb xB p L n Lr)) w
set_option maxRecDepth 100000 in
set_option maxHeartbeats 4000000 in
theorem back_spec (xs ys : List Vact) (v v2 : Value) (V : World) (hv : SliceV Vact.cells 13 V v xs) (hv2 : SliceV Vact.cells 13 V v2 ys) (W w : World) (Lr : List HP) (hS : St W (Old V :: Lr) w) :
    Calls Tryz.prog 5 #[v, v2] w fun e w' => e = .returned (.bool true) ∧ St W (Old V :: Lr) w' := by
  have Hv := Lib.hid hv
  obtain ⟨a2, cap2, rfl, h63, hact⟩ := hv2.vact
  have Hv2 := Lib.hid hv2
  have Ha := Lib.hid hact
  clear hv hv2 hact
  go_enter Tryz.func5, Tryz.ntmps5
  go_wp2_with (first | go_big_skip | ((fail_if_success (have := mH)); go_at_call 6; refine (heavy_spec xs _ V Hv.out W _ _ hS).mono ?_; clear hS; have mH : Nat := 0; rintro e w ⟨hvy, rfl, hS⟩; cases hvy) | ((have := mH); go_at_call 6; refine (heavy_spec ys _ V Hv2.out W _ _ hS).mono ?_; clear hS; rintro e w ⟨hvz, rfl, hS⟩; cases hvz) | (go_at_call 7; refine (played_spec xs _ V Hv.out W _ _ hS).mono ?_; clear hS; rintro e w ⟨vb, mb, bb, xb, xB, p, L, n, hok, hap, rfl, hS⟩; have Hok := Lib.hid hok; have Hap := Lib.hid hap; clear hok hap) | (go_at_call 12; refine (encodeV vb mb bb p L n Hok.out.ok Hok.out.w (by decide) Hok.out.n0 (by have := Hok.out.n1; omega) W _ _ hS).mono ?_; clear hS; rintro e w ⟨ev, rfl, hS⟩; have hev := byR_at hS; obtain ⟨da, dc, rfl, hvd⟩ := hev; have hat2 := rdV_at hvd; have Hat2 := Lib.hid hat2; clear hvd hat2))
  rotate_left
  · go_ret
    exact ⟨rfl, hS⟩
  · go_ret
    exact ⟨rfl, hS⟩
  · have hl32 := bookL_len hS.drop.drop.drop
    have heach := bookL_each hS.drop.drop.drop
    have hid := bookL_byId hS.drop.drop.drop
    have hn1 : n ≤ 1099511627777 := by have := Hok.out.n1; omega
    obtain ⟨q, hg, hq⟩ := back_gok Hok.out.ok Hok.out.w (by decide) (okN_of hl32 hid Hap.out heach Hok.out.n0 hn1)
    have hlen := encV_len (n := n) Hok.out.w Hok.out.ok (by decide) (fun x hx => (heach x hx).1) hl32
    have hqk := gok_ps (encV_byB p L n) hg
    have hqw : PsW q 10000 := ⟨hqk.2.nd, hqk.2.nz, hqk.2.who, by rw [← hdL_len, hq, hdL_len]; exact Hok.out.w.len⟩
    have e9 := xvP_of hq xb (.pointer (some ⟨xB, 0, none⟩)) n
    unfold xvR at hS
    rw [e9] at hS
    have Hg := Lib.hid hg
    have Hlen := Lib.hid hlen
    have Hqo := Lib.hid hqk.1
    have Hqw := Lib.hid hqw
    have H0 := Lib.hid Hok.out.n0
    have H1 := Lib.hid hn1
    have H9 := Lib.hid Hok.out.n1
    clear hl32 heach hid hn1 hg hq hlen hqk hqw e9
    go_wp2_with (first | go_big_skip | (go_at_call 10; refine (decG_yes Hg.out Hat2.out (encV_byB p L n) Hlen.out .head hS).mono ?_; clear hS; rintro e w ⟨vb2, mb2, bb2, rfl, hS⟩) | (go_at_call 8; refine (alike_spec vb2 mb2 bb2 xb xB q L n Hqo.out Hqw.out (by decide) H0.out H1.out W _ _ (hS.sel (L' := blk vb2 _ _ :: amap eS eP mb2 q :: bookL bb2 L n :: xvP xb _ n q :: xkP xB L n :: Old V :: Lr) (by exact selS))).mono ?_; clear hS; rintro e w ⟨rfl, hS⟩))
    go_loopw [10] (fun v wr => BakR W (Old V :: Lr) ys.length vb2 mb2 bb2 xb xB v wr) (fun v _ => ys.length - (intOf v).toNat)
    case atStart => exact ⟨0, q, L, n, rfl, by omega, by omega, ⟨Hqo.out, psW_mono Hqw.out (by decide), H0.out, H9.out⟩, hS⟩
    case round =>
      clear hS
      clear Hok Hap Hqo Hqw H0 H1 H9 Hg Hlen Hat2
      obtain ⟨i, p, L, n, rfl, hi, hi2, hok, hS⟩ := hrel
      have Hok := Lib.hid hok
      have hN5 : 100 * (100 + i) + 150 ≤ 1000000 := by omega
      have hN6 : 100 * (100 + i) ≤ 1000000 := by omega
      have hN7 : n ≤ 1099511627777 := by have := Hok.out.n1; omega
      clear hok
      by_cases hend : i = ys.length ∨ i = 100
      · rcases hend with hend | hend
        · subst hend
          go_wp2_with (first | go_big_skip | (go_at_call 8; refine (alike_spec vb2 mb2 bb2 xb xB p L n Hok.out.ok Hok.out.w hN6 Hok.out.n0 hN7 W _ _ hS).mono ?_; clear hS; rintro e w ⟨rfl, hS⟩) | (go_at_call 9; refine (knownV_spec W _ _ hS).mono ?_; clear hS; rintro e w ⟨rfl, hS⟩))
          go_ret
          exact ⟨rfl, hS.drop.drop.drop.drop.drop⟩
        · subst hend
          by_cases hlt : 100 < ys.length
          · go_wp2_with (first | go_big_skip | (go_at_call 8; refine (alike_spec vb2 mb2 bb2 xb xB p L n Hok.out.ok Hok.out.w hN6 Hok.out.n0 hN7 W _ _ hS).mono ?_; clear hS; rintro e w ⟨rfl, hS⟩) | (go_at_call 9; refine (knownV_spec W _ _ hS).mono ?_; clear hS; rintro e w ⟨rfl, hS⟩))
            go_ret
            exact ⟨rfl, hS.drop.drop.drop.drop.drop⟩
          · have d1 : decide ((100 : Int) < (ys.length : Int)) = false := by simp; omega
            go_wp2_with (first | go_big_skip | (go_at_call 8; refine (alike_spec vb2 mb2 bb2 xb xB p L n Hok.out.ok Hok.out.w hN6 Hok.out.n0 hN7 W _ _ hS).mono ?_; clear hS; rintro e w ⟨rfl, hS⟩) | (go_at_call 9; refine (knownV_spec W _ _ hS).mono ?_; clear hS; rintro e w ⟨rfl, hS⟩))
            go_ret
            exact ⟨rfl, hS.drop.drop.drop.drop.drop⟩
      have hil : i < ys.length := by omega
      have hi3 : i < 100 := by omega
      clear hend hi hi2
      have hl32 := bookL_len hS.drop.drop
      have hmay : ∀ x ∈ L, MayP x := fun x hx => (bookL_each hS.drop.drop x hx).1
      have Hmay := Lib.hid hmay
      clear hmay
      obtain ⟨pb, poff, rfl, hA⟩ := Ha.out i hil
      have hk := hA.kind
      have hord := hA.ord
      clear hA
      generalize ys[i] = x at hk hord
      obtain ⟨kd, nn, who, ⟨i0, i1, i2, i3⟩, ⟨oi, ou, oy, ot, oc, op⟩⟩ := x
      simp only [Ord.cells] at hk hord
      by_cases hk3 : kd = 3
      · subst hk3
        obtain ⟨r1, h1⟩ : ∃ r, (ordV ⟨p, L, n⟩ ⟨oi, ou, oy, ot, oc, op⟩).1 = r := ⟨_, rfl⟩
        obtain ⟨r2, h2⟩ : ∃ r, (ordV ⟨p, L, n⟩ ⟨oi, ou, oy, ot, oc, op⟩).2.1 = r := ⟨_, rfl⟩
        obtain ⟨p2, hp2⟩ : ∃ r, (ordV ⟨p, L, n⟩ ⟨oi, ou, oy, ot, oc, op⟩).2.2.ps = r := ⟨_, rfl⟩
        obtain ⟨L2, hL2⟩ : ∃ r, (ordV ⟨p, L, n⟩ ⟨oi, ou, oy, ot, oc, op⟩).2.2.L = r := ⟨_, rfl⟩
        obtain ⟨n2, hn2⟩ : ∃ r, (ordV ⟨p, L, n⟩ ⟨oi, ou, oy, ot, oc, op⟩).2.2.n = r := ⟨_, rfl⟩
        have hok2 := vOk_ord (V := ⟨p, L, n⟩) (o := ⟨oi, ou, oy, ot, oc, op⟩) Hok.out Hmay.out hl32
        rw [hp2, hn2] at hok2
        have H1 := Lib.hid h1
        have H2 := Lib.hid h2
        have Hp2 := Lib.hid hp2
        have HL2 := Lib.hid hL2
        have Hn2 := Lib.hid hn2
        have Hok2 := Lib.hid hok2
        have hr1 : (r1 == r1) = true := by simp
        have hr2 : (r2 == r2) = true := by simp
        clear h1 h2 hp2 hL2 hn2 hok2
        go_wp2_with (first | go_big_skip | (refine zl1 hS ?_ (hc := by exact Cell.old (by exact memS) hk)) | (refine zlN hS ?_ (vs := [.int .i64 oi, .string ou, .bool oy, .int .i64 ot, .int .i64 oc, .int .i64 op]) (hc := by exact Cells.old (by exact memS) hord)) | (go_at_call 13; refine (ord_in (o := ⟨oi, ou, oy, ot, oc, op⟩) Hok.out.ok Hok.out.n0 H1.out H2.out Hp2.out HL2.out Hn2.out hS).mono ?_; clear hS; rintro e w ⟨rfl, hS⟩) | (go_at_call 14; refine (ord_x (o := ⟨oi, ou, oy, ot, oc, op⟩) Hok.out.ok Hok.out.w hN5 Hmay.out Hok.out.n0 H1.out H2.out Hp2.out HL2.out Hn2.out (hS.sel (L' := xvP xb _ n p :: xkP xB L n :: blk vb2 _ _ :: amap eS eP mb2 p2 :: bookL bb2 L2 n2 :: Old V :: Lr) (by exact selS))).mono ?_; clear hS; rintro e w ⟨rfl, hS⟩))
        go_roundw
        case rel => exact ⟨i + 1, p2, L2, n2, rfl, hil, hi3, Hok2.out, hS.sel (by exact selS)⟩
        case measure => simp [intOf]; try omega
      · have hk3f : (kd == 3) = false := by simpa using hk3
        go_wp2_with (first | go_big_skip | (refine zl1 hS ?_ (hc := by exact Cell.old (by exact memS) hk)))
        go_roundw
        case rel => exact ⟨i + 1, p, L, n, rfl, hil, hi3, Hok.out.on, hS⟩
        case measure => simp [intOf]; try omega
end Go.Proofs.YtbcokphjpllbiaaGreat
end
section
set_option linter.unusedSimpArgs false
set_option linter.unusedVariables false
namespace Go.Sl
open Go.ChangeShapes Go.WideShapes Go.ChangeAt Go.RowKit
section
variable {H : Type} {enc : TypeId × Value → H} {P : Program}
theorem trodAll_carry {w w' : World} {base : Nat} {spare : Nat → Bool} {held : Bool} : ∀ {ts : List TypeId} {vs : List Value} {ds : List (DataW H)} {ps : List MemPlace},
    DataW.TrodAll enc P w base spare held ts vs ds ps → (∀ p ∈ ps, w.sameAt w' p) → DataW.TrodAll enc P w' base spare held ts vs ds ps
  | [], [], [], _, h, _ => h
  | _ :: _, _ :: _, _ :: _, _, ⟨p, q, ⟨n, hn⟩, h2, e⟩, hs =>
    ⟨p, q, ⟨n, DataW.trod_carry n _ _ _ hn fun x hx => hs x (by rw [e]; exact List.mem_append_left _ hx)⟩, trodAll_carry h2 (fun x hx => hs x (by rw [e]; exact List.mem_append_right _ hx)), e⟩

/-- The end of a law: true, nothing that was there has turned. -/
theorem law_post {f : Func} {s : ChangeSpec} {apart fresh handsOn again : Bool} {W W' : World} {args : Array Value} {ds gs : List (DataW H)} {before : List MemPlace} {tb : TypeId}
    (hl : laidOutB P = true) (hm : mapsRowed P = true) (hz : ((List.range P.types.size).all fun t => match P.underlying t with | some (.slice e) => decide (0 < P.cellsOf e) | _ => true) = true)
    (hT : f.params.toList.all (· < P.types.size) = true) (hr : f.resultTypes = #[tb]) (hb : P.underlying tb = some .bool) (hv : s.vars = [])
    (hW : DataW.Whole enc P f.params.toList s.vars apart W args.toList ds gs before)
    (hres : (s.fn H (ds ++ gs)).results = [.lit (.bool true)]) (hargs : (s.fn H (ds ++ gs)).args = ds) (hvars : (s.fn H (ds ++ gs)).vars = [])
    (hB : Below W.heap.size W W') : s.post enc P f apart fresh handsOn again W args (.bool true) W' := by
  have hW0 := hW
  obtain ⟨p, q, hA, hV, rfl, hfz, hnd⟩ := hW
  rw [hv] at hV
  obtain ⟨rfl, rfl⟩ := trodVars_none hV
  have hlt : ∀ x ∈ p ++ [], x.block < W.heap.size := fun x hx => hW0.lt x hx
  have hA' : ∀ sp : Nat → Bool, (∀ x ∈ p ++ [], sp x.block = true) → DataW.TrodAll enc P W' 0 sp true f.params.toList args.toList (s.fn H (ds ++ [])).args p := fun sp hs => by
    rw [hargs]
    refine trodAll_carry (DataW.TrodAll.respare (kids_rows hl hm) (fun t e => slices_full_of P hz t e) (fun t ht => by simpa using List.all_eq_true.1 hT t ht) hA fun x hx => hs x (by simpa using hx)) fun x hx => hB.same (hlt x (by simpa using hx))
  have hR : ∀ (b : Nat) (sp : Nat → Bool) (hd : Bool), DataW.TrodAll enc P W' b sp hd f.resultTypes.toList ((Value.bool true).resultList f.resultTypes.size) (s.fn H (ds ++ [])).results [] := fun b sp hd => by
    rw [hres, hr]
    exact trodAll_cons_mk (shut_bool hb _) trodAll_mk0
  have hU : ∀ sp : Nat → Bool, DataW.TrodVars enc P W' sp s.vars (s.fn H (ds ++ [])).vars [] := fun sp => by
    rw [hv, hvars]; rfl
  have hold : ∀ x ∈ p ++ [], (fun b => decide (b < W.heap.size)) x.block = true := fun x hx => by simpa using hlt x hx
  refine ⟨ds, [], p ++ [], [], p, [], hW0, hR _ _ _, hA' _ hold, hU _, World.keptBut_mono (fun x hx => ⟨hx, ?_⟩) (hB.frame (· ∈ p ++ [])), fun _ => ?_⟩
  · exact Or.inr (by simpa using hx)
  · refine ⟨ok_one hr rfl (okWide_bool_mk hb _), _, _, ([] ++ p) ++ [], ⟨[] ++ p, [], trodAll_append (hA' _ (fun _ _ => rfl)) (hR _ _ _), hU _, rfl, ?_, ?_⟩, ?_⟩
    · intro b off hx
      rw [hB.frozen (hlt _ (by simpa using hx))]
      exact hfz b off (by simpa using hx)
    · intro ha
      simpa using hnd ha
    · intro x hx _
      simpa using hx
end
end Go.Sl
end
