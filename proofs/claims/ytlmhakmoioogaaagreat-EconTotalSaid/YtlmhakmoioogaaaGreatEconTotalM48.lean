/-
  EconTotal: the walk. For every row of requests.
  What a law's walk gives its row: true came back, and what was there before the call is as it was: so the arguments read as they did. For every law that writes only what it made itself.
-/
import Derived.Test.YtlmhakmoioogaaaGreatEconTotalM1
import Derived.Test.YtlmhakmoioogaaaGreatEconTotalM5
import Derived.Test.YtlmhakmoioogaaaGreatEconTotalM32
import Derived.Test.YtlmhakmoioogaaaGreatEconTotalM47
import Derived.WalkKit
import Derived.ProofKit
import Derived.OpenShut
import Derived.ChangeSame
import Derived.ReadAgain
set_option maxHeartbeats 16000000
set_option linter.unusedSimpArgs false
set_option linter.unusedVariables false
section
namespace Go.Proofs.YtlmhakmoioogaaaGreat
open Go.RowKit Go.Sl
theorem tot_hv {e : Ec} {n : Nat} (hE : EOk e n) (he : EachV e) (hb : ∀ k,Kx k → totE e k ≤ 500000000) : ∀ x ∈ e.vs,addL (allV x.2) it0 = some (totI x.2) := fun x hx =>
 all_sum (vOk_k (hE x hx)) (he x hx).1 fun k hk => by
  have h1 := sumVs_le (hE.nn he k) x hx
  have h2 := hb k hk
  unfold totE at h2
  omega
theorem sumI_tot {k : Int} (hk : Kx k) : ∀ l : List (ByteArray × Vs),sumI k (l.map fun x => totI x.2) = sumVs k l
 | [] => rfl
 | x :: l => by
  have ih := sumI_tot hk l
  show getK (totI x.2) k + sumI k (l.map fun x => totI x.2) = _
  rw [ih,getK_tot _ hk]
  rfl
theorem getK_four (f : Int → Int) {k : Int} (hk : Kx k) : getK ⟨f 0,f 1,f 2,f 3⟩ k = f k := by
 obtain ⟨h0,h3⟩ := hk
 have h : k = 0 ∨ k = 1 ∨ k = 2 ∨ k = 3 := by omega
 rcases h with rfl|rfl|rfl|rfl <;> rfl
theorem tot_ht {e : Ec} {n : Nat} (hE : EOk e n) (he : EachV e) (hb : ∀ k,Kx k → totE e k ≤ 500000000) : ∀ l : List It,l.Perm (e.vs.map fun x => totI x.2) → addL l it0 = some ⟨totE e 0,totE e 1,totE e 2,totE e 3⟩ := fun l hl => by
 refine addL_sum l ?_ isIt_0s (fun k hk => ?_) (fun k hk => ?_)
 ·intro i hi
  obtain ⟨x,hx,rfl⟩ := List.mem_map.1 (hl.mem_iff.1 hi)
  refine isIt_of fun k hk => ?_
  have h1 := sumVs_le (hE.nn he k) x hx
  have h2 := hb k hk
  have h3 := hE.nn he k x hx
  unfold totE at h2
  rw [getK_tot _ hk]
  omega
 ·rw [getK_four (totE e) hk,getK_it0,sumI_perm hl,sumI_tot hk]
  show totE e k = 0 + totE e k
  omega
 ·rw [getK_four (totE e) hk]
  have := hb k hk
  omega
theorem xec0 {W w : World} {R : List HP} {xb : Nat} (h : St W (xeB xb (.slice none 0 0) (.slice none 0 0) (.slice none 0 0) (.slice none 0 0) :: R) w) : St W (xecP xb ec0 :: R) w := by
 have h1 := h.rowNil (k := 2) (T := 140)
 have h2 := h1.rowNil (k := 8) (T := 40)
 have h3 := h2.rowNil (k := 8) (T := 143)
 have h4 : St W (sats [] :: _) w := St.shutS [] h3
 have h5 := h4.rowNil (k := 2) (T := 137)
 have h6 : St W (xrP (.slice none 0 0) [] :: dvaP [] :: xsP (.slice none 0 0) [] :: xtP (.slice none 0 0) [] :: xmP (.slice none 0 0) [] :: xeB xb (.slice none 0 0) (.slice none 0 0) (.slice none 0 0) (.slice none 0 0) :: R) w := h5
 exact xecShut (D := []) (d := ec0) rfl (h6.sel (by exact selS))
abbrev sumR (b : Nat) (s0 s1 s2 s3 : Int) : HP := blk b [.int .i64 s0,.int .i64 s1,.int .i64 s2,.int .i64 s3] 28
def TlR (W : World) (Lr : List HP) (eb xb sb : Nat) (xs : List Opn) (v : Value) (w : World) : Prop :=
 ∃ i : Nat,v = .int .i64 i ∧ i ≤ xs.length ∧ GOk (runD (xs.take i) ec0) (runE (xs.take i) ec0) i ∧ (∀ k,Kx k → totE (runE (xs.take i) ec0) k ≤ i * 1048576) ∧
  St W (ecP eb (runE (xs.take i) ec0) :: xecP xb (runD (xs.take i) ec0) :: sumR sb (totE (runE (xs.take i) ec0) 0) (totE (runE (xs.take i) ec0) 1) (totE (runE (xs.take i) ec0) 2) (totE (runE (xs.take i) ec0) 3) :: Lr) w
theorem tot_facts {d1 e1 e2 : Ec} {i : Nat} {o : Opn} {r : Rpl} {rb : Bool} {s0 s1 s2 s3 : Int} (hG : GOk d1 e1 i) (hi : i ≤ 150) (heE : EachV e1) (heE2 : EachV e2) (htb : ∀ k,Kx k → totE e1 k ≤ i * 1048576) (h1 : appE e1 o = (r,rb,e2)) (h0 : totE e1 0 = s0) (h1' : totE e1 1 = s1) (h2 : totE e1 2 = s2) (h3 : totE e1 3 = s3) :
  totE e2 0 = s0 + addK o r rb 0 ∧ totE e2 1 = s1 + addK o r rb 1 ∧ totE e2 2 = s2 + addK o r rb 2 ∧ totE e2 3 = s3 + addK o r rb 3 ∧ ∀ k,Kx k → totE e2 k ≤ ((i + 1 : Nat) : Int) * 1048576 := by
 have hnd : (e1.vs.map (·.1)).Nodup := (hG.sim.v.map _).nodup_iff.1 hG.sim.vn
 have hbb : ∀ k,Kx k → totE e1 k ≤ 500000000 := fun k hk => by have := htb k hk;omega
 have ht : ∀ k,Kx k → totE e2 k = totE e1 k + addK o r rb k := fun k hk => by
  have := app_tot hnd hG.ok heE (by rw [h1];exact heE2) hbb (o := o) hk
  rw [h1] at this
  exact this
 subst h0 h1' h2 h3
 refine ⟨ht 0 ⟨by decide,by decide⟩,ht 1 ⟨by decide,by decide⟩,ht 2 ⟨by decide,by decide⟩,ht 3 ⟨by decide,by decide⟩,fun k hk => ?_⟩
 have h5 := add_le (e := e1) (o := o) r k
 rw [h1] at h5
 have h6 := htb k hk
 have h7 := ht k hk
 dsimp only at h5
 omega
theorem addK_no {o : Opn} {r : Rpl} {k : Int} : addK o r false k = 0 := by unfold addK;rw [if_neg (by simp)]
theorem addK_err {o : Opn} {r : Rpl} {b : Bool} {k : Int} (h : r.err ≠ 0) : addK o r b k = 0 := by unfold addK;rw [if_neg (fun hh => h hh.2)]
theorem addK_else {o : Opn} {r : Rpl} {b : Bool} {k : Int} (h1 : o.kind ≠ 1) (h2 : o.kind ≠ 2) (h6 : o.kind ≠ 6) : addK o r b k = 0 := by
 unfold addK
 rw [if_neg (show ¬ (o.kind = 1 ∨ o.kind = 6) by omega),if_neg h2]
 split <;> rfl
theorem app_done_may {e : Ec} {o : Opn} (h : (appE e o).2.1 = true) : mayO o = true := by
 cases hp : peekE e o with
 | mk r b =>
 cases b with
 | true => rw [appE_old hp] at h;cases h
 | false => exact (peek_new hp).2
theorem sent_len {d : Ec} {o : Opn} (h : (appD d o).2.1 = true) (hk : o.kind = 2) (hr : (appD d o).1.err = 0) : (appD d o).2.2.ts.length = d.ts.length + 1 := by
 unfold appD at h hr ⊢
 split at h
 ·cases h
 ·rename_i hp
  rw [if_neg hp] at hr ⊢
  dsimp only at hr ⊢
  unfold tsD insW
  rw [if_pos ⟨hk,hr⟩,List.length_append,List.length_cons,List.length_take,List.length_drop]
  have := plI_le ltW (o.client,o.seq) d.ts
  omega
set_option maxRecDepth 100000 in
theorem total_spec (xs : List Opn) (v : Value) (V : World) (hv : SliceV Opn.cells 12 V v xs) (W w : World) (Lr : List HP) (hS : St W (Old V :: Lr) w) :
    Calls Tryz.prog 4 #[v] w fun e w' => e = .returned (.bool true) ∧ St W (Old V :: Lr) w' := by
  obtain ⟨a, cap, rfl, h63, hact⟩ := hv.opn
  have Ha := Lib.hid hact
  clear hact hv
  go_enter Tryz.func4, Tryz.ntmps4
  go_wp2_with (first | (go_at_call 20; refine (heavyOps_spec xs a cap h63 (fun i hi => (Ha.out i hi).imp fun b h => h.imp fun off h => ⟨h.1, fun j v hj => Cell.old .head (h.2.all j v hj)⟩) W _ hS).mono ?_; clear hS; rintro e w ⟨hv, h150, rfl, hS⟩; cases hv) | (go_at_call 15; refine (newE_spec W _ _ hS).mono ?_; clear hS; rintro e w ⟨eb, rfl, hS⟩) | (refine zbx hS ?_; clear hS; intro xb w hS) | (refine zal hS ?_; clear hS; intro sb w hS))
  rotate_left
  · go_ret
    exact ⟨rfl, hS⟩
  have hlen : xs.length ≤ 150 := by first | exact h150 rfl | exact h150 trivial
  clear h150
  have hS1 := xec0 (hS.sel (L' := xeB xb (.slice none 0 0) (.slice none 0 0) (.slice none 0 0) (.slice none 0 0) :: ecP eb ec0 :: sumR sb 0 0 0 0 :: Old V :: Lr) (by exact selS))
  clear hS
  have hS := hS1
  clear hS1
  go_loopw [6] (fun v wr => TlR W (Old V :: Lr) eb xb sb xs v wr) (fun v _ => xs.length - (intOf v).toNat)
  case atStart =>
    have h1 := hS.sel (L' := ecP eb ec0 :: xecP xb ec0 :: sumR sb 0 0 0 0 :: Old V :: Lr) (by exact selS)
    exact ⟨0, rfl, Nat.zero_le _, gOk0, fun k _ => Int.le_refl _, h1⟩
  case round =>
    clear hS
    obtain ⟨i, rfl, hi, hG, htb, hS⟩ := hrel
    by_cases hend : i = xs.length
    · subst hend
      have d3 : decide ((xs.length : Int) < (xs.length : Int)) = false := by simp
      rw [List.take_length] at hS hG htb
      obtain ⟨e1, he⟩ : ∃ z, runE xs ec0 = z := ⟨_, rfl⟩
      rw [he] at hS hG htb
      have heE := ec_each hS
      have hbb : ∀ k, Kx k → totE e1 k ≤ 500000000 := fun k hk => by have := htb k hk; omega
      have hvv := tot_hv hG.ok heE hbb
      have htt := tot_ht hG.ok heE hbb
      obtain ⟨s0, hs0⟩ : ∃ s, totE e1 0 = s := ⟨_, rfl⟩
      obtain ⟨s1, hs1⟩ : ∃ s, totE e1 1 = s := ⟨_, rfl⟩
      obtain ⟨s2, hs2⟩ : ∃ s, totE e1 2 = s := ⟨_, rfl⟩
      obtain ⟨s3, hs3⟩ : ∃ s, totE e1 3 = s := ⟨_, rfl⟩
      rw [hs0, hs1, hs2, hs3] at hS htt
      have hvl : e1.vs.length ≤ 1000000 := by
        have h1 := hG.lv
        have h2 := hG.sim.v.length_eq
        omega
      have HG := Lib.hid hG
      have Hvv := Lib.hid hvv
      have Htt := Lib.hid htt
      clear hG htb heE hbb hvv htt hs0 hs1 hs2 hs3
      have heq : ((s0 == s0) && ((s1 == s1) && ((s2 == s2) && (s3 == s3)))) = true := by simp
      go_wp2_with (first | (go_at_call 22; refine (totalE_x HG.out.ok (by omega) hvl Hvv.out Htt.out W _ _ hS).mono ?_; clear hS; rintro ex w ⟨rfl, hS⟩) | (refine zal hS ?_; clear hS; intro bA w hS) | (refine zsN hS ?_; clear hS; intro w hS) | (refine zlN hS ?_) | ((with_reducible apply wl_eqA); (with_reducible rfl); rfl; rfl; rfl; kernel_rfl; exact eqI _ _ _ _ _ _ _ _; (rw [heq]); (refine frS ?_)) | (go_at_call 14; refine (knownE_spec W _ _ hS).mono ?_; clear hS; rintro e w ⟨rfl, hS⟩))
      go_ret
      exact ⟨rfl, hS.sel (by exact selS)⟩
    have hil : i < xs.length := by omega
    have dil : decide ((i : Int) < (xs.length : Int)) = true := by simp; omega
    have hi6 : i ≤ 150 := by omega
    clear hend hi
    obtain ⟨pb, poff, rfl, hA⟩ := Ha.out i hil
    have hall := hA.all
    clear hA
    have hx1 := runE_nx hil ec0
    have hx2 := runD_nx hil ec0
    obtain ⟨e1, he⟩ : ∃ z, runE (xs.take i) ec0 = z := ⟨_, rfl⟩
    obtain ⟨d1, hd⟩ : ∃ z, runD (xs.take i) ec0 = z := ⟨_, rfl⟩
    rw [he] at hG hS hx1 htb
    rw [hd] at hG hS hx2
    clear he hd
    generalize xs[i] = x at hall hx1 hx2
    obtain ⟨kd, cl, sq, ak, aw, tk, tw, it, ct, pr, bu, id⟩ := x
    simp only [Opn.cells] at hall
    obtain ⟨⟨⟨r0, r1, ⟨r2, r3, r4, r5⟩⟩, rb, e2⟩, h1⟩ : ∃ z, appE e1 ⟨kd, cl, sq, ak, aw, tk, tw, it, ct, pr, bu, id⟩ = z := ⟨_, rfl⟩
    obtain ⟨d2, hd2⟩ : ∃ z, (appD d1 ⟨kd, cl, sq, ak, aw, tk, tw, it, ct, pr, bu, id⟩).2.2 = z := ⟨_, rfl⟩
    have hsa := sim_app hG.sim ⟨kd, cl, sq, ak, aw, tk, tw, it, ct, pr, bu, id⟩
    have h2 : appD d1 ⟨kd, cl, sq, ak, aw, tk, tw, it, ct, pr, bu, id⟩ = (⟨r0, r1, ⟨r2, r3, r4, r5⟩⟩, rb, d2) := by
      obtain ⟨g1, g2, _⟩ := hsa
      rw [h1] at g1 g2
      exact Prod.ext g1 (Prod.ext g2 hd2)
    have hgn := hG.app ⟨kd, cl, sq, ak, aw, tk, tw, it, ct, pr, bu, id⟩
    have hsl := @sent_len d1 ⟨kd, cl, sq, ak, aw, tk, tw, it, ct, pr, bu, id⟩
    have hmy := @app_done_may e1 ⟨kd, cl, sq, ak, aw, tk, tw, it, ct, pr, bu, id⟩
    have hsim2 : SimE d2 e2 := by
      have := hsa.2.2
      rw [h1, h2] at this
      exact this
    rw [h1] at hx1 hgn hmy
    rw [h2] at hx2 hgn hsl
    dsimp only at hx1 hx2 hgn hsl hmy
    have hnd : (e1.vs.map (·.1)).Nodup := (hG.sim.v.map _).nodup_iff.1 hG.sim.vn
    have hTl : rb = true → kd = 2 → r0 = 0 → e2.ts.length = d1.ts.length + 1 := fun g1 g2 g3 => by rw [← hsim2.t.length_eq]; exact hsl g1 g2 g3
    have ht9 : e2.ts.length ≤ 1000000000 := by
      rw [← hsim2.t.length_eq]
      have := (appD_len d1 ⟨kd, cl, sq, ak, aw, tk, tw, it, ct, pr, bu, id⟩).2.2.1
      rw [h2] at this
      have := hG.lt
      dsimp only at *
      omega
    have hbn : ∀ k, Kx k → 0 ≤ totE e1 k ∧ totE e1 k ≤ 157286400 := fun k hk => ⟨totE_nn hG.ok (ec_each hS) k, by have := htb k hk; omega⟩
    obtain ⟨a0, b0⟩ := hbn 0 ⟨by decide, by decide⟩
    obtain ⟨a1, b1⟩ := hbn 1 ⟨by decide, by decide⟩
    obtain ⟨a2, b2⟩ := hbn 2 ⟨by decide, by decide⟩
    obtain ⟨a3, b3⟩ := hbn 3 ⟨by decide, by decide⟩
    obtain ⟨s0, hs0⟩ : ∃ s, totE e1 0 = s := ⟨_, rfl⟩
    obtain ⟨s1, hs1⟩ : ∃ s, totE e1 1 = s := ⟨_, rfl⟩
    obtain ⟨s2, hs2⟩ : ∃ s, totE e1 2 = s := ⟨_, rfl⟩
    obtain ⟨s3, hs3⟩ : ∃ s, totE e1 3 = s := ⟨_, rfl⟩
    rw [hs0] at hS a0 b0
    rw [hs1] at hS a1 b1
    rw [hs2] at hS a2 b2
    rw [hs3] at hS a3 b3
    have hS0 := hS.sel (L' := xecP xb d1 :: ecP eb e1 :: sumR sb s0 s1 s2 s3 :: Old V :: Lr) (by exact selS)
    clear hS
    obtain ⟨v1, v2, v3, v4, D, hd, hS⟩ := xecOpen hS0
    obtain ⟨ta, tc, rfl⟩ := hS.drop.drop.drop.drop.rowVal
    clear hS0
    have Hd := Lib.hid hd
    have HG := Lib.hid hG
    have Htb := Lib.hid htb
    have Hnd := Lib.hid hnd
    have H1 := Lib.hid h1
    have H2 := Lib.hid h2
    have G2 := Lib.hid hgn
    have X1 := Lib.hid hx1
    have X2 := Lib.hid hx2
    have S0 := Lib.hid hs0
    have S1 := Lib.hid hs1
    have S2 := Lib.hid hs2
    have S3 := Lib.hid hs3
    have HTl := Lib.hid hTl
    have Hmy := Lib.hid hmy
    clear hd hG htb hnd h1 h2 hgn hx1 hx2 hs0 hs1 hs2 hs3 hTl hmy hsl hsim2 hsa hd2 hbn
    cases rb with
    | false =>
      go_wp2_with (first | go_big_skip | (refine zlN hS ?_ (vs := [.int .i64 kd, .int .i64 cl, .int .i64 sq, .string ak, .string aw, .string tk, .string tw, .int .i64 it, .int .i64 ct, .int .i64 pr, .bool bu, .int .i64 id]) (hc := by exact Cells.old (by exact memS) hall)) | ((fail_if_success (have := gA)); (refine zal hS ?_; clear hS; have gA : Nat := 0; intro bA w hS)) | ((have := gA); (refine zal hS ?_; clear hS; intro bB w hS)) | (refine zl1 hS ?_) | (refine zlN hS ?_) | (refine zsN hS ?_; clear hS; intro w hS) | (go_at_call 16; have hS9 := hS.sel (L' := ecP eb e1 :: xeB xb v1 v2 (.slice ta d1.ts.length tc) v4 :: xrP v1 D :: dvaP D :: xsP v2 d1.ss :: xtP (.slice ta d1.ts.length tc) d1.ts :: xmP v4 d1.ar :: blk bA _ _ :: sumR sb s0 s1 s2 s3 :: Old V :: Lr) (by exact selS); clear hS; have hdk := HG.out.dok (by omega) (ec_each hS9) ak; have Hdk := Lib.hid hdk; clear hdk; have heE := ec_each hS9; have HeE := Lib.hid heE; clear heE; refine (applyE_at HG.out.ok (by omega) H1.out W _ _ hS9).mono ?_; clear hS9; rintro ex w ⟨hok2, rfl, hS⟩; have Hok2 := Lib.hid hok2; clear hok2) | (go_at_call 21; have heE2 := ec_each (hS.sel (L' := ecP eb e2 :: Old V :: Lr) (by exact selS)); have HeE2 := Lib.hid heE2; clear heE2; have hS9 := xecShut Hd.out (hS.sel (L' := xeB xb v1 v2 (.slice ta d1.ts.length tc) v4 :: xrP v1 D :: dvaP D :: xsP v2 d1.ss :: xtP (.slice ta d1.ts.length tc) d1.ts :: xmP v4 d1.ar :: ecP eb e2 :: blk bB _ _ :: blk bA _ _ :: sumR sb s0 s1 s2 s3 :: Old V :: Lr) (by exact selS)); clear hS; refine (apply8_at (by omega) Hdk.out H2.out W _ _ hS9).mono ?_; clear hS9; rintro ex w ⟨rfl, hS⟩))
      obtain ⟨ht0, ht1, ht2, ht3, htb2⟩ := tot_facts HG.out hi6 HeE.out HeE2.out Htb.out H1.out S0.out S1.out S2.out S3.out
      rw [addK_no] at ht0 ht1 ht2 ht3
      go_roundw
      case rel =>
        refine ⟨i + 1, rfl, hil, by rw [X1.out, X2.out]; exact G2.out Hok2.out, by rw [X1.out]; exact htb2, ?_⟩
        rw [X1.out, X2.out, ht0, ht1, ht2, ht3]
        simp only [Int.add_zero]
        exact hS.sel (by exact selS)
      case measure => simp [intOf]; try omega
    | true =>
      by_cases hr : r0 = 0
      case neg =>
        have dr : (r0 == 0) = false := by simpa using hr
        have Hr := Lib.hid hr
        clear hr
        go_wp2_with (first | (refine zlN hS ?_ (vs := [.int .i64 kd, .int .i64 cl, .int .i64 sq, .string ak, .string aw, .string tk, .string tw, .int .i64 it, .int .i64 ct, .int .i64 pr, .bool bu, .int .i64 id]) (hc := by exact Cells.old (by exact memS) hall)) | ((fail_if_success (have := gA)); (refine zal hS ?_; clear hS; have gA : Nat := 0; intro bA w hS)) | ((have := gA); (refine zal hS ?_; clear hS; intro bB w hS)) | (refine zl1 hS ?_) | (refine zlN hS ?_) | (refine zsN hS ?_; clear hS; intro w hS) | (go_at_call 16; have hS9 := hS.sel (L' := ecP eb e1 :: xeB xb v1 v2 (.slice ta d1.ts.length tc) v4 :: xrP v1 D :: dvaP D :: xsP v2 d1.ss :: xtP (.slice ta d1.ts.length tc) d1.ts :: xmP v4 d1.ar :: blk bA _ _ :: sumR sb s0 s1 s2 s3 :: Old V :: Lr) (by exact selS); clear hS; have hdk := HG.out.dok (by omega) (ec_each hS9) ak; have Hdk := Lib.hid hdk; clear hdk; have heE := ec_each hS9; have HeE := Lib.hid heE; clear heE; refine (applyE_at HG.out.ok (by omega) H1.out W _ _ hS9).mono ?_; clear hS9; rintro ex w ⟨hok2, rfl, hS⟩; have Hok2 := Lib.hid hok2; clear hok2) | (go_at_call 21; have heE2 := ec_each (hS.sel (L' := ecP eb e2 :: Old V :: Lr) (by exact selS)); have HeE2 := Lib.hid heE2; clear heE2; have hS9 := xecShut Hd.out (hS.sel (L' := xeB xb v1 v2 (.slice ta d1.ts.length tc) v4 :: xrP v1 D :: dvaP D :: xsP v2 d1.ss :: xtP (.slice ta d1.ts.length tc) d1.ts :: xmP v4 d1.ar :: ecP eb e2 :: blk bB _ _ :: blk bA _ _ :: sumR sb s0 s1 s2 s3 :: Old V :: Lr) (by exact selS)); clear hS; refine (apply8_at (by omega) Hdk.out H2.out W _ _ hS9).mono ?_; clear hS9; rintro ex w ⟨rfl, hS⟩))
        obtain ⟨ht0, ht1, ht2, ht3, htb2⟩ := tot_facts HG.out hi6 HeE.out HeE2.out Htb.out H1.out S0.out S1.out S2.out S3.out
        rw [addK_err Hr.out] at ht0 ht1 ht2 ht3
        go_roundw
        case rel =>
          refine ⟨i + 1, rfl, hil, by rw [X1.out, X2.out]; exact G2.out Hok2.out, by rw [X1.out]; exact htb2, ?_⟩
          rw [X1.out, X2.out, ht0, ht1, ht2, ht3]
          simp only [Int.add_zero]
          exact hS.sel (by exact selS)
        case measure => simp [intOf]; try omega
      case pos =>
        subst hr
        have hm := Hmy.out rfl
        by_cases k1 : kd = 1
        · obtain ⟨hk, c0, c1, _⟩ := cnt_of hm (.inl k1)
          have hk4 : it = 0 ∨ it = 1 ∨ it = 2 ∨ it = 3 := by have h5 := hk.1; have h6 := hk.2; dsimp only at h5 h6; omega
          have Hk := Lib.hid k1
          have q1 : (kd == 1) = true := by simpa using k1
          clear hk hm k1
          dsimp only at c0 c1
          go_wp2_with (first | (refine zlN hS ?_ (vs := [.int .i64 kd, .int .i64 cl, .int .i64 sq, .string ak, .string aw, .string tk, .string tw, .int .i64 it, .int .i64 ct, .int .i64 pr, .bool bu, .int .i64 id]) (hc := by exact Cells.old (by exact memS) hall)) | ((fail_if_success (have := gA)); (refine zal hS ?_; clear hS; have gA : Nat := 0; intro bA w hS)) | ((have := gA); (refine zal hS ?_; clear hS; intro bB w hS)) | (refine zl1 hS ?_) | (refine zlN hS ?_) | (refine zsN hS ?_; clear hS; intro w hS) | (go_at_call 16; have hS9 := hS.sel (L' := ecP eb e1 :: xeB xb v1 v2 (.slice ta d1.ts.length tc) v4 :: xrP v1 D :: dvaP D :: xsP v2 d1.ss :: xtP (.slice ta d1.ts.length tc) d1.ts :: xmP v4 d1.ar :: blk bA _ _ :: sumR sb s0 s1 s2 s3 :: Old V :: Lr) (by exact selS); clear hS; have hdk := HG.out.dok (by omega) (ec_each hS9) ak; have Hdk := Lib.hid hdk; clear hdk; have heE := ec_each hS9; have HeE := Lib.hid heE; clear heE; refine (applyE_at HG.out.ok (by omega) H1.out W _ _ hS9).mono ?_; clear hS9; rintro ex w ⟨hok2, rfl, hS⟩; have Hok2 := Lib.hid hok2; clear hok2) | (go_at_call 21; have heE2 := ec_each (hS.sel (L' := ecP eb e2 :: Old V :: Lr) (by exact selS)); have HeE2 := Lib.hid heE2; clear heE2; have hS9 := xecShut Hd.out (hS.sel (L' := xeB xb v1 v2 (.slice ta d1.ts.length tc) v4 :: xrP v1 D :: dvaP D :: xsP v2 d1.ss :: xtP (.slice ta d1.ts.length tc) d1.ts :: xmP v4 d1.ar :: ecP eb e2 :: blk bB _ _ :: blk bA _ _ :: sumR sb s0 s1 s2 s3 :: Old V :: Lr) (by exact selS)); clear hS; refine (apply8_at (by omega) Hdk.out H2.out W _ _ hS9).mono ?_; clear hS9; rintro ex w ⟨rfl, hS⟩))
          obtain ⟨ht0, ht1, ht2, ht3, htb2⟩ := tot_facts HG.out hi6 HeE.out HeE2.out Htb.out H1.out S0.out S1.out S2.out S3.out
          have hS1 := hS.sel (L' := sumR sb s0 s1 s2 s3 :: blk bA _ _ :: ecP eb e2 :: xecP xb d2 :: Old V :: Lr) (by exact selS)
          clear hS
          rcases hk4 with rfl | rfl | rfl | rfl
          all_goals
            refine wp_region_tail 10 (by kernel_rfl) (by kernel_rfl) hS1 ?_
            repeat (first | go_big_quiet_skip | (refine zq1 ?_) | (refine zqn ?_) | (refine wq_pure rfl rfl ?_; intro K hK; go_big_quiet_op; go_big_quiet_on))
            clear hS1
            intro w hS
            simp only [List.drop_succ_cons, List.drop_zero]
            go_wp2_with (first | (refine zs1 hS ?_; clear hS; intro w hS))
            go_roundw
            case rel =>
              refine ⟨i + 1, rfl, hil, by rw [X1.out, X2.out]; exact G2.out Hok2.out, by rw [X1.out]; exact htb2, ?_⟩
              rw [X1.out, X2.out, ht0, ht1, ht2, ht3]
              simp [addK, Hk.out]
              exact hS.sel (by exact selS)
            case measure => simp [intOf]; try omega
        by_cases k6 : kd = 6
        · obtain ⟨hk, c0, c1, _⟩ := cnt_of hm (.inr (.inr k6))
          have hk4 : it = 0 ∨ it = 1 ∨ it = 2 ∨ it = 3 := by have h5 := hk.1; have h6 := hk.2; dsimp only at h5 h6; omega
          have Hk := Lib.hid k6
          have q1 : (kd == 1) = false := by simpa using k1
          have q6 : (kd == 6) = true := by simpa using k6
          clear hk hm k1 k6
          dsimp only at c0 c1
          go_wp2_with (first | (refine zlN hS ?_ (vs := [.int .i64 kd, .int .i64 cl, .int .i64 sq, .string ak, .string aw, .string tk, .string tw, .int .i64 it, .int .i64 ct, .int .i64 pr, .bool bu, .int .i64 id]) (hc := by exact Cells.old (by exact memS) hall)) | ((fail_if_success (have := gA)); (refine zal hS ?_; clear hS; have gA : Nat := 0; intro bA w hS)) | ((have := gA); (refine zal hS ?_; clear hS; intro bB w hS)) | (refine zl1 hS ?_) | (refine zlN hS ?_) | (refine zsN hS ?_; clear hS; intro w hS) | (go_at_call 16; have hS9 := hS.sel (L' := ecP eb e1 :: xeB xb v1 v2 (.slice ta d1.ts.length tc) v4 :: xrP v1 D :: dvaP D :: xsP v2 d1.ss :: xtP (.slice ta d1.ts.length tc) d1.ts :: xmP v4 d1.ar :: blk bA _ _ :: sumR sb s0 s1 s2 s3 :: Old V :: Lr) (by exact selS); clear hS; have hdk := HG.out.dok (by omega) (ec_each hS9) ak; have Hdk := Lib.hid hdk; clear hdk; have heE := ec_each hS9; have HeE := Lib.hid heE; clear heE; refine (applyE_at HG.out.ok (by omega) H1.out W _ _ hS9).mono ?_; clear hS9; rintro ex w ⟨hok2, rfl, hS⟩; have Hok2 := Lib.hid hok2; clear hok2) | (go_at_call 21; have heE2 := ec_each (hS.sel (L' := ecP eb e2 :: Old V :: Lr) (by exact selS)); have HeE2 := Lib.hid heE2; clear heE2; have hS9 := xecShut Hd.out (hS.sel (L' := xeB xb v1 v2 (.slice ta d1.ts.length tc) v4 :: xrP v1 D :: dvaP D :: xsP v2 d1.ss :: xtP (.slice ta d1.ts.length tc) d1.ts :: xmP v4 d1.ar :: ecP eb e2 :: blk bB _ _ :: blk bA _ _ :: sumR sb s0 s1 s2 s3 :: Old V :: Lr) (by exact selS)); clear hS; refine (apply8_at (by omega) Hdk.out H2.out W _ _ hS9).mono ?_; clear hS9; rintro ex w ⟨rfl, hS⟩))
          obtain ⟨ht0, ht1, ht2, ht3, htb2⟩ := tot_facts HG.out hi6 HeE.out HeE2.out Htb.out H1.out S0.out S1.out S2.out S3.out
          have hS1 := hS.sel (L' := sumR sb s0 s1 s2 s3 :: blk bA _ _ :: ecP eb e2 :: xecP xb d2 :: Old V :: Lr) (by exact selS)
          clear hS
          rcases hk4 with rfl | rfl | rfl | rfl
          all_goals
            refine wp_region_tail 10 (by kernel_rfl) (by kernel_rfl) hS1 ?_
            repeat (first | go_big_quiet_skip | (refine zq1 ?_) | (refine zqn ?_) | (refine wq_pure rfl rfl ?_; intro K hK; go_big_quiet_op; go_big_quiet_on))
            clear hS1
            intro w hS
            simp only [List.drop_succ_cons, List.drop_zero]
            go_wp2_with (first | (refine zs1 hS ?_; clear hS; intro w hS))
            go_roundw
            case rel =>
              refine ⟨i + 1, rfl, hil, by rw [X1.out, X2.out]; exact G2.out Hok2.out, by rw [X1.out]; exact htb2, ?_⟩
              rw [X1.out, X2.out, ht0, ht1, ht2, ht3]
              simp [addK, Hk.out]
              exact hS.sel (by exact selS)
            case measure => simp [intOf]; try omega
        by_cases k2 : kd = 2
        · obtain ⟨hk, c0, c1, _⟩ := cnt_of hm (.inr (.inl k2))
          have hk4 : it = 0 ∨ it = 1 ∨ it = 2 ∨ it = 3 := by have h5 := hk.1; have h6 := hk.2; dsimp only at h5 h6; omega
          have Hk := Lib.hid k2
          have q1 : (kd == 1) = false := by simpa using k1
          have q6 : (kd == 6) = false := by simpa using k6
          have q2 : (kd == 2) = true := by simpa using k2
          have Hts := Lib.hid (HTl.out rfl k2 rfl)
          have hdl : d1.ts.length ≤ 150 := by have := HG.out.lt; omega
          have d9 : ((d1.ts.length : Int) + 1 != wrap64 ((d1.ts.length : Int) + 1)) = false := by
            have e : wrap64 ((d1.ts.length : Int) + 1) = (d1.ts.length : Int) + 1 := by unfold wrap64; omega
            rw [e]; simp
          clear hk hm k1 k6 k2
          dsimp only at c0 c1
          go_wp2_with (first | (refine zlN hS ?_ (vs := [.int .i64 kd, .int .i64 cl, .int .i64 sq, .string ak, .string aw, .string tk, .string tw, .int .i64 it, .int .i64 ct, .int .i64 pr, .bool bu, .int .i64 id]) (hc := by exact Cells.old (by exact memS) hall)) | ((fail_if_success (have := gA)); (refine zal hS ?_; clear hS; have gA : Nat := 0; intro bA w hS)) | ((have := gA); (refine zal hS ?_; clear hS; intro bB w hS)) | (refine zl1 hS ?_) | (refine zlN hS ?_) | (refine zsN hS ?_; clear hS; intro w hS) | (go_at_call 16; have hS9 := hS.sel (L' := ecP eb e1 :: xeB xb v1 v2 (.slice ta d1.ts.length tc) v4 :: xrP v1 D :: dvaP D :: xsP v2 d1.ss :: xtP (.slice ta d1.ts.length tc) d1.ts :: xmP v4 d1.ar :: blk bA _ _ :: sumR sb s0 s1 s2 s3 :: Old V :: Lr) (by exact selS); clear hS; have hdk := HG.out.dok (by omega) (ec_each hS9) ak; have Hdk := Lib.hid hdk; clear hdk; have heE := ec_each hS9; have HeE := Lib.hid heE; clear heE; refine (applyE_at HG.out.ok (by omega) H1.out W _ _ hS9).mono ?_; clear hS9; rintro ex w ⟨hok2, rfl, hS⟩; have Hok2 := Lib.hid hok2; clear hok2) | (go_at_call 21; have heE2 := ec_each (hS.sel (L' := ecP eb e2 :: Old V :: Lr) (by exact selS)); have HeE2 := Lib.hid heE2; clear heE2; have hS9 := xecShut Hd.out (hS.sel (L' := xeB xb v1 v2 (.slice ta d1.ts.length tc) v4 :: xrP v1 D :: dvaP D :: xsP v2 d1.ss :: xtP (.slice ta d1.ts.length tc) d1.ts :: xmP v4 d1.ar :: ecP eb e2 :: blk bB _ _ :: blk bA _ _ :: sumR sb s0 s1 s2 s3 :: Old V :: Lr) (by exact selS)); clear hS; refine (apply8_at (by omega) Hdk.out H2.out W _ _ hS9).mono ?_; clear hS9; rintro ex w ⟨rfl, hS⟩))
          obtain ⟨ht0, ht1, ht2, ht3, htb2⟩ := tot_facts HG.out hi6 HeE.out HeE2.out Htb.out H1.out S0.out S1.out S2.out S3.out
          have hS1 := hS.sel (L' := sumR sb s0 s1 s2 s3 :: blk bA _ _ :: ecP eb e2 :: xecP xb d2 :: Old V :: Lr) (by exact selS)
          clear hS
          rcases hk4 with rfl | rfl | rfl | rfl
          all_goals
            refine wp_region_tail 10 (by kernel_rfl) (by kernel_rfl) hS1 ?_
            repeat (first | go_big_quiet_skip | (refine zq1 ?_) | (refine zqn ?_) | (refine wq_pure rfl rfl ?_; intro K hK; go_big_quiet_op; go_big_quiet_on))
            clear hS1
            intro w hS
            simp only [List.drop_succ_cons, List.drop_zero]
            go_wp2_with (first | (refine zs1 hS ?_; clear hS; intro w hS) | (go_at_call 17; refine (transits_spec (ec := e2) ht9 W _ _ (hS.sel (L' := ecP eb e2 :: xecP xb d2 :: blk sb _ _ :: Old V :: Lr) (by exact selS))).mono ?_; clear hS; rintro ex w ⟨tv, T, rfl, hT, _, hS⟩; obtain ⟨va, vc, rfl⟩ := hS.rowVal; have hTl : T.length = d1.ts.length + 1 := (hT.length_eq).trans Hts.out; clear hT; rw [hTl] at hS ⊢; clear hTl))
            go_roundw
            case rel =>
              refine ⟨i + 1, rfl, hil, by rw [X1.out, X2.out]; exact G2.out Hok2.out, by rw [X1.out]; exact htb2, ?_⟩
              rw [X1.out, X2.out, ht0, ht1, ht2, ht3]
              simp [addK, Hk.out]
              exact hS.sel (by exact selS)
            case measure => simp [intOf]; try omega
        have q1 : (kd == 1) = false := by simpa using k1
        have q6 : (kd == 6) = false := by simpa using k6
        have q2 : (kd == 2) = false := by simpa using k2
        have Hno := Lib.hid (fun (r : Rpl) (b : Bool) (k : Int) => addK_else (o := ⟨kd, cl, sq, ak, aw, tk, tw, it, ct, pr, bu, id⟩) (r := r) (b := b) (k := k) k1 k2 k6)
        clear k1 k2 k6 hm
        go_wp2_with (first | (refine zlN hS ?_ (vs := [.int .i64 kd, .int .i64 cl, .int .i64 sq, .string ak, .string aw, .string tk, .string tw, .int .i64 it, .int .i64 ct, .int .i64 pr, .bool bu, .int .i64 id]) (hc := by exact Cells.old (by exact memS) hall)) | ((fail_if_success (have := gA)); (refine zal hS ?_; clear hS; have gA : Nat := 0; intro bA w hS)) | ((have := gA); (refine zal hS ?_; clear hS; intro bB w hS)) | (refine zl1 hS ?_) | (refine zlN hS ?_) | (refine zsN hS ?_; clear hS; intro w hS) | (go_at_call 16; have hS9 := hS.sel (L' := ecP eb e1 :: xeB xb v1 v2 (.slice ta d1.ts.length tc) v4 :: xrP v1 D :: dvaP D :: xsP v2 d1.ss :: xtP (.slice ta d1.ts.length tc) d1.ts :: xmP v4 d1.ar :: blk bA _ _ :: sumR sb s0 s1 s2 s3 :: Old V :: Lr) (by exact selS); clear hS; have hdk := HG.out.dok (by omega) (ec_each hS9) ak; have Hdk := Lib.hid hdk; clear hdk; have heE := ec_each hS9; have HeE := Lib.hid heE; clear heE; refine (applyE_at HG.out.ok (by omega) H1.out W _ _ hS9).mono ?_; clear hS9; rintro ex w ⟨hok2, rfl, hS⟩; have Hok2 := Lib.hid hok2; clear hok2) | (go_at_call 21; have heE2 := ec_each (hS.sel (L' := ecP eb e2 :: Old V :: Lr) (by exact selS)); have HeE2 := Lib.hid heE2; clear heE2; have hS9 := xecShut Hd.out (hS.sel (L' := xeB xb v1 v2 (.slice ta d1.ts.length tc) v4 :: xrP v1 D :: dvaP D :: xsP v2 d1.ss :: xtP (.slice ta d1.ts.length tc) d1.ts :: xmP v4 d1.ar :: ecP eb e2 :: blk bB _ _ :: blk bA _ _ :: sumR sb s0 s1 s2 s3 :: Old V :: Lr) (by exact selS)); clear hS; refine (apply8_at (by omega) Hdk.out H2.out W _ _ hS9).mono ?_; clear hS9; rintro ex w ⟨rfl, hS⟩))
        obtain ⟨ht0, ht1, ht2, ht3, htb2⟩ := tot_facts HG.out hi6 HeE.out HeE2.out Htb.out H1.out S0.out S1.out S2.out S3.out
        rw [Hno.out] at ht0 ht1 ht2 ht3
        go_roundw
        case rel =>
          refine ⟨i + 1, rfl, hil, by rw [X1.out, X2.out]; exact G2.out Hok2.out, by rw [X1.out]; exact htb2, ?_⟩
          rw [X1.out, X2.out, ht0, ht1, ht2, ht3]
          simp only [Int.add_zero]
          exact hS.sel (by exact selS)
        case measure => simp [intOf]; try omega
end Go.Proofs.YtlmhakmoioogaaaGreat
end
section
namespace Go.Sl
open Go.ChangeShapes Go.WideShapes Go.ChangeAt Go.RowKit
section
variable {H : Type} {enc : TypeId × Value → H} {P : Program}
theorem trodAll_carry {w w' : World} {base : Nat} {spare : Nat → Bool} {held : Bool} : ∀ {ts : List TypeId} {vs : List Value} {ds : List (DataW H)} {ps : List MemPlace},
  DataW.TrodAll enc P w base spare held ts vs ds ps → (∀ p ∈ ps,w.sameAt w' p) → DataW.TrodAll enc P w' base spare held ts vs ds ps
 | [],[],[],_,h,_ => h
 | _ :: _,_ :: _,_ :: _,_,⟨p,q,⟨n,hn⟩,h2,e⟩,hs =>
  ⟨p,q,⟨n,DataW.trod_carry n _ _ _ hn fun x hx => hs x (by rw [e];exact List.mem_append_left _ hx)⟩,trodAll_carry h2 (fun x hx => hs x (by rw [e];exact List.mem_append_right _ hx)),e⟩
theorem law_post {f : Func} {s : ChangeSpec} {apart fresh handsOn again : Bool} {W W' : World} {args : Array Value} {ds gs : List (DataW H)} {before : List MemPlace} {tb : TypeId}
  (hl : laidOutB P = true) (hm : mapsRowed P = true) (hz : ((List.range P.types.size).all fun t => match P.underlying t with|some (.slice e) => decide (0 < P.cellsOf e)|_ => true) = true)
  (hT : f.params.toList.all (· < P.types.size) = true) (hr : f.resultTypes = #[tb]) (hb : P.underlying tb = some .bool) (hv : s.vars = [])
  (hW : DataW.Whole enc P f.params.toList s.vars apart W args.toList ds gs before)
  (hres : (s.fn H (ds ++ gs)).results = [.lit (.bool true)]) (hargs : (s.fn H (ds ++ gs)).args = ds) (hvars : (s.fn H (ds ++ gs)).vars = [])
  (hB : Below W.heap.size W W') : s.post enc P f apart fresh handsOn again W args (.bool true) W' := by
 have hW0 := hW
 obtain ⟨p,q,hA,hV,rfl,hfz,hnd⟩ := hW
 rw [hv] at hV
 obtain ⟨rfl,rfl⟩ := trodVars_none hV
 have hlt : ∀ x ∈ p ++ [],x.block < W.heap.size := fun x hx => hW0.lt x hx
 have hA' : ∀ sp : Nat → Bool,(∀ x ∈ p ++ [],sp x.block = true) → DataW.TrodAll enc P W' 0 sp true f.params.toList args.toList (s.fn H (ds ++ [])).args p := fun sp hs => by
  rw [hargs]
  refine trodAll_carry (DataW.TrodAll.respare (kids_rows hl hm) (fun t e => slices_full_of P hz t e) (fun t ht => by simpa using List.all_eq_true.1 hT t ht) hA fun x hx => hs x (by simpa using hx)) fun x hx => hB.same (hlt x (by simpa using hx))
 have hR : ∀ (b : Nat) (sp : Nat → Bool) (hd : Bool),DataW.TrodAll enc P W' b sp hd f.resultTypes.toList ((Value.bool true).resultList f.resultTypes.size) (s.fn H (ds ++ [])).results [] := fun b sp hd => by
  rw [hres,hr]
  exact trodAll_cons_mk (shut_bool hb _) trodAll_mk0
 have hU : ∀ sp : Nat → Bool,DataW.TrodVars enc P W' sp s.vars (s.fn H (ds ++ [])).vars [] := fun sp => by
  rw [hv,hvars];rfl
 have hold : ∀ x ∈ p ++ [],(fun b => decide (b < W.heap.size)) x.block = true := fun x hx => by simpa using hlt x hx
 refine ⟨ds,[],p ++ [],[],p,[],hW0,hR _ _ _,hA' _ hold,hU _,World.keptBut_mono (fun x hx => ⟨hx,?_⟩) (hB.frame (· ∈ p ++ [])),fun _ => ?_⟩
 ·exact Or.inr (by simpa using hx)
 ·refine ⟨ok_one hr rfl (okWide_bool_mk hb _),_,_,([] ++ p) ++ [],⟨[] ++ p,[],trodAll_append (hA' _ (fun _ _ => rfl)) (hR _ _ _),hU _,rfl,?_,?_⟩,?_⟩
  ·intro b off hx
   rw [hB.frozen (hlt _ (by simpa using hx))]
   exact hfz b off (by simpa using hx)
  ·intro ha
   simpa using hnd ha
  ·intro x hx _
   simpa using hx
end
end Go.Sl
end
