/-
  The document's vault: Cancel; Order in all cases. For every vault.
  The vault keeps: orders and their end change nothing of all that there is. The plain law: no program in sight.
  The vault's Total. For every vault.
  The vault's scripts: what each act leaves. For every vault and act.
-/
import Derived.Test.YtbcokphjpllbiaaGreatVaultPlaysM26
import Derived.Test.YtbcokphjpllbiaaGreatVaultPlaysM27
import Derived.Test.YtbcokphjpllbiaaGreatVaultPlaysM28
import Derived.Test.YtbcokphjpllbiaaGreatVaultPlaysM38

section
set_option linter.unusedSimpArgs false
set_option linter.unusedVariables false
namespace Go.Proofs.YtbcokphjpllbiaaGreat
open Go.RowKit Go.Sl
theorem ord8 (xb xB : Nat) (V : Vs) (N : Nat) (o : Ord) (hp : PsOk V.ps) (hw : PsW V.ps N) (hN : N + 150 ≤ 1000000) (hmay : ∀ x ∈ V.L, MayP x) (hn : 1 ≤ V.n) (W w : World) (R : List HP) (hS : St W (xvR xb xB V.ps V.L V.n R) w) :
    Calls Tryz.prog 14 #[.pointer (some ⟨xb, 0, none⟩), .agg o.cells.toArray] w fun e w' => e = .returned (.tuple #[.int .i64 (ordV V o).1, .int .i64 (ordV V o).2.1]) ∧
      St W (xvR xb xB (ordV V o).2.2.ps (ordV V o).2.2.L (ordV V o).2.2.n R) w' := by
  unfold ordV
  by_cases h1 : may1 o = false
  · rw [if_pos h1]
    exact order8_bad xb xB V.ps V.L V.n o W w R h1 hS
  · rw [if_neg h1]
    have h1' : may1 o = true := by simpa using h1
    by_cases h2 : 32 ≤ V.L.length ∨ 1099511627776 < V.n
    · rw [if_pos h2]
      exact order8_full xb xB V.ps V.L V.n o W w R h1' h2 hS
    · rw [if_neg h2]
      by_cases h3 : takeE V.ps o.who (holdsF o) = 0
      · rw [if_pos h3]
        exact order8_ok xb xB V.ps V.L V.n N o W w R hp hw hN hmay h1' hn (by omega) (by omega) h3 hS
      · rw [if_neg h3]
        have h14 : takeE V.ps o.who (holdsF o) = 14 := by
          have hh := holds_in h1'
          unfold takeE at h3 ⊢
          rw [if_pos hh] at h3 ⊢
          split
          · rename_i hs; rw [if_pos hs] at h3; exact absurd rfl h3
          · rfl
        exact order8_funds xb xB V.ps V.L V.n N o W w R hw (by omega) h1' (by omega) hn (by omega) h14 hS
def CaR (W : World) (F : List HP) (L : List Ord) (id : Int) (who : ByteArray) (v : Value) (w : World) : Prop :=
  ∃ i : Nat, v = .int .i64 i ∧ i ≤ L.length ∧ (∀ x ∈ L.take i, hitC id who x = false) ∧ St W F w
section
variable (xb xB : Nat) (p : Ps) (L : List Ord) (n : Int) (N : Nat) (who : ByteArray) (id : Int) (W w : World) (R : List HP)
set_option maxRecDepth 100000 in
set_option maxHeartbeats 8000000 in
theorem cancel8 (hp : PsOk p) (hw : PsW p N) (hN : N + 150 ≤ 1000000) (hmay : ∀ x ∈ L, MayP x) (hl32 : L.length ≤ 32) (hS : St W (xvR xb xB p L n R) w) :
    Calls Tryz.prog 22 #[.pointer (some ⟨xb, 0, none⟩), .string who, .int .i64 id] w fun e w' => e = .returned (.int .i64 (canV ⟨p, L, n⟩ who id).1) ∧ St W (xvR xb xB (canV ⟨p, L, n⟩ who id).2.ps (canV ⟨p, L, n⟩ who id).2.L n R) w' := by
  have Hp := Lib.hid hp
  have Hw := Lib.hid hw
  have Hmay := Lib.hid hmay
  clear hp hw hmay
  obtain ⟨xv, hS1⟩ := xvOpen hS
  obtain ⟨la, lc, last, hlast, hS2⟩ := xkOpen (hS1.sel (L' := xkP xB L n :: blk xb _ _ :: hdR _ (hdL p) :: R) (by (repeat' (first | (with_reducible first | exact Sel.done Suf.refl | exact Sel.done (Suf.tail Suf.refl) | exact Sel.done (Suf.tail (Suf.tail Suf.refl)) | exact Sel.done (Suf.tail (Suf.tail (Suf.tail Suf.refl))) | (apply Sel.done; (focus((repeat(first|exact Suf.refl | apply Suf.tail)); done)))) | (refine Sel.cons (by with_reducible (focus((repeat(first|exact .head|apply Take.tail));done))) ?_)))))
  clear hS hS1
  have hS := hS2
  clear hS2
  go_enter Tryz.func22, Tryz.ntmps22
  go_wp2_with fail
  go_loopw [7] (fun v wr => CaR W (blk xB [.slice la L.length lc, .int .i64 last] 68 :: pileR (.slice la L.length lc) L :: blk xb [xv, .pointer (some ⟨xB, 0, none⟩), .int .i64 n] 65 :: hdR xv (hdL p) :: R) L id who v wr) (fun v _ => L.length - (intOf v).toNat)
  case atStart => exact ⟨0, rfl, Nat.zero_le _, fun x hx => (by simp at hx), hS⟩
  case round =>
    clear hS
    obtain ⟨i, rfl, hil, hno, hS⟩ := hrel
    by_cases hin : i = L.length
    · rw [hin, List.take_length] at hno
      have hany : L.any (hitC id who) = false := by
        rw [List.any_eq_false]
        intro x hx
        rw [hno x hx]
        simp
      have E := Lib.hid (show canV ⟨p, L, n⟩ who id = (7, ⟨p, L, n⟩) by unfold canV; rw [if_neg (by rw [hany]; simp)])
      subst hin
      clear hno hany
      go_wp2_with (first | go_big_skip | ((with_reducible apply wl_ld1 hS); (with_reducible rfl); rfl; rfl; decide +kernel; (first | (focus((repeat(first|exact Cell.here rfl | apply Cell.there)); done)) | assumption); (simp only [Act.put, fA, fB, fC, Nat.reduceAdd])))
      go_ret
      rw [E.out]
      have hS1 := xkShut hlast (hS.sel (L' := blk xB _ _ :: pileR _ L :: blk xb _ _ :: hdR _ (hdL p) :: R) (by (repeat' (first | (with_reducible first | exact Sel.done Suf.refl | exact Sel.done (Suf.tail Suf.refl) | exact Sel.done (Suf.tail (Suf.tail Suf.refl)) | exact Sel.done (Suf.tail (Suf.tail (Suf.tail Suf.refl))) | (apply Sel.done; (focus((repeat(first|exact Suf.refl | apply Suf.tail)); done)))) | (refine Sel.cons (by with_reducible (focus((repeat(first|exact .head|apply Take.tail));done))) ?_)))))
      exact ⟨rfl, xvShut (hS1.sel (L' := blk xb _ _ :: hdR _ (hdL p) :: xkP xB L n :: R) (by (repeat' (first | (with_reducible first | exact Sel.done Suf.refl | exact Sel.done (Suf.tail Suf.refl) | exact Sel.done (Suf.tail (Suf.tail Suf.refl)) | exact Sel.done (Suf.tail (Suf.tail (Suf.tail Suf.refl))) | (apply Sel.done; (focus((repeat(first|exact Suf.refl | apply Suf.tail)); done)))) | (refine Sel.cons (by with_reducible (focus((repeat(first|exact .head|apply Take.tail));done))) ?_)))))⟩
    · have hi1 : i < L.length := by omega
      obtain ⟨⟨g, rfl⟩, hcap, hcn⟩ := St.rowAddr hS.drop (by omega)
      have q0 : (Ord.cells L[i])[0]? = some (.int .i64 L[i].id) := rfl
      have q1 : (Ord.cells L[i])[1]? = some (.string L[i].who) := rfl
      have hstep : hitC id who L[i] = false → ∀ x ∈ L.take (i + 1), hitC id who x = false := fun h x hx => by
        rw [List.take_succ_eq_append_getElem hi1] at hx
        rcases List.mem_append.1 hx with hx | hx
        · exact hno x hx
        · rw [List.mem_singleton.1 hx]; exact h
      have hyes : hitC id who L[i] = true → L.any (hitC id who) = true := fun h => List.any_eq_true.2 ⟨_, List.getElem_mem hi1, h⟩
      have hd : hitC id who L[i] = ((L[i].id == id) && (L[i].who.toList == who.toList)) := rfl
      generalize hx : L[i] = x at q0 q1 hstep hyes hd
      have Hx := Lib.hid hx
      clear hx hno hin
      obtain ⟨xi, xu, xy, xt, xc, xp⟩ := x
      simp only at q0 q1 hd
      have c0 : ∀ {K K' : List HP}, Take K (pileR (.slice (some ⟨g, 0, none⟩) L.length lc) L) K' → Cell K g (i * 6) (.int .i64 xi) := fun hu => Cells.elemM (enc := Ord.cells) Ord.len hu hi1 0 _ (by rw [Hx.out]; rfl)
      have c1 : ∀ {K K' : List HP}, Take K (pileR (.slice (some ⟨g, 0, none⟩) L.length lc) L) K' → Cell K g (i * 6 + 1) (.string xu) := fun hu => Cells.elemM (enc := Ord.cells) Ord.len hu hi1 1 _ (by rw [Hx.out]; rfl)
      cases h1 : xi == id with
      | false =>
        rw [h1, Bool.false_and] at hd
        have Hs := Lib.hid (hstep hd)
        clear hstep hyes hd q0 q1
        go_wp2_with (first | go_big_skip | ((with_reducible apply wl_ld1 hS); (with_reducible rfl); rfl; rfl; decide +kernel; (first | (focus((repeat(first|exact Cell.here rfl | apply Cell.there)); done)) | assumption); (simp only [Act.put, fA, fB, fC, Nat.reduceAdd])) | ((with_reducible apply wl_ld1 hS); (with_reducible rfl); rfl; rfl; decide +kernel; (exact c0 (by (focus((repeat(first|exact .head|apply Take.tail));done)))); (simp only [Act.put, fA, fB, fC, Nat.reduceAdd])))
        go_roundw
        case rel => exact ⟨i + 1, rfl, hi1, Hs.out, hS⟩
        case measure => simp [intOf]; omega
      | true =>
        cases h2 : xu.toList == who.toList with
        | false =>
          rw [h1, h2, Bool.and_false] at hd
          have Hs := Lib.hid (hstep hd)
          clear hstep hyes hd q0 q1
          go_wp2_with (first | go_big_skip | ((with_reducible apply wl_ld1 hS); (with_reducible rfl); rfl; rfl; decide +kernel; (first | (focus((repeat(first|exact Cell.here rfl | apply Cell.there)); done)) | assumption); (simp only [Act.put, fA, fB, fC, Nat.reduceAdd])) | ((with_reducible apply wl_ld1 hS); (with_reducible rfl); rfl; rfl; decide +kernel; (exact c0 (by (focus((repeat(first|exact .head|apply Take.tail));done)))); (simp only [Act.put, fA, fB, fC, Nat.reduceAdd])) | ((with_reducible apply wl_ld1 hS); (with_reducible rfl); rfl; rfl; decide +kernel; (exact c1 (by (focus((repeat(first|exact .head|apply Take.tail));done)))); (simp only [Act.put, fA, fB, fC, Nat.reduceAdd])))
          go_roundw
          case rel => exact ⟨i + 1, rfl, hi1, Hs.out, hS⟩
          case measure => simp [intOf]; omega
        | true =>
          rw [h1, h2, Bool.and_true] at hd
          have hany := hyes hd
          obtain ⟨he0, hmem⟩ := cancel_hit hany
          have hmz := Hmay.out _ hmem
          have e : canV ⟨p, L, n⟩ who id = (0, ⟨backP p who (holdsF (cancelR L id).o), (cancelR L id).L, n⟩) := by unfold canV; rw [if_pos hany]
          generalize hCR : cancelR L id = CR at he0 hmz e
          obtain ⟨⟨zi, zu, zy, zt, zc, zp⟩, en, L2⟩ := CR
          simp only at he0 hmz e
          subst he0
          obtain ⟨it, hit⟩ : ∃ y, holdsF ⟨zi, zu, zy, zt, zc, zp⟩ = y := ⟨_, rfl⟩
          have hii : isIt it = true := by
            rw [← hit]
            exact (holds_in (o := ⟨zi, zu, zy, zt, zc, zp⟩) (mayB_true.2 ⟨show (1 : Int) ≤ 1 by decide, show (1 : Int) ≤ 1099511627776 by decide, hmz.who0, hmz.who1, hmz.item0, hmz.item1, hmz.cnt0, hmz.cnt1, hmz.price0, hmz.price1⟩)).2
          have hwho : who.size ≤ 16 := by
            have hxw : (⟨xi, xu, xy, xt, xc, xp⟩ : Ord) ∈ L := by rw [← Hx.out]; exact List.getElem_mem hi1
            have e1 : xu = who := bytes_ext (by
              rw [Lib.toList_data, Lib.toList_data] at h2
              simpa using h2)
            rw [← e1]
            exact (Hmay.out _ hxw).who1
          rw [hit] at e
          obtain ⟨h0, h1', h2', h3'⟩ := it
          obtain ⟨a0, a1, a2, a3⟩ := isIt_true.1 hii
          simp only at a0 a1 a2 a3
          have HCR := Lib.hid hCR
          have Hmz := Lib.hid hmz
          have Hit := Lib.hid hit
          have E := Lib.hid e
          clear hCR hmz hit e hii hstep hyes hd q0 q1 hany hmem
          have G1 := Lib.hid (show ∀ y, isIt (purseA p y) = true from Hp.out)
          have G2 := Lib.hid (show ∀ y, isIt (purseA (giveP p who 0 h0) y) = true from psOk_give Hp.out _ _ a0.1)
          have G3 := Lib.hid (show ∀ y, isIt (purseA (giveP (giveP p who 0 h0) who 1 h1') y) = true from psOk_give (psOk_give Hp.out _ _ a0.1) _ _ a1.1)
          have G4 := Lib.hid (show ∀ y, isIt (purseA (giveP (giveP (giveP p who 0 h0) who 1 h1') who 2 h2') y) = true from psOk_give (psOk_give (psOk_give Hp.out _ _ a0.1) _ _ a1.1) _ _ a2.1)
          have W1 := Lib.hid (show PsW p 1000000 from psW_mono Hw.out (by omega))
          have W2 := Lib.hid (show PsW (giveP p who 0 h0) 1000000 from psW_mono (psW_give Hw.out hwho _ _) (by omega))
          have W3 := Lib.hid (show PsW (giveP (giveP p who 0 h0) who 1 h1') 1000000 from psW_mono (psW_give (psW_give Hw.out hwho _ _) hwho _ _) (by omega))
          have W4 := Lib.hid (show PsW (giveP (giveP (giveP p who 0 h0) who 1 h1') who 2 h2') 1000000 from psW_mono (psW_give (psW_give (psW_give Hw.out hwho _ _) hwho _ _) hwho _ _) (by omega))
          clear hwho
          go_wp2_with (first | go_big_skip | ((with_reducible apply wl_ld1 hS); (with_reducible rfl); rfl; rfl; decide +kernel; (first | (focus((repeat(first|exact Cell.here rfl | apply Cell.there)); done)) | assumption); (simp only [Act.put, fA, fB, fC, Nat.reduceAdd])) | ((with_reducible apply wl_ld1 hS); (with_reducible rfl); rfl; rfl; decide +kernel; (exact c0 (by (focus((repeat(first|exact .head|apply Take.tail));done)))); (simp only [Act.put, fA, fB, fC, Nat.reduceAdd])) | ((with_reducible apply wl_ld1 hS); (with_reducible rfl); rfl; rfl; decide +kernel; (exact c1 (by (focus((repeat(first|exact .head|apply Take.tail));done)))); (simp only [Act.put, fA, fB, fC, Nat.reduceAdd])) | (go_at_call 71; refine (refCancel_spec L id xB last _ hl32 W _ _ (hS.sel (L' := blk xB _ _ :: pileR _ L :: blk xb _ _ :: hdR _ (hdL p) :: R) (by (repeat' (first | (with_reducible first | exact Sel.done Suf.refl | exact Sel.done (Suf.tail Suf.refl) | exact Sel.done (Suf.tail (Suf.tail Suf.refl)) | exact Sel.done (Suf.tail (Suf.tail (Suf.tail Suf.refl))) | (apply Sel.done; (focus((repeat(first|exact Suf.refl | apply Suf.tail)); done)))) | (refine Sel.cons (by with_reducible (focus((repeat(first|exact .head|apply Take.tail));done))) ?_)))))).mono ?_; clear hS; rw [HCR.out]; simp only [Ord.cells]; rintro e w ⟨rfl, v9, hS⟩) | (go_at_call 56; refine (holds8_at (o := ⟨zi, zu, zy, zt, zc, zp⟩) Hmz.out Hit.out W _ _ hS).mono ?_; clear hS; rintro e w ⟨rfl, hS⟩) | ((fail_if_success (have := b8)); ((with_reducible apply wl_alloc hS); (with_reducible rfl); rfl; (with_reducible first | exact Ty.z39 | exact Ty.z41); clear hS; intro b8 w hS; (simp only [Act.put, fA, fB, fC, Nat.reduceAdd]))) | ((have := b8); (with_reducible apply wl_alloc hS); (with_reducible rfl); rfl; (with_reducible first | exact Ty.z39 | exact Ty.z41); clear hS; intro b10 w hS; (simp only [Act.put, fA, fB, fC, Nat.reduceAdd])) | ((with_reducible apply wl_ldN hS); (with_reducible rfl); rfl; rfl; decide +kernel; (first | (focus((repeat(first|exact Cells.whole | apply Cells.there)); done)) | assumption); kernel_rfl; (simp only [Act.put, fA, fB, fC, Nat.reduceAdd])) | ((with_reducible apply wl_stN hS); (with_reducible rfl); rfl; rfl; (focus ((conv => lhs; whnf); try rfl)); kernel_rfl; rfl; ((focus((repeat(first|exact Upd.head | apply Upd.tail)); done))); (simp only [List.length_cons, List.length_nil]; omega); ((simp only [List.set_cons_zero, List.set_cons_succ, setAll]); rfl); clear hS; intro w hS; try (simp only [Act.put, fA, fB, fC, Nat.reduceAdd])))
          have hS1 := xkShut hlast (hS.sel (L' := blk xB _ _ :: pileR _ L2 :: blk xb _ _ :: hdR _ (hdL p) :: blk b10 _ _ :: R) (by (repeat' (first | (with_reducible first | exact Sel.done Suf.refl | exact Sel.done (Suf.tail Suf.refl) | exact Sel.done (Suf.tail (Suf.tail Suf.refl)) | exact Sel.done (Suf.tail (Suf.tail (Suf.tail Suf.refl))) | (apply Sel.done; (focus((repeat(first|exact Suf.refl | apply Suf.tail)); done)))) | (refine Sel.cons (by with_reducible (focus((repeat(first|exact .head|apply Take.tail));done))) ?_)))))
          clear hS
          have hS := xvShut (hS1.sel (L' := blk xb _ _ :: hdR _ (hdL p) :: xkP xB L2 n :: blk b10 _ _ :: R) (by (repeat' (first | (with_reducible first | exact Sel.done Suf.refl | exact Sel.done (Suf.tail Suf.refl) | exact Sel.done (Suf.tail (Suf.tail Suf.refl)) | exact Sel.done (Suf.tail (Suf.tail (Suf.tail Suf.refl))) | (apply Sel.done; (focus((repeat(first|exact Suf.refl | apply Suf.tail)); done)))) | (refine Sel.cons (by with_reducible (focus((repeat(first|exact .head|apply Take.tail));done))) ?_)))))
          clear hS1
          go_loopw [11] (fun v wr => Cn4 W (fun q => [xvP xb (.pointer (some ⟨xB, 0, none⟩)) n q, xkP xB L2 n, blk b10 [.int .i64 h0, .int .i64 h1', .int .i64 h2', .int .i64 h3'] 39] ++ R) p who ⟨h0, h1', h2', h3'⟩ v wr) (fun v _ => 4 - (intOf v).toNat)
          case atStart => exact .inl ⟨rfl, hS⟩
          case round =>
          clear hS
          simp only [Cn4, List.cons_append, List.nil_append] at hrel
          rcases hrel with ⟨rfl, hS⟩ | ⟨rfl, hS⟩ | ⟨rfl, hS⟩ | ⟨rfl, hS⟩ | ⟨rfl, hS⟩
          · skip
            go_wp2_with (first | go_big_skip | ((with_reducible apply wl_ld1 hS); (with_reducible rfl); rfl; rfl; decide +kernel; (first | (focus((repeat(first|exact Cell.here rfl | apply Cell.there)); done)) | assumption); (simp only [Act.put, fA, fB, fC, Nat.reduceAdd])) | (go_at_call 58; refine (pays8 xb _ n _ 1000000 W _ _ W1.out (Nat.le_refl _) _ _ _ (G1.out _) ⟨by omega, by omega⟩ ⟨by omega, by omega⟩ hS).mono ?_; clear hS; rintro e w ⟨rfl, hS⟩))
            go_roundw
            case rel => exact .inr (.inl ⟨rfl, hS⟩)
            case measure => simp [intOf]
          · skip
            go_wp2_with (first | go_big_skip | ((with_reducible apply wl_ld1 hS); (with_reducible rfl); rfl; rfl; decide +kernel; (first | (focus((repeat(first|exact Cell.here rfl | apply Cell.there)); done)) | assumption); (simp only [Act.put, fA, fB, fC, Nat.reduceAdd])) | (go_at_call 58; refine (pays8 xb _ n _ 1000000 W _ _ W2.out (Nat.le_refl _) _ _ _ (G2.out _) ⟨by omega, by omega⟩ ⟨by omega, by omega⟩ hS).mono ?_; clear hS; rintro e w ⟨rfl, hS⟩))
            go_roundw
            case rel => exact .inr (.inr (.inl ⟨rfl, hS⟩))
            case measure => simp [intOf]
          · skip
            go_wp2_with (first | go_big_skip | ((with_reducible apply wl_ld1 hS); (with_reducible rfl); rfl; rfl; decide +kernel; (first | (focus((repeat(first|exact Cell.here rfl | apply Cell.there)); done)) | assumption); (simp only [Act.put, fA, fB, fC, Nat.reduceAdd])) | (go_at_call 58; refine (pays8 xb _ n _ 1000000 W _ _ W3.out (Nat.le_refl _) _ _ _ (G3.out _) ⟨by omega, by omega⟩ ⟨by omega, by omega⟩ hS).mono ?_; clear hS; rintro e w ⟨rfl, hS⟩))
            go_roundw
            case rel => exact .inr (.inr (.inr (.inl ⟨rfl, hS⟩)))
            case measure => simp [intOf]
          · skip
            go_wp2_with (first | go_big_skip | ((with_reducible apply wl_ld1 hS); (with_reducible rfl); rfl; rfl; decide +kernel; (first | (focus((repeat(first|exact Cell.here rfl | apply Cell.there)); done)) | assumption); (simp only [Act.put, fA, fB, fC, Nat.reduceAdd])) | (go_at_call 58; refine (pays8 xb _ n _ 1000000 W _ _ W4.out (Nat.le_refl _) _ _ _ (G4.out _) ⟨by omega, by omega⟩ ⟨by omega, by omega⟩ hS).mono ?_; clear hS; rintro e w ⟨rfl, hS⟩))
            go_roundw
            case rel => exact .inr (.inr (.inr (.inr ⟨rfl, hS⟩)))
            case measure => simp [intOf]
          · go_wp2_with (first | go_big_skip)
            go_ret
            rw [E.out]
            exact ⟨rfl, hS.sel (by (repeat' (first | (with_reducible first | exact Sel.done Suf.refl | exact Sel.done (Suf.tail Suf.refl) | exact Sel.done (Suf.tail (Suf.tail Suf.refl)) | exact Sel.done (Suf.tail (Suf.tail (Suf.tail Suf.refl))) | (apply Sel.done; (focus((repeat(first|exact Suf.refl | apply Suf.tail)); done)))) | (refine Sel.cons (by with_reducible (focus((repeat(first|exact .head|apply Take.tail));done))) ?_))))⟩
end
end Go.Proofs.YtbcokphjpllbiaaGreat
end
section
set_option linter.unusedSimpArgs false
set_option linter.unusedVariables false
namespace Go.Proofs.YtbcokphjpllbiaaGreat
open Go.RowKit Go.Sl
def sumW (k : Int) : Ps → Int
  | [] => 0
  | x :: p => getK x.2 k + sumW k p
def sumH (k : Int) : List Ord → Int
  | [] => 0
  | x :: L => getK (holdsF x) k + sumH k L
def payK (k : Int) (t : Trd) : Int := (if k = t.item then t.cnt else 0) + (if k = 0 then t.cnt * (t.bid - t.price) + t.cnt * t.price else 0)
def sumT (k : Int) : List Trd → Int
  | [] => 0
  | t :: ts => payK k t + sumT k ts
def sumI (k : Int) : List It → Int
  | [] => 0
  | i :: l => getK i k + sumI k l
/-- All that there is of an item. -/
def totV (V : Vs) (k : Int) : Int := sumW k V.ps + sumH k V.L
structure Kx (k : Int) : Prop where
  k0 : 0 ≤ k
  k3 : k ≤ 3
theorem getK_it0 (k : Int) : getK it0 k = 0 := by unfold getK it0; repeat' split
                                                  all_goals rfl
theorem getK_z {i : It} (h : isZ i = true) (k : Int) : getK i k = 0 := by rw [isZ_eq h, getK_it0]
theorem nodup_lay {p : Ps} (h : (p.map (·.1)).Nodup) (k : ByteArray) (i : It) : ((layP p k i).map (·.1)).Nodup := by
  unfold layP
  split
  · exact nodup_delP h k
  · rw [List.map_cons, List.nodup_cons]
    refine ⟨fun hm => ?_, nodup_delP h k⟩
    obtain ⟨x, hx, e⟩ := List.mem_map.1 hm
    exact (mem_delP hx).2 e
theorem purse_mem {p : Ps} (h : (p.map (·.1)).Nodup) {x : ByteArray × It} (hx : x ∈ p) : purseA p x.1 = x.2 := by
  have := getL_at (v := x.2) h hx
  unfold purseA
  rw [this]
  rfl
theorem purse_cons (x : ByteArray × It) (p : Ps) (k : ByteArray) : purseA (x :: p) k = if x.1 = k then x.2 else purseA p k := by
  unfold purseA getL
  split
  · rename_i h
    rw [List.find?_cons_of_pos (by simpa using h)]; rfl
  · rename_i h
    rw [List.find?_cons_of_neg (by simpa using h)]
theorem sumW_del (k : Int) (who : ByteArray) : ∀ {p : Ps}, (p.map (·.1)).Nodup → sumW k (delL p who) = sumW k p - getK (purseA p who) k
  | [], _ => by
    show (0 : Int) = 0 - getK it0 k
    rw [getK_it0]; rfl
  | x :: p, h => by
    rw [List.map_cons, List.nodup_cons] at h
    have ih := sumW_del k who h.2
    rw [purse_cons]
    by_cases hx : x.1 = who
    · rw [if_pos hx]
      have e : delL (x :: p) who = p := by
        unfold delL
        rw [List.filter_cons, if_neg (by simpa using hx)]
        refine List.filter_eq_self.2 fun y hy => ?_
        have : y.1 ≠ who := fun e => h.1 (List.mem_map.2 ⟨y, hy, e.trans hx.symm⟩)
        simpa using this
      rw [e]
      show sumW k p = getK x.2 k + sumW k p - getK x.2 k
      omega
    · rw [if_neg hx]
      have e : delL (x :: p) who = x :: delL p who := by
        unfold delL
        rw [List.filter_cons, if_pos (by simpa using hx)]
      rw [e]
      show getK x.2 k + sumW k (delL p who) = getK x.2 k + sumW k p - getK (purseA p who) k
      omega
theorem sumW_lay {p : Ps} (h : (p.map (·.1)).Nodup) (k : Int) (who : ByteArray) (i : It) : sumW k (layP p who i) = sumW k p - getK (purseA p who) k + getK i k := by
  have hd := sumW_del k who h
  unfold layP
  split
  · rename_i hz
    rw [hd, getK_z hz]
    omega
  · show getK i k + sumW k (delL p who) = _
    omega
/-- Purses that are listed, each within its bounds. -/
structure PsK (p : Ps) : Prop where
  nd : (p.map (·.1)).Nodup
  ok : PsOk p
theorem PsK.pos {p : Ps} (h : PsK p) (k : Int) : 0 ≤ sumW k p := by
  have hx : ∀ x ∈ p, 0 ≤ getK x.2 k := fun x hx => by
    rw [← purse_mem h.nd hx]
    exact (getK_in (h.ok x.1) k).1
  clear h
  induction p with
  | nil => exact Int.le_refl _
  | cons x p ih =>
    have h1 := hx x (List.mem_cons_self ..)
    have h2 := ih fun y hy => hx y (List.mem_cons_of_mem _ hy)
    show 0 ≤ getK x.2 k + sumW k p
    omega
theorem isIt_0s : isIt it0 = true := by decide
theorem PsK.le {p : Ps} (h : PsK p) (who : ByteArray) (k : Int) : getK (purseA p who) k ≤ sumW k p := by
  have h1 := sumW_lay h.nd k who it0
  have h2 := PsK.pos ⟨nodup_lay h.nd who it0, psOk_lay h.ok who isIt_0s⟩ k
  rw [getK_it0] at h1
  omega
/-- An order of so many. -/
def withC (o : Ord) (c : Int) : Ord := ⟨o.id, o.who, o.buy, o.item, c, o.price⟩
/-- All that Total adds. -/
def allV (V : Vs) : List It := (hdL V.ps).map Hd.has ++ V.L.map holdsF
def totI (V : Vs) : It := ⟨totV V 0, totV V 1, totV V 2, totV V 3⟩
end Go.Proofs.YtbcokphjpllbiaaGreat
end
section
set_option linter.unusedSimpArgs false
set_option linter.unusedVariables false
namespace Go.Proofs.YtbcokphjpllbiaaGreat
open Go.RowKit Go.Sl
abbrev itsR (v : Value) (l : List It) : HP := row v 4 39 l.length (l.flatMap It.cells)
def TtR (W : World) (F : List HP) (m : Nat) (acc : Nat → List It) (v7 vk : Value) (w : World) : Prop :=
  ∃ k : Nat, vk = .int .i64 k ∧ k ≤ m ∧ St W (itsR v7 (acc k) :: F) w
theorem maps_step {α β : Type} (f : α → β) (l : List α) {k : Nat} (h : k < l.length) : (l.take (k + 1)).map f = (l.take k).map f ++ [f l[k]] := by
  rw [List.take_succ_eq_append_getElem h, List.map_append]; rfl
theorem its_push (l : List It) (x : It) : (l ++ [x]).flatMap It.cells = l.flatMap It.cells ++ x.cells := by simp
end Go.Proofs.YtbcokphjpllbiaaGreat
end
section
set_option linter.unusedSimpArgs false
set_option linter.unusedVariables false
namespace Go.Sl
open Go.RowKit
section
variable {P : Program} {W : World} {L : List HP} {ops : Array Oper} {Q : Act → Prop} {a : Act} {rest : List Oper} {o : Oper}
theorem wq_neA {t t2 : TypeId} {x y : Operand} {xs ys : Array Value} {r : Bool} (ho : o.op = .binOp .neq t x y t2) (hg : Region.wanted o (yielded ops a.tmps) = true) (hx : a.eval x = .agg xs) (hy : a.eval y = .agg ys) (hm : P.eqGuardType P.depth t = false) (hr : ∀ w : World, (Op.equalIn 10000 t (.agg xs) (.agg ys)).run P w = .ok r w)
    (h : wpQuiet P ops (St W L) Q rest (a.put o.dst (.bool (!r)))) : wpQuiet P ops (St W L) Q (o :: rest) a :=
  wq_val hg (fun w _ => by
    unfold execOp
    simp [ho, hx, hy, run_eqGuard_agg w .neq t x y xs ys hm, run_neq_struct, hr]) h
end
end Go.Sl
namespace Go.Proofs.YtbcokphjpllbiaaGreat
open Go.RowKit Go.Sl
/-- What holds of purses and the next ID behind i acts. -/
structure VOk (p : Ps) (n : Int) (i : Nat) : Prop where
  ok : PsOk p
  w : PsW p (200 * i)
  n0 : 1 ≤ n
  n1 : n ≤ 1 + i
theorem vOk0 : VOk [] 1 0 := ⟨psOk_nil, psW_nil _, by decide, by decide⟩
theorem VOk.on {p : Ps} {n : Int} {i : Nat} (h : VOk p n i) : VOk p n (i + 1) := ⟨h.ok, psW_mono h.w (by omega), h.n0, by have := h.n1; omega⟩
section
variable (vb mb bb : Nat) {p : Ps} {L : List Ord} {n : Int} {i : Nat} (W w : World) (R : List HP)
theorem has_at (u1 u2 : Value) {k : ByteArray} {x0 x1 x2 x3 : Int} (hx : purseA p k = ⟨x0, x1, x2, x3⟩) (hS : St W (blk vb [.map (some mb), u1, u2] 80 :: amap eS eP mb p :: R) w) :
    Calls Tryz.prog 23 #[.pointer (some ⟨vb, 0, none⟩), .string k] w fun e w' => e = .returned (.agg #[.int .i64 x0, .int .i64 x1, .int .i64 x2, .int .i64 x3]) ∧ St W (blk vb [.map (some mb), u1, u2] 80 :: amap eS eP mb p :: R) w' := by
  refine (has_spec vb mb p k u1 u2 W w R hS).mono ?_
  rw [hx]
  exact fun e w' h => h
end
end Go.Proofs.YtbcokphjpllbiaaGreat
end
