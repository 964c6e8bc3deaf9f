/-
  The document's vault: Cancel; Order in all cases. For every vault.
  The vault keeps: orders and their end change nothing of all that there is. The plain law: no program in sight.
  The vault's Total. For every vault.
  The vault's scripts: what each act leaves. For every vault and act.
  The document's vault: New, Total; two rows of purses, of orders. For every vault.
-/
import Derived.Test.YtbcokphjpllbiaaGreatVaultBackM5
import Derived.Test.YtbcokphjpllbiaaGreatVaultBackM20
import Derived.Test.YtbcokphjpllbiaaGreatVaultBackM21
import Derived.Test.YtbcokphjpllbiaaGreatVaultBackM24

section
set_option linter.unusedSimpArgs false
set_option linter.unusedVariables false
namespace Go.Proofs.YtbcokphjpllbiaaGreat
open Go.RowKit Go.Sl
theorem ord8 (xb xB : Nat) (V : Vs) (N : Nat) (o : Ord) (hp : PsOk V.ps) (hw : PsW V.ps N) (hN : N + 150 ≤ 1000000) (hmay : ∀ x ∈ V.L, MayP x) (hn : 1 ≤ V.n) (W w : World) (R : List HP) (hS : St W (xvR xb xB V.ps V.L V.n R) w) :
    Calls Tryz.prog 14 #[.pointer (some ⟨xb, 0, none⟩), .agg o.cells.toArray] w fun e w' => e = .returned (.tuple #[.int .i64 (ordV V o).1, .int .i64 (ordV V o).2.1]) ∧
      St W (xvR xb xB (ordV V o).2.2.ps (ordV V o).2.2.L (ordV V o).2.2.n R) w' := by
  unfold ordV
  by_cases h1 : may1 o = false
  · rw [if_pos h1]
    exact order8_bad xb xB V.ps V.L V.n o W w R h1 hS
  · rw [if_neg h1]
    have h1' : may1 o = true := by simpa using h1
    by_cases h2 : 32 ≤ V.L.length ∨ 1099511627776 < V.n
    · rw [if_pos h2]
      exact order8_full xb xB V.ps V.L V.n o W w R h1' h2 hS
    · rw [if_neg h2]
      by_cases h3 : takeE V.ps o.who (holdsF o) = 0
      · rw [if_pos h3]
        exact order8_ok xb xB V.ps V.L V.n N o W w R hp hw hN hmay h1' hn (by omega) (by omega) h3 hS
      · rw [if_neg h3]
        have h14 : takeE V.ps o.who (holdsF o) = 14 := by
          have hh := holds_in h1'
          unfold takeE at h3 ⊢
          rw [if_pos hh] at h3 ⊢
          split
          · rename_i hs; rw [if_pos hs] at h3; exact absurd rfl h3
          · rfl
        exact order8_funds xb xB V.ps V.L V.n N o W w R hw (by omega) h1' (by omega) hn (by omega) h14 hS
def CaR (W : World) (F : List HP) (L : List Ord) (id : Int) (who : ByteArray) (v : Value) (w : World) : Prop :=
  ∃ i : Nat, v = .int .i64 i ∧ i ≤ L.length ∧ (∀ x ∈ L.take i, hitC id who x = false) ∧ St W F w
section
variable (xb xB : Nat) (p : Ps) (L : List Ord) (n : Int) (N : Nat) (who : ByteArray) (id : Int) (W w : World) (R : List HP)
set_option maxRecDepth 100000 in
set_option maxHeartbeats 8000000 in
theorem cancel8 (hp : PsOk p) (hw : PsW p N) (hN : N + 150 ≤ 1000000) (hmay : ∀ x ∈ L, MayP x) (hl32 : L.length ≤ 32) (hS : St W (xvR xb xB p L n R) w) :
    Calls Tryz.prog 22 #[.pointer (some ⟨xb, 0, none⟩), .string who, .int .i64 id] w fun e w' => e = .returned (.int .i64 (canV ⟨p, L, n⟩ who id).1) ∧ St W (xvR xb xB (canV ⟨p, L, n⟩ who id).2.ps (canV ⟨p, L, n⟩ who id).2.L n R) w' := by
  have Hp := Lib.hid hp
  have Hw := Lib.hid hw
  have Hmay := Lib.hid hmay
  clear hp hw hmay
  obtain ⟨xv, hS1⟩ := xvOpen hS
  obtain ⟨la, lc, last, hlast, hS2⟩ := xkOpen (hS1.sel (L' := xkP xB L n :: blk xb _ _ :: hdR _ (hdL p) :: R) (by exact selS))
  clear hS hS1
  have hS := hS2
  clear hS2
  go_enter Tryz.func22, Tryz.ntmps22
  go_wp2_with fail
  go_loopw [7] (fun v wr => CaR W (blk xB [.slice la L.length lc, .int .i64 last] 68 :: pileR (.slice la L.length lc) L :: blk xb [xv, .pointer (some ⟨xB, 0, none⟩), .int .i64 n] 65 :: hdR xv (hdL p) :: R) L id who v wr) (fun v _ => L.length - (intOf v).toNat)
  case atStart => exact ⟨0, rfl, Nat.zero_le _, fun x hx => (by simp at hx), hS⟩
  case round =>
    clear hS
    obtain ⟨i, rfl, hil, hno, hS⟩ := hrel
    by_cases hin : i = L.length
    · rw [hin, List.take_length] at hno
      have hany : L.any (hitC id who) = false := by
        rw [List.any_eq_false]
        intro x hx
        rw [hno x hx]
        simp
      have E := Lib.hid (show canV ⟨p, L, n⟩ who id = (7, ⟨p, L, n⟩) by unfold canV; rw [if_neg (by rw [hany]; simp)])
      subst hin
      clear hno hany
      go_wp2_with (first | go_big_skip | (refine zl1 hS ?_))
      go_ret
      rw [E.out]
      have hS1 := xkShut hlast (hS.sel (L' := blk xB _ _ :: pileR _ L :: blk xb _ _ :: hdR _ (hdL p) :: R) (by exact selS))
      exact ⟨rfl, xvShut (hS1.sel (L' := blk xb _ _ :: hdR _ (hdL p) :: xkP xB L n :: R) (by exact selS))⟩
    · have hi1 : i < L.length := by omega
      obtain ⟨⟨g, rfl⟩, hcap, hcn⟩ := St.rowAddr hS.drop (by omega)
      have q0 : (Ord.cells L[i])[0]? = some (.int .i64 L[i].id) := rfl
      have q1 : (Ord.cells L[i])[1]? = some (.string L[i].who) := rfl
      have hstep : hitC id who L[i] = false → ∀ x ∈ L.take (i + 1), hitC id who x = false := fun h x hx => by
        rw [List.take_succ_eq_append_getElem hi1] at hx
        rcases List.mem_append.1 hx with hx | hx
        · exact hno x hx
        · rw [List.mem_singleton.1 hx]; exact h
      have hyes : hitC id who L[i] = true → L.any (hitC id who) = true := fun h => List.any_eq_true.2 ⟨_, List.getElem_mem hi1, h⟩
      have hd : hitC id who L[i] = ((L[i].id == id) && (L[i].who.toList == who.toList)) := rfl
      generalize hx : L[i] = x at q0 q1 hstep hyes hd
      have Hx := Lib.hid hx
      clear hx hno hin
      obtain ⟨xi, xu, xy, xt, xc, xp⟩ := x
      simp only at q0 q1 hd
      have c0 : ∀ {K K' : List HP}, Take K (pileR (.slice (some ⟨g, 0, none⟩) L.length lc) L) K' → Cell K g (i * 6) (.int .i64 xi) := fun hu => Cells.elemM (enc := Ord.cells) Ord.len hu hi1 0 _ (by rw [Hx.out]; rfl)
      have c1 : ∀ {K K' : List HP}, Take K (pileR (.slice (some ⟨g, 0, none⟩) L.length lc) L) K' → Cell K g (i * 6 + 1) (.string xu) := fun hu => Cells.elemM (enc := Ord.cells) Ord.len hu hi1 1 _ (by rw [Hx.out]; rfl)
      cases h1 : xi == id with
      | false =>
        rw [h1, Bool.false_and] at hd
        have Hs := Lib.hid (hstep hd)
        clear hstep hyes hd q0 q1
        go_wp2_with (first | go_big_skip | (refine zl1 hS ?_) | (refine zl1 hS ?_ (hc := by exact c0 (by exact takeS))))
        go_roundw
        case rel => exact ⟨i + 1, rfl, hi1, Hs.out, hS⟩
        case measure => simp [intOf]; omega
      | true =>
        cases h2 : xu.toList == who.toList with
        | false =>
          rw [h1, h2, Bool.and_false] at hd
          have Hs := Lib.hid (hstep hd)
          clear hstep hyes hd q0 q1
          go_wp2_with (first | go_big_skip | (refine zl1 hS ?_) | (refine zl1 hS ?_ (hc := by exact c0 (by exact takeS))) | (refine zl1 hS ?_ (hc := by exact c1 (by exact takeS))))
          go_roundw
          case rel => exact ⟨i + 1, rfl, hi1, Hs.out, hS⟩
          case measure => simp [intOf]; omega
        | true =>
          rw [h1, h2, Bool.and_true] at hd
          have hany := hyes hd
          obtain ⟨he0, hmem⟩ := cancel_hit hany
          have hmz := Hmay.out _ hmem
          have e : canV ⟨p, L, n⟩ who id = (0, ⟨backP p who (holdsF (cancelR L id).o), (cancelR L id).L, n⟩) := by unfold canV; rw [if_pos hany]
          generalize hCR : cancelR L id = CR at he0 hmz e
          obtain ⟨⟨zi, zu, zy, zt, zc, zp⟩, en, L2⟩ := CR
          simp only at he0 hmz e
          subst he0
          obtain ⟨it, hit⟩ : ∃ y, holdsF ⟨zi, zu, zy, zt, zc, zp⟩ = y := ⟨_, rfl⟩
          have hii : isIt it = true := by
            rw [← hit]
            exact (holds_in (o := ⟨zi, zu, zy, zt, zc, zp⟩) (mayB_true.2 ⟨show (1 : Int) ≤ 1 by decide, show (1 : Int) ≤ 1099511627776 by decide, hmz.who0, hmz.who1, hmz.item0, hmz.item1, hmz.cnt0, hmz.cnt1, hmz.price0, hmz.price1⟩)).2
          have hwho : whoB who = true := by
            have hxw : (⟨xi, xu, xy, xt, xc, xp⟩ : Ord) ∈ L := by rw [← Hx.out]; exact List.getElem_mem hi1
            have e1 : xu = who := bytes_ext (by
              rw [Lib.toList_data, Lib.toList_data] at h2
              simpa using h2)
            rw [← e1]
            exact may_who (Hmay.out _ hxw)
          rw [hit] at e
          obtain ⟨h0, h1', h2', h3'⟩ := it
          obtain ⟨a0, a1, a2, a3⟩ := isIt_true.1 hii
          simp only at a0 a1 a2 a3
          have HCR := Lib.hid hCR
          have Hmz := Lib.hid hmz
          have Hit := Lib.hid hit
          have E := Lib.hid e
          clear hCR hmz hit e hii hstep hyes hd q0 q1 hany hmem
          have G1 := Lib.hid (show ∀ y, isIt (purseA p y) = true from Hp.out)
          have G2 := Lib.hid (show ∀ y, isIt (purseA (giveP p who 0 h0) y) = true from psOk_give Hp.out _ _ a0.1)
          have G3 := Lib.hid (show ∀ y, isIt (purseA (giveP (giveP p who 0 h0) who 1 h1') y) = true from psOk_give (psOk_give Hp.out _ _ a0.1) _ _ a1.1)
          have G4 := Lib.hid (show ∀ y, isIt (purseA (giveP (giveP (giveP p who 0 h0) who 1 h1') who 2 h2') y) = true from psOk_give (psOk_give (psOk_give Hp.out _ _ a0.1) _ _ a1.1) _ _ a2.1)
          have W1 := Lib.hid (show PsW p 1000000 from psW_mono Hw.out (by omega))
          have W2 := Lib.hid (show PsW (giveP p who 0 h0) 1000000 from psW_mono (psW_give Hw.out hwho _ _) (by omega))
          have W3 := Lib.hid (show PsW (giveP (giveP p who 0 h0) who 1 h1') 1000000 from psW_mono (psW_give (psW_give Hw.out hwho _ _) hwho _ _) (by omega))
          have W4 := Lib.hid (show PsW (giveP (giveP (giveP p who 0 h0) who 1 h1') who 2 h2') 1000000 from psW_mono (psW_give (psW_give (psW_give Hw.out hwho _ _) hwho _ _) hwho _ _) (by omega))
          clear hwho
          go_wp2_with (first | go_big_skip | (refine zl1 hS ?_) | (refine zl1 hS ?_ (hc := by exact c0 (by exact takeS))) | (refine zl1 hS ?_ (hc := by exact c1 (by exact takeS))) | (go_at_call 71; refine (refCancel_spec L id xB last _ hl32 W _ _ (hS.sel (L' := blk xB _ _ :: pileR _ L :: blk xb _ _ :: hdR _ (hdL p) :: R) (by exact selS))).mono ?_; clear hS; rw [HCR.out]; simp only [Ord.cells]; rintro e w ⟨rfl, v9, hS⟩) | (go_at_call 56; refine (holds8_at (o := ⟨zi, zu, zy, zt, zc, zp⟩) Hmz.out Hit.out W _ _ hS).mono ?_; clear hS; rintro e w ⟨rfl, hS⟩) | ((fail_if_success (have := b8)); ((with_reducible apply wl_alloc hS); (with_reducible rfl); rfl; (exact zsS); clear hS; intro b8 w hS; (refine frS ?_))) | ((have := b8); (with_reducible apply wl_alloc hS); (with_reducible rfl); rfl; (exact zsS); clear hS; intro b10 w hS; (refine frS ?_)) | (refine zlN hS ?_) | (refine zsN hS ?_; clear hS; intro w hS))
          have hS1 := xkShut hlast (hS.sel (L' := blk xB _ _ :: pileR _ L2 :: blk xb _ _ :: hdR _ (hdL p) :: blk b10 _ _ :: R) (by exact selS))
          clear hS
          have hS := xvShut (hS1.sel (L' := blk xb _ _ :: hdR _ (hdL p) :: xkP xB L2 n :: blk b10 _ _ :: R) (by exact selS))
          clear hS1
          go_loopw [11] (fun v wr => Cn4 W (fun q => [xvP xb (.pointer (some ⟨xB, 0, none⟩)) n q, xkP xB L2 n, blk b10 [.int .i64 h0, .int .i64 h1', .int .i64 h2', .int .i64 h3'] 39] ++ R) p who ⟨h0, h1', h2', h3'⟩ v wr) (fun v _ => 4 - (intOf v).toNat)
          case atStart => exact .inl ⟨rfl, hS⟩
          case round =>
          clear hS
          simp only [Cn4, List.cons_append, List.nil_append] at hrel
          rcases hrel with ⟨rfl, hS⟩ | ⟨rfl, hS⟩ | ⟨rfl, hS⟩ | ⟨rfl, hS⟩ | ⟨rfl, hS⟩
          · skip
            go_wp2_with (first | go_big_skip | (refine zl1 hS ?_) | (go_at_call 58; refine (pays8 xb _ n _ 1000000 W _ _ W1.out (Nat.le_refl _) _ _ _ (G1.out _) ⟨by omega, by omega⟩ ⟨by omega, by omega⟩ hS).mono ?_; clear hS; rintro e w ⟨rfl, hS⟩))
            go_roundw
            case rel => exact .inr (.inl ⟨rfl, hS⟩)
            case measure => simp [intOf]
          · skip
            go_wp2_with (first | go_big_skip | (refine zl1 hS ?_) | (go_at_call 58; refine (pays8 xb _ n _ 1000000 W _ _ W2.out (Nat.le_refl _) _ _ _ (G2.out _) ⟨by omega, by omega⟩ ⟨by omega, by omega⟩ hS).mono ?_; clear hS; rintro e w ⟨rfl, hS⟩))
            go_roundw
            case rel => exact .inr (.inr (.inl ⟨rfl, hS⟩))
            case measure => simp [intOf]
          · skip
            go_wp2_with (first | go_big_skip | (refine zl1 hS ?_) | (go_at_call 58; refine (pays8 xb _ n _ 1000000 W _ _ W3.out (Nat.le_refl _) _ _ _ (G3.out _) ⟨by omega, by omega⟩ ⟨by omega, by omega⟩ hS).mono ?_; clear hS; rintro e w ⟨rfl, hS⟩))
            go_roundw
            case rel => exact .inr (.inr (.inr (.inl ⟨rfl, hS⟩)))
            case measure => simp [intOf]
          · skip
            go_wp2_with (first | go_big_skip | (refine zl1 hS ?_) | (go_at_call 58; refine (pays8 xb _ n _ 1000000 W _ _ W4.out (Nat.le_refl _) _ _ _ (G4.out _) ⟨by omega, by omega⟩ ⟨by omega, by omega⟩ hS).mono ?_; clear hS; rintro e w ⟨rfl, hS⟩))
            go_roundw
            case rel => exact .inr (.inr (.inr (.inr ⟨rfl, hS⟩)))
            case measure => simp [intOf]
          · go_wp2_with (first | go_big_skip)
            go_ret
            rw [E.out]
            exact ⟨rfl, hS.sel (by exact selS)⟩
end
end Go.Proofs.YtbcokphjpllbiaaGreat
end
section
set_option linter.unusedSimpArgs false
set_option linter.unusedVariables false
namespace Go.Proofs.YtbcokphjpllbiaaGreat
open Go.RowKit Go.Sl
def sumW (k : Int) : Ps → Int
  | [] => 0
  | x :: p => getK x.2 k + sumW k p
def sumH (k : Int) : List Ord → Int
  | [] => 0
  | x :: L => getK (holdsF x) k + sumH k L
def payK (k : Int) (t : Trd) : Int := (if k = t.item then t.cnt else 0) + (if k = 0 then t.cnt * (t.bid - t.price) + t.cnt * t.price else 0)
def sumT (k : Int) : List Trd → Int
  | [] => 0
  | t :: ts => payK k t + sumT k ts
def sumI (k : Int) : List It → Int
  | [] => 0
  | i :: l => getK i k + sumI k l
/-- All that there is of an item. -/
def totV (V : Vs) (k : Int) : Int := sumW k V.ps + sumH k V.L
structure Kx (k : Int) : Prop where
  k0 : 0 ≤ k
  k3 : k ≤ 3
theorem getK_it0 (k : Int) : getK it0 k = 0 := by unfold getK it0; repeat' split
                                                  all_goals rfl
theorem getK_z {i : It} (h : isZ i = true) (k : Int) : getK i k = 0 := by rw [isZ_eq h, getK_it0]
theorem nodup_lay {p : Ps} (h : (p.map (·.1)).Nodup) (k : ByteArray) (i : It) : ((layP p k i).map (·.1)).Nodup := by
  unfold layP
  split
  · exact nodup_delP h k
  · rw [List.map_cons, List.nodup_cons]
    refine ⟨fun hm => ?_, nodup_delP h k⟩
    obtain ⟨x, hx, e⟩ := List.mem_map.1 hm
    exact (mem_delP hx).2 e
theorem purse_mem {p : Ps} (h : (p.map (·.1)).Nodup) {x : ByteArray × It} (hx : x ∈ p) : purseA p x.1 = x.2 := by
  have := getL_at (v := x.2) h hx
  unfold purseA
  rw [this]
  rfl
theorem purse_cons (x : ByteArray × It) (p : Ps) (k : ByteArray) : purseA (x :: p) k = if x.1 = k then x.2 else purseA p k := by
  unfold purseA getL
  split
  · rename_i h
    rw [List.find?_cons_of_pos (by simpa using h)]; rfl
  · rename_i h
    rw [List.find?_cons_of_neg (by simpa using h)]
theorem sumW_del (k : Int) (who : ByteArray) : ∀ {p : Ps}, (p.map (·.1)).Nodup → sumW k (delL p who) = sumW k p - getK (purseA p who) k
  | [], _ => by
    show (0 : Int) = 0 - getK it0 k
    rw [getK_it0]; rfl
  | x :: p, h => by
    rw [List.map_cons, List.nodup_cons] at h
    have ih := sumW_del k who h.2
    rw [purse_cons]
    by_cases hx : x.1 = who
    · rw [if_pos hx]
      have e : delL (x :: p) who = p := by
        unfold delL
        rw [List.filter_cons, if_neg (by simpa using hx)]
        refine List.filter_eq_self.2 fun y hy => ?_
        have : y.1 ≠ who := fun e => h.1 (List.mem_map.2 ⟨y, hy, e.trans hx.symm⟩)
        simpa using this
      rw [e]
      show sumW k p = getK x.2 k + sumW k p - getK x.2 k
      omega
    · rw [if_neg hx]
      have e : delL (x :: p) who = x :: delL p who := by
        unfold delL
        rw [List.filter_cons, if_pos (by simpa using hx)]
      rw [e]
      show getK x.2 k + sumW k (delL p who) = getK x.2 k + sumW k p - getK (purseA p who) k
      omega
theorem sumW_lay {p : Ps} (h : (p.map (·.1)).Nodup) (k : Int) (who : ByteArray) (i : It) : sumW k (layP p who i) = sumW k p - getK (purseA p who) k + getK i k := by
  have hd := sumW_del k who h
  unfold layP
  split
  · rename_i hz
    rw [hd, getK_z hz]
    omega
  · show getK i k + sumW k (delL p who) = _
    omega
/-- Purses that are listed, each within its bounds. -/
structure PsK (p : Ps) : Prop where
  nd : (p.map (·.1)).Nodup
  ok : PsOk p
theorem PsK.pos {p : Ps} (h : PsK p) (k : Int) : 0 ≤ sumW k p := by
  have hx : ∀ x ∈ p, 0 ≤ getK x.2 k := fun x hx => by
    rw [← purse_mem h.nd hx]
    exact (getK_in (h.ok x.1) k).1
  clear h
  induction p with
  | nil => exact Int.le_refl _
  | cons x p ih =>
    have h1 := hx x (List.mem_cons_self ..)
    have h2 := ih fun y hy => hx y (List.mem_cons_of_mem _ hy)
    show 0 ≤ getK x.2 k + sumW k p
    omega
theorem isIt_0s : isIt it0 = true := by decide
theorem PsK.le {p : Ps} (h : PsK p) (who : ByteArray) (k : Int) : getK (purseA p who) k ≤ sumW k p := by
  have h1 := sumW_lay h.nd k who it0
  have h2 := PsK.pos ⟨nodup_lay h.nd who it0, psOk_lay h.ok who isIt_0s⟩ k
  rw [getK_it0] at h1
  omega
/-- An order of so many. -/
def withC (o : Ord) (c : Int) : Ord := ⟨o.id, o.who, o.buy, o.item, c, o.price⟩
/-- All that Total adds. -/
def allV (V : Vs) : List It := (hdL V.ps).map Hd.has ++ V.L.map holdsF
def totI (V : Vs) : It := ⟨totV V 0, totV V 1, totV V 2, totV V 3⟩
end Go.Proofs.YtbcokphjpllbiaaGreat
end
section
set_option linter.unusedSimpArgs false
set_option linter.unusedVariables false
namespace Go.Proofs.YtbcokphjpllbiaaGreat
open Go.RowKit Go.Sl
abbrev itsR (v : Value) (l : List It) : HP := row v 4 39 l.length (l.flatMap It.cells)
def TtR (W : World) (F : List HP) (m : Nat) (acc : Nat → List It) (v7 vk : Value) (w : World) : Prop :=
  ∃ k : Nat, vk = .int .i64 k ∧ k ≤ m ∧ St W (itsR v7 (acc k) :: F) w
theorem maps_step {α β : Type} (f : α → β) (l : List α) {k : Nat} (h : k < l.length) : (l.take (k + 1)).map f = (l.take k).map f ++ [f l[k]] := by
  rw [List.take_succ_eq_append_getElem h, List.map_append]; rfl
theorem its_push (l : List It) (x : It) : (l ++ [x]).flatMap It.cells = l.flatMap It.cells ++ x.cells := by simp
end Go.Proofs.YtbcokphjpllbiaaGreat
end
section
set_option linter.unusedSimpArgs false
set_option linter.unusedVariables false
namespace Go.Sl
open Go.RowKit
section
variable {P : Program} {W : World} {L : List HP} {ops : Array Oper} {Q : Act → Prop} {a : Act} {rest : List Oper} {o : Oper}
theorem wq_neA {t t2 : TypeId} {x y : Operand} {xs ys : Array Value} {r : Bool} (ho : o.op = .binOp .neq t x y t2) (hg : Region.wanted o (yielded ops a.tmps) = true) (hx : a.eval x = .agg xs) (hy : a.eval y = .agg ys) (hm : P.eqGuardType P.depth t = false) (hr : ∀ w : World, (Op.equalIn 10000 t (.agg xs) (.agg ys)).run P w = .ok r w)
    (h : wpQuiet P ops (St W L) Q rest (a.put o.dst (.bool (!r)))) : wpQuiet P ops (St W L) Q (o :: rest) a :=
  wq_val hg (fun w _ => by
    unfold execOp
    simp [ho, hx, hy, run_eqGuard_agg w .neq t x y xs ys hm, run_neq_struct, hr]) h
end
end Go.Sl
namespace Go.Proofs.YtbcokphjpllbiaaGreat
open Go.RowKit Go.Sl
/-- What holds of purses and the next ID behind i acts. -/
structure VOk (p : Ps) (n : Int) (i : Nat) : Prop where
  ok : PsOk p
  w : PsW p (100 * i)
  n0 : 1 ≤ n
  n1 : n ≤ 1 + i
theorem vOk0 : VOk [] 1 0 := ⟨psOk_nil, psW_nil _, by decide, by decide⟩
theorem VOk.on {p : Ps} {n : Int} {i : Nat} (h : VOk p n i) : VOk p n (i + 1) := ⟨h.ok, psW_mono h.w (by omega), h.n0, by have := h.n1; omega⟩
section
variable (vb mb bb : Nat) {p : Ps} {L : List Ord} {n : Int} {i : Nat} (W w : World) (R : List HP)
theorem has_at (u1 u2 : Value) {k : ByteArray} {x0 x1 x2 x3 : Int} (hx : purseA p k = ⟨x0, x1, x2, x3⟩) (hS : St W (blk vb [.map (some mb), u1, u2] 80 :: amap eS eP mb p :: R) w) :
    Calls Tryz.prog 23 #[.pointer (some ⟨vb, 0, none⟩), .string k] w fun e w' => e = .returned (.agg #[.int .i64 x0, .int .i64 x1, .int .i64 x2, .int .i64 x3]) ∧ St W (blk vb [.map (some mb), u1, u2] 80 :: amap eS eP mb p :: R) w' := by
  refine (has_spec vb mb p k u1 u2 W w R hS).mono ?_
  rw [hx]
  exact fun e w' h => h
end
end Go.Proofs.YtbcokphjpllbiaaGreat
end
section
set_option linter.unusedSimpArgs false
set_option linter.unusedVariables false
namespace Go.Proofs.YtbcokphjpllbiaaGreat
open Go.RowKit Go.Sl
set_option maxRecDepth 100000 in
theorem new8 (W w : World) (R : List HP) (hS : St W R w) :
    Calls Tryz.prog 16 #[] w fun e w' => ∃ xb xB, e = .returned (.pointer (some ⟨xb, 0, none⟩)) ∧ St W (xvR xb xB [] [] 1 R) w' := by
  go_enter Tryz.func16, Tryz.ntmps16
  go_wp2_with (first | ((fail_if_success (have := bA)); (with_reducible apply wl_box hS); (with_reducible rfl); rfl; rfl; rfl; clear hS; intro bA w hS; (refine frS ?_)) | ((have := bA); (with_reducible apply wl_box hS); (with_reducible rfl); rfl; rfl; rfl; clear hS; intro bB w hS; (refine frS ?_)))
  go_ret
  have hS1 := (hS.rowNil (k := 5) (T := 94)).rowNil (k := 6) (T := 41)
  have e0 : hdL [] = [] := List.eq_nil_of_length_eq_zero (by rw [hdL_len]; rfl)
  have hS2 : St W (pileR (.slice none 0 0) [] :: hdR (.slice none 0 0) [] :: _) _ := hS1
  rw [← e0] at hS2
  have hS3 := xkShut (n := 1) (last := 0) (by decide) (hS2.sel (L' := blk bA _ _ :: pileR _ [] :: blk bB _ _ :: hdR _ (hdL []) :: R) (by exact selS))
  exact ⟨bB, bA, rfl, xvShut (hS3.sel (L' := blk bB _ _ :: hdR _ (hdL []) :: xkP bA [] 1 :: R) (by exact selS))⟩
set_option maxRecDepth 100000 in
set_option maxHeartbeats 4000000 in
theorem total8 (xb xB : Nat) (p : Ps) (L : List Ord) (n : Int) {N : Nat} (hw : PsW p N) (hN : N ≤ 1000000) (hmay : ∀ x ∈ L, MayP x) (hl32 : L.length ≤ 32) (W w : World) (R : List HP) (hS : St W (xvR xb xB p L n R) w) :
    Calls Tryz.prog 27 #[.pointer (some ⟨xb, 0, none⟩)] w fun e w' => e = .returned (.tuple #[.agg (addF (allV ⟨p, L, n⟩)).cells.toArray, .bool (addL (allV ⟨p, L, n⟩) it0).isSome]) ∧ St W (xvR xb xB p L n R) w' := by
  have hlh : (hdL p).length ≤ 1000000 := by rw [hdL_len]; exact Nat.le_trans hw.len hN
  have Hmay := Lib.hid hmay
  clear hmay hw
  obtain ⟨xv, hS1⟩ := xvOpen hS
  obtain ⟨la, lc, last, hlast, hS2⟩ := xkOpen (hS1.sel (L' := xkP xB L n :: blk xb _ _ :: hdR _ (hdL p) :: R) (by exact selS))
  clear hS hS1
  obtain ⟨ha, hc, rfl⟩ := hS2.drop.drop.drop.rowVal
  have hS := hS2
  clear hS2
  unfold allV
  go_enter Tryz.func27, Tryz.ntmps27
  go_wp2_with (first | ((with_reducible apply wl_alloc hS); (with_reducible rfl); rfl; (exact zsS); clear hS; intro b0 w hS; (refine frS ?_)))
  have hS1 := hS.rowNil (k := 4) (T := 39)
  clear hS
  have hS := hS1
  clear hS1
  try dsimp only
  generalize hhs : hdL p = hs at hS hlh ⊢
  have Hhs := Lib.hid hhs
  clear hhs
  go_loopw [4, 5] (fun v4 v5 wr => TtR W (blk b0 [.int .i64 0, .int .i64 0, .int .i64 0, .int .i64 0] 39 :: blk xB [.slice la L.length lc, .int .i64 last] 68 :: pileR (.slice la L.length lc) L :: blk xb [.slice ha hs.length hc, .pointer (some ⟨xB, 0, none⟩), .int .i64 n] 65 :: hdR (.slice ha hs.length hc) hs :: R) hs.length (fun k => (hs.take k).map Hd.has) v4 v5 wr) (fun _ v5 _ => hs.length - (intOf v5).toNat)
  case atStart => exact ⟨0, rfl, Nat.zero_le _, hS⟩
  case round =>
    clear hS
    obtain ⟨k, rfl, hkl, hS⟩ := hrel
    dsimp only at hS
    by_cases hkn : k = hs.length
    · rw [hkn, List.take_length] at hS
      have hd1 : decide (k < hs.length) = false := by simp; omega
      clear hkl hkn
      generalize hacc : hs.map Hd.has = acc at hS ⊢
      have hal : acc.length ≤ 1000000 := by rw [← hacc, List.length_map]; exact hlh
      have Hacc := Lib.hid hacc
      clear hacc
      go_wp2_with (first | go_big_skip | (refine zl1 hS ?_))
      go_loopw [4, 6] (fun v4 v6 wr => TtR W (blk b0 [.int .i64 0, .int .i64 0, .int .i64 0, .int .i64 0] 39 :: blk xB [.slice la L.length lc, .int .i64 last] 68 :: pileR (.slice la L.length lc) L :: blk xb [.slice ha hs.length hc, .pointer (some ⟨xB, 0, none⟩), .int .i64 n] 65 :: hdR (.slice ha hs.length hc) hs :: R) L.length (fun k => acc ++ (L.take k).map holdsF) v4 v6 wr) (fun _ v6 _ => L.length - (intOf v6).toNat)
      case atStart => exact ⟨0, rfl, Nat.zero_le _, by simpa using hS⟩
      case round =>
        clear hS
        obtain ⟨j, rfl, hjl, hS⟩ := hrel
        dsimp only at hS
        by_cases hjn : j = L.length
        · rw [hjn, List.take_length] at hS
          have hd2 : decide (j < L.length) = false := by simp; omega
          clear hjl hjn
          obtain ⟨q, hq⟩ : ∃ q, addF (acc ++ L.map holdsF) = q := ⟨_, rfl⟩
          obtain ⟨s0, s1, s2, s3⟩ := q
          have Hq := Lib.hid hq
          clear hq
          go_wp2_with (first | go_big_skip | (refine zl1 hS ?_) | (go_at_call 63; refine (add8 _ _ W _ _ hS).mono ?_; clear hS; rw [Hq.out]; simp only [It.cells]; rintro e w ⟨rfl, hS⟩) | (refine zsN hS ?_; clear hS; intro w hS))
          (apply bp_cell_tmp; rfl; rfl; rfl; rfl; exact hS; decide +kernel; (exact cesS); kernel_rfl)
          rw [show (hdL p).map Hd.has = acc by rw [Hhs.out, Hacc.out], Hq.out]
          have hS1 := xkShut hlast (hS.sel (L' := blk xB _ _ :: pileR _ L :: blk xb _ _ :: hdR _ hs :: R) (by exact selS))
          rw [← Hhs.out] at hS1
          exact ⟨rfl, xvShut (hS1.sel (L' := blk xb _ _ :: hdR _ (hdL p) :: xkP xB L n :: R) (by exact selS))⟩
        · have hj1 : j < L.length := by omega
          obtain ⟨⟨g, rfl⟩, hcap, hcn⟩ := St.rowAddr hS.drop.drop.drop (by omega)
          have hcells : ∀ {K K' : List HP}, Take K (pileR (.slice (some ⟨g, 0, none⟩) L.length lc) L) K' → Cells K g (j * 6) (Ord.cells L[j]) := fun hu => Cells.elemM (enc := Ord.cells) Ord.len hu hj1
          have hstep : acc ++ (L.take (j + 1)).map holdsF = (acc ++ (L.take j).map holdsF) ++ [holdsF L[j]] := by rw [maps_step _ _ hj1, List.append_assoc]
          have hmx := Hmay.out _ (List.getElem_mem hj1)
          have hbl : (acc ++ (L.take j).map holdsF).length ≤ 1000100 := by rw [List.length_append, List.length_map, List.length_take]; omega
          have Hstep := Lib.hid hstep
          clear hstep hjn hjl
          generalize acc ++ (L.take j).map holdsF = accj at hS Hstep hbl
          generalize L[j] = x at hcells Hstep hmx
          obtain ⟨it, hit⟩ : ∃ y, holdsF x = y := ⟨_, rfl⟩
          obtain ⟨oi, ou, oy, ot, oc2, op⟩ := x
          obtain ⟨h0, h1, h2, h3⟩ := it
          have Hit := Lib.hid hit
          have Hm := Lib.hid hmx
          clear hit hmx
          simp only [Ord.cells] at hcells
          go_wp2_with (first | go_big_skip | (refine zlN hS ?_ (hc := by exact hcells (by exact takeS))) | (refine zl1 hS ?_) | (go_at_call 56; refine (holds8_at (o := ⟨oi, ou, oy, ot, oc2, op⟩) Hm.out Hit.out W _ _ hS).mono ?_; clear hS; rintro e w ⟨rfl, hS⟩) | (refine zbs hS ?_; clear hS; intro bS w hS) | (refine zap hS ?_ (h63 := by unfold maxLen; omega) (hb := by omega); clear hS; intro v w hS))
          go_roundw
          case rel =>
            refine ⟨j + 1, rfl, hj1, ?_⟩
            dsimp only
            rw [Hstep.out, Hit.out]
            unfold itsR
            rw [its_push, List.length_append, List.length_singleton]
            have h0 : St W (row v 4 39 (accj.length + 1) (accj.flatMap It.cells ++ It.cells ⟨h0, h1, h2, h3⟩) :: _) w := hS
            exact h0.sel (by exact selS)
          case measure => simp [intOf]; omega
    · have hk1 : k < hs.length := by omega
      obtain ⟨⟨g, rfl⟩, hcap, hcn⟩ := St.rowAddr hS.drop.drop.drop.drop.drop (by omega)
      have hitems : ∀ {K K' : List HP}, Take K (hdR (.slice (some ⟨g, 0, none⟩) hs.length hc) hs) K' → Cells K g (k * 5 + 1) (hs[k].has.cells) := fun hu j v hj => by
        have h1 := Cells.elemM (enc := Hd.cells) Hd.len hu hk1 (1 + j) v (by rw [Nat.add_comm]; exact hj)
        rwa [← Nat.add_assoc] at h1
      have hstep := maps_step Hd.has hs hk1
      have hbl : ((hs.take k).map Hd.has).length ≤ 1000000 := by rw [List.length_map, List.length_take]; omega
      have Hstep := Lib.hid hstep
      clear hstep hkn hkl
      generalize (hs.take k).map Hd.has = accj at hS Hstep hbl
      generalize hs[k] = x at hitems Hstep
      obtain ⟨xw, ⟨x0, x1, x2, x3⟩⟩ := x
      simp only [It.cells] at hitems
      go_wp2_with (first | go_big_skip | (refine zlN hS ?_ (hc := by exact hitems (by exact takeS))) | (refine zl1 hS ?_) | (refine zbs hS ?_; clear hS; intro bS w hS) | (refine zap hS ?_ (h63 := by unfold maxLen; omega) (hb := by omega); clear hS; intro v w hS))
      go_roundw
      case rel =>
        refine ⟨k + 1, rfl, hk1, ?_⟩
        dsimp only
        rw [Hstep.out]
        unfold itsR
        rw [its_push, List.length_append, List.length_singleton]
        have h0 : St W (row v 4 39 (accj.length + 1) (accj.flatMap It.cells ++ It.cells ⟨x0, x1, x2, x3⟩) :: _) w := hS
        exact h0.sel (by exact selS)
      case measure => simp [intOf]; omega
theorem eqI2 (d : Nat) (x0 x1 x2 x3 y0 y1 y2 y3 : Int) (w : World) : (Op.equalIn (d + 2) 39 (.agg #[.int .i64 x0, .int .i64 x1, .int .i64 x2, .int .i64 x3]) (.agg #[.int .i64 y0, .int .i64 y1, .int .i64 y2, .int .i64 y3])).run Tryz.prog w = .ok (x0 == y0 && (x1 == y1 && (x2 == y2 && x3 == y3))) w := by
  have u3 := Tryz.underlying3
  have a3 := Tryz.isAgg3
  have z3 := Tryz.sizeOf3
  rw [show d + 2 = (d + 1) + 1 from rfl, Op.equalIn]
  simp only [Sem.run_bind, run_underlying Tryz.underlying39, Result.andThen_ok]
  simp only [Std.Legacy.Range.forIn_eq_forIn_range', Std.Legacy.Range.size, Nat.sub_zero, Nat.add_sub_cancel, Nat.div_one, List.range'_succ, List.range'_zero, List.forIn_cons, List.forIn_nil]
  go_simp
  by_cases h1 : x0 = y0 <;> by_cases h2 : x1 = y1 <;> by_cases h3 : x2 = y2 <;> by_cases h4 : x3 = y3 <;> simp [h1, h2, h3, h4]
theorem eqHd (u : ByteArray) (x0 x1 x2 x3 : Int) (w : World) : (Op.equalIn 10000 94 (.agg #[.string u, .int .i64 x0, .int .i64 x1, .int .i64 x2, .int .i64 x3]) (.agg #[.string u, .int .i64 x0, .int .i64 x1, .int .i64 x2, .int .i64 x3])).run Tryz.prog w = .ok true w := by
  have u9 := Tryz.underlying9
  have a9 := Tryz.isAgg9
  have z9 := Tryz.sizeOf9
  have a39 := Tryz.isAgg39
  have z39 := Tryz.sizeOf39
  have hI := eqI2 9997 x0 x1 x2 x3 x0 x1 x2 x3
  rw [show (10000 : Nat) = 9999 + 1 from rfl, Op.equalIn]
  simp only [Sem.run_bind, run_underlying Tryz.underlying94, Result.andThen_ok]
  go_simp
def OrdR (W : World) (Lr : List HP) (n : Nat) (v : Value) (w : World) : Prop := ∃ i : Nat, v = .int .i64 i ∧ i ≤ n ∧ St W Lr w
set_option maxRecDepth 100000 in
set_option maxHeartbeats 4000000 in
theorem orders_spec (L : List Ord) (a1 a2 : Option Addr) (c1 c2 : Nat) (hlen : L.length ≤ 32) (W w : World) (Lr : List HP) (hS : St W (pileR (.slice a1 L.length c1) L :: pileR (.slice a2 L.length c2) L :: Lr) w) :
    Calls Tryz.prog 29 #[.slice a1 L.length c1, .slice a2 L.length c2] w fun e w' => e = .returned (.bool true) ∧ St W (pileR (.slice a1 L.length c1) L :: pileR (.slice a2 L.length c2) L :: Lr) w' := by
  go_enter Tryz.func29, Tryz.ntmps29
  go_wp2_with fail
  go_loopw [5] (fun v wr => OrdR W (pileR (.slice a1 L.length c1) L :: pileR (.slice a2 L.length c2) L :: Lr) L.length v wr) (fun v _ => L.length - (intOf v).toNat)
  case atStart => exact ⟨0, rfl, by omega, hS⟩
  case round =>
    clear hS
    obtain ⟨i, rfl, hi, hS⟩ := hrel
    by_cases hn : i = L.length
    · subst hn
      go_wp2_with fail
      go_ret
      exact ⟨rfl, hS⟩
    · have hil : i < L.length := by omega
      clear hn hi
      obtain ⟨⟨g1, rfl⟩, hc1, hn1⟩ := St.rowAddr hS (by omega)
      obtain ⟨⟨g2, rfl⟩, hc2, hn2⟩ := St.rowAddr hS.drop (by omega)
      have q1 : ∀ {X : List HP}, Cells (pileR (.slice (some ⟨g1, 0, none⟩) L.length c1) L :: X) g1 (i * 6) (Ord.cells L[i]) := fun {X} => Cells.rowE Ord.len hil
      have q2 : ∀ {X : List HP}, Cells (pileR (.slice (some ⟨g2, 0, none⟩) L.length c2) L :: X) g2 (i * 6) (Ord.cells L[i]) := fun {X} => Cells.rowE Ord.len hil
      generalize L[i] = x at q1 q2
      obtain ⟨xi, xu, xy, xt, xc, xp⟩ := x
      simp only [Ord.cells] at q1 q2
      go_wp2_with fail
      refine wp_region_flow2 [0, 0, 3, 7, 0, 0, 48, 112, 255] (fun _ => false) [] [none, none] (by kernel_rfl) (by kernel_rfl) rfl hS CongOk.nil ?_
      intro nd
      iterate 3 (refine ch_pure rfl (by kernel_rfl) rfl rfl ?_; intro K hK; go_big_quiet_op; go_big_quiet_on)
      (refine zcN ?_ (hc := by (intro F; exact q1)))
      iterate 3 (refine ch_pure rfl (by kernel_rfl) rfl rfl ?_; intro K hK; go_big_quiet_op; go_big_quiet_on)
      (refine zcN ?_ (hc := by (intro F; exact Cells.there q2)))
      (refine ch_pure rfl (by kernel_rfl) rfl rfl ?_; intro K hK; go_big_quiet_op; go_big_quiet_on)
      refine ch_end ?_
      clear hS q1 q2
      intro w hS
      have hS2 : St W [pileR _ _, pileR _ _, sats Lr] w := hS
      clear hS
      have hS := hS2.unpack [_, _]
      clear hS2
      simp only [List.cons_append, List.nil_append] at hS
      go_wp2_with fail
      go_roundw
      case rel => exact ⟨i + 1, rfl, hil, hS⟩
      case measure => simp [intOf]; omega
theorem orders_take {L : List Ord} {v1 v2 : Value} (hlen : L.length ≤ 32) {W w : World} {Lr R R2 : List HP} (hS : St W Lr w) (h1 : Take Lr (pileR v1 L) R) (h2 : Take R (pileR v2 L) R2) :
    Calls Tryz.prog 29 #[v1, v2] w fun e w' => e = .returned (.bool true) ∧ St W Lr w' := by
  obtain ⟨a1, c1, rfl⟩ := (hS.take h1).rowVal
  obtain ⟨a2, c2, rfl⟩ := ((hS.take h1).drop.take h2).rowVal
  have h3 : St W (pileR (.slice a2 L.length c2) L :: pileR (.slice a1 L.length c1) L :: R2) w := ⟨hS.os, hS.tape, hS.output, sep_swap (sep_mono (fun _ x => x) (fun _ x => h2.sats x) (h1.sats hS.sat))⟩
  refine (orders_spec L a1 a2 c1 c2 hlen W w R2 h3.swap).mono ?_
  rintro e w' ⟨rfl, h⟩
  refine ⟨rfl, St.back ⟨h.os, h.tape, h.output, sep_mono (fun _ x => x) (fun _ x => h2.back x) h.sat⟩ h1⟩
set_option maxRecDepth 100000 in
set_option maxHeartbeats 4000000 in
theorem holdings_spec (L : List Hd) (a1 a2 : Option Addr) (c1 c2 : Nat) (W w : World) (Lr : List HP) (hS : St W (hdR (.slice a1 L.length c1) L :: hdR (.slice a2 L.length c2) L :: Lr) w) :
    Calls Tryz.prog 28 #[.slice a1 L.length c1, .slice a2 L.length c2] w fun e w' => e = .returned (.bool true) ∧ St W (hdR (.slice a1 L.length c1) L :: hdR (.slice a2 L.length c2) L :: Lr) w' := by
  have h63 : L.length ≤ 9223372036854775807 := by
    rcases St.rowCase hS with ⟨_, h0, _⟩ | ⟨_, _, h1, h2⟩
    · omega
    · omega
  go_enter Tryz.func28, Tryz.ntmps28
  go_wp2_with fail
  go_loopw [5] (fun v wr => OrdR W (hdR (.slice a1 L.length c1) L :: hdR (.slice a2 L.length c2) L :: Lr) L.length v wr) (fun v _ => L.length - (intOf v).toNat)
  case atStart => exact ⟨0, rfl, by omega, hS⟩
  case round =>
    clear hS
    obtain ⟨i, rfl, hi, hS⟩ := hrel
    by_cases hn : i = L.length
    · subst hn
      go_wp2_with fail
      go_ret
      exact ⟨rfl, hS⟩
    · have hil : i < L.length := by omega
      clear hn hi
      obtain ⟨⟨g1, rfl⟩, hc1, hn1⟩ := St.rowAddr hS (by omega)
      obtain ⟨⟨g2, rfl⟩, hc2, hn2⟩ := St.rowAddr hS.drop (by omega)
      have q1 : ∀ {X : List HP}, Cells (hdR (.slice (some ⟨g1, 0, none⟩) L.length c1) L :: X) g1 (i * 5) (Hd.cells L[i]) := fun {X} => Cells.rowE Hd.len hil
      have q2 : ∀ {X : List HP}, Cells (hdR (.slice (some ⟨g2, 0, none⟩) L.length c2) L :: X) g2 (i * 5) (Hd.cells L[i]) := fun {X} => Cells.rowE Hd.len hil
      generalize L[i] = x at q1 q2
      obtain ⟨xu, ⟨x0, x1, x2, x3⟩⟩ := x
      simp only [Hd.cells, It.cells] at q1 q2
      go_wp2_with fail
      refine wp_region_reads (by kernel_rfl) (by kernel_rfl) hS ?_
      iterate 3 (refine wq_pure rfl rfl ?_; intro K hK; go_big_quiet_op; go_big_quiet_on)
      (apply wq_ldN; (with_reducible rfl); rfl; rfl; decide +kernel; (exact q1); kernel_rfl; (refine frS ?_))
      iterate 3 (refine wq_pure rfl rfl ?_; intro K hK; go_big_quiet_op; go_big_quiet_on)
      (apply wq_ldN; (with_reducible rfl); rfl; rfl; decide +kernel; (exact Cells.there q2); kernel_rfl; (refine frS ?_))
      ((with_reducible apply wq_neA); (with_reducible rfl); rfl; rfl; rfl; kernel_rfl; exact eqHd _ _ _ _ _; (simp only [Bool.not_true]); (simp only [Act.put, fA, fB, fC, Nat.reduceAdd, eP, It.cells]))
      clear hS q1 q2
      intro w hS
      go_wp2_with fail
      go_roundw
      case rel => exact ⟨i + 1, rfl, hil, hS⟩
      case measure => simp [intOf]; omega
theorem holdings_take {L : List Hd} {v1 v2 : Value} {W w : World} {Lr R R2 : List HP} (hS : St W Lr w) (h1 : Take Lr (hdR v1 L) R) (h2 : Take R (hdR v2 L) R2) :
    Calls Tryz.prog 28 #[v1, v2] w fun e w' => e = .returned (.bool true) ∧ St W Lr w' := by
  obtain ⟨a1, c1, rfl⟩ := (hS.take h1).rowVal
  obtain ⟨a2, c2, rfl⟩ := ((hS.take h1).drop.take h2).rowVal
  have h3 : St W (hdR (.slice a2 L.length c2) L :: hdR (.slice a1 L.length c1) L :: R2) w := ⟨hS.os, hS.tape, hS.output, sep_swap (sep_mono (fun _ x => x) (fun _ x => h2.sats x) (h1.sats hS.sat))⟩
  refine (holdings_spec L a1 a2 c1 c2 W w R2 h3.swap).mono ?_
  rintro e w' ⟨rfl, h⟩
  refine ⟨rfl, St.back ⟨h.os, h.tape, h.output, sep_mono (fun _ x => x) (fun _ x => h2.back x) h.sat⟩ h1⟩
end Go.Proofs.YtbcokphjpllbiaaGreat
end
