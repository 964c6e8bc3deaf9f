/-
  The document's Place: what it computes. For every row of orders and every order.
  A slice of structs that comes in as an argument. For every slice.
  The document's Of: any orders as a book, or refused. For every row of orders.
  Of: any orders as a book, or refused, as the document says it. For every row of orders.
-/
import Derived.Test.YtlmhakmoioogaaaGreatEconSendsM1
import Derived.Test.YtlmhakmoioogaaaGreatEconSendsM5
import Derived.Test.YtlmhakmoioogaaaGreatEconSendsM16
import Derived.Deep.LoopGhost
import Derived.OwnWalk
import Derived.Test.YtlmhakmoioogaaaGreatRows
import Derived.Lib.SmallJoins
import Derived.ChangeArms
import Derived.ProofKit
import Derived.Deep.Slices
import Derived.Deep.Fields
import Derived.ChangeSame
section
set_option linter.unusedSimpArgs false
set_option linter.unusedVariables false
namespace Go.Proofs.YtlmhakmoioogaaaGreat
open Go.RowKit Go.Sl
def RefRel (W : World) (Lr : List HP) (ob xb : Nat) (i : Int) (u : ByteArray) (y : Bool) (t p : Int) (r : Ord × List Ord × List Trd) (f : Nat) (v7 : Value) (w : World) : Prop :=
  ∃ (c : Int) (L : List Ord) (ts : List Trd) (v : Value), refLoop f ⟨i, u, y, t, c, p⟩ L ts = r ∧ (L.length < f ∨ (c = 0 ∧ 0 < f)) ∧ L.length ≤ 32 ∧ ts.length + f ≤ 80 ∧ (∀ x ∈ L, 1 ≤ x.cnt ∧ x.cnt ≤ 1048576) ∧ 0 ≤ c ∧ c ≤ 1048576 ∧
    St W (blk xb [v, .int .i64 i] 244 :: pileR v L :: blk ob [.int .i64 i, .string u, .bool y, .int .i64 t, .int .i64 c, .int .i64 p] 166 :: row v7 8 251 ts.length (ts.flatMap Trd.cells) :: Lr) w
end Go.Proofs.YtlmhakmoioogaaaGreat
end
section
set_option linter.unusedSimpArgs false
set_option linter.unusedVariables false
namespace Go.Proofs.YtlmhakmoioogaaaGreat
open Go.Joins Go.ChangeShapes Go.WideShapes Go.RowKit Go.Deep Go.Sl
/-- v is a slice that holds xs in the world w, each element as its cells. -/
def SliceV {α : Type} (enc : α → List Value) (k : Nat) (w : World) (v : Value) (xs : List α) : Prop :=
  ∃ a cap, v = .slice a xs.length cap ∧ xs.length ≤ 9223372036854775807 ∧ ∀ i (h : i < xs.length), ∃ b off, a = some ⟨b, off, none⟩ ∧ ∀ j u, (enc xs[i])[j]? = some u → w.cell? ⟨b, off + i * k + j, none⟩ = some u
section
variable {H : Type} {enc : TypeId × Value → H} {P : Program} {w : World} {base : Nat} {spare : Nat → Bool} {held : Bool}
end
end Go.Proofs.YtlmhakmoioogaaaGreat
end
section
set_option linter.unusedSimpArgs false
set_option linter.unusedVariables false
namespace Go.Proofs.YtlmhakmoioogaaaGreat
open Go.RowKit Go.Sl
def lastOf (l : List Ord) : Nat → Int
  | 0 => 0
  | j + 1 => (at' l j).id
def badAt (l : List Ord) (i : Nat) : Bool := !(mayB (at' l i)) || (decide ((at' l i).id ≤ lastOf l i) || (bestTo (at' l i) (l.take i) (l.take i).length).isSome)
def OkTo (l : List Ord) (i : Nat) : Prop := ∀ j, j < i → badAt l j = false
def Refused (l : List Ord) : Prop := 32 < l.length ∨ ∃ i, i < l.length ∧ badAt l i = true
theorem OkTo.step {l : List Ord} {i : Nat} (h : OkTo l i) (hb : badAt l i = false) : OkTo l (i + 1) := fun j hj => by
  by_cases hji : j = i
  · rw [hji]; exact hb
  · exact h j (by omega)
theorem take_step {l : List Ord} {i : Nat} (hi : i < l.length) : l.take (i + 1) = l.take i ++ [at' l i] := by rw [List.take_succ_eq_append_getElem hi, at'_get hi]
def OfR (W : World) (Lr : List HP) (l : List Ord) (xb : Nat) (v : Value) (w : World) : Prop :=
  ∃ (i : Nat) (vx : Value), v = .int .i64 i ∧ i ≤ l.length ∧ OkTo l i ∧ St W (blk xb [vx, .int .i64 (lastOf l i)] 244 :: pileR vx (l.take i) :: Lr) w
end Go.Proofs.YtlmhakmoioogaaaGreat
end
section
set_option linter.unusedSimpArgs false
set_option linter.unusedVariables false
namespace Go.Proofs.YtlmhakmoioogaaaGreat
open Go.RowKit Go.Sl
theorem loop_still {f : Nat} {o : Ord} {q : List Ord} (h : ∀ y q', q = y :: q' → meetO o y = false) : loopF f o q [] = (o, q, []) := by
  cases f with
  | zero => rfl
  | succ f =>
    cases q with
    | nil => rfl
    | cons y q' => rw [loopF, if_neg (by rintro ⟨_, hm⟩; rw [h y q' rfl] at hm; cases hm)]
theorem refLoop_still {f : Nat} {o : Ord} {L : List Ord} (h : bestTo o L L.length = none) : refLoop f o L [] = (o, L, []) := by
  cases f with
  | zero => rfl
  | succ f =>
    rw [refLoop, h]
    simp
/-- An order that meets none is laid. -/
theorem of_step {b : Bk} {L : List Ord} (h : Rep b L) {o : Ord} (hlen : L.length < 32) (hm : mayB o = true) (hid : b.last < o.id) (hb : bestTo o L L.length = none) :
    Rep ⟨b.ps.set (sideK (itemK o) o.buy) (pushT (b.pile (sideK (itemK o) o.buy)) o), o.id⟩ (L ++ [o]) := by
  have hp := (place_rep h o).2.2.2.2
  have hmay := mayB_true.1 hm
  have hno : ¬ (mayB o = false ∨ o.id ≤ b.last) := by rintro (h | h); (rw [hm] at h; cases h); omega
  have hbl : b.len = L.length := by rw [len_flat _ h.ok.n8, h.perm.length_eq]
  obtain ⟨it, hit⟩ : ∃ it : Nat, o.item = it := ⟨o.item.toNat, by have := hmay.item0; omega⟩
  have h4 : it < 4 := by have := hmay.item1; omega
  have hik : itemK o = it := by unfold itemK; rw [hit]; rfl
  have hsim := h.sim hit h4
  have hst : ∀ f, loopF f o (b.pile (sideK it (!o.buy))) [] = (o, b.pile (sideK it (!o.buy)), []) := fun f => loop_still fun y q' hq => by
    cases hmy : meetO o y with
    | false => rfl
    | true =>
      rw [hq] at hsim
      obtain ⟨k, hk, _⟩ := hsim.best_yes hmy
      rw [hb] at hk; cases hk
  have e1 : (placeR L b.last o).L = L ++ [o] := by
    unfold placeR
    rw [if_neg hno, if_neg (by omega), refLoop_still hb]
    exact if_pos (by have := hmay.cnt0; show (0 : Int) < o.cnt; omega)
  have hk8 := sideK_lt it (!o.buy) h4
  have e2 : (placeB b o).book = ⟨b.ps.set (sideK (itemK o) o.buy) (pushT (b.pile (sideK (itemK o) o.buy)) o), o.id⟩ := by
    unfold placeB
    rw [if_neg hno, if_neg (by omega)]
    dsimp only
    rw [hik, hst]
    dsimp only
    rw [if_pos (by have := hmay.cnt0; show (0 : Int) < o.cnt; omega)]
    have hset : b.ps.set (sideK it (!o.buy)) (b.pile (sideK it (!o.buy))) = b.ps := by
      rw [← pile_get b h.ok.n8 _ hk8]
      exact List.set_getElem_self _
    rw [hset]
    rfl
  rw [e1, e2] at hp
  exact hp
def OfB (W : World) (Lr : List HP) (l : List Ord) (bb : Nat) (v : Value) (w : World) : Prop :=
  ∃ (i : Nat) (b : Bk), v = .int .i64 i ∧ i ≤ l.length ∧ OkTo l i ∧ Rep b (l.take i) ∧ b.last = lastOf l i ∧ St W (bookP bb b :: Lr) w
theorem mayC_at {o : Ord} {r : Bool} (h : mayB o = r) (W w : World) (L : List HP) (hS : St W L w) :
    Calls Tryz.prog 203 #[.agg o.cells.toArray] w fun e w' => e = .returned (.bool r) ∧ St W L w' := h ▸ may_spec o W w L hS
theorem meetC_at {o s : Ord} {r : Bool} (h : meetO o s = r) (W w : World) (L : List HP) (hS : St W L w) :
    Calls Tryz.prog 205 #[.agg o.cells.toArray, .agg s.cells.toArray] w fun e w' => e = .returned (.bool r) ∧ St W L w' := h ▸ meet_spec o s W w L hS
set_option maxRecDepth 100000 in
set_option maxHeartbeats 8000000 in
theorem of_spec (l : List Ord) (v : Value) (W w : World) (Lr : List HP) (hl60 : l.length ≤ 10000000) (hS : St W (pileR v l :: Lr) w) :
    Calls Tryz.prog 167 #[v] w fun e w' => (Refused l ∧ e = .returned (.tuple #[.pointer none, .int .i64 1]) ∧ St W Lr w') ∨
      (l.length ≤ 32 ∧ OkTo l l.length ∧ ∃ bb b, e = .returned (.tuple #[.pointer (some ⟨bb, 0, none⟩), .int .i64 0]) ∧ Rep b l ∧ b.last = lastOf l l.length ∧ St W (bookP bb b :: Lr) w') := by
  obtain ⟨a, cap, rfl⟩ := hS.rowVal
  by_cases h32 : l.length ≤ 32
  · have hd32 : decide ((32 : Int) < (l.length : Int)) = false := by simp; omega
    go_enter Tryz.func167, Tryz.ntmps167
    go_wp2_with (first | (go_at_call 201; refine (new_book W _ _ hS).mono ?_; clear hS; rintro e w ⟨bb, rfl, hS⟩))
    go_loopw [14] (fun v wr => OfB W (pileR (.slice a l.length cap) l :: Lr) l bb v wr) (fun v _ => l.length - (intOf v).toNat)
    case atStart => exact ⟨0, bk0, rfl, by omega, fun j hj => absurd hj (Nat.not_lt_zero _), rep0, rfl, hS⟩
    case round =>
      clear hS
      obtain ⟨i, b1, rfl, hi, hok, hrep, hlast, hS⟩ := hrel
      have Hok := Lib.hid hok
      have Hlast := Lib.hid hlast
      clear hok hlast
      by_cases hin : i = l.length
      · subst hin
        rw [List.take_length] at hrep
        have Hr := Lib.hid hrep
        clear hrep
        go_wp2_with fail
        go_ret2
        exact .inr ⟨h32, Hok.out, bb, b1, rfl, Hr.out, Hlast.out, hS.swap.drop⟩
      · have hil : i < l.length := by omega
        clear hin hi
        obtain ⟨⟨g, rfl⟩, hcap, hcn⟩ := St.rowAddr hS.drop (by omega)
        have hxe : l[i] = at' l i := (at'_get hil).symm
        have hcells : ∀ {X : List HP}, Cells (pileR (.slice (some ⟨g, 0, none⟩) l.length cap) l :: X) g (i * 6) (Ord.cells (at' l i)) := fun {X} => by rw [← hxe]; exact Cells.rowE Ord.len hil
        have hbad : badAt l i = (!(mayB (at' l i)) || (decide ((at' l i).id ≤ lastOf l i) || (bestTo (at' l i) (l.take i) (l.take i).length).isSome)) := rfl
        have hts := take_step hil
        have hll : lastOf l (i + 1) = (at' l i).id := rfl
        clear hxe
        generalize at' l i = x at hcells hbad hts hll
        obtain ⟨xi, xu, xy, xt, xc, xp⟩ := x
        simp only [Ord.cells] at hcells
        have Hll := Lib.hid hll
        have Hts := Lib.hid hts
        clear hll hts
        have hl32 : (l.take i).length < 32 := by rw [List.length_take]; omega
        obtain ⟨vs, h1, h2, hS0⟩ := bookOpen hS
        clear hS
        have hS := hS0
        clear hS0
        have hla : (vs ++ [.int .i64 b1.last])[8]? = some (.int .i64 b1.last) := by rw [List.getElem?_append_right (by omega), h1]; rfl
        have Hrep := Lib.hid hrep
        clear hrep
        rw [← Hlast.out] at hbad
        cases hm : mayB ⟨xi, xu, xy, xt, xc, xp⟩
        · have Hbad := Lib.hid (show badAt l i = true by rw [hbad, hm]; rfl)
          clear hbad
          go_wp2_with (first | (refine zlN hS ?_ (hc := by exact Cells.there (Cells.there hcells))) | (refine zl1 hS ?_) | (refine zlN hS ?_) | (refine zs1 hS ?_; clear hS; intro w hS) | (refine zsN hS ?_; clear hS; intro w hS) | (refine zbx hS ?_; clear hS; intro b w hS) | (refine zal hS ?_; clear hS; intro b w hS))
          refine wp_region_flow3 [0, 1, 3, 7, 15, 31, 15, 79, 207, 463, 1023, 2047] (fun _ => false) (fun i => if i == 1 then some (.bool false) else none) [] [none, none] (by kernel_rfl) (by kernel_rfl) rfl hS CongOk.nil ?_
          intro nd
          (refine zcN ?_)
          (refine zcv ?_ (hs := by (intro F w hS; (try clear hS0); exact mayC_at hm W w _ hS)))
          iterate 2 (refine ch_pure rfl (by kernel_rfl) rfl rfl ?_; intro K hK; go_big_quiet_op; go_big_quiet_on)
          iterate 7 (refine ch_skip (by kernel_rfl) rfl ?_; (refine frS ?_))
          (refine ch_pure rfl (by kernel_rfl) rfl rfl ?_; intro K hK; go_big_quiet_op; go_big_quiet_on)
          refine ch_end ?_
          clear hS
          intro w hS
          have hS2 : St W [blk b _ _, blk bb _ _, sats _] w := hS
          clear hS
          have hS := hS2.unpack [_, _]
          clear hS2
          simp only [List.cons_append, List.nil_append] at hS
          go_wp2_with (first | (refine zl1 hS ?_) | (refine zlN hS ?_) | (refine zs1 hS ?_; clear hS; intro w hS) | (refine zsN hS ?_; clear hS; intro w hS) | (refine zbx hS ?_; clear hS; intro b w hS) | (refine zal hS ?_; clear hS; intro b w hS))
          go_ret2
          first | exact ⟨.inr ⟨i, hil, Hbad.out⟩, rfl, hS.drop.drop.drop.drop⟩ | exact .inl ⟨.inr ⟨i, hil, Hbad.out⟩, rfl, hS.drop.drop.drop.drop⟩
        · by_cases hle : xi ≤ b1.last
          · have Hbad := Lib.hid (show badAt l i = true by rw [hbad, hm]; simp [hle])
            have hd : decide (xi ≤ b1.last) = true := by simpa using hle
            clear hbad
            go_wp2_with (first | (refine zlN hS ?_ (hc := by exact Cells.there (Cells.there hcells))) | (refine zl1 hS ?_) | (refine zlN hS ?_) | (refine zs1 hS ?_; clear hS; intro w hS) | (refine zsN hS ?_; clear hS; intro w hS) | (refine zbx hS ?_; clear hS; intro b w hS) | (refine zal hS ?_; clear hS; intro b w hS))
            refine wp_region_flow3 [0, 1, 3, 7, 15, 31, 15, 79, 207, 463, 1023, 2047] (fun _ => false) (fun i => if i == 1 then some (.bool true) else none) [] [none, none] (by kernel_rfl) (by kernel_rfl) rfl hS CongOk.nil ?_
            intro nd
            (refine zcN ?_)
            (refine zcv ?_ (hs := by (intro F w hS; (try clear hS0); exact mayC_at hm W w _ hS)))
            iterate 2 (refine ch_pure rfl (by kernel_rfl) rfl rfl ?_; intro K hK; go_big_quiet_op; go_big_quiet_on)
            iterate 1 (refine ch_pure rfl (by kernel_rfl) rfl rfl ?_; intro K hK; go_big_quiet_op; go_big_quiet_on)
            (refine zc1 ?_)
            (refine ch_pure rfl (by kernel_rfl) rfl rfl ?_; intro K hK; go_big_quiet_op; go_big_quiet_on)
            (refine zcn ?_)
            (refine ch_pure rfl (by kernel_rfl) rfl rfl ?_; intro K hK; go_big_quiet_op; go_big_quiet_on)
            (refine zc1 ?_ (hc := by (intro F; exact Cell.there (Cell.here hla))))
            iterate 2 (refine ch_pure rfl (by kernel_rfl) rfl rfl ?_; intro K hK; go_big_quiet_op; go_big_quiet_on)
            refine ch_end ?_
            clear hS
            intro w hS
            have hS2 : St W [blk b _ _, blk bb _ _, sats _] w := hS
            clear hS
            have hS := hS2.unpack [_, _]
            clear hS2
            simp only [List.cons_append, List.nil_append] at hS
            go_wp2_with (first | (refine zl1 hS ?_) | (refine zlN hS ?_) | (refine zs1 hS ?_; clear hS; intro w hS) | (refine zsN hS ?_; clear hS; intro w hS) | (refine zbx hS ?_; clear hS; intro b w hS) | (refine zal hS ?_; clear hS; intro b w hS))
            go_ret2
            first | exact ⟨.inr ⟨i, hil, Hbad.out⟩, rfl, hS.drop.drop.drop.drop⟩ | exact .inl ⟨.inr ⟨i, hil, Hbad.out⟩, rfl, hS.drop.drop.drop.drop⟩
          · have hd : decide (xi ≤ b1.last) = false := by simpa using hle
            have hmay := mayB_true.1 hm
            obtain ⟨it, rfl⟩ : ∃ it : Nat, xt = it := ⟨xt.toNat, by have := hmay.item0; simp only at this; omega⟩
            have hit4 : it < 4 := by have := hmay.item1; simp only at this; omega
            have hik : itemK ⟨xi, xu, xy, it, xc, xp⟩ = it := rfl
            have hsim := Hrep.out.sim (o := ⟨xi, xu, xy, it, xc, xp⟩) (it := it) rfl hit4
            have hk8 := sideK_lt it (!xy) hit4
            have hst : bestTo ⟨xi, xu, xy, it, xc, xp⟩ (l.take i) (l.take i).length = none → badAt l i = false ∧ Rep ⟨b1.ps.set (sideK it xy) (pushT (b1.pile (sideK it xy)) ⟨xi, xu, xy, it, xc, xp⟩), xi⟩ (l.take (i + 1)) := fun hbt => by
              refine ⟨by rw [hbad, hm, hbt, hd]; rfl, ?_⟩
              rw [Hts.out]
              exact of_step Hrep.out hl32 hm (show b1.last < xi by omega) hbt
            have hbs : ∀ j, bestTo ⟨xi, xu, xy, it, xc, xp⟩ (l.take i) (l.take i).length = some j → badAt l i = true := fun j hbt => by rw [hbad, hbt]; simp
            have hpl : (Bk.pile ⟨b1.ps, xi⟩ (sideK it xy)).length ≤ 4294967296 := by
              have h6 := pile_le b1 (sideK it xy) (sideK_lt it xy hit4)
              have h7 := Hrep.out.ok.few
              exact Nat.le_trans h6 (by omega)
            have hpl2 : (b1.pile (sideK it (!xy))).length ≤ 32 := Nat.le_trans (pile_le b1 _ hk8) Hrep.out.ok.few
            clear hmay hbad hle
            generalize hkk : sideK it (!xy) = k at hsim hk8 hpl2
            have hk1 : k < vs.length := by omega
            have hk2 : k < b1.ps.length := by omega
            have hpk : b1.ps[k] = b1.pile k := pile_get b1 h2 k hk8
            have hvk : (vs ++ [Value.int .i64 b1.last])[k]? = some vs[k] := by rw [List.getElem?_append_left hk1, List.getElem?_eq_getElem hk1]
            have hside := fun w L hS => side_spec bb it hit4 (!xy) W w L hS
            rw [hkk] at hside
            have Hside := Lib.hid hside
            have Hpl := Lib.hid hpl
            have Hpk := Lib.hid hpk
            clear hside hkk hpl hpk
            have hset : (vs ++ [Value.int .i64 b1.last]).set 8 (.int .i64 xi) = vs ++ [.int .i64 xi] := by rw [List.set_append_right _ _ (by omega), h1]; rfl
            have Hset := Lib.hid hset
            clear hset
            go_wp2_with (first | (refine zlN hS ?_ (hc := by exact Cells.there (Cells.there hcells))) | (refine zl1 hS ?_) | (refine zlN hS ?_) | (refine zs1 hS ?_; clear hS; intro w hS) | (refine zsN hS ?_; clear hS; intro w hS) | (refine zbx hS ?_; clear hS; intro b w hS) | (refine zal hS ?_; clear hS; intro b w hS))
            refine wp_region_flow3 [0, 1, 3, 7, 15, 31, 15, 79, 207, 463, 1023, 2047] (fun _ => false) (fun i => if i == 1 then some (.bool true) else none) [] [none, none] (by kernel_rfl) (by kernel_rfl) rfl hS CongOk.nil ?_
            intro nd
            (refine zcN ?_)
            (refine zcv ?_ (hs := by (intro F w hS; (try clear hS0); exact mayC_at hm W w _ hS)))
            iterate 2 (refine ch_pure rfl (by kernel_rfl) rfl rfl ?_; intro K hK; go_big_quiet_op; go_big_quiet_on)
            iterate 1 (refine ch_pure rfl (by kernel_rfl) rfl rfl ?_; intro K hK; go_big_quiet_op; go_big_quiet_on)
            (refine zc1 ?_)
            (refine ch_pure rfl (by kernel_rfl) rfl rfl ?_; intro K hK; go_big_quiet_op; go_big_quiet_on)
            (refine zcn ?_)
            (refine ch_pure rfl (by kernel_rfl) rfl rfl ?_; intro K hK; go_big_quiet_op; go_big_quiet_on)
            (refine zc1 ?_ (hc := by (intro F; exact Cell.there (Cell.here hla))))
            iterate 2 (refine ch_pure rfl (by kernel_rfl) rfl rfl ?_; intro K hK; go_big_quiet_op; go_big_quiet_on)
            refine ch_end ?_
            clear hS
            intro w hS
            have hS2 : St W [blk b _ _, blk bb _ _, sats _] w := hS
            clear hS
            have hS := hS2.unpack [_, _]
            clear hS2
            simp only [List.cons_append, List.nil_append] at hS
            cases hq : b1.pile k with
            | nil =>
              rw [hq] at hsim
              obtain ⟨hb0, hr0⟩ := hst hsim.best_nil
              have Hok2 := Lib.hid (Hok.out.step hb0)
              have Hst := Lib.hid hr0
              obtain ⟨ba, ca, hvv⟩ := pileVal k hk1 hk2 (hS.take .t2)
              rw [Hpk.out, hq] at hvv
              rw [hvv] at hvk
              clear hb0 hr0 hst hbs hsim hvv hq
              go_wp2_with (first | (go_at_call 204; refine (Hside.out _ _ hS).mono ?_; clear hS; rintro e w ⟨rfl, hS⟩) | (refine zl1 hS ?_) | (refine zlN hS ?_) | (refine zs1 hS ?_; clear hS; intro w hS) | (refine zsN hS ?_; clear hS; intro w hS) | (refine zbx hS ?_; clear hS; intro b w hS) | (refine zal hS ?_; clear hS; intro b w hS))
              refine wp_region_flow2 [0, 1, 3, 7, 15, 31, 63, 63, 191, 447, 959, 1983, 4095, 8191] (fun _ => false) [] [none, none] (by kernel_rfl) (by kernel_rfl) rfl hS CongOk.nil ?_
              intro nd
              (refine ch_pure rfl (by kernel_rfl) rfl rfl ?_; intro K hK; go_big_quiet_op; go_big_quiet_on)
              (refine zcn ?_)
              (refine zc1 ?_ (hc := by (intro F; exact Cell.there (Cell.here hvk))))
              iterate 3 (refine ch_pure rfl (by kernel_rfl) rfl rfl ?_; intro K hK; go_big_quiet_op; go_big_quiet_on)
              iterate 7 (refine ch_skip (by kernel_rfl) rfl ?_; (refine frS ?_))
              (refine ch_pure rfl (by kernel_rfl) rfl rfl ?_; intro K hK; go_big_quiet_op; go_big_quiet_on)
              refine ch_end ?_
              clear hS
              intro w hS
              have hS2 : St W [blk b _ _, blk bb _ _, sats _] w := hS
              clear hS
              have hS := hS2.unpack [_, _]
              clear hS2
              simp only [List.cons_append, List.nil_append] at hS
              replace hS := hS.swap.perm ((List.Perm.swap _ _ _).cons _)
              go_wp2_with (first | ((with_reducible apply wl_st1 hS); (with_reducible rfl); rfl; rfl; (focus ((conv => lhs; whnf); try rfl)); kernel_rfl; rfl; rfl; (exact updS); (simp [h1]); rfl; clear hS; intro w hS; try (refine frS ?_)) | (refine zl1 hS ?_) | (refine zlN hS ?_) | (refine zs1 hS ?_; clear hS; intro w hS) | (refine zsN hS ?_; clear hS; intro w hS) | (refine zbx hS ?_; clear hS; intro b w hS) | (refine zal hS ?_; clear hS; intro b w hS))
              rw [Hset.out] at hS
              have hpl := Hpl.out
              replace hS := bookShut (b := ⟨b1.ps, xi⟩) h1 h2 hS
              refine wp_region_flow3 [0, 0, 2, 0, 8, 31, 63, 0, 128, 511] (fun _ => false) (fun i => if i == 5 then some (.pointer (some ⟨bb, sideK it xy, none⟩)) else if i == 9 then some (.tuple #[]) else none) [⟨some 9, none, fun _ => bookP bb ⟨b1.ps.set (sideK it xy) (pushT (b1.pile (sideK it xy)) ⟨xi, xu, xy, it, xc, xp⟩), xi⟩⟩] [some 9, none] (by kernel_rfl) (by kernel_rfl) rfl hS (CongOk.cons (fun _ _ _ => rfl) CongOk.nil) ?_
              intro nd
              iterate 2 (refine ch_pure rfl (by kernel_rfl) rfl rfl ?_; intro K hK; go_big_quiet_op; go_big_quiet_on)
              (refine zc1 ?_)
              (refine ch_pure rfl (by kernel_rfl) rfl rfl ?_; intro K hK; go_big_quiet_op; go_big_quiet_on)
              (refine zc1 ?_)
              (refine zcv ?_ (hs := by (intro F w hS; (try clear hS0); exact side_spec bb it hit4 xy W w _ hS)))
              (refine ch_pure rfl (by kernel_rfl) rfl rfl ?_; intro K hK; go_big_quiet_op; go_big_quiet_on)
              (refine zcN ?_)
              (refine ch_pure rfl (by kernel_rfl) rfl rfl ?_; intro K hK; go_big_quiet_op; go_big_quiet_on)
              (refine zcv ?_ (hs := by (intro F w hS; (try clear hS0); exact hpush_book bb ⟨b1.ps, xi⟩ _ (sideK_lt it xy hit4) ⟨xi, xu, xy, it, xc, xp⟩ hpl W w _ hS)))
              refine ch_end ?_
              clear hS
              intro w hS
              have hS2 : St W [bookP bb _, blk b _ _, sats _] w := hS
              clear hS
              have hS := hS2.unpack [_, _]
              clear hS2
              simp only [List.cons_append, List.nil_append] at hS
              go_wp2_with (first | (refine zl1 hS ?_) | (refine zlN hS ?_) | (refine zs1 hS ?_; clear hS; intro w hS) | (refine zsN hS ?_; clear hS; intro w hS) | (refine zbx hS ?_; clear hS; intro b w hS) | (refine zal hS ?_; clear hS; intro b w hS))
              go_roundw
              case rel => exact ⟨i + 1, _, rfl, hil, Hok2.out, Hst.out, rfl.trans Hll.out.symm, hS.swap.drop⟩
              case measure => simp [intOf]; omega
            | cons y q =>
              have hS1 := pileTake k hk1 hk2 (hS.take .t2)
              clear hS
              rw [Hpk.out, hq] at hS1
              obtain ⟨ga, gc, hvv⟩ := hS1.rowVal
              have Hvv := Lib.hid hvv
              rw [hvv] at hS1 hvk
              obtain ⟨⟨g2, rfl⟩, hgc, hgn⟩ := St.rowAddr hS1 (by simp)
              have hS := (hS1.take .t2).take .t3
              clear hS1 hvv
              rw [hq] at hsim
              have hy0 : 0 < (y :: q).length := by simp
              have hyc : ∀ {X : List HP}, Cells (pileR (.slice (some ⟨g2, 0, none⟩) (y :: q).length gc) (y :: q) :: X) g2 (0 * 6) (Ord.cells (y :: q)[0]) := fun {X} => Cells.rowE Ord.len hy0
              rw [Nat.zero_mul] at hyc
              have hyc : ∀ {X : List HP}, Cells (pileR (.slice (some ⟨g2, 0, none⟩) (y :: q).length gc) (y :: q) :: X) g2 0 (Ord.cells y) := hyc
              have hql : (y :: q).length ≤ 32 := by rw [← hq]; exact hpl2
              cases hmt : meetO ⟨xi, xu, xy, it, xc, xp⟩ y
              · obtain ⟨hb0, hr0⟩ := hst (hsim.best_no hmt)
                have Hok2 := Lib.hid (Hok.out.step hb0)
                have Hst := Lib.hid hr0
                have Hq := Lib.hid hq
                clear hb0 hr0 hst hbs hsim hq
                generalize hyq : y :: q = yq at *
                have hy1 : 0 < yq.length := by rw [← hyq]; simp
                obtain ⟨yi, yu, yy, yt, yc, yp⟩ := y
                simp only [Ord.cells] at hyc
                clear hyq
                go_wp2_with (first | (go_at_call 204; refine (Hside.out _ _ hS).mono ?_; clear hS; rintro e w ⟨rfl, hS⟩) | (refine zl1 hS ?_) | (refine zlN hS ?_) | (refine zs1 hS ?_; clear hS; intro w hS) | (refine zsN hS ?_; clear hS; intro w hS) | (refine zbx hS ?_; clear hS; intro b w hS) | (refine zal hS ?_; clear hS; intro b w hS))
                refine wp_region_flow3 [0, 1, 3, 7, 15, 31, 63, 63, 191, 447, 959, 1983, 4095, 8191] (fun _ => false) (fun i => if i == 12 then some (.bool false) else none) [] [none, none, none] (by kernel_rfl) (by kernel_rfl) rfl hS CongOk.nil ?_
                intro nd
                (refine ch_pure rfl (by kernel_rfl) rfl rfl ?_; intro K hK; go_big_quiet_op; go_big_quiet_on)
                (refine zcn ?_)
                (refine zc1 ?_ (hc := by (intro F; exact Cell.here hvk)))
                iterate 3 (refine ch_pure rfl (by kernel_rfl) rfl rfl ?_; intro K hK; go_big_quiet_op; go_big_quiet_on)
                (refine zcN ?_)
                (refine ch_pure rfl (by kernel_rfl) rfl rfl ?_; intro K hK; go_big_quiet_op; go_big_quiet_on)
                (refine zcn ?_)
                (refine zc1 ?_ (hc := by (intro F; exact Cell.here hvk)))
                (refine ch_pure rfl (by kernel_rfl) rfl rfl ?_; intro K hK; go_big_quiet_op; go_big_quiet_on)
                (refine zcN ?_ (hc := by (intro F; exact Cells.there (Cells.there hyc))))
                (refine zcv ?_ (hs := by (intro F w hS; (try clear hS0); exact meetC_at hmt W w _ hS)))
                (refine ch_pure rfl (by kernel_rfl) rfl rfl ?_; intro K hK; go_big_quiet_op; go_big_quiet_on)
                refine ch_end ?_
                clear hS
                intro w hS
                have hS2 : St W [blk bb _ _, blk b _ _, pileR _ _, sats _] w := hS
                clear hS
                have hS := hS2.unpack [_, _, _]
                clear hS2
                simp only [List.cons_append, List.nil_append] at hS
                replace hS := (hS.take .t3).take .t3
                have hS4 := pileBack k hk1 hk2 hS
                clear hS
                rw [← Hvv.out, ← Hq.out, ← Hpk.out, List.set_getElem_self, List.set_getElem_self] at hS4
                have hS := hS4.swap
                clear hS4
                go_wp2_with (first | ((with_reducible apply wl_st1 hS); (with_reducible rfl); rfl; rfl; (focus ((conv => lhs; whnf); try rfl)); kernel_rfl; rfl; rfl; (exact updS); (simp [h1]); rfl; clear hS; intro w hS; try (refine frS ?_)) | (refine zl1 hS ?_) | (refine zlN hS ?_) | (refine zs1 hS ?_; clear hS; intro w hS) | (refine zsN hS ?_; clear hS; intro w hS) | (refine zbx hS ?_; clear hS; intro b w hS) | (refine zal hS ?_; clear hS; intro b w hS))
                rw [Hset.out] at hS
                have hpl := Hpl.out
                replace hS := bookShut (b := ⟨b1.ps, xi⟩) h1 h2 hS
                refine wp_region_flow3 [0, 0, 2, 0, 8, 31, 63, 0, 128, 511] (fun _ => false) (fun i => if i == 5 then some (.pointer (some ⟨bb, sideK it xy, none⟩)) else if i == 9 then some (.tuple #[]) else none) [⟨some 9, none, fun _ => bookP bb ⟨b1.ps.set (sideK it xy) (pushT (b1.pile (sideK it xy)) ⟨xi, xu, xy, it, xc, xp⟩), xi⟩⟩] [some 9, none] (by kernel_rfl) (by kernel_rfl) rfl hS (CongOk.cons (fun _ _ _ => rfl) CongOk.nil) ?_
                intro nd
                iterate 2 (refine ch_pure rfl (by kernel_rfl) rfl rfl ?_; intro K hK; go_big_quiet_op; go_big_quiet_on)
                (refine zc1 ?_)
                (refine ch_pure rfl (by kernel_rfl) rfl rfl ?_; intro K hK; go_big_quiet_op; go_big_quiet_on)
                (refine zc1 ?_)
                (refine zcv ?_ (hs := by (intro F w hS; (try clear hS0); exact side_spec bb it hit4 xy W w _ hS)))
                (refine ch_pure rfl (by kernel_rfl) rfl rfl ?_; intro K hK; go_big_quiet_op; go_big_quiet_on)
                (refine zcN ?_)
                (refine ch_pure rfl (by kernel_rfl) rfl rfl ?_; intro K hK; go_big_quiet_op; go_big_quiet_on)
                (refine zcv ?_ (hs := by (intro F w hS; (try clear hS0); exact hpush_book bb ⟨b1.ps, xi⟩ _ (sideK_lt it xy hit4) ⟨xi, xu, xy, it, xc, xp⟩ hpl W w _ hS)))
                refine ch_end ?_
                clear hS
                intro w hS
                have hS2 : St W [bookP bb _, blk b _ _, sats _] w := hS
                clear hS
                have hS := hS2.unpack [_, _]
                clear hS2
                simp only [List.cons_append, List.nil_append] at hS
                go_wp2_with (first | (refine zl1 hS ?_) | (refine zlN hS ?_) | (refine zs1 hS ?_; clear hS; intro w hS) | (refine zsN hS ?_; clear hS; intro w hS) | (refine zbx hS ?_; clear hS; intro b w hS) | (refine zal hS ?_; clear hS; intro b w hS))
                go_roundw
                case rel => exact ⟨i + 1, _, rfl, hil, Hok2.out, Hst.out, rfl.trans Hll.out.symm, hS.swap.drop⟩
                case measure => simp [intOf]; omega
              · obtain ⟨j, hj, _⟩ := hsim.best_yes hmt
                have Hbad := Lib.hid (hbs j hj)
                clear hst hbs hsim hj hq
                generalize hyq : y :: q = yq at *
                have hy1 : 0 < yq.length := by rw [← hyq]; simp
                obtain ⟨yi, yu, yy, yt, yc, yp⟩ := y
                simp only [Ord.cells] at hyc
                clear hyq
                go_wp2_with (first | (go_at_call 204; refine (Hside.out _ _ hS).mono ?_; clear hS; rintro e w ⟨rfl, hS⟩) | (refine zl1 hS ?_) | (refine zlN hS ?_) | (refine zs1 hS ?_; clear hS; intro w hS) | (refine zsN hS ?_; clear hS; intro w hS) | (refine zbx hS ?_; clear hS; intro b w hS) | (refine zal hS ?_; clear hS; intro b w hS))
                refine wp_region_flow3 [0, 1, 3, 7, 15, 31, 63, 63, 191, 447, 959, 1983, 4095, 8191] (fun _ => false) (fun i => if i == 12 then some (.bool true) else none) [] [none, none, none] (by kernel_rfl) (by kernel_rfl) rfl hS CongOk.nil ?_
                intro nd
                (refine ch_pure rfl (by kernel_rfl) rfl rfl ?_; intro K hK; go_big_quiet_op; go_big_quiet_on)
                (refine zcn ?_)
                (refine zc1 ?_ (hc := by (intro F; exact Cell.here hvk)))
                iterate 3 (refine ch_pure rfl (by kernel_rfl) rfl rfl ?_; intro K hK; go_big_quiet_op; go_big_quiet_on)
                (refine zcN ?_)
                (refine ch_pure rfl (by kernel_rfl) rfl rfl ?_; intro K hK; go_big_quiet_op; go_big_quiet_on)
                (refine zcn ?_)
                (refine zc1 ?_ (hc := by (intro F; exact Cell.here hvk)))
                (refine ch_pure rfl (by kernel_rfl) rfl rfl ?_; intro K hK; go_big_quiet_op; go_big_quiet_on)
                (refine zcN ?_ (hc := by (intro F; exact Cells.there (Cells.there hyc))))
                (refine zcv ?_ (hs := by (intro F w hS; (try clear hS0); exact meetC_at hmt W w _ hS)))
                (refine ch_pure rfl (by kernel_rfl) rfl rfl ?_; intro K hK; go_big_quiet_op; go_big_quiet_on)
                refine ch_end ?_
                clear hS
                intro w hS
                have hS2 : St W [blk bb _ _, blk b _ _, pileR _ _, sats _] w := hS
                clear hS
                have hS := hS2.unpack [_, _, _]
                clear hS2
                simp only [List.cons_append, List.nil_append] at hS
                go_wp2_with fail
                go_ret2
                first | exact ⟨.inr ⟨i, hil, Hbad.out⟩, rfl, hS.drop.drop.drop.drop.drop⟩ | exact .inl ⟨.inr ⟨i, hil, Hbad.out⟩, rfl, hS.drop.drop.drop.drop.drop⟩
  · have h32' : (32 : Int) < (l.length : Int) := by omega
    go_enter Tryz.func167, Tryz.ntmps167
    go_wp2_with fail
    go_ret2
    first | exact ⟨.inl (by omega), rfl, hS.drop⟩ | exact .inl ⟨.inl (by omega), rfl, hS.drop⟩
end Go.Proofs.YtlmhakmoioogaaaGreat
end
