/-
  The vault's Order. For every vault and order.
  A nil vault; the law's own known.
  The vault's Cancel: who looks for an order. For every vault.
  The vault's Cancel: the walk. For every vault.
  The vault's Order where there is no room. For every vault and order.
  The vault's Cancel in all cases. For every vault.
  A map's keys, sorted: from a map as a resource to the library's contracts on slices.Sorted(maps.Keys(m)), and back to a row as a resource. Over any program.
  The library's contracts laid at this program: written by the kit's tool lay-plain.
-/
import Derived.Test.YtbcokphjpllbiaaGreatVaultDecodesM5
import Derived.Test.YtbcokphjpllbiaaGreatVaultDecodesM6
import Derived.Test.YtbcokphjpllbiaaGreatVaultDecodesM16
import Derived.Shelf.SlIter.Nil
import Derived.Shelf.SlIterI.Nil
import Derived.Test.YtbcokphjpllbiaaGreatProg
import Derived.Shelf.SortM.Plain
import Derived.Shelf.SortM.SortNone
import Derived.Ground.GgzProg
import Derived.Ground.SlgmProg
section
set_option linter.unusedSimpArgs false
set_option linter.unusedVariables false
namespace Go.Sl
open Go.RowKit
/-- A part of a value of several. -/
def extrV (v : Value) (i : Nat) : Value := match v with
  | .tuple vs => vs.getD i undef
  | _ => undef
section
variable {P : Program} {W : World} {ops : Array Oper} {t : List Nat} {toks : List Tok} {fresh : Nat → Bool} {pin : Nat → Option Value} {Qf : Act → Prop} {nd : Nat → Value} {i : Nat} {l : List Oper} {a : Act} {o : Oper}
theorem ch_extr {x : Operand} {k : Nat} {v : Value} (hf : fresh i = false) (hn : noTok toks i = true) (ho : o.op = .extract x k) (hg : Region.wanted o (yielded ops a.tmps) = true) (hx : a.eval x = v)
    (hv : ∀ F w, St W (kpL toks t i nd ++ F) w → ∃ vs : Array Value, v = .tuple vs ∧ vs.size = 3) (hk : k < 3) (h : Chain P W ops t toks fresh pin Qf nd (i + 1) l (a.put o.dst (extrV v k))) : Chain P W ops t toks fresh pin Qf nd i (o :: l) a :=
  ch_val hf hn hg (fun F w hS => by
    obtain ⟨vs, rfl, hs⟩ := hv F w hS
    have e : vs[k]? = some (vs[k]'(by omega)) := Array.getElem?_eq_getElem (by omega)
    have e2 : extrV (.tuple vs) k = vs[k]'(by omega) := by
      show vs.getD k undef = _
      simp [Array.getD, hs, hk]
    unfold execOp
    simp [ho, hx, Instr.extract, e, e2]) h
end
end Go.Sl
namespace Go.Proofs.YtbcokphjpllbiaaGreat
open Go.RowKit Go.Sl
theorem holds_at {o : Ord} {h0 h1 h2 h3 : Int} (hm : MayP o) (h : holdsF o = ⟨h0, h1, h2, h3⟩) (W w : World) (R : List HP) (hS : St W R w) :
    Calls Tryz.prog 52 #[.agg o.cells.toArray] w fun e w' => e = .returned (.agg #[.int .i64 h0, .int .i64 h1, .int .i64 h2, .int .i64 h3]) ∧ St W R w' :=
  (holds_spec o hm W w R hS).mono fun e w' ⟨he, hS⟩ => ⟨by rw [he, h]; rfl, hS⟩
def may1 (o : Ord) : Bool := mayB { o with id := 1 }
section
variable (vb mb bb : Nat) (p : Ps) (L : List Ord) (n : Int) (o : Ord) (W w : World) (R : List HP)
/-- The trades of an offer, what stands behind it. -/
def runT (L : List Ord) (o : Ord) : List Trd := (refLoop (L.length + 1) o L []).2.2
def runL (L : List Ord) (o : Ord) : List Ord := if 0 < (refLoop (L.length + 1) o L []).1.cnt then (refLoop (L.length + 1) o L []).2.1 ++ [(refLoop (L.length + 1) o L []).1] else (refLoop (L.length + 1) o L []).2.1
theorem placeL_spec (hm : MayP o) (hid : o.id = n) (hL : L.length < 32) (hS : St W (bookL bb L n :: R) w) :
    Calls Tryz.prog 53 #[.pointer (some ⟨bb, 0, none⟩), .agg o.cells.toArray] w fun e w' => ∃ a c left, e = .returned (.tuple #[.slice a (runT L o).length c, .int .i64 left, .int .i64 0]) ∧ St W (bookL bb (runL L o) (n + 1) :: tradesR (.slice a (runT L o).length c) (runT L o) :: R) w' := by
  obtain ⟨b, hr, hl, hS⟩ := bookLOpen hS
  have hno : ¬ (mayB o = false ∨ o.id ≤ b.last) := by rintro (h | h); (rw [mayB_true.2 hm] at h; cases h); omega
  refine (place_at bb hr o W w R hS).mono ?_
  rintro e w' ⟨b', ts, a, c, ⟨ht, hla, hrep, _⟩, rfl, hS⟩
  unfold placeR at ht hla hrep ⊢
  rw [if_neg hno, if_neg (by omega)] at ht hla hrep ⊢
  dsimp only at ht hla hrep ⊢
  have e1 : ts = runT L o := ht
  subst e1
  exact ⟨a, c, _, rfl, bookLShut hrep (by rw [hla, hid]; omega) hS⟩
structure TrB (t : Trd) : Prop where
  cnt : 0 ≤ t.cnt ∧ t.cnt ≤ 1048576
  item : 0 ≤ t.item ∧ t.item ≤ 3
  price : 0 ≤ t.price ∧ t.price ≤ 1024
  bid : 0 ≤ t.bid - t.price ∧ t.bid - t.price ≤ 1024
end
theorem tradeB {o x : Ord} (hx : MayP x) (ho : 0 ≤ o.cnt ∧ o.cnt ≤ 1048576 ∧ 1 ≤ o.item ∧ o.item ≤ 3 ∧ o.price ≤ 1024) (hm : meetR o x = true) : TrB (tradeR o x) := by
  unfold meetR at hm
  simp only [Bool.and_eq_true, decide_eq_true_eq] at hm
  obtain ⟨_, h3⟩ := hm
  have hc : 0 ≤ minI o.cnt x.cnt ∧ minI o.cnt x.cnt ≤ 1048576 := by
    have := hx.cnt0
    unfold minI
    split <;> omega
  have h1 := hx.price0
  have h2 := hx.price1
  unfold tradeR
  cases hb : o.buy
  · rw [if_neg (by simp)]
    exact ⟨hc, ⟨by simp only; omega, by simp only; omega⟩, ⟨by simp only; omega, by simp only; omega⟩, by simp only; omega, by simp only; omega⟩
  · rw [hb] at h3
    simp only [if_true, decide_eq_true_eq] at h3
    rw [if_pos rfl]
    exact ⟨hc, ⟨by simp only; omega, by simp only; omega⟩, ⟨by simp only; omega, by simp only; omega⟩, by simp only; omega, by simp only; omega⟩
theorem trades_ok : ∀ (f : Nat) (o : Ord) (L : List Ord) (ts : List Trd), (∀ x ∈ L, MayP x) → (0 ≤ o.cnt ∧ o.cnt ≤ 1048576 ∧ 1 ≤ o.item ∧ o.item ≤ 3 ∧ o.price ≤ 1024) → (∀ t ∈ ts, TrB t) → ∀ t ∈ (refLoop f o L ts).2.2, TrB t
  | 0, o, L, ts, _, _, h => h
  | f + 1, o, L, ts, hL, ho, h => by
    rw [refLoop]
    by_cases h0 : 0 < o.cnt
    · rw [if_pos h0]
      cases hb : bestTo o L L.length with
      | none => exact h
      | some k =>
        obtain ⟨hk, hm, _⟩ := best_some hb
        have hx := hL _ (at'_mem hk)
        have hx0 := hx.cnt0
        have hmin := minI_pos h0 (show 0 < (at' L k).cnt by omega)
        refine trades_ok f _ _ _ ?_ ⟨by simp only; omega, by simp only; omega, ho.2.2.1, ho.2.2.2.1, ho.2.2.2.2⟩ ?_
        · unfold cutR
          split
          · exact fun x hx => hL x (List.mem_of_mem_eraseIdx hx)
          · intro x hxm
            rcases List.mem_or_eq_of_mem_set hxm with hx' | rfl
            · exact hL x hx'
            · exact may_cnt hx (by omega) (by omega)
        · intro t ht
          rcases List.mem_append.1 ht with ht | ht
          · exact h t ht
          · rw [List.mem_singleton.1 ht]
            exact tradeB hx ho hm
    · rw [if_neg h0]
      exact h
def payT (p : Ps) (t : Trd) : Ps := giveP (giveP (giveP p t.buyer t.item t.cnt) t.buyer 0 (t.cnt * (t.bid - t.price))) t.seller 0 (t.cnt * t.price)
theorem psOk_pay {p : Ps} (h : PsOk p) {t : Trd} (ht : TrB t) : PsOk (payT p t) := by
  have h1 := mul_in ht.cnt.1 ht.cnt.2 ht.price.1 ht.price.2
  have h2 := mul_in ht.cnt.1 ht.cnt.2 ht.bid.1 ht.bid.2
  exact psOk_give (psOk_give (psOk_give h _ _ ht.cnt.1) _ _ h2.1) _ _ h1.1
theorem psOk_pays : ∀ (ts : List Trd) {p : Ps}, PsOk p → (∀ t ∈ ts, TrB t) → PsOk (ts.foldl payT p)
  | [], _, h, _ => h
  | t :: ts, _, h, ht => psOk_pays ts (psOk_pay h (ht t (List.mem_cons_self ..))) fun x hx => ht x (List.mem_cons_of_mem _ hx)
/-- What Place yields. -/
def plR (bb : Nat) (L : List Ord) (m : Int) (ts : List Trd) (v : Value) : HP := fun f => ∃ (a : Option Addr) (c : Nat) (left : Int), v = .tuple #[.slice a ts.length c, .int .i64 left, .int .i64 0] ∧ sats [bookL bb L m, tradesR (.slice a ts.length c) ts] f
section
variable {W w : World} {bb : Nat} {L : List Ord} {m n : Int} {ts : List Trd} {v : Value} {R : List HP}
theorem plOpen (h : St W (plR bb L m ts v :: R) w) : ∃ a c left, v = .tuple #[.slice a ts.length c, .int .i64 left, .int .i64 0] ∧ St W (bookL bb L m :: tradesR (.slice a ts.length c) ts :: R) w := by
  obtain ⟨a, h⟩ := St.ex h
  obtain ⟨c, h⟩ := St.ex h
  obtain ⟨left, h⟩ := St.ex h
  obtain ⟨h1, h⟩ := St.and h
  refine ⟨a, c, left, h1, ?_⟩
  exact (St.split (St.split h).swap).swap.drop.swap
theorem plShut {a : Option Addr} {c : Nat} {left : Int} (hv : v = .tuple #[.slice a ts.length c, .int .i64 left, .int .i64 0]) (h : St W (bookL bb L m :: tradesR (.slice a ts.length c) ts :: R) w) : St W (plR bb L m ts v :: R) w := by
  refine St.mkEx a (St.mkEx c (St.mkEx left (St.mkAnd hv ?_)))
  refine St.join ?_
  refine St.swap (St.imp h.swap ?_)
  intro f hf
  exact ⟨fun _ => true, hf, trivial⟩
theorem plTup {L1 R1 : List HP} (hS : St W L1 w) (hu : Take L1 (plR bb L m ts v) R1) : ∃ vs : Array Value, v = .tuple vs ∧ vs.size = 3 := by
  obtain ⟨a, c, left, h, _⟩ := plOpen (hS.take hu)
  exact ⟨_, h, rfl⟩
theorem placeF {o : Ord} {L2 : List Ord} (hm : MayP o) (hid : o.id = n) (hL : L.length < 32) (h1 : runL L o = L2) (h2 : runT L o = ts) (hS : St W (bookL bb L n :: R) w) :
    Calls Tryz.prog 53 #[.pointer (some ⟨bb, 0, none⟩), .agg o.cells.toArray] w fun e w' => ∃ v, e = .returned v ∧ St W (plR bb L2 (n + 1) ts v :: R) w' := by
  subst h1 h2
  refine (placeL_spec bb L n o W w R hm hid hL hS).mono ?_
  rintro e w' ⟨a, c, left, rfl, hS⟩
  exact ⟨_, rfl, plShut rfl hS⟩
end
def OrR (W : World) (F : Ps → List HP) (p : Ps) (ts : List Trd) (v : Value) (w : World) : Prop :=
  ∃ (k : Nat), v = .int .i64 k ∧ k ≤ ts.length ∧ St W (F ((ts.take k).foldl payT p)) w
section
variable (vb mb bb : Nat) (p : Ps) (L : List Ord) (n : Int) (o : Ord) (W w : World) (R : List HP)
set_option maxRecDepth 100000 in
set_option maxHeartbeats 8000000 in
theorem order_ok (hp : PsOk p) (h : may1 o = true) (hn0 : 1 ≤ n) (hn : n ≤ 1099511627776) (hL : L.length < 32) (ht : takeE p o.who (holdsF o) = 0) (hS : St W (vaultL vb mb bb p L n R) w) :
    Calls Tryz.prog 13 #[.pointer (some ⟨vb, 0, none⟩), .agg o.cells.toArray] w fun e w' => e = .returned (.tuple #[.int .i64 n, .int .i64 0]) ∧
      St W (vaultL vb mb bb ((runT L { o with id := n }).foldl payT (takeP p o.who (holdsF o))) (runL L { o with id := n }) (n + 1) R) w' := by
  have hLm := bookL_each hS.drop.drop
  obtain ⟨i, u, y, t, c, pr⟩ := o
  have hm : mayB ⟨1, u, y, t, c, pr⟩ = true := h
  have hm1 := mayB_true.1 hm
  have hmn : MayP ⟨n, u, y, t, c, pr⟩ := ⟨hn0, hn, hm1.who0, hm1.who1, hm1.item0, hm1.item1, hm1.cnt0, hm1.cnt1, hm1.price0, hm1.price1⟩
  have hok1 : PsOk (takeP p u (holdsF ⟨1, u, y, t, c, pr⟩)) := psOk_take hp _ _
  have htr : ∀ x ∈ runT L ⟨n, u, y, t, c, pr⟩, TrB x := trades_ok _ _ _ _ (fun x hx => (hLm x hx).1) ⟨by have := hmn.cnt0; simp only at this ⊢; omega, hmn.cnt1, hmn.item0, hmn.item1, hmn.price1⟩ (fun x hx => (by cases hx))
  have ht' : takeE p u (holdsF ⟨1, u, y, t, c, pr⟩) = 0 := ht
  have eh : holdsF ⟨i, u, y, t, c, pr⟩ = holdsF ⟨1, u, y, t, c, pr⟩ := rfl
  simp only [eh]
  obtain ⟨p1, hp1⟩ : ∃ x, takeP p u (holdsF ⟨1, u, y, t, c, pr⟩) = x := ⟨_, rfl⟩
  rw [hp1] at hok1
  simp only [hp1]
  obtain ⟨it, hit⟩ : ∃ x, holdsF ⟨1, u, y, t, c, pr⟩ = x := ⟨_, rfl⟩
  rw [hit] at ht' hp1
  obtain ⟨h0, h1, h2, h3⟩ := it
  obtain ⟨ts, hts⟩ : ∃ x, runT L ⟨n, u, y, t, c, pr⟩ = x := ⟨_, rfl⟩
  obtain ⟨L2, hL2⟩ : ∃ x, runL L ⟨n, u, y, t, c, pr⟩ = x := ⟨_, rfl⟩
  simp only [hts, hL2]
  rw [hts] at htr
  have Hts := Lib.hid hts
  have HL2 := Lib.hid hL2
  clear hts hL2
  have Hm := Lib.hid hm
  have Hit := Lib.hid hit
  have Hte := Lib.hid ht'
  have Htp := Lib.hid hp1
  have Hok := Lib.hid hok1
  have Htr := Lib.hid htr
  have d1 : decide ((32 : Int) ≤ (L.length : Int)) = false := by simp; omega
  have d2 : decide ((1099511627776 : Int) < n) = false := by simp; omega
  clear hit ht' hp1 h ht eh hok1 htr hLm hm1 hp
  simp only [Ord.cells]
  go_enter Tryz.func13, Tryz.ntmps13
  go_wp2_with (first | go_big_skip | ((with_reducible apply wl_bsR (n := 1) (l := [(⟨1, u, y, t, c, pr⟩ : Ord)].flatMap Ord.cells) hS); (with_reducible rfl); rfl; (focus (simp only [fD, List.map_cons, List.map_nil, Act.eval, fE, fF, fG, fH, Option.getD_some]; try rfl)); (exact esS); (exact rsS); rfl; rfl; rfl; rfl; rfl; decide; clear hS; intro bv w hS; (refine frS ?_)) | (go_at_call 40; refine (of1_spec ⟨1, u, y, t, c, pr⟩ rfl _ W _ _ hS).mono ?_; clear hS; rw [hm]; rintro e w ⟨vu, rfl, hS⟩) | (go_at_call 51; refine (lenL_spec (hS.sel (L' := bookL bb L n :: _ :: blk vb _ _ :: amap eS eP mb p :: R) (by exact selS))).mono ?_; clear hS; rintro e w ⟨rfl, hS⟩) | (refine zl1 hS ?_) | (refine zlN hS ?_) | (refine zs1 hS ?_; clear hS; intro w hS) | (refine zsN hS ?_; clear hS; intro w hS) | (refine zbx hS ?_; clear hS; intro b w hS) | (refine zal hS ?_; clear hS; intro b w hS))
  refine wp_region_tail 5 (by kernel_rfl) (by kernel_rfl) hS ?_
  repeat (first | go_big_quiet_skip | (refine zq1 ?_) | (refine zqN ?_) | (refine zqn ?_) | (apply wq_call; rfl; (intro w; apply exec_callF; (with_reducible rfl); decide +kernel; (focus (simp only [fD, List.map_cons, List.map_nil, Act.eval, fE, fF, fG, fH, Option.getD_some]; try rfl))); (intro w hS; exact holds_at (mayB_true.1 Hm.out) Hit.out W w _ hS); (refine frS ?_)) | (refine wq_pure rfl rfl ?_; intro K hK; go_big_quiet_op; go_big_quiet_on))
  clear hS
  intro w hS
  simp only [List.drop_succ_cons, List.drop_zero]
  go_wp2_with (first | go_big_skip | (go_at_call 19; refine (take_spec vb mb p u _ _ ⟨h0, h1, h2, h3⟩ W _ _ (hS.sel (L' := blk vb _ _ :: amap eS eP mb p :: bookL bb L n :: blk b _ _ :: R) (by exact selS))).mono ?_; clear hS; rw [Hte.out, Htp.out]; rintro e w ⟨rfl, hS⟩) | (refine zl1 hS ?_) | (refine zlN hS ?_) | (refine zs1 hS ?_; clear hS; intro w hS) | (refine zsN hS ?_; clear hS; intro w hS) | (refine zbx hS ?_; clear hS; intro b w hS) | (refine zal hS ?_; clear hS; intro b w hS))
  have hS := hS.sel (L' := bookL bb L n :: blk b _ _ :: blk vb _ _ :: amap eS eP mb p1 :: R) (by exact selS)
  refine wp_region_flow3 [0, 1, 3, 7, 0, 31, 63, 127, 127, 127, 255, 1535, 4095] (fun i => i == 5) (fun _ => none) [⟨some 5, none, fun nd => plR bb L2 (n + 1) ts (nd 5)⟩] [some 5, none, none, none] (by kernel_rfl) (by kernel_rfl) rfl hS (CongOk.cons (fun nd nd' h => by dsimp only; rw [h 5 rfl rfl]) CongOk.nil) ?_
  intro nd
  (refine ch_pure rfl (by kernel_rfl) rfl rfl ?_; intro K hK; go_big_quiet_op; go_big_quiet_on)
  (refine zcn ?_)
  (refine ch_pure rfl (by kernel_rfl) rfl rfl ?_; intro K hK; go_big_quiet_op; go_big_quiet_on)
  (refine zc1 ?_)
  (refine zcN ?_)
  (apply ch_callN; rfl; rfl; (with_reducible rfl); decide +kernel; (focus (simp only [fD, List.map_cons, List.map_nil, Act.eval, fE, fF, fG, fH, Option.getD_some]; try rfl)); (intro _; rfl); (intro F w hS; exact placeF (o := ⟨n, u, y, t, c, pr⟩) hmn rfl hL HL2.out Hts.out hS); (refine frS ?_))
  (refine ch_pure rfl (by kernel_rfl) rfl rfl ?_; intro K hK; go_big_quiet_op; go_big_quiet_on)
  (apply ch_extr (v := nd 5); rfl; kernel_rfl; (with_reducible rfl); rfl; rfl; (intro F w hS; exact plTup hS (by exact takO)); decide; (refine frS ?_))
  (apply ch_extr (v := nd 5); rfl; kernel_rfl; (with_reducible rfl); rfl; rfl; (intro F w hS; exact plTup hS (by exact takO)); decide; (refine frS ?_))
  (apply ch_extr (v := nd 5); rfl; kernel_rfl; (with_reducible rfl); rfl; rfl; (intro F w hS; exact plTup hS (by exact takO)); decide; (refine frS ?_))
  iterate 3 (refine ch_pure rfl (by kernel_rfl) rfl rfl ?_; intro K hK; go_big_quiet_op; go_big_quiet_on)
  refine ch_end ?_
  clear hS
  intro w hS
  have hS2 : St W [plR bb _ _ _ (nd 5), blk b _ _, blk vb _ _, amap eS eP mb p1, sats R] w := hS
  clear hS
  have hS := hS2.unpack [_, _, _, _]
  clear hS2
  simp only [List.cons_append, List.nil_append] at hS
  generalize nd 5 = v5 at *
  obtain ⟨ta, tc, left, hv5, hS5⟩ := plOpen hS
  clear hS
  subst hv5
  have hS := hS5
  clear hS5
  simp only [extrV, Array.getD_eq_getD_getElem?, List.getElem?_toArray, List.getElem?_cons_zero, List.getElem?_cons_succ, Option.getD_some]
  have htr := Htr.out
  have hll : ts.length ≤ 9223372036854775807 := by
    rcases St.rowCase hS.drop with ⟨_, h0, _⟩ | ⟨_, _, q1, q2⟩
    · omega
    · omega
  have hS := hS.sel (L' := blk vb _ _ :: amap eS eP mb p1 :: bookL bb L2 (n + 1) :: tradesR (.slice ta ts.length tc) ts :: blk b _ _ :: R) (by exact selS)
  go_wp2_with (first | go_big_skip | (refine zl1 hS ?_) | (refine zlN hS ?_) | (refine zs1 hS ?_; clear hS; intro w hS) | (refine zsN hS ?_; clear hS; intro w hS) | (refine zbx hS ?_; clear hS; intro b w hS) | (refine zal hS ?_; clear hS; intro b w hS))
  go_loopw [75] (fun v wr => OrR W (fun q => [blk vb [.map (some mb), .pointer (some ⟨bb, 0, none⟩), .int .i64 (n + 1)] 80, amap eS eP mb q, bookL bb L2 (n + 1), tradesR (.slice ta ts.length tc) ts, blk b [.int .i64 n, .string u, .bool y, .int .i64 t, .int .i64 c, .int .i64 pr] 41] ++ R) p1 ts v wr) (fun v _ => ts.length - (intOf v).toNat)
  case atStart => exact ⟨0, rfl, Nat.zero_le _, hS⟩
  case round =>
    clear hS
    obtain ⟨k, rfl, hk, hS⟩ := hrel
    simp only [List.cons_append, List.nil_append] at hS
    by_cases hkn : k = ts.length
    · subst hkn
      rw [List.take_length] at hS
      go_wp2_with (first | go_big_skip | (refine zl1 hS ?_) | (refine zlN hS ?_) | (refine zs1 hS ?_; clear hS; intro w hS) | (refine zsN hS ?_; clear hS; intro w hS) | (refine zbx hS ?_; clear hS; intro b w hS) | (refine zal hS ?_; clear hS; intro b w hS))
      go_ret2
      exact ⟨rfl, hS.sel (by exact selS)⟩
    · have hk1 : k < ts.length := by omega
      clear hkn hk
      obtain ⟨⟨g, rfl⟩, hcap, hcn⟩ := St.rowAddr hS.drop.drop.drop (by omega)
      have hcells : ∀ {K K' : List HP}, Take K (tradesR (.slice (some ⟨g, 0, none⟩) ts.length tc) ts) K' → Cells K g (k * 8) (Trd.cells ts[k]) := fun hu => Cells.elemM (enc := Trd.cells) Trd.len hu hk1
      have hq : PsOk ((ts.take k).foldl payT p1) := psOk_pays _ Hok.out fun x hx => htr x (List.mem_of_mem_take hx)
      have hstep : (ts.take (k + 1)).foldl payT p1 = payT ((ts.take k).foldl payT p1) ts[k] := by
        rw [List.take_succ_eq_append_getElem hk1, List.foldl_append]; rfl
      have hb := htr _ (List.getElem_mem hk1)
      have Hstep := Lib.hid hstep
      have Hq := Lib.hid hq
      clear hstep hq
      generalize (ts.take k).foldl payT p1 = q at hS Hstep Hq
      generalize ts[k] = x at hcells Hstep hb
      obtain ⟨xb, xs, xi, xj, xt, xc, xp, xd⟩ := x
      obtain ⟨⟨c0, c1⟩, ⟨t0, t1⟩, ⟨p0, p1'⟩, ⟨b0, b1⟩⟩ := hb
      simp only at c0 c1 t0 t1 p0 p1' b0 b1
      have m1 := mul_in c0 c1 b0 b1
      have m2 := mul_in c0 c1 p0 p1'
      have n1 : xc * (xd - xp) ≤ 9223372036854775807 := by omega
      have n2 : -9223372036854775808 ≤ xc * (xd - xp) := by omega
      have n3 : xc * xp ≤ 9223372036854775807 := by omega
      have n4 : -9223372036854775808 ≤ xc * xp := by omega
      simp only [Trd.cells] at hcells
      have G1 := Lib.hid (show ∀ y, isIt (purseA q y) = true from Hq.out)
      have G2 := Lib.hid (show ∀ y, isIt (purseA (giveP q xb xt xc) y) = true from psOk_give Hq.out _ _ c0)
      have G3 := Lib.hid (show ∀ y, isIt (purseA (giveP (giveP q xb xt xc) xb 0 (xc * (xd - xp))) y) = true from psOk_give (psOk_give Hq.out _ _ c0) _ _ m1.1)
      go_wp2_with (first | go_big_skip | (refine zlN hS ?_ (hc := by exact hcells (.tail (.tail (.tail .head))))) | (refine zlN hS ?_ (hc := by exact hcells (.tail (.tail (.tail (.tail .head)))))) | ((fail_if_success (have := bB)); (with_reducible apply wl_alloc hS); (with_reducible rfl); rfl; (exact zsS); clear hS; intro bB w hS; (refine frS ?_)) | (refine zl1 hS ?_) | (refine zlN hS ?_) | (refine zs1 hS ?_; clear hS; intro w hS) | (refine zsN hS ?_; clear hS; intro w hS) | (refine zbx hS ?_; clear hS; intro b w hS) | (refine zal hS ?_; clear hS; intro b w hS))
      refine wp_region_reads (by kernel_rfl) (by kernel_rfl) hS ?_
      repeat (first | go_big_quiet_skip | (refine zq1 ?_) | (refine zqN ?_) | (refine zqn ?_) | (refine wq_pure rfl rfl ?_; intro K hK; go_big_quiet_op; go_big_quiet_on))
      clear hS
      intro w hS
      go_wp2_with (first | go_big_skip | (go_at_call 54; refine (gets_spec vb mb _ _ _ _ _ _ ?_ ?_ ?_ W _ (bookL bb L2 (n + 1) :: tradesR (.slice (some ⟨g, 0, none⟩) ts.length tc) ts :: blk _ _ 102 :: blk _ _ 41 :: R) (hS.sel (by exact selS))).mono ?_; (focus (with_reducible first | exact G1.out _ | exact G2.out _ | exact G3.out _)); (focus (first | exact ⟨t0, t1⟩ | decide)); (focus (exact ⟨by omega, by omega⟩)); clear hS; rintro e w ⟨rfl, hS⟩) | (refine zl1 hS ?_) | (refine zlN hS ?_) | (refine zs1 hS ?_; clear hS; intro w hS) | (refine zsN hS ?_; clear hS; intro w hS) | (refine zbx hS ?_; clear hS; intro b w hS) | (refine zal hS ?_; clear hS; intro b w hS))
      go_roundw
      case rel =>
        refine ⟨k + 1, rfl, hk1, ?_⟩
        rw [Hstep.out]
        have hS3 : St W (blk vb [.map (some mb), .pointer (some ⟨bb, 0, none⟩), .int .i64 (n + 1)] 80 :: amap eS eP mb (payT q ⟨xb, xs, xi, xj, xt, xc, xp, xd⟩) :: _) w := hS
        exact hS3.sel (by exact selS)
      case measure => simp [intOf]; omega
end
end Go.Proofs.YtbcokphjpllbiaaGreat
end
section
set_option linter.unusedSimpArgs false
set_option linter.unusedVariables false
namespace Go.Proofs.YtbcokphjpllbiaaGreat
open Go.RowKit Go.Sl
section
variable (k : ByteArray) (W w : World) (R : List HP)
def ka : ByteArray := ⟨#[97]⟩
theorem ka_put : putE [] ka ⟨0, 5, 0, 0⟩ = 0 ∧ putP [] ka ⟨0, 5, 0, 0⟩ = [(ka, ⟨0, 5, 0, 0⟩)] := ⟨by kernel_rfl, by kernel_rfl⟩
def kaO : Ord := ⟨0, ka, false, 1, 3, 2⟩
theorem ka_take : takeE [(ka, ⟨0, 5, 0, 0⟩)] ka (holdsF kaO) = 0 ∧ takeP [(ka, ⟨0, 5, 0, 0⟩)] ka (holdsF kaO) = [(ka, ⟨0, 2, 0, 0⟩)] := ⟨by kernel_rfl, by kernel_rfl⟩
theorem ka_run : runT [] { kaO with id := 1 } = [] := rfl
theorem ka_has : purseA [(ka, ⟨0, 2, 0, 0⟩)] ka = ⟨0, 2, 0, 0⟩ := by kernel_rfl
theorem ka_ok : PsOk [(ka, ⟨0, 5, 0, 0⟩)] := by
  have := psOk_put psOk_nil ka ⟨0, 5, 0, 0⟩
  rw [ka_put.2] at this
  exact this
theorem ka_order (vb mb bb : Nat) (W w : World) (R : List HP) (hS : St W (vaultL vb mb bb [(ka, ⟨0, 5, 0, 0⟩)] [] 1 R) w) :
    Calls Tryz.prog 13 #[.pointer (some ⟨vb, 0, none⟩), .agg #[.int .i64 0, .string ⟨#[97]⟩, .bool false, .int .i64 1, .int .i64 3, .int .i64 2]] w fun e w' => e = .returned (.tuple #[.int .i64 1, .int .i64 0]) ∧ St W (blk vb [.map (some mb), .pointer (some ⟨bb, 0, none⟩), .int .i64 (1 + 1)] 80 :: amap eS eP mb [(ka, ⟨0, 2, 0, 0⟩)] :: R) w' := by
  refine (order_ok vb mb bb _ [] 1 kaO W w R ka_ok (by kernel_rfl) (by decide) (by decide) (by decide) ka_take.1 hS).mono ?_
  rintro e w' ⟨he, hS⟩
  refine ⟨he, ?_⟩
  have e1 : kaO.who = ka := rfl
  rw [ka_run, e1, ka_take.2] at hS
  have hS2 : St W (blk vb [.map (some mb), .pointer (some ⟨bb, 0, none⟩), .int .i64 (1 + 1)] 80 :: amap eS eP mb [(ka, ⟨0, 2, 0, 0⟩)] :: _ :: R) w' := hS
  exact hS2.sel (by exact selS)
theorem ka_puts (vb mb : Nat) (u1 u2 : Value) (W w : World) (R : List HP) (hS : St W (blk vb [.map (some mb), u1, u2] 80 :: amap eS eP mb [] :: R) w) :
    Calls Tryz.prog 17 #[.pointer (some ⟨vb, 0, none⟩), .string ⟨#[97]⟩, .agg #[.int .i64 0, .int .i64 5, .int .i64 0, .int .i64 0]] w fun e w' => e = .returned (.int .i64 0) ∧ St W (blk vb [.map (some mb), u1, u2] 80 :: amap eS eP mb [(ka, ⟨0, 5, 0, 0⟩)] :: R) w' := by
  refine (put_spec vb mb [] ka u1 u2 ⟨0, 5, 0, 0⟩ W w R hS).mono ?_
  rw [ka_put.1, ka_put.2]
  exact fun e w' h => h
theorem ka_hass (vb mb : Nat) (u1 u2 : Value) (W w : World) (R : List HP) (hS : St W (blk vb [.map (some mb), u1, u2] 80 :: amap eS eP mb [(ka, ⟨0, 2, 0, 0⟩)] :: R) w) :
    Calls Tryz.prog 23 #[.pointer (some ⟨vb, 0, none⟩), .string ⟨#[97]⟩] w fun e w' => e = .returned (.agg #[.int .i64 0, .int .i64 2, .int .i64 0, .int .i64 0]) ∧ St W R w' := by
  refine (has_spec vb mb _ ka u1 u2 W w R hS).mono ?_
  rw [ka_has]
  exact fun e w' h => ⟨h.1, h.2.drop.drop⟩
set_option maxRecDepth 100000 in
set_option maxHeartbeats 4000000 in
theorem knownV_spec (hS : St W R w) : Calls Tryz.prog 9 #[] w fun e w' => e = .returned (.bool true) ∧ St W R w' := by
  have h4 : (((0 : Int) == 0) && (((2 : Int) == 2) && (((0 : Int) == 0) && ((0 : Int) == 0)))) = true := rfl
  go_enter Tryz.func9, Tryz.ntmps9
  go_wp2_with (first | go_big_skip | (go_at_call 15; refine (newV_spec W _ _ hS).mono ?_; clear hS; rintro e w ⟨vb, mb, bb, rfl, hS⟩) | (go_at_call 17; refine (ka_puts vb mb _ _ W _ _ hS).mono ?_; clear hS; rintro e w ⟨rfl, hS⟩) | (go_at_call 13; refine (ka_order vb mb bb W _ _ hS).mono ?_; clear hS; rintro e w ⟨rfl, hS⟩) | (go_at_call 23; refine (ka_hass vb mb _ _ W _ _ hS).mono ?_; clear hS; rintro e w ⟨rfl, hS⟩) | ((with_reducible apply wl_eqA); (with_reducible rfl); rfl; rfl; rfl; kernel_rfl; exact eqI _ _ _ _ _ _ _ _; rw [h4]; (simp only [Act.put, fA, fB, fC, Nat.reduceAdd, eP, It.cells])) | (refine zl1 hS ?_) | (refine zlN hS ?_) | (refine zs1 hS ?_; clear hS; intro w hS) | (refine zsN hS ?_; clear hS; intro w hS) | (refine zbx hS ?_; clear hS; intro b w hS) | (refine zal hS ?_; clear hS; intro b w hS))
  go_ret
  exact ⟨rfl, hS⟩
end
end Go.Proofs.YtbcokphjpllbiaaGreat
end
section
set_option linter.unusedSimpArgs false
set_option linter.unusedVariables false
namespace Go.Proofs.YtbcokphjpllbiaaGreat
open Go.RowKit Go.Sl
def hitC (id : Int) (who : ByteArray) (x : Ord) : Bool := (x.id == id) && (x.who.toList == who.toList)
def idxC (id : Int) (who : ByteArray) (p : List Ord) : Int := match p.findIdx? (hitC id who) with
  | some i => i
  | none => -1
def IdxC (W : World) (L : List HP) (p : List Ord) (id : Int) (who : ByteArray) (v8 : Value) (w : World) : Prop :=
  ∃ k : Nat, v8 = .int .i64 k ∧ k ≤ p.length ∧ (∀ j, j < k → ∀ x, p[j]? = some x → hitC id who x = false) ∧ St W L w
end Go.Proofs.YtbcokphjpllbiaaGreat
end
section
set_option linter.unusedSimpArgs false
set_option linter.unusedVariables false
namespace Go.Proofs.YtbcokphjpllbiaaGreat
open Go.RowKit Go.Sl
section
variable {W w : World} {R : List HP} {bb : Nat} {L : List Ord} {n : Int}
theorem listL_spec (hS : St W (bookL bb L n :: R) w) :
    Calls Tryz.prog 68 #[.pointer (some ⟨bb, 0, none⟩)] w fun e w' => ∃ a c, e = .returned (.slice a L.length c) ∧ St W (bookL bb L n :: pileR (.slice a L.length c) L :: R) w' := by
  obtain ⟨b, hr, hl, hS⟩ := bookLOpen hS
  refine (list_at bb hr W w R hS).mono ?_
  rintro e w' ⟨a, c, rfl, hS⟩
  exact ⟨a, c, rfl, bookLShut hr hl hS⟩
end
def backP (p : Ps) (who : ByteArray) (i : It) : Ps := giveP (giveP (giveP (giveP p who 0 i.x0) who 1 i.x1) who 2 i.x2) who 3 i.x3
def Cn4 (W : World) (F : Ps → List HP) (p : Ps) (who : ByteArray) (i : It) (v : Value) (w : World) : Prop :=
  (v = .int .i64 0 ∧ St W (F p) w) ∨ (v = .int .i64 1 ∧ St W (F (giveP p who 0 i.x0)) w) ∨ (v = .int .i64 2 ∧ St W (F (giveP (giveP p who 0 i.x0) who 1 i.x1)) w) ∨ (v = .int .i64 3 ∧ St W (F (giveP (giveP (giveP p who 0 i.x0) who 1 i.x1) who 2 i.x2)) w) ∨ (v = .int .i64 4 ∧ St W (F (backP p who i)) w)
section
variable (vb mb bb : Nat) (p : Ps) (L : List Ord) (n : Int) (who : ByteArray) (id : Int) (W w : World) (R : List HP)
end
end Go.Proofs.YtbcokphjpllbiaaGreat
end
section
set_option linter.unusedSimpArgs false
set_option linter.unusedVariables false
namespace Go.Proofs.YtbcokphjpllbiaaGreat
open Go.RowKit Go.Sl
section
variable (vb mb bb : Nat) (p : Ps) (L : List Ord) (n : Int) (o : Ord) (W w : World) (R : List HP)
end
/-- A vault in plain words: purses, offers, the next ID. -/
structure Vs where
  ps : Ps
  L : List Ord
  n : Int
/-- What Order yields (ID, refusal), what the vault is behind it. -/
def ordV (V : Vs) (o : Ord) : Int × Int × Vs :=
  if may1 o = false then (0, 1, V)
  else if 32 ≤ V.L.length ∨ 1099511627776 < V.n then (0, 6, V)
  else if takeE V.ps o.who (holdsF o) = 0 then (V.n, 0, ⟨(runT V.L { o with id := V.n }).foldl payT (takeP V.ps o.who (holdsF o)), runL V.L { o with id := V.n }, V.n + 1⟩)
  else (0, 14, V)
end Go.Proofs.YtbcokphjpllbiaaGreat
end
section
set_option linter.unusedSimpArgs false
set_option linter.unusedVariables false
namespace Go.Proofs.YtbcokphjpllbiaaGreat
open Go.RowKit Go.Sl
/-- What Cancel yields, what the vault is behind it. -/
def canV (V : Vs) (who : ByteArray) (id : Int) : Int × Vs :=
  if V.L.any (hitC id who) = true then (0, ⟨backP V.ps who (holdsF (cancelR V.L id).o), (cancelR V.L id).L, V.n⟩) else (7, V)
end Go.Proofs.YtbcokphjpllbiaaGreat
end
section
set_option linter.unusedSimpArgs false
set_option linter.unusedVariables false
namespace Go.Sl
open Go.RowKit
section
variable {P : Program} {W w w' : World} {L : List HP}
/-- What a call left that turned nothing that was there, and handed back a row. -/
theorem St.called {v : Value} {k n : Nat} {T : TypeId} {cs : List Value} (h : St W L w) (hb : Below w.heap.size w w') (hr : w'.ownsRow w.heap.size T k v n cs) : St W (row v k T n cs :: L) w' := by
  refine ⟨hb.os.trans h.os, hb.tape.trans h.tape, hb.output.trans h.output, fun b => decide (w.heap.size ≤ b), ?_, ?_⟩
  · obtain ⟨hl, h1⟩ := hr
    refine ⟨hl, ?_⟩
    rcases h1 with ⟨hv, hn⟩ | ⟨g, cap, cur, hv, hg, hh, h3, h4, h5, h6⟩
    · exact .inl ⟨hv, hn⟩
    · have e : cs ++ cur.toList.drop (n * k) = cur.toList := by rw [← h6, List.take_append_drop]
      refine .inr ⟨g, cap, cur.toList.drop (n * k), hv, h3, h4, ?_, ?_⟩
      · rw [e]; simpa using h5
      · show cond (decide (w.heap.size ≤ g)) (w'.heap[g]?) none = _
        rw [decide_eq_true hg, e]
        show w'.heap[g]? = _
        rw [hh]
  · have e : cutOut (fun b => decide (w.heap.size ≤ b)) (fun b => w'.heap[b]?) = fun b => w.heap[b]? := by
      funext b
      show cond (decide (w.heap.size ≤ b)) none (w'.heap[b]?) = w.heap[b]?
      by_cases hb' : w.heap.size ≤ b
      · rw [decide_eq_true hb', Array.getElem?_eq_none hb']; rfl
      · rw [decide_eq_false hb', hb.block b (by omega)]; rfl
    rw [e]
    exact h.sat
/-- How a map's values are read here: not at all. -/
def R1 : Value → Option (DataW Unit × List MemPlace) := fun _ => some (.lit (.bool true), [])
theorem nodup_inj {α β : Type} (f : α → β) (hf : ∀ x y, f x = f y → x = y) : ∀ l : List α, l.Nodup → (l.map f).Nodup
  | [], _ => List.nodup_nil
  | x :: l, h => by
    rw [List.nodup_cons] at h
    rw [List.map_cons, List.nodup_cons]
    refine ⟨fun hx => ?_, nodup_inj f hf l h.2⟩
    obtain ⟨y, hy, e⟩ := List.mem_map.1 hx
    exact h.1 (hf y x e ▸ hy)
section
variable {ι : Type} {enc : ι → MapEntry} {K : TypeId} {b c : Nat} {l : List ι}
theorem stampedOf (hst : Stamps (l.map enc)) (hc : ∀ x ∈ l, (enc x).born < c) (hk : (l.map fun x => (enc x).key).Nodup) : MapKept.Stamped (l.map enc).toArray c := by
  refine ⟨fun x hx => ?_, ?_, ?_⟩
  · have hx' : x ∈ l.map enc := by simpa using hx
    obtain ⟨y, hy, rfl⟩ := List.mem_map.1 hx'
    exact hc y hy
  · simpa [Stamps] using hst
  · have : ((l.map enc).toArray.toList.map (·.key)) = l.map fun x => (enc x).key := by simp
    rw [this]; exact hk
theorem ownsS {kf : ι → ByteArray} (h : St W (mapR b (l.map enc) c :: L) w) (hK : P.underlying K = some .string) (hkf : ∀ x, (enc x).key = .string (kf x)) (hwf : ∀ x ∈ l, (kf x).size ≤ maxLen)
    (hst : Stamps (l.map enc)) (hc : ∀ x ∈ l, (enc x).born < c) (hn : (l.map kf).Nodup) (hl : l.length ≤ maxLen) :
    ∃ D : DataW Unit, w.ownsMap P K R1 b l.length D ∧ Maps.size D = l.length ∧ (strKeys D).Perm (l.map fun x => (kf x).data.toList) := by
  have hrd : ∀ x ∈ l, WideElems.rd P K R1 (enc x) = some (.string (kf x).data.toList, .lit (.bool true)) := fun x hx => by
    have h1 : keyOf P K (.string (kf x)) = some (.string (kf x).data.toList) := by
      unfold keyOf mapKey
      simp [hK, hwf x hx]
    unfold WideElems.rd
    rw [hkf x, h1]
    rfl
  have hrg : (l.map enc).map (WideElems.rg P K R1) = l.map fun x => ((.string (kf x).data.toList, .lit (.bool true)) : Lit × DataW Unit) := by
    rw [List.map_map]
    refine List.map_congr_left fun x hx => ?_
    show (WideElems.rd P K R1 (enc x)).getD _ = _
    rw [hrd x hx]; rfl
  have hp := WideShapes.sorted_perm (l.map fun x => ((.string (kf x).data.toList, .lit (.bool true)) : Lit × DataW Unit))
  refine ⟨.map (((l.map enc).map (WideElems.rg P K R1)).foldr DataW.insert []), ⟨_, c, h.get (b := b) .head, ⟨by simpa using hl, stampedOf hst hc ?_, fun x hx => ?_⟩, by simp, by simp⟩, ?_, ?_⟩
  · have e : (l.map fun x => (enc x).key) = (l.map kf).map Value.string := by
      rw [List.map_map]; exact List.map_congr_left fun x _ => hkf x
    rw [e]
    exact nodup_inj _ (fun x y h => by simpa using h) _ hn
  · have hx' : x ∈ l.map enc := by simpa using hx
    obtain ⟨y, hy, rfl⟩ := List.mem_map.1 hx'
    exact ⟨_, hrd y hy⟩
  · rw [Maps.size_eq, hrg, hp.length_eq, List.length_map]
  · rw [hrg]
    refine (hp.map fun p => strOf p.1).trans ?_
    rw [List.map_map]
    exact .refl _
end
end
end Go.Sl
end
section
set_option linter.unusedSimpArgs false
set_option linter.unusedVariables false
namespace Go.Proofs.YtbcokphjpllbiaaGreat
open Go.Shelf
def Tryz.keysS_ren : Go.Shelf.Ren := ⟨fun | 7 => 74 | 10 => 105 | n => n, fun | 23 => 77 | 26 => 9 | 3 => 39 | 28 => 126 | 0 => 0 | 27 => 125 | 33 => 74 | 4 => 4 | n => n, fun | n => n⟩
theorem Tryz.keysS : Go.Proofs.SlLaysZ.n7 Tryz.prog Tryz.keysS_ren := {
  mixed := by kernel_rfl
  f7 := ⟨Tryz.f74.name, by decide, Tryz.func74.trans (congrArg some (by kernel_rfl))⟩
  f10 := ⟨Tryz.f105.name, by decide, Tryz.func105.trans (congrArg some (by kernel_rfl))⟩
  t0 := Tryz.underlying0
  a0 := Tryz.isAgg0
  z0 := Tryz.sizeOf0
  v0 := Tryz.zeroValue0
  t4 := Tryz.underlying4
  a4 := Tryz.isAgg4
  z4 := Tryz.sizeOf4
  v4 := Tryz.zeroValue4
  t23 := Tryz.underlying77
  a23 := Tryz.isAgg77
  z23 := Tryz.sizeOf77
  v23 := Tryz.zeroValue77
  t26 := Tryz.underlying9
  a26 := Tryz.isAgg9
  z26 := Tryz.sizeOf9
  v26 := Tryz.zeroValue9
  t27 := Tryz.underlying125
  a27 := Tryz.isAgg125
  z27 := Tryz.sizeOf125
  v27 := Tryz.zeroValue125
  t28 := Tryz.underlying126
  a28 := Tryz.isAgg126
  z28 := Tryz.sizeOf126
  v28 := Tryz.zeroValue126
  t33 := Tryz.underlying74
  a33 := Tryz.isAgg74
  z33 := Tryz.sizeOf74
  v33 := Tryz.zeroValue74 }
def Tryz.sortedS_ren : Go.Shelf.Ren := ⟨fun | 6 => 73 | 8 => 103 | 9 => 104 | 11 => 112 | 13 => 110 | 12 => 113 | 23 => 122 | 24 => 123 | 14 => 124 | 15 => 125 | 16 => 126 | 17 => 127 | 18 => 128 | 19 => 129 | 20 => 130 | 21 => 131 | 22 => 132 | 25 => 138 | 26 => 134 | 27 => 135 | 28 => 139 | 29 => 140 | 30 => 141 | 31 => 143 | n => n, fun | 26 => 9 | 28 => 126 | 24 => 123 | 0 => 0 | 3 => 3 | 37 => 146 | 48 => 185 | 50 => 135 | 4 => 4 | 40 => 179 | 39 => 178 | 45 => 121 | 5 => 5 | 9 => 9 | 51 => 193 | 55 => 73 | 57 => 200 | 58 => 46 | 33 => 74 | n => n, fun | n => n⟩
theorem Tryz.sortedS : Go.Proofs.SlLaysZ.n6 Tryz.prog Tryz.sortedS_ren := {
  mixed := by kernel_rfl
  f6 := ⟨Tryz.f73.name, by decide, Tryz.func73.trans (congrArg some (by kernel_rfl))⟩
  f8 := ⟨Tryz.f103.name, by decide, Tryz.func103.trans (congrArg some (by kernel_rfl))⟩
  f11 := ⟨Tryz.f112.name, by decide, Tryz.func112.trans (congrArg some (by kernel_rfl))⟩
  t0 := Tryz.underlying0
  a0 := Tryz.isAgg0
  z0 := Tryz.sizeOf0
  v0 := Tryz.zeroValue0
  t24 := Tryz.underlying123
  a24 := Tryz.isAgg123
  z24 := Tryz.sizeOf123
  v24 := Tryz.zeroValue123
  t26 := Tryz.underlying9
  a26 := Tryz.isAgg9
  z26 := Tryz.sizeOf9
  v26 := Tryz.zeroValue9
  t28 := Tryz.underlying126
  a28 := Tryz.isAgg126
  z28 := Tryz.sizeOf126
  v28 := Tryz.zeroValue126
  i26 := by kernel_rfl }
def Tryz.sortS_ren : Go.Shelf.Ren := ⟨fun | 6 => 104 | 8 => 110 | 9 => 113 | 19 => 122 | 20 => 123 | 21 => 124 | 22 => 125 | 23 => 126 | 24 => 127 | 25 => 128 | 26 => 129 | 27 => 130 | 28 => 131 | 29 => 132 | 36 => 138 | 31 => 134 | 32 => 135 | 37 => 139 | 38 => 140 | 39 => 141 | 41 => 143 | n => n, fun | 27 => 123 | 29 => 9 | 3 => 3 | 32 => 146 | 26 => 123 | 0 => 0 | 44 => 185 | 46 => 135 | 4 => 4 | 36 => 179 | 35 => 178 | 41 => 121 | 5 => 5 | 9 => 9 | 53 => 193 | 57 => 73 | 63 => 200 | 64 => 46 | n => n, fun | n => n⟩
theorem Tryz.sortS : Go.Proofs.SlLaysM.n6 Tryz.prog Tryz.sortS_ren := {
  mixed := by kernel_rfl
  f6 := ⟨Tryz.f104.name, by decide, Tryz.func104.trans (congrArg some (by kernel_rfl))⟩
  f8 := Tryz.func110.trans (congrArg some (by kernel_rfl))
  f9 := ⟨Tryz.f113.name, by decide, Tryz.func113.trans (congrArg some (by kernel_rfl))⟩
  f19 := Tryz.func122.trans (congrArg some (by kernel_rfl))
  f20 := Tryz.func123.trans (congrArg some (by kernel_rfl))
  f21 := ⟨Tryz.f124.name, by decide, Tryz.func124.trans (congrArg some (by kernel_rfl))⟩
  f22 := ⟨Tryz.f125.name, by decide, Tryz.func125.trans (congrArg some (by kernel_rfl))⟩
  f23 := ⟨Tryz.f126.name, by decide, Tryz.func126.trans (congrArg some (by kernel_rfl))⟩
  f24 := ⟨Tryz.f127.name, by decide, Tryz.func127.trans (congrArg some (by kernel_rfl))⟩
  f25 := ⟨Tryz.f128.name, by decide, Tryz.func128.trans (congrArg some (by kernel_rfl))⟩
  f26 := ⟨Tryz.f129.name, by decide, Tryz.func129.trans (congrArg some (by kernel_rfl))⟩
  f27 := ⟨Tryz.f130.name, by decide, Tryz.func130.trans (congrArg some (by kernel_rfl))⟩
  f28 := ⟨Tryz.f131.name, by decide, Tryz.func131.trans (congrArg some (by kernel_rfl))⟩
  f29 := ⟨Tryz.f132.name, by decide, Tryz.func132.trans (congrArg some (by kernel_rfl))⟩
  f31 := Tryz.func134.trans (congrArg some (by kernel_rfl))
  f32 := Tryz.func135.trans (congrArg some (by kernel_rfl))
  f36 := ⟨Tryz.f138.name, by decide, Tryz.func138.trans (congrArg some (by kernel_rfl))⟩
  f37 := ⟨Tryz.f139.name, by decide, Tryz.func139.trans (congrArg some (by kernel_rfl))⟩
  f38 := ⟨Tryz.f140.name, by decide, Tryz.func140.trans (congrArg some (by kernel_rfl))⟩
  f39 := ⟨Tryz.f141.name, by decide, Tryz.func141.trans (congrArg some (by kernel_rfl))⟩
  f41 := ⟨Tryz.f143.name, by decide, Tryz.func143.trans (congrArg some (by kernel_rfl))⟩
  t0 := Tryz.underlying0
  a0 := Tryz.isAgg0
  z0 := Tryz.sizeOf0
  v0 := Tryz.zeroValue0
  t3 := Tryz.underlying3
  a3 := Tryz.isAgg3
  z3 := Tryz.sizeOf3
  v3 := Tryz.zeroValue3
  t4 := Tryz.underlying4
  a4 := Tryz.isAgg4
  z4 := Tryz.sizeOf4
  v4 := Tryz.zeroValue4
  t5 := Tryz.underlying5
  a5 := Tryz.isAgg5
  z5 := Tryz.sizeOf5
  v5 := Tryz.zeroValue5
  t9 := Tryz.underlying9
  a9 := Tryz.isAgg9
  z9 := Tryz.sizeOf9
  v9 := Tryz.zeroValue9
  t26 := Tryz.underlying123
  a26 := Tryz.isAgg123
  z26 := Tryz.sizeOf123
  v26 := Tryz.zeroValue123
  t27 := Tryz.underlying123
  a27 := Tryz.isAgg123
  z27 := Tryz.sizeOf123
  v27 := Tryz.zeroValue123
  t29 := Tryz.underlying9
  a29 := Tryz.isAgg9
  z29 := Tryz.sizeOf9
  v29 := Tryz.zeroValue9
  t32 := Tryz.underlying146
  a32 := Tryz.isAgg146
  z32 := Tryz.sizeOf146
  v32 := Tryz.zeroValue146
  t35 := Tryz.underlying178
  a35 := Tryz.isAgg178
  z35 := Tryz.sizeOf178
  v35 := Tryz.zeroValue178
  t36 := Tryz.underlying179
  a36 := Tryz.isAgg179
  z36 := Tryz.sizeOf179
  v36 := Tryz.zeroValue179
  t41 := Tryz.underlying121
  a41 := Tryz.isAgg121
  z41 := Tryz.sizeOf121
  v41 := Tryz.zeroValue121
  t44 := Tryz.underlying185
  a44 := Tryz.isAgg185
  z44 := Tryz.sizeOf185
  v44 := Tryz.zeroValue185
  t46 := Tryz.underlying135
  a46 := Tryz.isAgg135
  z46 := Tryz.sizeOf135
  v46 := Tryz.zeroValue135
  t53 := Tryz.underlying193
  a53 := Tryz.isAgg193
  z53 := Tryz.sizeOf193
  v53 := Tryz.zeroValue193
  t57 := Tryz.underlying73
  a57 := Tryz.isAgg73
  z57 := Tryz.sizeOf73
  v57 := Tryz.zeroValue73
  t63 := Tryz.underlying200
  a63 := Tryz.isAgg200
  z63 := Tryz.sizeOf200
  v63 := Tryz.zeroValue200
  t64 := Tryz.underlying46
  a64 := Tryz.isAgg46
  z64 := Tryz.sizeOf46
  v64 := Tryz.zeroValue46 }
end Go.Proofs.YtbcokphjpllbiaaGreat
end
