/-
  The vault's purses as they are listed: by names, none empty. Plain.
  The vault's List; are names too long? For every vault, every script.
  The vault's scripts: what each act leaves. For every vault and act.
  An economy as plain values: its vaults by keys, what each client asked last, what is under way, what has arrived; what a request does to it. No program in sight.
  What is done at one key changes nothing that another key has. The plain law: no program in sight.
  Maps whose keys are structs: keys that are told by values, compared one by one. Over any program.
  An economy as a resource: its block, its maps, the vaults that the first of them points to. Over any program.
-/
import Derived.Test.YtlmhakmoioogaaaGreatEconSpansM5
import Derived.Test.YtlmhakmoioogaaaGreatEconSpansM8
import Derived.Test.YtlmhakmoioogaaaGreatEconSpansM21
import Derived.Sort.Walk0
set_option maxHeartbeats 16000000
set_option maxRecDepth 100000
set_option linter.unusedSimpArgs false
set_option linter.unusedVariables false
section
namespace Go.Proofs.YtlmhakmoioogaaaGreat
open Go.RowKit Go.Sl
structure PsW (p : Ps) (N : Nat) : Prop where
 nd : (p.map (·.1)).Nodup
 nz : ∀ x ∈ p,isZ x.2 = false
 who : ∀ x ∈ p,whoB x.1 = true
 len : p.length ≤ N
theorem KE7 (N : Nat) : PsW [] N := ⟨List.nodup_nil,fun _ h => (by cases h),fun _ h => (by cases h),Nat.zero_le _⟩
theorem As7 {p : Ps} {N M : Nat} (h : PsW p N) (hm : N ≤ M) : PsW p M := ⟨h.nd,h.nz,h.who,Nat.le_trans h.len hm⟩
theorem Cv7 {p : Ps} {k : ByteArray} {x : ByteArray × It} (hx : x ∈ delL p k) : x ∈ p ∧ x.1 ≠ k := by
 have h := List.mem_filter.1 hx
 exact ⟨h.1,by simpa using h.2⟩
theorem DE7 {p : Ps} (h : (p.map (·.1)).Nodup) (k : ByteArray) : ((delL p k).map (·.1)).Nodup := h.sublist (List.filter_sublist.map _)
theorem HG7 {p : Ps} {N : Nat} (h : PsW p N) {k : ByteArray} (hk : whoB k = true) (i : It) : PsW (layP p k i) (N + 1) := by
 have hnd := DE7 h.nd k
 have hl : (delL p k).length ≤ N := Nat.le_trans (List.length_filter_le _ _) h.len
 unfold layP
 split
 ·exact ⟨hnd,fun x hx => h.nz x (Cv7 hx).1,fun x hx => h.who x (Cv7 hx).1,by omega⟩
 ·rename_i hz
  refine ⟨?_,?_,?_,by simpa using hl⟩
  ·rw [List.map_cons,List.nodup_cons]
   refine ⟨fun hm => ?_,hnd⟩
   obtain ⟨x,hx,e⟩ := List.mem_map.1 hm
   exact (Cv7 hx).2 e
  ·intro x hx
   rcases List.mem_cons.1 hx with rfl|hx
   ·simpa using hz
   ·exact h.nz x (Cv7 hx).1
  ·intro x hx
   rcases List.mem_cons.1 hx with rfl|hx
   ·exact hk
   ·exact h.who x (Cv7 hx).1
theorem DF7 {o : Ord} (h : MayP o) : whoB o.who = true := by
 unfold whoB
 simp
 exact ⟨h.who0,h.who1⟩
theorem KF7 {k : ByteArray} (h : whoB k = true) : k.size ≤ 16 := by unfold whoB at h;simp at h;omega
section
variable {p : Ps} {N : Nat}
theorem AB7 (h : PsW p N) {who : ByteArray} (hk : whoB who = true) (k n : Int) : PsW (giveP p who k n) (N + 1) := HG7 h hk _
theorem HH7 (h : PsW p N) (k : ByteArray) (i : It) : PsW (putP p k i) (N + 1) := by
 unfold putP
 split
 ·rename_i hc
  split
  ·exact HG7 h hc.1 _
  ·exact As7 h (by omega)
 ·exact As7 h (by omega)
theorem Ee7 (h : PsW p N) (k : ByteArray) (i : It) : PsW (takeP p k i) (N + 1) := by
 unfold takeP
 split
 ·rename_i hc
  split
  ·exact HG7 h hc.1 _
  ·exact As7 h (by omega)
 ·exact As7 h (by omega)
theorem Mi7 (h : PsW p N) {who : ByteArray} (hk : whoB who = true) (i : It) : PsW (backP p who i) (N + 4) :=
 AB7 (AB7 (AB7 (AB7 h hk _ _) hk _ _) hk _ _) hk _ _
theorem Nw7 (h : PsW p N) {t : Trd} (ht : whoB t.buyer = true ∧ whoB t.seller = true) : PsW (payT p t) (N + 3) :=
 AB7 (AB7 (AB7 h ht.1 _ _) ht.1 _ _) ht.2 _ _
end
theorem FN7 : ∀ (ts : List Trd) {p : Ps} {N : Nat},PsW p N → (∀ t ∈ ts,whoB t.buyer = true ∧ whoB t.seller = true) → PsW (ts.foldl payT p) (N + 3 * ts.length)
 | [],_,_,h,_ => h
 | t :: ts,_,_,h,ht => As7 (FN7 ts (Nw7 h (ht t (List.mem_cons_self ..))) fun x hx => ht x (List.mem_cons_of_mem _ hx)) (by rw [List.length_cons];omega)
theorem DG7 : ∀ (f : Nat) (o : Ord) (L : List Ord) (ts : List Trd),(refLoop f o L ts).2.2.length ≤ ts.length + f
 | 0,o,L,ts => by rw [refLoop];exact Nat.le_refl _
 | f + 1,o,L,ts => by
  rw [refLoop]
  split
  ·split
   ·show ts.length ≤ _;omega
   ·refine Nat.le_trans (DG7 f _ _ _) ?_
    rw [List.length_append,List.length_singleton]
    omega
  ·show ts.length ≤ _;omega
theorem Mj7 {L : List Ord} {k : Nat} {c : Int} (hk : k < L.length) (h : ∀ x ∈ L,whoB x.who = true) : ∀ x ∈ cutR L k c,whoB x.who = true := by
 unfold cutR
 split
 ·exact fun x hx => h x (List.mem_of_mem_eraseIdx hx)
 ·intro x hxm
  rcases List.mem_or_eq_of_mem_set hxm with hx'|rfl
  ·exact h x hx'
  ·exact h (at' L k) (at'_mem hk)
theorem DH7 : ∀ (f : Nat) (o : Ord) (L : List Ord) (ts : List Trd),(∀ x ∈ L,whoB x.who = true) → whoB o.who = true → (∀ t ∈ ts,whoB t.buyer = true ∧ whoB t.seller = true) → ∀ t ∈ (refLoop f o L ts).2.2,whoB t.buyer = true ∧ whoB t.seller = true
 | 0,o,L,ts,_,_,h => h
 | f + 1,o,L,ts,hL,ho,h => by
  rw [refLoop]
  by_cases h0 : 0 < o.cnt
  ·rw [if_pos h0]
   cases hb : bestTo o L L.length with
   | none => exact h
   | some k =>
    obtain ⟨hk,hm,_⟩ := AM7 hb
    have hx := hL _ (at'_mem hk)
    refine DH7 f _ _ _ (Mj7 hk hL) ho ?_
    intro t ht
    rcases List.mem_append.1 ht with ht|ht
    ·exact h t ht
    ·rw [List.mem_singleton.1 ht]
     unfold tradeR
     split
     ·exact ⟨ho,hx⟩
     ·exact ⟨hx,ho⟩
  ·rw [if_neg h0]
   exact h
theorem MT7 {V : Vs} {o : Ord} {N : Nat} (h : PsW V.ps N) (hL : ∀ x ∈ V.L,MayP x) (hl : V.L.length ≤ 32) : PsW (ordV V o).2.2.ps (N + 100) := by
 unfold ordV
 split
 ·exact As7 h (by omega)
 ·rename_i h1
  have hm := Av7.1 (show mayB { o with id := 1 } = true by simpa [may1] using h1)
  split
  ·exact As7 h (by omega)
  ·split
   ·have hlen := DG7 (V.L.length + 1) { o with id := V.n } V.L []
    refine As7 (FN7 _ (Ee7 h _ _) (DH7 _ _ _ _ (fun x hx => DF7 (hL x hx)) (by have h9 := DF7 hm;exact h9) fun t ht => (by cases ht))) ?_
    unfold runT
    rw [List.length_nil] at hlen
    omega
   ·exact As7 h (by omega)
theorem EI7 {a b : ByteArray} (h : a.data.toList = b.data.toList) : a = b := by
 obtain ⟨⟨a⟩⟩ := a
 obtain ⟨⟨b⟩⟩ := b
 simp at h
 rw [h]
theorem MU7 {V : Vs} {who : ByteArray} {id : Int} {N : Nat} (h : PsW V.ps N) (hL : ∀ x ∈ V.L,MayP x) : PsW (canV V who id).2.ps (N + 100) := by
 unfold canV
 split
 ·rename_i hh
  obtain ⟨x,hx,hx2⟩ := List.any_eq_true.1 hh
  unfold hitC at hx2
  have e : x.who = who := by
   have e1 := (Bool.and_eq_true _ _ ▸ hx2).2
   rw [Lib.toList_data,Lib.toList_data] at e1
   exact EI7 (by simpa using e1)
  exact As7 (Mi7 h (e ▸ DF7 (hL x hx)) _) (by omega)
 ·exact As7 h (by omega)
structure Hd where
 who : ByteArray
 has : It
def Hd.cells (h : Hd) : List Value := .string h.who :: h.has.cells
theorem Hd.len (h : Hd) : h.cells.length = 5 := rfl
def kL (p : Ps) : List ByteArray := sortB (p.map (·.1))
def hdL (p : Ps) : List Hd := (kL p).map fun k => ⟨k,purseA p k⟩
theorem MV7 (p : Ps) : (kL p).length = p.length := by unfold kL;rw [(Ax7 _).length_eq,List.length_map]
theorem EJ7 (p : Ps) : (hdL p).length = p.length := by unfold hdL;rw [List.length_map,MV7]
theorem Oo7 {p : Ps} {k : ByteArray} (h : k ∈ kL p) : ∃ x ∈ p,x.1 = k := List.mem_map.1 ((Ax7 _).mem_iff.1 h)
section
variable {p : Ps} {N : Nat}
theorem kL_nz (hw : PsW p N) {k : ByteArray} (h : k ∈ kL p) : isZ (purseA p k) = false := by
 obtain ⟨x,hx,rfl⟩ := Oo7 h
 have := Du7 (v := x.2) hw.nd hx
 unfold purseA
 rw [this]
 exact hw.nz x hx
theorem GL7 {x y : ByteArray} (h : leB x y = true) (hne : x ≠ y) : Op.bytesLess x.toList y.toList = true := by
 rw [bytesLess_eq,Lib.toList_data,Lib.toList_data,decide_eq_true_eq]
 refine (List.le_iff_lt_or_eq.1 (by simpa [leB] using h)).resolve_right fun e => hne ?_
 obtain ⟨⟨a⟩⟩ := x
 obtain ⟨⟨b⟩⟩ := y
 simp at e
 rw [e]
theorem kL_lt (hw : PsW p N) {i j : Nat} (hij : i < j) (hj : j < (kL p).length) : Op.bytesLess ((kL p)[i]'(Nat.lt_trans hij hj)).toList (kL p)[j].toList = true := by
 have hnd : (kL p).Nodup := (Ax7 _).nodup_iff.2 hw.nd
 refine GL7 (List.pairwise_iff_getElem.1 (AJ7 _) i j (Nat.lt_trans hij hj) hj hij) fun e => ?_
 have := (List.getElem_inj hnd).1 e
 omega
theorem Op7 (hw : PsW p N) {j : Nat} (hj : j < (hdL p).length) : (hdL p)[j].has = purseA p (hdL p)[j].who ∧ isZ (hdL p)[j].has = false ∧ ∀ i, ∀ hi : i < j,Op.bytesLess ((hdL p)[i]'(Nat.lt_trans hi hj)).who.toList (hdL p)[j].who.toList = true := by
 have hj2 : j < (kL p).length := by unfold hdL at hj;rwa [List.length_map] at hj
 have e : (hdL p)[j] = ⟨(kL p)[j],purseA p (kL p)[j]⟩ := by simp [hdL]
 refine ⟨by rw [e],by rw [e];exact kL_nz hw (List.getElem_mem hj2),fun i hi => ?_⟩
 have e2 : (hdL p)[i]'(Nat.lt_trans hi hj) = ⟨(kL p)[i]'(Nat.lt_trans hi hj2),purseA p ((kL p)[i]'(Nat.lt_trans hi hj2))⟩ := by simp [hdL]
 rw [e,e2]
 exact kL_lt hw hi hj2
end
def HvR (W : World) (L : List HP) (n : Nat) (v : Value) (w : World) : Prop := ∃ i : Nat,v = .int .i64 i ∧ i ≤ n ∧ i ≤ 100 ∧ St W L w
abbrev hdR (v : Value) (l : List Hd) : HP := row v 5 189 l.length (l.flatMap Hd.cells)
def LhR (W : World) (F : List HP) (p : Ps) (v5 v17 : Value) (w : World) : Prop :=
 ∃ k : Nat,v17 = .int .i64 k ∧ k ≤ p.length ∧ St W (row v5 5 189 k (((hdL p).take k).flatMap Hd.cells) :: F) w
def liR (bb : Nat) (L : List Ord) (n : Int) (v : Value) : HP := fun f => ∃ (a : Option Addr) (c : Nat),v = .slice a L.length c ∧ sats [bookL bb L n,pileR (.slice a L.length c) L] f
section
variable {W w : World} {bb : Nat} {L : List Ord} {n : Int} {v : Value} {R : List HP}
theorem liOpen (h : St W (liR bb L n v :: R) w) : ∃ a c,v = .slice a L.length c ∧ St W (bookL bb L n :: pileR (.slice a L.length c) L :: R) w := by
 obtain ⟨a,h⟩ := St.ex h
 obtain ⟨c,h⟩ := St.ex h
 obtain ⟨h1,h⟩ := St.and h
 exact ⟨a,c,h1,(St.split (St.split h).swap).swap.drop.swap⟩
theorem liShut {a : Option Addr} {c : Nat} (hv : v = .slice a L.length c) (h : St W (bookL bb L n :: pileR (.slice a L.length c) L :: R) w) : St W (liR bb L n v :: R) w := by
 refine St.mkEx a (St.mkEx c (St.mkAnd hv ?_))
 refine St.join ?_
 refine St.swap (St.imp h.swap ?_)
 intro f hf
 exact ⟨fun _ => true,hf,trivial⟩
theorem listF (hS : St W (bookL bb L n :: R) w) :
  Calls Tryz.prog 172 #[.pointer (some ⟨bb,0,none⟩)] w fun e w' => ∃ v,e = .returned v ∧ St W (liR bb L n v :: R) w' := by
 refine (DC7 hS).mono ?_
 rintro e w' ⟨a,c,rfl,hS⟩
 exact ⟨_,rfl,liShut rfl hS⟩
end
theorem Fr7 (vb mb bb : Nat) (p : Ps) (L : List Ord) (n : Int) {N : Nat} (hw : PsW p N) (hN : N ≤ 1000000000) (W w : World) (R : List HP) (hS : St W (vaultL vb mb bb p L n R) w) :
  Calls Tryz.prog 124 #[.pointer (some ⟨vb,0,none⟩)] w fun e w' => ∃ a c a2 c2,e = .returned (.tuple #[.slice a (hdL p).length c,.slice a2 L.length c2,.int .i64 n]) ∧
   St W (vaultL vb mb bb p L n (hdR (.slice a (hdL p).length c) (hdL p) :: pileR (.slice a2 L.length c2) L :: R)) w' := by
 have hlen := hw.len
 have Hw := Lib.hid hw
 clear hw
 go_enter Tryz.func124,Tryz.ntmps124
 go_wp2_with (first|(go_at_call 187;refine (Jr7 (some mb) W _ _ (hS.sel (L' := amap eS eP mb p :: blk vb _ _ :: bookL bb L n :: R) (by exact selS))).mono ?_;clear hS;rintro e w ⟨g,rfl,hS⟩)|(go_at_call 62;refine (GK7 (fun x hx => by have := KF7 (Hw.out.who x hx);unfold maxLen;omega) (by omega) hS).mono ?_;clear hS;rintro e w ⟨v,rfl,hS⟩;(have hv := hS.rowVal;obtain ⟨sa,sc,rfl⟩ := hv))|(refine zl1 hS ?_))
 have hS1 := hS.rowNil (k := 5) (T := 189)
 clear hS
 have hS := hS1
 clear hS1
 go_loopw [5,17] (fun v5 v17 wr => LhR W (row (.slice sa p.length sc) 1 9 p.length ((sortB (p.map (·.1))).map eS) :: amap eS eP mb p :: blk vb [.map (some mb),.pointer (some ⟨bb,0,none⟩),.int .i64 n] 176 :: bookL bb L n :: R) p v5 v17 wr) (fun _ v17 _ => p.length - (intOf v17).toNat)
 case atStart => exact ⟨0,rfl,Nat.zero_le _,hS⟩
 case round =>
  clear hS
  obtain ⟨k,rfl,hkl,hS⟩ := hrel
  have hlk := MV7 p
  have hlh := EJ7 p
  by_cases hkn : k = p.length
  ·have e1 : (hdL p).take k = hdL p := List.take_of_length_le (by omega)
   rw [e1] at hS
   have e2 : k = (hdL p).length := by omega
   have hd1 : decide (k < p.length) = false := by simp;omega
   clear e1 hkl hlk
   clear hkn hlh
   subst e2
   go_wp2_with (fail)
   have hS := hS.sel (L' := bookL bb L n :: blk vb _ _ :: amap eS eP mb p :: row u5 5 _ _ _ :: R) (by exact selS)
   refine Aa7 [0,0,2,6,14,30,0,64,192,448,63,1087,4095] (fun i => i == 5) (fun _ => none) [⟨some 5,none,fun nd => liR bb L n (nd 5)⟩] [some 5,none,none,none] (by kernel_rfl) (by kernel_rfl) rfl hS (CongOk.cons (fun nd nd' h => by dsimp only;rw [h 5 rfl rfl]) CongOk.nil) ?_
   intro nd
   iterate 2 (refine cQ ?_;intro K hK;go_big_quiet_op;go_big_quiet_on)
   (refine zcn ?_)
   (refine cQ ?_;intro K hK;go_big_quiet_op;go_big_quiet_on)
   (refine zc1 ?_)
   (apply AS7;rfl;rfl;(with_reducible rfl);decide +kernel;(focus (simp only [fD,fI,fJ,Act.eval,fE,fF,fG,fH,fK];try rfl));(intro _;rfl);(intro F w hS;exact listF hS);(refine frS ?_))
   (refine cQ ?_;intro K hK;go_big_quiet_op;go_big_quiet_on)
   (refine zcn ?_)
   (refine cQ ?_;intro K hK;go_big_quiet_op;go_big_quiet_on)
   (refine zc1 ?_)
   iterate 3 (refine cQ ?_;intro K hK;go_big_quiet_op;go_big_quiet_on)
   refine Ag7 ?_
   clear hS
   intro w hS
   have hS2 : St W [liR bb L n (nd 5),blk vb _ _,amap eS eP mb p,row u5 5 _ _ _,sats R] w := hS
   clear hS
   have hS := hS2.unpack [_,_,_,_]
   clear hS2
   simp only [fL,fM] at hS
   generalize nd 5 = v5 at *
   obtain ⟨a2,c2,rfl,hS5⟩ := liOpen hS
   clear hS
   have hv := hS5.drop.drop.drop.drop.rowVal
   obtain ⟨a,c,rfl⟩ := hv
   clear hS
   have hS := hS5
   clear hS5
   go_wp2_with fail
   go_ret3
   exact ⟨a,c,a2,c2,rfl,hS.sel (by exact selS)⟩
  ·have hk1 : k < p.length := by omega
   have hks : k < (hdL p).length := by omega
   have hkk : k < (kL p).length := by omega
   have hx1 : ((sortB (p.map (·.1))).map eS)[k]? = some (.string (kL p)[k]) := by
    rw [List.getElem?_map]
    show ((kL p)[k]?).map eS = _
    rw [List.getElem?_eq_getElem hkk];rfl
   have htk : ((hdL p).take (k + 1)).flatMap Hd.cells = ((hdL p).take k).flatMap Hd.cells ++ (Hd.mk (kL p)[k] (purseA p (kL p)[k])).cells := by
    rw [List.take_succ_eq_append_getElem hks,List.flatMap_append]
    simp [hdL]
   obtain ⟨⟨g2,rfl⟩,hcap,hcn⟩ := St.rowAddr hS.drop (by omega)
   obtain ⟨x,hx⟩ : ∃ x,purseA p (kL p)[k] = x := ⟨_,rfl⟩
   rw [hx] at htk
   generalize (kL p)[k] = key at hx htk hx1
   obtain ⟨x0,x1,x2,x3⟩ := x
   have Hx := Lib.hid hx
   have Htk := Lib.hid htk
   have HX := Lib.hid hx1
   clear hx htk hx1 hkn hkl hlk hlh hks hkk
   go_wp2_with (first|(refine zl1 hS ?_ (hc := by exact Cell.there (Cell.row (by omega) HX.out)))|((with_reducible apply Gu7 (ek := eS) (ev := eP) (k := key) it0 ⟨x0,x1,x2,x3⟩ hS);(with_reducible rfl);rfl;rfl;rfl;(exact takeS);exact mP;exact kS;exact zP;rfl;exact Hx.out;(simp only [Act.put,fA,fB,fC,Nat.reduceAdd,eP,It.cells]))|(refine zbs hS ?_;clear hS;intro bS w hS)|(refine zap hS ?_ (h63 := by unfold maxLen;omega) (hb := by omega);clear hS;intro v w hS)|(refine zl1 hS ?_))
   go_roundw
   case rel =>
    refine ⟨k + 1,rfl,hk1,?_⟩
    rw [Htk.out]
    have h0 : St W (row v 5 189 (k + 1) (((hdL p).take k).flatMap Hd.cells ++ (Hd.mk key ⟨x0,x1,x2,x3⟩).cells) :: _) w := hS
    exact h0.sel (by exact selS)
   case measure => simp [intOf];omega
end Go.Proofs.YtlmhakmoioogaaaGreat
end
section
namespace Go.Sl
open Go.RowKit
section
variable {P : Program} {W : World} {L : List HP} {ops : Array Oper} {Q : Act → Prop} {a : Act} {rest : List Oper} {o : Oper}
theorem MW7 {t t2 : TypeId} {x y : Operand} {xs ys : Array Value} {r : Bool} (ho : o.op = .binOp .eql t x y t2) (hg : Region.wanted o (yielded ops a.tmps) = true) (hx : a.eval x = .agg xs) (hy : a.eval y = .agg ys) (hm : P.eqGuardType P.depth t = false) (hr : ∀ w : World,(Op.equalIn 10000 t (.agg xs) (.agg ys)).run P w = .ok r w)
  (h : wpQuiet P ops (St W L) Q rest (a.put o.dst (.bool r))) : wpQuiet P ops (St W L) Q (o :: rest) a :=
 Fc7 hg (fun w _ => by
  unfold execOp
  simp [ho,hx,hy,run_eqGuard_agg w .eql t x y xs ys hm,run_eql_struct,hr]) h
theorem KG7 {t t2 : TypeId} {x y : Operand} {xs ys : Array Value} {r : Bool} (ho : o.op = .binOp .neq t x y t2) (hg : Region.wanted o (yielded ops a.tmps) = true) (hx : a.eval x = .agg xs) (hy : a.eval y = .agg ys) (hm : P.eqGuardType P.depth t = false) (hr : ∀ w : World,(Op.equalIn 10000 t (.agg xs) (.agg ys)).run P w = .ok r w)
  (h : wpQuiet P ops (St W L) Q rest (a.put o.dst (.bool (!r)))) : wpQuiet P ops (St W L) Q (o :: rest) a :=
 Fc7 hg (fun w _ => by
  unfold execOp
  simp [ho,hx,hy,run_eqGuard_agg w .neq t x y xs ys hm,run_neq_struct,hr]) h
end
end Go.Sl
namespace Go.Proofs.YtlmhakmoioogaaaGreat
open Go.RowKit Go.Sl
structure VOk (p : Ps) (n : Int) (i : Nat) : Prop where
 ok : PsOk p
 w : PsW p (100 * i)
 n0 : 1 ≤ n
 n1 : n ≤ 1 + i
theorem vOk0 : VOk [] 1 0 := ⟨FJ7,KE7 _,by decide,by decide⟩
theorem VOk.on {p : Ps} {n : Int} {i : Nat} (h : VOk p n i) : VOk p n (i + 1) := ⟨h.ok,As7 h.w (by omega),h.n0,by have := h.n1;omega⟩
section
variable (vb mb bb : Nat) {p : Ps} {L : List Ord} {n : Int} {i : Nat} (W w : World) (R : List HP)
theorem Oq7 (h : VOk p n i) (who : ByteArray) (it : It) (hS : St W (vaultL vb mb bb p L n R) w) :
  Calls Tryz.prog 102 #[.pointer (some ⟨vb,0,none⟩),.string who,.agg it.cells.toArray] w fun e w' => e = .returned (.int .i64 (putE p who it)) ∧ VOk (putP p who it) n (i + 1) ∧ St W (vaultL vb mb bb (putP p who it) L n R) w' := by
 refine (LR7 vb mb p who _ _ it W w _ hS).mono ?_
 rintro e w' ⟨rfl,hS⟩
 exact ⟨rfl,⟨Md7 h.ok _ _,As7 (HH7 h.w _ _) (by omega),h.n0,by have := h.n1;omega⟩,hS⟩
theorem Nx7 (h : VOk p n i) (who : ByteArray) (it : It) (hS : St W (vaultL vb mb bb p L n R) w) :
  Calls Tryz.prog 104 #[.pointer (some ⟨vb,0,none⟩),.string who,.agg it.cells.toArray] w fun e w' => e = .returned (.int .i64 (takeE p who it)) ∧ VOk (takeP p who it) n (i + 1) ∧ St W (vaultL vb mb bb (takeP p who it) L n R) w' := by
 refine (Eu7 vb mb p who _ _ it W w _ hS).mono ?_
 rintro e w' ⟨rfl,hS⟩
 exact ⟨rfl,⟨CV7 h.ok _ _,As7 (Ee7 h.w _ _) (by omega),h.n0,by have := h.n1;omega⟩,hS⟩
theorem Ny7 (h : VOk p n i) (o : Ord) (hS : St W (vaultL vb mb bb p L n R) w) :
  Calls Tryz.prog 105 #[.pointer (some ⟨vb,0,none⟩),.agg o.cells.toArray] w fun e w' => e = .returned (.tuple #[.int .i64 (ordV ⟨p,L,n⟩ o).1,.int .i64 (ordV ⟨p,L,n⟩ o).2.1]) ∧
   VOk (ordV ⟨p,L,n⟩ o).2.2.ps (ordV ⟨p,L,n⟩ o).2.2.n (i + 1) ∧ St W (vaultL vb mb bb (ordV ⟨p,L,n⟩ o).2.2.ps (ordV ⟨p,L,n⟩ o).2.2.L (ordV ⟨p,L,n⟩ o).2.2.n R) w' := by
 have hll := Cl7 hS.drop.drop
 have hmay : ∀ x ∈ L,MayP x := fun x hx => (BP7 hS.drop.drop x hx).1
 refine (Kz7 vb mb bb ⟨p,L,n⟩ o h.ok h.n0 W w R hS).mono ?_
 rintro e w' ⟨rfl,hS⟩
 have h1 := Nu7 (V := ⟨p,L,n⟩) (o := o) h.ok h.n0 hmay
 have h2 := MT7 (V := ⟨p,L,n⟩) (o := o) h.w hmay hll
 have h3 : (ordV ⟨p,L,n⟩ o).2.2.n ≤ n + 1 := by
  unfold ordV
  repeat' split
  all_goals dsimp only
  all_goals omega
 exact ⟨rfl,⟨h1.1,As7 h2 (by omega),h1.2,by have := h.n1;omega⟩,hS⟩
theorem Nz7 (h : VOk p n i) (who : ByteArray) (id : Int) (hS : St W (vaultL vb mb bb p L n R) w) :
  Calls Tryz.prog 106 #[.pointer (some ⟨vb,0,none⟩),.string who,.int .i64 id] w fun e w' => e = .returned (.int .i64 (canV ⟨p,L,n⟩ who id).1) ∧
   VOk (canV ⟨p,L,n⟩ who id).2.ps n (i + 1) ∧ St W (vaultL vb mb bb (canV ⟨p,L,n⟩ who id).2.ps (canV ⟨p,L,n⟩ who id).2.L n R) w' := by
 have hmay : ∀ x ∈ L,MayP x := fun x hx => (BP7 hS.drop.drop x hx).1
 refine (KA7 vb mb bb ⟨p,L,n⟩ who id h.ok W w R hS).mono ?_
 rintro e w' ⟨rfl,hS⟩
 have h1 := Nv7 (V := ⟨p,L,n⟩) (who := who) (id := id) h.ok h.n0 hmay
 have h2 := MU7 (V := ⟨p,L,n⟩) (who := who) (id := id) h.w hmay
 have h3 : (canV ⟨p,L,n⟩ who id).2.n = n := by
  unfold canV
  split <;> rfl
 rw [h3] at hS
 exact ⟨rfl,⟨h1.1,As7 h2 (by omega),h.n0,by have := h.n1;omega⟩,hS⟩
theorem Or7 (u1 u2 : Value) {k : ByteArray} {x0 x1 x2 x3 : Int} (hx : purseA p k = ⟨x0,x1,x2,x3⟩) (hS : St W (blk vb [.map (some mb),u1,u2] 176 :: amap eS eP mb p :: R) w) :
  Calls Tryz.prog 47 #[.pointer (some ⟨vb,0,none⟩),.string k] w fun e w' => e = .returned (.agg #[.int .i64 x0,.int .i64 x1,.int .i64 x2,.int .i64 x3]) ∧ St W (blk vb [.map (some mb),u1,u2] 176 :: amap eS eP mb p :: R) w' := by
 refine (LO7 vb mb p k u1 u2 W w R hS).mono ?_
 rw [hx]
 exact fun e w' h => h
end
structure Opn where
 kind : Int
 client : Int
 seq : Int
 ak : ByteArray
 aw : ByteArray
 tk : ByteArray
 tw : ByteArray
 item : Int
 cnt : Int
 price : Int
 buy : Bool
 id : Int
def Opn.cells (o : Opn) : List Value := [.int .i64 o.kind,.int .i64 o.client,.int .i64 o.seq,.string o.ak,.string o.aw,.string o.tk,.string o.tw,.int .i64 o.item,.int .i64 o.cnt,.int .i64 o.price,.bool o.buy,.int .i64 o.id]
theorem Opn.len (o : Opn) : o.cells.length = 12 := rfl
structure Rpl where
 err : Int
 id : Int
 has : It
def Rpl.cells (r : Rpl) : List Value := .int .i64 r.err :: .int .i64 r.id :: r.has.cells
abbrev rp0 : Rpl := ⟨0,0,it0⟩
structure Tns where
 client : Int
 seq : Int
 ak : ByteArray
 aw : ByteArray
 tk : ByteArray
 tw : ByteArray
 item : Int
 cnt : Int
def Tns.cells (t : Tns) : List Value := [.int .i64 t.client,.int .i64 t.seq,.string t.ak,.string t.aw,.string t.tk,.string t.tw,.int .i64 t.item,.int .i64 t.cnt]
theorem Tns.len (t : Tns) : t.cells.length = 8 := rfl
structure Ec where
 vs : List (ByteArray × Vs)
 ss : List (Int × (Int × Rpl))
 ts : List ((Int × Int) × Tns)
 ar : List ((Int × Int) × Unit)
abbrev ec0 : Ec := ⟨[],[],[],[]⟩
abbrev vs0 : Vs := ⟨[],[],1⟩
def noB (u : ByteArray) : Bool := decide (u.size = 0)
def cntB (o : Opn) : Bool := decide (0 ≤ o.item) && (decide (o.item < 4) && (decide (1 ≤ o.cnt) && decide (o.cnt ≤ 1048576)))
def restB (o : Opn) : Bool := noB o.tk && (noB o.tw && (decide (o.price = 0) && (!o.buy && decide (o.id = 0))))
def plcB (k u : ByteArray) : Bool := whoB k && whoB u
def countsB (o : Opn) : Bool := cntB o && restB o
def sendsB (o : Opn) : Bool := plcB o.tk o.tw && (cntB o && (decide (o.price = 0) && (!o.buy && decide (o.id = 0))))
def ordersB (o : Opn) : Bool := decide (1 ≤ o.item) && (decide (1 ≤ o.price) && (decide (o.price ≤ 1024) && (cntB o && (noB o.tk && (noB o.tw && decide (o.id = 0))))))
def cancelsB (o : Opn) : Bool := decide (1 ≤ o.id) && (decide (o.id ≤ 1099511627776) && (noB o.tk && (noB o.tw && (decide (o.item = 0) && (decide (o.cnt = 0) && (decide (o.price = 0) && !o.buy))))))
def bareB (o : Opn) : Bool := noB o.tk && (noB o.tw && (decide (o.item = 0) && (decide (o.cnt = 0) && (decide (o.price = 0) && (!o.buy && decide (o.id = 0))))))
def kindB (o : Opn) : Bool :=
 if o.kind = 1 then countsB o else if o.kind = 2 then sendsB o else if o.kind = 3 then ordersB o else if o.kind = 4 then cancelsB o
 else if o.kind = 5 then bareB o else if o.kind = 6 then countsB o else if o.kind = 7 then bareB o else false
def headB (o : Opn) : Bool := decide (1 ≤ o.client) && (decide (o.client ≤ 1048576) && (decide (1 ≤ o.seq) && (decide (o.seq ≤ 1099511627776) && plcB o.ak o.aw)))
def mayO (o : Opn) : Bool := headB o && kindB o
def peekE (e : Ec) (o : Opn) : Rpl × Bool :=
 if mayO o = false then (⟨1,0,it0⟩,true)
 else if o.kind = 6 then (rp0,(getL e.ar (o.client,o.seq)).isSome)
 else if o.kind = 7 then (rp0,(getL e.ts (o.client,o.seq)).isNone)
 else match getL e.ss o.client with
  | none => (rp0,false)
  | some (q,r) => if o.seq < q then (⟨13,0,it0⟩,true) else if o.seq = q then (r,true) else (rp0,false)
def atV (e : Ec) (k : ByteArray) : Vs := (getL e.vs k).getD vs0
def noneV (V : Vs) : Bool := decide (V.ps.length = 0) && (decide (V.L.length = 0) && decide (V.n = 1))
def setV (e : Ec) (k : ByteArray) (V : Vs) : Ec := { e with vs := if noneV V = true then delL e.vs k else (k,V) :: delL e.vs k }
def oneI (item n : Int) : It := setK it0 item n
def tnsOf (o : Opn) : Tns := ⟨o.client,o.seq,o.ak,o.aw,o.tk,o.tw,o.item,o.cnt⟩
def ordOf (o : Opn) : Ord := ⟨0,o.aw,o.buy,o.item,o.cnt,o.price⟩
def doV (V : Vs) (o : Opn) : Rpl × Vs :=
 if o.kind = 1 then (⟨putE V.ps o.aw (oneI o.item o.cnt),0,it0⟩, { V with ps := putP V.ps o.aw (oneI o.item o.cnt) })
 else if o.kind = 2 then (⟨takeE V.ps o.aw (oneI o.item o.cnt),0,it0⟩, { V with ps := takeP V.ps o.aw (oneI o.item o.cnt) })
 else if o.kind = 3 then (⟨(ordV V (ordOf o)).2.1,(ordV V (ordOf o)).1,it0⟩,(ordV V (ordOf o)).2.2)
 else if o.kind = 4 then (⟨(canV V o.aw o.id).1,0,it0⟩,(canV V o.aw o.id).2)
 else if o.kind = 5 then (⟨0,0,purseA V.ps o.aw⟩,V)
 else if o.kind = 6 then (rp0, { V with ps := putP V.ps o.aw (oneI o.item o.cnt) })
 else (rp0,V)
def doT (e : Ec) (o : Opn) (r : Rpl) : List ((Int × Int) × Tns) :=
 if o.kind = 2 ∧ r.err = 0 then ((o.client,o.seq),tnsOf o) :: delL e.ts (o.client,o.seq)
 else if o.kind = 7 then delL e.ts (o.client,o.seq) else e.ts
def doA (e : Ec) (o : Opn) : List ((Int × Int) × Unit) := if o.kind = 6 then ((o.client,o.seq),()) :: delL e.ar (o.client,o.seq) else e.ar
def doS (e : Ec) (o : Opn) (r : Rpl) : List (Int × (Int × Rpl)) := if o.kind = 6 ∨ o.kind = 7 then e.ss else (o.client,(o.seq,r)) :: delL e.ss o.client
def appE (e : Ec) (o : Opn) : Rpl × Bool × Ec :=
 if (peekE e o).2 = true then ((peekE e o).1,false,e)
 else
  let r := (doV (atV e o.ak) o).1
  (r,true, { setV e o.ak (doV (atV e o.ak) o).2 with ss := doS e o r,ts := doT e o r,ar := doA e o })
section
variable {κ ν : Type} [DecidableEq κ]
theorem Da7 (k : κ) (v : ν) (l : List (κ × ν)) (x : κ) : getL ((k,v) :: l) x = if k = x then some v else getL l x := by
 unfold getL
 rw [List.find?_cons]
 by_cases h : k = x
 ·rw [if_pos h]
  simp [h]
 ·rw [if_neg h]
  simp [h]
theorem Mk7 (l : List (κ × ν)) (k x : κ) : getL (delL l k) x = if x = k then none else getL l x := by
 by_cases h : x = k
 ·rw [if_pos h]
  refine FC7 fun y hy => ?_
  have := (List.mem_filter.1 hy).2
  rw [h]
  simpa using this
 ·rw [if_neg h]
  induction l with
  | nil => rfl
  | cons y l ih =>
   obtain ⟨a,b⟩ := y
   have e : delL ((a,b) :: l) k = if a = k then delL l k else (a,b) :: delL l k := by
    unfold delL
    rw [List.filter_cons]
    by_cases hk : a = k <;> simp [hk]
   rw [e,Da7]
   by_cases hk : a = k
   ·rw [if_pos hk,ih,if_neg (fun e => h (e.symm.trans hk))]
   ·rw [if_neg hk,Da7,ih]
theorem Ml7 (l : List (κ × ν)) (k x : κ) (v : ν) : getL ((k,v) :: delL l k) x = if k = x then some v else getL l x := by
 rw [Da7,Mk7]
 by_cases h : k = x
 ·rw [if_pos h,if_pos h]
 ·rw [if_neg h,if_neg h,if_neg (fun e => h e.symm)]
end
theorem Mm7 {V : Vs} (h : noneV V = true) : V = vs0 := by
 obtain ⟨p,L,n⟩ := V
 unfold noneV at h
 simp only [Bool.and_eq_true,decide_eq_true_eq] at h
 obtain ⟨h1,h2,h3⟩ := h
 rw [List.eq_nil_of_length_eq_zero h1,List.eq_nil_of_length_eq_zero h2,h3]
structure AlkE (C : Int → Prop) (k : ByteArray) (e f : Ec) : Prop where
 v : atV e k = atV f k
 s : ∀ c,C c → getL e.ss c = getL f.ss c
 t : ∀ c q,C c → getL e.ts (c,q) = getL f.ts (c,q)
 a : ∀ c q,C c → getL e.ar (c,q) = getL f.ar (c,q)
def runE (l : List Opn) (e : Ec) : Ec := l.foldl (fun e o => (appE e o).2.2) e
def atKey (k : ByteArray) (l : List Opn) : List Opn := l.filter fun o => decide (o.ak = k)
end Go.Proofs.YtlmhakmoioogaaaGreat
end
section
namespace Go.Sl
open Go.RowKit
section
variable {κ : Type} [DecidableEq κ] {P : Program} {K : TypeId} {kd : TypeDesc} {ek : κ → Value}
theorem CA7 (heq : ∀ a b w,(Op.equal K (ek a) (ek b)).run P w = .ok (decide (a = b)) w) (k : κ) : ∀ (l : List (κ × Value × Nat)) (i : Nat) (w : World),(Instr.findAsking K (ek k) (l.map (entA ek)) i).run P w = .ok (findA k l i) w
 | [],_,_ => rfl
 | x :: l,i,w => by
  have e : (entA ek x).key = ek x.1 := rfl
  rw [List.map_cons,Instr.findAsking,e,findA]
  simp only [Sem.run_bind,heq,Result.andThen_ok]
  by_cases hk : k = x.1
  ·rw [if_pos hk]
   simp [hk,entA]
  ·rw [if_neg hk]
   simp [hk]
   exact CA7 heq k l (i + 1) w
theorem KeyOk.deep (hK : P.underlying K = some kd) (hsn : ∀ a b,Instr.sameNow kd (ek a) (ek b) = none) (hchk : ∀ e k w,(Instr.checkKey e 10000 K (ek k)).run P w = .ok () w) (heq : ∀ a b w,(Op.equal K (ek a) (ek b)).run P w = .ok (decide (a = b)) w)
  (hb : ∀ k,Instr.sameBits 10000 (ek k) (ek k) = true) : KeyOk P K ek :=
 ⟨hchk,fun k l w => by
  unfold Instr.findKey
  simp only [Sem.run_bind,run_underlying hK,Result.andThen_ok]
  cases l with
  | nil => rfl
  | cons x l =>
   have e : Instr.findNow kd (ek k) ((x :: l).map (entA ek)) 0 = none := by
    rw [List.map_cons,Instr.findNow]
    have : (entA ek x).key = ek x.1 := rfl
    rw [this,hsn]
   rw [e]
   exact CA7 heq k (x :: l) 0 w,hb⟩
end
end Go.Sl
end
section
namespace Go.Sl
open Go.RowKit
section
variable {W w : World} {R A : List HP}
theorem Mn7 {h : Frag} {R : List HP} (hs : sats R h) : sep (fun _ => True) (sats R) h := ⟨fun _ => false,trivial,by
 have : cutOut (fun _ => false) h = h := by funext b;rfl
 rw [this];exact hs⟩
theorem satsOpen : ∀ {A : List HP} {h : Frag},sep (sats A) (sats R) h → sats (A ++ R) h
 | [],_,⟨_,_,h2⟩ => BT7 h2
 | _ :: _,_,hs => AK7 (fun _ x => x) (fun _ x => satsOpen x) (FW7 hs)
theorem satsShut : ∀ {A : List HP} {h : Frag},sats (A ++ R) h → sep (sats A) (sats R) h
 | [],_,hs => Mn7 hs
 | _ :: _,_,hs => Ib7 (AK7 (fun _ x => x) (fun _ x => satsShut x) hs)
theorem St.openS (h : St W (sats A :: R) w) : St W (A ++ R) w := ⟨h.os,h.tape,h.output,satsOpen h.sat⟩
theorem St.shutS (A : List HP) (h : St W (A ++ R) w) : St W (sats A :: R) w := ⟨h.os,h.tape,h.output,satsShut h.sat⟩
theorem DI7 {L L' : List HP} (hp : L.Perm L') : ∀ {h : Frag},sats L h → sats L' h := by
 induction hp with
 | nil => exact fun h => h
 | cons _ _ ih => exact fun h => AK7 (fun _ x => x) (fun _ x => ih x) h
 | swap _ _ _ => exact fun h => CH7 h
 | trans _ _ i1 i2 => exact fun h => i2 (i1 h)
end
section
variable {κ ν : Type} [DecidableEq κ]
theorem BW7 {k : κ} {v : ν} : ∀ {l : List (κ × ν)},(l.map (·.1)).Nodup → getL l k = some v → l.Perm ((k,v) :: delL l k)
 | [],_,h => (by cases h)
 | y :: l,hn,h => by
  rw [List.map_cons,List.nodup_cons] at hn
  have e : delL (y :: l) k = if y.1 = k then delL l k else y :: delL l k := by
   unfold delL
   rw [List.filter_cons]
   by_cases hk : y.1 = k <;> simp [hk]
  by_cases hk : y.1 = k
  ·have h0 : ∀ x ∈ l,x.1 ≠ k := fun x hx e => hn.1 (List.mem_map.2 ⟨x,hx,e.trans hk.symm⟩)
   have hv : y = (k,v) := by
    have h2 := AG7 h
    rcases List.mem_cons.1 h2 with h2|h2
    ·exact h2.symm
    ·exact absurd rfl (h0 _ h2)
   rw [e,if_pos hk,AY7 h0,hv]
  ·have h2 : getL l k = some v := by
    unfold getL at h ⊢
    rw [List.find?_cons] at h
    simpa [hk] using h
   rw [e,if_neg hk]
   exact ((BW7 hn.2 h2).cons y).trans (List.Perm.swap _ _ _)
end
end Go.Sl
namespace Go.Proofs.YtlmhakmoioogaaaGreat
open Go.RowKit Go.Sl
abbrev eN (b : Nat) : Value := .pointer (some ⟨b,0,none⟩)
abbrev eI (z : Int) : Value := .int .i64 z
abbrev eU (_ : Unit) : Value := .bool true
abbrev eW (x : Int × Int) : Value := .agg #[.int .i64 x.1,.int .i64 x.2]
abbrev eSs (x : Int × Rpl) : Value := .agg #[.int .i64 x.1,.int .i64 x.2.err,.int .i64 x.2.id,.int .i64 x.2.has.x0,.int .i64 x.2.has.x1,.int .i64 x.2.has.x2,.int .i64 x.2.has.x3]
abbrev eTn (t : Tns) : Value := .agg #[.int .i64 t.client,.int .i64 t.seq,.string t.ak,.string t.aw,.string t.tk,.string t.tw,.int .i64 t.item,.int .i64 t.cnt]
abbrev Ev := List (ByteArray × (Nat × Vs))
def ptrsE (E : Ev) : List (ByteArray × Nat) := E.map fun x => (x.1,x.2.1)
def stripE (E : Ev) : List (ByteArray × Vs) := E.map fun x => (x.1,x.2.2)
def vaultP (vb : Nat) (V : Vs) : HP := fun f => ∃ mb bb : Nat,sats [blk vb [.map (some mb),.pointer (some ⟨bb,0,none⟩),.int .i64 V.n] 176,amap eS eP mb V.ps,bookL bb V.L V.n] f
def vauP (E : Ev) : HP := sats (E.map fun x => vaultP x.2.1 x.2.2)
abbrev ecL (eb m1 m2 m3 m4 : Nat) (E : Ev) (e : Ec) (R : List HP) : List HP :=
 blk eb [.map (some m1),.map (some m2),.map (some m3),.map (some m4)] 84 :: amap eS eN m1 (ptrsE E) :: vauP E :: amap eI eSs m2 e.ss :: amap eW eTn m3 e.ts :: amap eW eU m4 e.ar :: R
def ecP (eb : Nat) (e : Ec) : HP := fun f => ∃ (m1 m2 m3 m4 : Nat) (E : Ev),(stripE E).Perm e.vs ∧ sats (ecL eb m1 m2 m3 m4 E e []) f
section
variable {W w : World} {R L : List HP} {vb eb m1 m2 m3 m4 : Nat} {V : Vs} {E E' : Ev} {e : Ec} {k : ByteArray}
theorem vaultOpen (h : St W (vaultP vb V :: R) w) : ∃ mb bb,St W (vaultL vb mb bb V.ps V.L V.n R) w := by
 obtain ⟨mb,h⟩ := St.ex h
 obtain ⟨bb,h⟩ := St.ex h
 exact ⟨mb,bb,h.openS⟩
theorem vaultShut {mb bb : Nat} (h : St W (vaultL vb mb bb V.ps V.L V.n R) w) : St W (vaultP vb V :: R) w :=
 St.mkEx mb (St.mkEx bb (St.shutS [_,_,_] h))
theorem vauOpen {x : ByteArray × (Nat × Vs)} (h : St W (vauP (x :: E) :: R) w) : St W (vaultP x.2.1 x.2.2 :: vauP E :: R) w := St.split h
theorem vauShut {x : ByteArray × (Nat × Vs)} (h : St W (vaultP x.2.1 x.2.2 :: vauP E :: R) w) : St W (vauP (x :: E) :: R) w := St.join h
theorem vauPerm (hp : E.Perm E') (h : St W (vauP E :: R) w) : St W (vauP E' :: R) w := h.imp fun _ => DI7 (hp.map _)
theorem ecOpen (h : St W (ecP eb e :: R) w) : ∃ m1 m2 m3 m4 E,(stripE E).Perm e.vs ∧ St W (ecL eb m1 m2 m3 m4 E e R) w := by
 obtain ⟨m1,h⟩ := St.ex h
 obtain ⟨m2,h⟩ := St.ex h
 obtain ⟨m3,h⟩ := St.ex h
 obtain ⟨m4,h⟩ := St.ex h
 obtain ⟨E,h⟩ := St.ex h
 obtain ⟨hp,h⟩ := St.and h
 exact ⟨m1,m2,m3,m4,E,hp,h.openS⟩
theorem ecShut (hp : (stripE E).Perm e.vs) (h : St W (ecL eb m1 m2 m3 m4 E e R) w) : St W (ecP eb e :: R) w :=
 St.mkEx m1 (St.mkEx m2 (St.mkEx m3 (St.mkEx m4 (St.mkEx E (St.mkAnd hp (St.shutS [_,_,_,_,_,_] h))))))
theorem AD7 (E : Ev) : (ptrsE E).map (·.1) = E.map (·.1) := by unfold ptrsE;rw [List.map_map];rfl
theorem BQ7 (E : Ev) : (stripE E).map (·.1) = E.map (·.1) := by unfold stripE;rw [List.map_map];rfl
theorem IG7 (E : Ev) (k : ByteArray) : delL (ptrsE E) k = ptrsE (delL E k) := by unfold ptrsE delL;rw [List.filter_map];rfl
theorem GM7 (E : Ev) (k : ByteArray) : delL (stripE E) k = stripE (delL E k) := by unfold stripE delL;rw [List.filter_map];rfl
theorem IH7 {α β : Type} (f : α → β) (l : List (ByteArray × α)) (k : ByteArray) : getL (l.map fun x => (x.1,f x.2)) k = (getL l k).map f := by
 unfold getL
 rw [List.find?_map]
 show ((l.find? fun x => decide (x.1 = k)).map fun x => (x.1,f x.2)).map (·.2) = _
 rw [Option.map_map,Option.map_map]
 rfl
theorem Cw7 (E : Ev) (k : ByteArray) : getL (ptrsE E) k = (getL E k).map (·.1) := IH7 (fun x : Nat × Vs => x.1) E k
theorem GN7 (E : Ev) (k : ByteArray) : getL (stripE E) k = (getL E k).map (·.2) := IH7 (fun x : Nat × Vs => x.2) E k
theorem Os7 (hn : (E.map (·.1)).Nodup) (hp : (stripE E).Perm e.vs) (k : ByteArray) : getL e.vs k = (getL E k).map (·.2) := by
 rw [← AC7 (by rw [BQ7];exact hn) hp k,GN7]
end
end Go.Proofs.YtlmhakmoioogaaaGreat
end
