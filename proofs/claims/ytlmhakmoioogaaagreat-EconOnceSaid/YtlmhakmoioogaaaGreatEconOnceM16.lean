/-
  List: all that stand in a book, by their IDs. For every book.
  A book as the document tells it: one row of orders by their IDs. Place and Cancel of the code are those of the document. Plain, no program in sight.
-/
import Derived.Test.YtlmhakmoioogaaaGreatEconOnceM5
import Derived.Test.YtlmhakmoioogaaaGreatEconOnceM15
set_option maxHeartbeats 16000000
set_option maxRecDepth 100000
set_option linter.unusedSimpArgs false
set_option linter.unusedVariables false
section
namespace Go.Proofs.YtlmhakmoioogaaaGreat
open Go.RowKit Go.Sl
def catTo (ps : List (List Ord)) (k : Nat) : List Ord := (offs.take k).flatMap fun o => ps.getD o []
theorem GS7 (ps : List (List Ord)) (k : Nat) (hk : k ≤ 8) : (catTo ps k).length = lenTo ps k := by
 obtain h|h|h|h|h|h|h|h|h : k = 0 ∨ k = 1 ∨ k = 2 ∨ k = 3 ∨ k = 4 ∨ k = 5 ∨ k = 6 ∨ k = 7 ∨ k = 8 := by omega
 all_goals subst h
 all_goals simp [catTo,lenTo,offs]
 all_goals omega
theorem JJ7 (ps : List (List Ord)) {k o : Nat} (h : offs.drop k = o :: offs.drop (k + 1)) : catTo ps (k + 1) = catTo ps k ++ ps.getD o [] := by
 have h1 : offs[k]? = some o := by
  have := congrArg List.head? h
  simpa [List.head?_drop] using this
 unfold catTo
 rw [List.take_add_one,h1]
 simp
theorem St.src {W w : World} {L : List HP} {v : Value} {k n : Nat} {T : TypeId} {cs : List Value} (hk : 0 < k) (h : St W (row v k T n cs :: L) w) : Src (row v k T n cs :: L) v n cs := by
 rcases h.rowOpen with ⟨rfl,rfl,rfl,_⟩|⟨g,cap,junk,rfl,hn1,hm1,hj1,hl1,_⟩
 ·exact .inl ⟨rfl,rfl,rfl⟩
 ·refine .inr ⟨g,0,cap,rfl,fun j u hj => ?_⟩
  rw [Nat.zero_add]
  have hjl := (List.getElem?_eq_some_iff.1 hj).1
  refine Cell.row ?_ hj
  rcases Nat.eq_zero_or_pos n with h0|h0
  ·rw [hl1,h0,Nat.zero_mul] at hjl;omega
  ·exact h0
def ListRel (W : World) (L : List HP) (bb : Nat) (b : Bk) (v3 v11 : Value) (w : World) : Prop :=
 ∃ k : Nat,v11 = .int .i64 k ∧ k ≤ 8 ∧ St W (pileR v3 (catTo b.ps k) :: bookP bb b :: L) w
theorem El7 (l : List Ord) : (l.flatMap Ord.cells).all (·.oneCell') = true := by
 rw [List.all_eq_true]
 intro v hv
 obtain ⟨x,_,hx⟩ := List.mem_flatMap.1 hv
 simp [Ord.cells] at hx
 rcases hx with rfl|rfl|rfl|rfl|rfl|rfl <;> rfl
theorem KP7 (bb : Nat) (b1 : Bk) (hok : b1.len ≤ 32) (W w : World) (L : List HP) (hS : St W (bookP bb b1 :: L) w) :
  Calls Tryz.prog 172 #[.pointer (some ⟨bb,0,none⟩)] w fun e w' => ∃ v l,e = .returned v ∧ l.Perm (catTo b1.ps 8) ∧ l.Pairwise (fun x y : Ord => x.id ≤ y.id) ∧ St W (bookP bb b1 :: pileR v l :: L) w' := by
 go_enter Tryz.func172,Tryz.ntmps172
 go_wp2_with (first|(go_at_call 207;refine (DE7 bb W _ _ hS).mono ?_;clear hS;rintro e w ⟨v,rfl,hS⟩;rcases hS.rowOpen with ⟨_,h0,_⟩|⟨g,cap,junk,rfl,hn1,hm1,hj1,hl1,hS'⟩;(exfalso;omega);clear hS;have hS := hS';clear hS';unfold maxLen at hm1)|(refine zl1 hS ?_)|(refine zlN hS ?_)|(refine zs1 hS ?_;clear hS;intro w hS)|(refine zsN hS ?_;clear hS;intro w hS)|(refine zbx hS ?_;clear hS;intro b w hS)|(refine zal hS ?_;clear hS;intro b w hS))
 have hS1 := (hS.swap.rowNil (k := 6) (T := 166))
 clear hS
 have hS := hS1
 clear hS1
 go_loopw [3,11] (fun v3 v wr => ListRel W (blk g (ptrL bb ++ junk) 273 :: L) bb b1 v3 v wr) (fun _ v _ => 8 - (intOf v).toNat)
 case atStart => exact ⟨0,rfl,by omega,hS⟩
 case round =>
  clear hS
  obtain ⟨k,rfl,hk,hS⟩ := hrel
  by_cases h8 : k = 8
  ·subst h8
   have hcl : (catTo b1.ps 8).length ≤ 32 := by rw [GS7 _ _ (Nat.le_refl _)];exact hok
   rcases hS.rowOpen with ⟨rfl,h0,_,hS'⟩|⟨g2,cap2,junk2,rfl,hn2,hm2,hj2,hl2,hS'⟩
   ·have hc0 : catTo b1.ps 8 = [] := List.eq_nil_of_length_eq_zero h0
    go_wp2_with (first|(go_at_call 211;refine (MJ7 _ W _ _ hS).mono ?_;clear hS;rintro e w ⟨rfl,hS⟩))
    go_ret
    refine ⟨_,catTo b1.ps 8,rfl,.refl _,by rw [hc0];exact .nil,?_⟩
    exact (hS.take .t2).drop.swap
   ·clear hS
    have hS := hS'
    clear hS'
    go_wp2_with (first|(go_at_call 211;refine (MI7 (catTo b1.ps 8) g2 cap2 junk2 (by omega) W _ _ hS).mono ?_;clear hS;rintro e w ⟨rfl,l,hl,hsd,hS⟩))
    go_ret
    refine ⟨_,l,rfl,hl,hsd,?_⟩
    have hll := hl.length_eq
    have hf1 := Ac7 Ord.len l
    have hf2 := Ac7 Ord.len (catTo b1.ps 8)
    rw [← hll] at hn2
    have h1 : St W (pileR (.slice (some ⟨g2,0,none⟩) l.length cap2) l :: bookP bb b1 :: blk g (ptrL bb ++ junk) 273 :: L) w := St.rowShut hS hn2 hm2 (by rw [List.length_append] at hj2 ⊢;rw [hf1,hll,← hf2];exact hj2) (by rw [hf1])
    rw [hll] at h1
    exact (h1.take .t2).drop.swap
  ·have hk8 : k < 8 := by omega
   clear h8 hk
   obtain ⟨o,ho,hdr,hpt⟩ := IU7 bb junk k hk8
   have hcs := JJ7 b1.ps hdr
   obtain ⟨vs,h1,h2,hS0⟩ := bookOpen hS.swap
   clear hS
   have ho1 : o < vs.length := by omega
   have ho2 : o < b1.ps.length := by omega
   have hpk : b1.ps[o] = b1.pile o := by unfold Bk.pile;simp [List.getD_eq_getElem?_getD,List.getElem?_eq_getElem ho2]
   have hS1 := pileTake o ho1 ho2 hS0.swap
   clear hS0
   rw [hpk] at hS1
   have hl : (vs ++ [Value.int .i64 b1.last])[o]? = some vs[o] := by rw [List.getElem?_append_left ho1,List.getElem?_eq_getElem ho1]
   generalize hvv : vs[o] = v at hl hS1
   have hp32 := IV7 b1 o ho hok
   have hgd : b1.ps.getD o [] = b1.pile o := rfl
   rw [hgd] at hp32 hcs
   have Hvv := Lib.hid hvv
   clear hvv
   have hS := hS1.take .t3
   clear hS1
   have hcl : (catTo b1.ps k).length ≤ 32 := by rw [GS7 _ _ (by omega)];exact Nat.le_trans (Au7 _ (by omega)) hok
   have hsrc : Src (pileR u3 (catTo b1.ps k) :: pileR v (b1.pile o) :: sats ((pilesR vs b1.ps).eraseIdx o) :: blk bb (vs ++ [Value.int .i64 b1.last]) 272 :: blk g (ptrL bb ++ junk) 273 :: L) v (b1.pile o).length ((b1.pile o).flatMap Ord.cells) := (St.src (by decide) hS.drop).there
   have Hcs := Lib.hid hcs
   clear hcs hdr
   go_wp2_with (first|(refine zl1 hS ?_ (hc := by exact Cell.there (Cell.there (Cell.there (Cell.there (Cell.here hpt))))))|(refine zl1 hS ?_ (hc := by exact Cell.there (Cell.there (Cell.there (Cell.here hl)))))|((with_reducible apply JI7 (e2 := 166) hS);(with_reducible rfl);rfl;rfl;rfl;(exact esS);kernel_rfl;(exact rsS);rfl;decide;(exact takeS);(exact hsrc);(focus (rw [Ac7 Ord.len]));(focus (exact El7 _));(focus (unfold maxLen;omega));(focus (omega));clear hS;intro v3 w hS;(refine frS ?_)))
   have hS3 := ((hS.take .t1).take .t2).swap
   clear hS
   have hS4 := pileBack o ho1 ho2 hS3
   clear hS3
   rw [← Hvv.out,← hpk,List.set_getElem_self,List.set_getElem_self] at hS4
   have hS5 := (bookShut h1 h2 (hS4.take .t2)).swap
   clear hS4
   go_roundw
   case rel =>
    refine ⟨k + 1,rfl,hk8,?_⟩
    rw [Hcs.out]
    unfold pileR
    rw [List.length_append,List.flatMap_append,← hpk]
    exact hS5
   case measure => simp [intOf];omega
def meetR (a b : Ord) : Bool := decide (a.item = b.item) && (a.buy != b.buy) && (if a.buy then decide (b.price ≤ a.price) else decide (a.price ≤ b.price))
def betterR (o x z : Ord) : Bool := if o.buy then decide (x.price < z.price) else decide (z.price < x.price)
def goodR (o : Ord) (L : List Ord) (n : Nat) : Option Nat → Bool
 | none => true
 | some k => betterR o (at' L n) (at' L k)
def bestTo (o : Ord) (L : List Ord) : Nat → Option Nat
 | 0 => none
 | n + 1 =>
  if meetR o (at' L n) && goodR o L n (bestTo o L n) then some n else bestTo o L n
def tradeR (o x : Ord) : Trd := if o.buy then ⟨o.who,x.who,o.id,x.id,o.item,minI o.cnt x.cnt,x.price,o.price⟩ else ⟨x.who,o.who,x.id,o.id,o.item,minI o.cnt x.cnt,x.price,x.price⟩
def cutR (L : List Ord) (k : Nat) (c : Int) : List Ord := if c = 0 then L.eraseIdx k else L.set k { at' L k with cnt := c }
def refLoop : Nat → Ord → List Ord → List Trd → Ord × List Ord × List Trd
 | 0,o,L,ts => (o,L,ts)
 | f + 1,o,L,ts =>
  if 0 < o.cnt then
   match bestTo o L L.length with
   | none => (o,L,ts)
   | some k => refLoop f { o with cnt := o.cnt - minI o.cnt (at' L k).cnt } (cutR L k ((at' L k).cnt - minI o.cnt (at' L k).cnt)) (ts ++ [tradeR o (at' L k)])
  else (o,L,ts)
structure PlacedR where
 trades : List Trd
 left : Int
 errno : Int
 L : List Ord
 last : Int
def placeR (L : List Ord) (last : Int) (o : Ord) : PlacedR :=
 if mayB o = false ∨ o.id ≤ last then ⟨[],0,1,L,last⟩
 else if 32 ≤ L.length then ⟨[],0,6,L,last⟩
 else
  let r := refLoop (L.length + 1) o L []
  ⟨r.2.2,r.1.cnt,0,if 0 < r.1.cnt then r.2.1 ++ [r.1] else r.2.1,o.id⟩
structure CancelledR where
 o : Ord
 errno : Int
 L : List Ord
def cancelR (L : List Ord) (id : Int) : CancelledR :=
 match L.findIdx? (fun o => o.id == id) with
 | none => ⟨o0,7,L⟩
 | some i => ⟨at' L i,0,L.eraseIdx i⟩
theorem ES7 {o : Ord} {L : List Ord} : ∀ {n : Nat},bestTo o L n = none → ∀ i,i < n → meetR o (at' L i) = false
 | 0,_,i,hi => absurd hi (Nat.not_lt_zero _)
 | n + 1,h,i,hi => by
  rw [bestTo] at h
  split at h
  ·cases h
  ·rename_i hc
   by_cases hin : i = n
   ·subst hin
    rw [h] at hc
    simpa [goodR] using hc
   ·exact ES7 h i (by omega)
theorem AN7 {o : Ord} {L : List Ord} : ∀ {n k : Nat},bestTo o L n = some k → k < n ∧ meetR o (at' L k) = true ∧ ∀ i,i < n → meetR o (at' L i) = true → betterR o (at' L i) (at' L k) = false ∧ (i < k → betterR o (at' L k) (at' L i) = true)
 | 0,k,h => by cases h
 | n + 1,k,h => by
  rw [bestTo] at h
  split at h
  ·rename_i hc
   cases h
   simp only [Bool.and_eq_true] at hc
   refine ⟨Nat.lt_succ_self _,hc.1,fun i hi hm => ?_⟩
   by_cases hin : i = n
   ·subst hin
    refine ⟨?_,fun h => absurd h (Nat.lt_irrefl _)⟩
    unfold betterR;split <;> simp
   ·have hin' : i < n := by omega
    cases hb : bestTo o L n with
    | none => rw [ES7 hb i hin'] at hm;cases hm
    | some k' =>
     rw [hb] at hc
     obtain ⟨_,_,h3⟩ := AN7 hb
     have h4 := (h3 i hin' hm).1
     have h5 : betterR o (at' L n) (at' L k') = true := hc.2
     unfold betterR at *
     split at h5
     ·rename_i ho
      rw [if_pos ho] at h4 ⊢
      rw [if_pos ho]
      simp only [decide_eq_true_eq,decide_eq_false_iff_not] at *
      exact ⟨by omega,fun _ => by omega⟩
     ·rename_i ho
      rw [if_neg ho] at h4 ⊢
      rw [if_neg ho]
      simp only [decide_eq_true_eq,decide_eq_false_iff_not] at *
      exact ⟨by omega,fun _ => by omega⟩
  ·rename_i hc
   obtain ⟨h1,h2,h3⟩ := AN7 h
   refine ⟨by omega,h2,fun i hi hm => ?_⟩
   by_cases hin : i = n
   ·subst hin
    refine ⟨?_,fun h => by omega⟩
    rw [h,hm] at hc
    simpa [goodR] using hc
   ·exact h3 i (by omega) hm
theorem KQ7 (o x z : Ord) : betterR o x z = decide (ky (!o.buy) x < ky (!o.buy) z) := by
 unfold betterR ky
 cases o.buy <;> simp
abbrev ById (L : List Ord) : Prop := L.Pairwise fun x z => x.id < z.id
theorem ById.lt {L : List Ord} (h : ById L) {i j : Nat} (hj : j < L.length) (hij : i < j) : (at' L i).id < (at' L j).id := by
 rw [at'_get hj,at'_get (show i < L.length by omega)]
 exact List.pairwise_iff_getElem.1 h i j (by omega) hj hij
theorem ById.inj {L : List Ord} (h : ById L) {i j : Nat} (hi : i < L.length) (hj : j < L.length) (he : (at' L i).id = (at' L j).id) : i = j := by
 rcases Nat.lt_trichotomy i j with h1|h1|h1
 ·have := h.lt hj h1;omega
 ·exact h1
 ·have := h.lt hi h1;omega
theorem mem_at' {L : List Ord} {x : Ord} (hx : x ∈ L) : ∃ i,i < L.length ∧ at' L i = x := by
 obtain ⟨i,hi,rfl⟩ := List.mem_iff_getElem.1 hx
 exact ⟨i,hi,at'_get hi⟩
theorem at'_mem {L : List Ord} {i : Nat} (hi : i < L.length) : at' L i ∈ L := by rw [at'_get hi];exact List.getElem_mem hi
theorem ById.eq {L : List Ord} (h : ById L) {x z : Ord} (hx : x ∈ L) (hz : z ∈ L) (he : x.id = z.id) : x = z := by
 obtain ⟨i,hi,rfl⟩ := mem_at' hx
 obtain ⟨j,hj,rfl⟩ := mem_at' hz
 rw [h.inj hi hj he]
theorem GT7 : ∀ {l L : List Ord},l.Perm L → l.Pairwise (fun x z => x.id ≤ z.id) → ById L → l = L
 | [],L,hp,_,_ => (List.nil_perm.1 hp).symm
 | a :: l,[],hp,_,_ => by simp at hp
 | a :: l,b :: L,hp,h1,h2 => by
  have ha : a ∈ b :: L := hp.mem_iff.1 (List.mem_cons_self ..)
  have hb : b ∈ a :: l := hp.mem_iff.2 (List.mem_cons_self ..)
  have hab : a = b := by
   rcases List.mem_cons.1 ha with h|h
   ·exact h
   ·rcases List.mem_cons.1 hb with h'|h'
    ·exact h'.symm
    ·have e1 := (List.pairwise_cons.1 h2).1 a h
     have e2 := (List.pairwise_cons.1 h1).1 b h'
     omega
  subst hab
  rw [GT7 hp.cons_inv (List.pairwise_cons.1 h1).2 (List.pairwise_cons.1 h2).2]
theorem IW7 (L : List Ord) {k : Nat} (hk : k < L.length) : (at' L k :: L.eraseIdx k).Perm L := by rw [at'_get hk];exact Bw7 L k hk
theorem Pk7 (L : List Ord) {k : Nat} (hk : k < L.length) (x : Ord) : (x :: L.eraseIdx k).Perm (L.set k x) := by
 have h := Bw7 (L.set k x) k (by simpa using hk)
 rw [List.getElem_set_self,List.eraseIdx_set_eq] at h
 exact h
theorem ById.erase {L : List Ord} (h : ById L) (k : Nat) : ById (L.eraseIdx k) := List.Pairwise.sublist (List.eraseIdx_sublist L k) h
theorem ById.set {L : List Ord} (h : ById L) {k : Nat} (hk : k < L.length) (c : Int) : ById (L.set k { at' L k with cnt := c }) := by
 have e : ∀ i (hi : i < L.length),((L.set k { at' L k with cnt := c })[i]'(by simpa using hi)).id = (at' L i).id := by
  intro i hi
  rw [List.getElem_set]
  split
  ·rename_i he;subst he;rfl
  ·rw [at'_get hi]
 rw [ById,List.pairwise_iff_getElem]
 intro i j hi hj hij
 rw [List.length_set] at hi hj
 rw [e i hi,e j hj]
 exact h.lt hj hij
structure Sim (o : Ord) (q rest L : List Ord) : Prop where
 perm : L.Perm (q ++ rest)
 heap : Heap (!o.buy) q
 item : ∀ x ∈ q,x.item = o.item
 far : ∀ x ∈ rest,meetR o x = false
 byId : ById L
theorem GU7 {o x : Ord} (hi : x.item = o.item) (hb : x.buy = !o.buy) : meetR o x = meetO o x := by
 unfold meetR meetO
 rw [hi,hb]
 cases o.buy <;> simp
theorem JK7 {o x : Ord} (hb : x.buy = !o.buy) : tradeR o x = tradeF o x := by
 unfold tradeR tradeF
 rw [hb]
 cases o.buy <;> simp
theorem Sim.best_no {o : Ord} {x : Ord} {q rest L : List Ord} (h : Sim o (x :: q) rest L) (hm : meetO o x = false) : bestTo o L L.length = none := by
 cases hb : bestTo o L L.length with
 | none => rfl
 | some k =>
  obtain ⟨hk,hmk,_⟩ := AN7 hb
  have hmem := h.perm.mem_iff.1 (at'_mem hk)
  rcases List.mem_append.1 hmem with hq|hr
  ·have hle := h.heap.top _ hq
   have hs := h.heap.side _ hq
   have hs0 := h.heap.side x (List.mem_cons_self ..)
   rw [GU7 (h.item _ hq) hs] at hmk
   unfold leK ky at hle
   unfold meetO at hm hmk
   rw [hs] at hmk
   rw [hs0] at hm
   cases ho : o.buy <;> simp [ho] at hm hmk hle <;> omega
  ·rw [h.far _ hr] at hmk;cases hmk
theorem Sim.best_nil {o : Ord} {rest L : List Ord} (h : Sim o [] rest L) : bestTo o L L.length = none := by
 cases hb : bestTo o L L.length with
 | none => rfl
 | some k =>
  obtain ⟨hk,hmk,_⟩ := AN7 hb
  rw [h.far _ (h.perm.mem_iff.1 (at'_mem hk))] at hmk
  cases hmk
theorem Sim.best_yes {o : Ord} {x : Ord} {q rest L : List Ord} (h : Sim o (x :: q) rest L) (hm : meetO o x = true) : ∃ k,bestTo o L L.length = some k ∧ k < L.length ∧ at' L k = x := by
 have hs0 := h.heap.side x (List.mem_cons_self ..)
 have hx : x ∈ L := h.perm.mem_iff.2 (by simp)
 obtain ⟨i,hi,hix⟩ := mem_at' hx
 have hmi : meetR o (at' L i) = true := by rw [hix,GU7 (h.item x (List.mem_cons_self ..)) hs0];exact hm
 cases hb : bestTo o L L.length with
 | none => rw [ES7 hb i hi] at hmi;cases hmi
 | some k =>
  obtain ⟨hk,hmk,hall⟩ := AN7 hb
  refine ⟨k,rfl,hk,?_⟩
  have hmem := h.perm.mem_iff.1 (at'_mem hk)
  rcases List.mem_append.1 hmem with hq|hr
  ·have hle := h.heap.top _ hq
   obtain ⟨h1,h2⟩ := hall i hi hmi
   rw [KQ7,hix] at h1 h2
   simp only [decide_eq_false_iff_not,decide_eq_true_eq] at h1 h2
   unfold leK at hle
   rcases Nat.lt_trichotomy i k with h3|h3|h3
   ·have := h2 h3;omega
   ·rw [← h3];exact hix
   ·have := h.byId.lt hi h3
    rw [hix] at this
    omega
  ·rw [h.far _ hr] at hmk;cases hmk
theorem Em7 {a b : Int} (ha : 0 < a) (hb : 0 < b) : 0 < minI a b ∧ minI a b ≤ a ∧ minI a b ≤ b := by unfold minI;split <;> omega
theorem Sim.step {o : Ord} {x : Ord} {q rest L : List Ord} (h : Sim o (x :: q) rest L) {k : Nat} (hk : k < L.length) (hx : at' L k = x) (c c' : Int) :
  Sim { o with cnt := c' } (if c = 0 then popT ({ x with cnt := c } :: q) else { x with cnt := c } :: q) rest (cutR L k c) := by
 have hc := h.heap.cnt c
 have hp := Cv7 { x with cnt := c } q
 have h1 := (IW7 L hk).symm
 rw [hx] at h1
 have h2 : (L.eraseIdx k).Perm (q ++ rest) := (h1.symm.trans h.perm).cons_inv
 unfold cutR
 by_cases hz : c = 0
 ·rw [if_pos hz,if_pos hz]
  refine ⟨h2.trans (hp.symm.append_right rest),hc.pop,fun z hz' => h.item z (List.mem_cons_of_mem _ (hp.mem_iff.1 hz')),h.far,h.byId.erase k⟩
 ·rw [if_neg hz,if_neg hz,hx]
  refine ⟨(Pk7 L hk _).symm.trans (h2.cons _),hc,?_,h.far,?_⟩
  ·intro z hz'
   rcases List.mem_cons.1 hz' with rfl|hz'
   ·exact h.item x (List.mem_cons_self ..)
   ·exact h.item z (List.mem_cons_of_mem _ hz')
  ·have := h.byId.set hk c
   rw [hx] at this
   exact this
theorem DH7 (o x : Ord) : (tradeF o x).cnt = minI o.cnt x.cnt := by unfold tradeF;split <;> rfl
theorem sim : ∀ (f : Nat) (o : Ord) (q rest L : List Ord) (ts : List Trd),Sim o q rest L →
  ∃ L',refLoop f o L ts = ((loopF f o q ts).1,L',(loopF f o q ts).2.2) ∧ Sim (loopF f o q ts).1 (loopF f o q ts).2.1 rest L'
 | 0,o,q,rest,L,ts,h => ⟨L,rfl,h⟩
 | f + 1,o,[],rest,L,ts,h => by
  refine ⟨L,?_,h⟩
  rw [refLoop,h.best_nil]
  simp only [ite_self]
  rfl
 | f + 1,o,x :: q,rest,L,ts,h => by
  rw [refLoop,loopF]
  by_cases h0 : 0 < o.cnt
  ·rw [if_pos h0]
   cases hm : meetO o x
   ·rw [h.best_no hm,if_neg (by rintro ⟨_,h⟩;cases h)]
    exact ⟨L,rfl,h⟩
   ·obtain ⟨k,hb,hk,hx⟩ := h.best_yes hm
    rw [hb,if_pos ⟨h0,rfl⟩]
    simp only
    rw [hx,DH7,JK7 (h.heap.side x (List.mem_cons_self ..))]
    exact sim f _ _ rest _ _ (h.step hk hx _ _)
  ·rw [if_neg h0,if_neg (fun h => h0 h.1)]
   exact ⟨L,rfl,h⟩
theorem GV7 : ∀ (f f' : Nat) (o : Ord) (q : List Ord) (ts : List Trd),(∀ x ∈ q,0 < x.cnt) → (q.length < f ∧ q.length < f') ∨ (o.cnt ≤ 0 ∧ 0 < f ∧ 0 < f') → loopF f o q ts = loopF f' o q ts
 | 0,_,_,_,_,_,h => by omega
 | _ + 1,0,_,_,_,_,h => by omega
 | f + 1,f' + 1,o,[],ts,_,h => rfl
 | f + 1,f' + 1,o,x :: q,ts,hc,h => by
  rw [loopF,loopF]
  by_cases hcond : 0 < o.cnt ∧ meetO o x = true
  ·rw [if_pos hcond,if_pos hcond]
   have hx := hc x (List.mem_cons_self ..)
   have hmin := Em7 hcond.1 hx
   have hl : (x :: q).length < f + 1 ∧ (x :: q).length < f' + 1 := by omega
   simp only [List.length_cons] at hl
   rw [DH7]
   refine GV7 f f' _ _ _ ?_ ?_
   ·intro z hz
    split at hz
    ·exact hc z (List.mem_cons_of_mem _ ((Cv7 _ _).mem_iff.1 hz))
    ·rename_i hne
     rcases List.mem_cons.1 hz with rfl|hz
     ·simp only;omega
     ·exact hc z (List.mem_cons_of_mem _ hz)
   ·by_cases hz : x.cnt - minI o.cnt x.cnt = 0
    ·left
     rw [if_pos hz,Bx7]
     simp only [List.length_cons]
     omega
    ·right
     refine ⟨?_,by omega,by omega⟩
     simp only
     unfold minI at hz ⊢
     split at hz <;> split <;> omega
  ·rw [if_neg hcond,if_neg hcond]
end Go.Proofs.YtlmhakmoioogaaaGreat
end
