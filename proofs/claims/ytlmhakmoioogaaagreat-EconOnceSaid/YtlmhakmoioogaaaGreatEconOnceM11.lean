/-
  heap.Push, heap.Pop, heap.Remove at a pile of orders: what becomes of the row. For every row.
  A book's small functions: may an order be, a new book, the pile of a side, how many stand there. For every book.
  A book as a resource: its block and eight piles; all piles, how many stand there. For every book.
-/
import Derived.Test.YtlmhakmoioogaaaGreatEconOnceM5
import Derived.Test.YtlmhakmoioogaaaGreatEconOnceM10
set_option maxHeartbeats 16000000
set_option maxRecDepth 100000
set_option linter.unusedSimpArgs false
set_option linter.unusedVariables false
section
namespace Go.Proofs.YtlmhakmoioogaaaGreat
open Go.RowKit Go.Sl
theorem JD7 (xs : List Ord) (o : Ord) (l : List Value) (T : TypeId) (bb off n : Nat) (v : Value) (hn : xs.length = n) (h63 : n ≤ 4294967296) (hl : l[off]? = some v) (W w : World) (L : List HP)
  (hS : St W (blk bb l T :: row v 6 166 n (xs.flatMap Ord.cells) :: L) w) :
  Calls Tryz.prog 206 #[.iface 273 (.pointer (some ⟨bb,off,none⟩)),.iface 166 (.agg o.cells.toArray)] w fun e w' => ∃ v',e = .returned (.tuple #[]) ∧ St W (blk bb (l.set off v') T :: row v' 6 166 (n + 1) ((upF n (xs ++ [o]) n).flatMap Ord.cells) :: L) w' := by
 have hlt : off < l.length := (List.getElem?_eq_some_iff.1 hl).1
 go_enter Tryz.func206,Tryz.ntmps206
 have Hlen := Lib.hid (show (xs ++ [o]).length = n + 1 by simp [hn])
 have Hn := Lib.hid hn
 have Hl := Lib.hid hl
 clear hn hl
 go_wp2_with (first
  | ((with_reducible apply BR7 300);(with_reducible rfl);rfl;rfl;decide +kernel;decide +kernel;decide +kernel;(focus (simp only [fD,fI,fJ,Act.eval,fE,fF,fG,fH,fK];try rfl));(simp only [List.append_toArray,List.cons_append,List.nil_append]);refine Calls.mono (JB7 xs o l T bb off n v Hn.out h63 Hl.out W _ L hS) ?_;clear hS;rintro e w ⟨v',rfl,hS⟩;refine ⟨_,rfl,?_⟩;(refine frS ?_);have h1 := hS.swap.rowOpen;clear hS;rcases h1 with ⟨_,h0,_⟩ | ⟨g,cap,junk,rfl,hn1,hm1,hj1,hl1,hS⟩;(exfalso;omega);have hm' : cap ≤ 9223372036854775807 := (by unfold maxLen at hm1;omega))
  | ((with_reducible apply Am7 296 hS);(with_reducible rfl);rfl;rfl;decide +kernel;decide +kernel;decide +kernel;(first | exact Cell.there (Cell.here (List.getElem?_set_self hlt)) | exact celS);(focus (simp only [fD,fI,fJ,Act.eval,fE,fF,fG,fH,fK];try rfl));(simp only [List.append_toArray,List.cons_append,List.nil_append]);refine Calls.mono (Cu7 _ (n + 1) cap W _ _ hS) ?_;(clear hS;rintro e w ⟨rfl,hS⟩;refine ⟨_,rfl,?_⟩;try (refine frS ?_)))
  | (go_at_call 248;refine (KF7 (xs ++ [o]) junk _ T bb off g (n + 1) cap n Hlen.out (by omega) hn1 hm1 (List.getElem?_set_self hlt) W _ L hS.swap).mono ?_;clear hS;rintro e w ⟨rfl,hS⟩))
 go_end0
 refine ⟨.slice (some ⟨g,0,none⟩) (n + 1) cap,rfl,?_⟩
 have hS := hS.swap
 refine (St.rowShut hS hn1 hm1 ?_ ?_).swap
 ·rw [List.length_append,Ac7 Ord.len,BW7,Hlen.out]
  rw [List.length_append,hl1] at hj1
  exact hj1
 ·rw [Ac7 Ord.len,BW7,Hlen.out]
def popF (xs : List Ord) (n : Nat) (h : xs.length = n + 1) : List Ord := (downF n (swapL xs 0 n (by omega) (by omega)) 0 n).1
theorem AM7 {xs : List Ord} {n : Nat} (h : xs.length = n + 1) : (popF xs n h).length = n + 1 := by rw [popF,Bh7,Aj7,h]
theorem KG7 (xs : List Ord) (junk l : List Value) (T : TypeId) (bb off g n cap : Nat) (hn : xs.length = n + 1) (hcap : n + 1 ≤ cap) (hm : cap ≤ maxLen) (h63 : n ≤ 4294967296) (hl : l[off]? = some (.slice (some ⟨g,0,none⟩) (n + 1) cap)) (W w : World) (L : List HP)
  (hS : St W (blk bb l T :: blk g (xs.flatMap Ord.cells ++ junk) 166 :: L) w) :
  Calls Tryz.prog 209 #[.iface 273 (.pointer (some ⟨bb,off,none⟩))] w fun e w' => e = .returned (.iface 166 (.agg ((popF xs n hn)[n]'(by rw [AM7];omega)).cells.toArray)) ∧
   St W (blk bb (l.set off (.slice (some ⟨g,0,none⟩) n cap)) T :: blk g ((popF xs n hn).flatMap Ord.cells ++ junk) 166 :: L) w' := by
 have hm' : cap ≤ 9223372036854775807 := by unfold maxLen at hm;omega
 have Hn := Lib.hid hn
 go_enter Tryz.func209,Tryz.ntmps209
 go_wp2_with (first|((with_reducible apply Am7 296 hS);(with_reducible rfl);rfl;rfl;decide +kernel;decide +kernel;decide +kernel;(first|exact Cell.here hl|exact celS);(focus (simp only [fD,fI,fJ,Act.eval,fE,fF,fG,fH,fK];try rfl));(simp only [List.append_toArray,List.cons_append,List.nil_append]);refine Calls.mono (Cu7 _ (n + 1) cap W _ _ hS) ?_;(clear hS;rintro e w ⟨rfl,hS⟩;refine ⟨_,rfl,?_⟩;try (refine frS ?_)))|((with_reducible apply Am7 298 hS);(with_reducible rfl);rfl;rfl;decide +kernel;decide +kernel;decide +kernel;(first|exact Cell.here hl|exact celS);(focus (simp only [fD,fI,fJ,Act.eval,fE,fF,fG,fH,fK];try rfl));(simp only [List.append_toArray,List.cons_append,List.nil_append]);refine Calls.mono (Bq7 xs junk g (n + 1) cap 0 n Hn.out (by omega) (by omega) hcap hm _ _ _ hS.swap) ?_;(clear hS;rintro e w ⟨rfl,hS⟩;refine ⟨_,rfl,?_⟩;try (refine frS ?_)))|(go_at_call 249;refine (GN7 (swapL xs 0 n (by omega) (by omega)) junk l T bb off g (n + 1) cap 0 n (by rw [Aj7];exact Hn.out) (by omega) (by omega) h63 hcap hm hl W _ L hS.swap).mono ?_;clear hS;rintro e w ⟨rfl,hS⟩)|((with_reducible apply BR7 299);(with_reducible rfl);rfl;rfl;decide +kernel;decide +kernel;decide +kernel;(focus (simp only [fD,fI,fJ,Act.eval,fE,fF,fG,fH,fK];try rfl));(simp only [List.append_toArray,List.cons_append,List.nil_append]);refine Calls.mono (GK7 (popF xs n hn) junk l T bb off g n cap (AM7 hn) hcap hm hl W _ L hS) ?_;clear hS;rintro e w ⟨rfl,hS⟩;refine ⟨_,rfl,?_⟩;(refine frS ?_)))
 go_ret
 exact ⟨rfl,hS⟩
def remF (xs : List Ord) (i n : Nat) (h : xs.length = n + 1) (hi : i ≤ n) : List Ord :=
 if i = n then xs else
  if i < (downF n (swapL xs i n (by omega) (by omega)) i n).2 then (downF n (swapL xs i n (by omega) (by omega)) i n).1
  else upF i (downF n (swapL xs i n (by omega) (by omega)) i n).1 i
theorem Bv7 {xs : List Ord} {i n : Nat} (h : xs.length = n + 1) (hi : i ≤ n) : (remF xs i n h hi).length = n + 1 := by
 unfold remF
 split
 ·exact h
 ·split
  ·rw [Bh7,Aj7,h]
  ·rw [BW7,Bh7,Aj7,h]
theorem HM7 (xs : List Ord) (x : Ord) (junk : List Value) (l : List Value) (T : TypeId) (bb off g n cap : Nat) (hx : xs[n]? = some x) (hn : xs.length = n + 1) (hcap : n + 1 ≤ cap) (hm : cap ≤ maxLen) (hl : l[off]? = some (.slice (some ⟨g,0,none⟩) (n + 1) cap)) (W w : World) (L : List HP)
  (hS : St W (blk bb l T :: blk g (xs.flatMap Ord.cells ++ junk) 166 :: L) w) :
  Calls Tryz.prog 299 #[.pointer (some ⟨bb,off,none⟩)] w fun e w' => e = .returned (.iface 166 (.agg x.cells.toArray)) ∧ St W (blk bb (l.set off (.slice (some ⟨g,0,none⟩) n cap)) T :: blk g (xs.flatMap Ord.cells ++ junk) 166 :: L) w' := by
 have h : n < xs.length := by omega
 have e : xs[n] = x := by rw [List.getElem?_eq_getElem h] at hx;exact Option.some.inj hx
 rw [← e]
 exact GK7 xs junk l T bb off g n cap hn hcap hm hl W w L hS
theorem KH7 (xs zs : List Ord) (x : Ord) (junk l : List Value) (T : TypeId) (bb off g i n cap : Nat) (hn : xs.length = n + 1) (hi : i ≤ n) (hr : remF xs i n hn hi = zs) (hx : zs[n]? = some x) (hcap : n + 1 ≤ cap) (hm : cap ≤ maxLen) (h63 : n ≤ 4294967296) (hl : l[off]? = some (.slice (some ⟨g,0,none⟩) (n + 1) cap)) (W w : World) (L : List HP)
  (hS : St W (blk bb l T :: blk g (xs.flatMap Ord.cells ++ junk) 166 :: L) w) :
  Calls Tryz.prog 215 #[.iface 273 (.pointer (some ⟨bb,off,none⟩)),.int .i64 i] w fun e w' => e = .returned (.iface 166 (.agg x.cells.toArray)) ∧
   St W (blk bb (l.set off (.slice (some ⟨g,0,none⟩) n cap)) T :: blk g (zs.flatMap Ord.cells ++ junk) 166 :: L) w' := by
 have hm' : cap ≤ 9223372036854775807 := by unfold maxLen at hm;omega
 have Hrl := Lib.hid (show zs.length = n + 1 from hr ▸ Bv7 hn hi)
 have Hx := Lib.hid hx
 clear hx
 have hi63 : i ≤ 4294967296 := by omega
 by_cases hin : i = n
 ·unfold remF at hr
  rw [if_pos hin] at hr
  subst hin hr
  clear hn
  have hne : ((i : Int) != (i : Int)) = false := by simp
  obtain ⟨n,rfl⟩ : ∃ n,n = i := ⟨_,rfl⟩
  go_enter Tryz.func215,Tryz.ntmps215
  go_wp2_with (first|((with_reducible apply Am7 296 hS);(with_reducible rfl);rfl;rfl;decide +kernel;decide +kernel;decide +kernel;(first|exact Cell.here hl|exact celS);(focus (simp only [fD,fI,fJ,Act.eval,fE,fF,fG,fH,fK];try rfl));(simp only [List.append_toArray,List.cons_append,List.nil_append]);refine Calls.mono (Cu7 _ (n + 1) cap W _ _ hS) ?_;(clear hS;rintro e w ⟨rfl,hS⟩;refine ⟨_,rfl,?_⟩;try (refine frS ?_)))|((with_reducible apply BR7 299);(with_reducible rfl);rfl;rfl;decide +kernel;decide +kernel;decide +kernel;(focus (simp only [fD,fI,fJ,Act.eval,fE,fF,fG,fH,fK];try rfl));(simp only [List.append_toArray,List.cons_append,List.nil_append]);refine Calls.mono (HM7 xs x junk l T bb off g n cap Hx.out Hrl.out hcap hm hl W _ L hS) ?_;clear hS;rintro e w ⟨rfl,hS⟩;refine ⟨_,rfl,?_⟩;(refine frS ?_)))
  go_ret
  exact ⟨rfl,hS⟩
 ·have hlt : i < n := by omega
  have hil : i < xs.length := by omega
  have hnl : n < xs.length := by omega
  have hne : ((n : Int) != (i : Int)) = true := by simp;omega
  unfold remF at hr
  rw [if_neg hin] at hr
  have Hsw := Lib.hid (fun w L hS => Bq7 xs junk g (n + 1) cap i n hn hil hnl hcap hm W w L hS)
  have hds := GN7 (swapL xs i n hil hnl) junk l T bb off g (n + 1) cap i n (by rw [Aj7];exact hn) (by omega) hi63 h63 hcap hm hl
  have hdl := Bh7 n (swapL xs i n hil hnl) i n
  rw [Aj7,hn] at hdl
  generalize downF n (swapL xs i n hil hnl) i n = d at hr hdl hds
  obtain ⟨ys,k⟩ := d
  have Hdl := Lib.hid hdl
  have Hds := Lib.hid hds
  clear hdl hn hds
  by_cases hk : i < k
  ·rw [if_pos hk] at hr
   subst hr
   have hkd : decide (i < k) = true := by simpa using hk
   go_enter Tryz.func215,Tryz.ntmps215
   go_wp2_with (first|((with_reducible apply Am7 296 hS);(with_reducible rfl);rfl;rfl;decide +kernel;decide +kernel;decide +kernel;(first|exact Cell.here hl|exact celS);(focus (simp only [fD,fI,fJ,Act.eval,fE,fF,fG,fH,fK];try rfl));(simp only [List.append_toArray,List.cons_append,List.nil_append]);refine Calls.mono (Cu7 _ (n + 1) cap W _ _ hS) ?_;(clear hS;rintro e w ⟨rfl,hS⟩;refine ⟨_,rfl,?_⟩;try (refine frS ?_)))|((with_reducible apply Am7 298 hS);(with_reducible rfl);rfl;rfl;decide +kernel;decide +kernel;decide +kernel;(first|exact Cell.here hl|exact celS);(focus (simp only [fD,fI,fJ,Act.eval,fE,fF,fG,fH,fK];try rfl));(simp only [List.append_toArray,List.cons_append,List.nil_append]);refine Calls.mono (Hsw.out _ _ hS.swap) ?_;(clear hS;rintro e w ⟨rfl,hS⟩;refine ⟨_,rfl,?_⟩;try (refine frS ?_)))|(go_at_call 249;refine (Hds.out W _ L hS.swap).mono ?_;clear hS;rintro e w ⟨rfl,hS⟩)|((with_reducible apply BR7 299);(with_reducible rfl);rfl;rfl;decide +kernel;decide +kernel;decide +kernel;(focus (simp only [fD,fI,fJ,Act.eval,fE,fF,fG,fH,fK];try rfl));(simp only [List.append_toArray,List.cons_append,List.nil_append]);refine Calls.mono (HM7 ys x junk l T bb off g n cap Hx.out Hrl.out hcap hm hl W _ L hS) ?_;clear hS;rintro e w ⟨rfl,hS⟩;refine ⟨_,rfl,?_⟩;(refine frS ?_)))
   go_ret
   exact ⟨rfl,hS⟩
  ·rw [if_neg hk] at hr
   subst hr
   have hkd : decide (i < k) = false := by simpa using hk
   go_enter Tryz.func215,Tryz.ntmps215
   go_wp2_with (first|((with_reducible apply Am7 296 hS);(with_reducible rfl);rfl;rfl;decide +kernel;decide +kernel;decide +kernel;(first|exact Cell.here hl|exact celS);(focus (simp only [fD,fI,fJ,Act.eval,fE,fF,fG,fH,fK];try rfl));(simp only [List.append_toArray,List.cons_append,List.nil_append]);refine Calls.mono (Cu7 _ (n + 1) cap W _ _ hS) ?_;(clear hS;rintro e w ⟨rfl,hS⟩;refine ⟨_,rfl,?_⟩;try (refine frS ?_)))|((with_reducible apply Am7 298 hS);(with_reducible rfl);rfl;rfl;decide +kernel;decide +kernel;decide +kernel;(first|exact Cell.here hl|exact celS);(focus (simp only [fD,fI,fJ,Act.eval,fE,fF,fG,fH,fK];try rfl));(simp only [List.append_toArray,List.cons_append,List.nil_append]);refine Calls.mono (Hsw.out _ _ hS.swap) ?_;(clear hS;rintro e w ⟨rfl,hS⟩;refine ⟨_,rfl,?_⟩;try (refine frS ?_)))|(go_at_call 249;refine (Hds.out W _ L hS.swap).mono ?_;clear hS;rintro e w ⟨rfl,hS⟩)|(go_at_call 248;refine (KF7 ys junk l T bb off g (n + 1) cap i Hdl.out (by omega) hcap hm hl W _ L hS).mono ?_;clear hS;rintro e w ⟨rfl,hS⟩)|((with_reducible apply BR7 299);(with_reducible rfl);rfl;rfl;decide +kernel;decide +kernel;decide +kernel;(focus (simp only [fD,fI,fJ,Act.eval,fE,fF,fG,fH,fK];try rfl));(simp only [List.append_toArray,List.cons_append,List.nil_append]);refine Calls.mono (HM7 (upF i ys i) x junk l T bb off g n cap Hx.out Hrl.out hcap hm hl W _ L hS) ?_;clear hS;rintro e w ⟨rfl,hS⟩;refine ⟨_,rfl,?_⟩;(refine frS ?_)))
   go_ret
   exact ⟨rfl,hS⟩
theorem Db7 (o : Ord) (W w : World) (L : List HP) (hS : St W L w) :
  Calls Tryz.prog 203 #[.agg o.cells.toArray] w fun e w' => e = .returned (.bool (mayB o)) ∧ St W L w' := by
 obtain ⟨i,u,y,t,c,p⟩ := o
 simp only [Ord.cells]
 go_enter Tryz.func203,Tryz.ntmps203
 go_wp2_with (first|(refine zl1 hS ?_)|(refine zlN hS ?_)|(refine zs1 hS ?_;clear hS;intro w hS)|(refine zsN hS ?_;clear hS;intro w hS)|(refine zbx hS ?_;clear hS;intro b w hS)|(refine zal hS ?_;clear hS;intro b w hS))
 all_goals go_ret
 all_goals exact ⟨by simp [mayB, *];try omega,hS.drop⟩
theorem MC7 (W w : World) (L : List HP) (hS : St W L w) :
  Calls Tryz.prog 201 #[] w fun e w' => ∃ b,e = .returned (.pointer (some ⟨b,0,none⟩)) ∧ St W (blk b (List.replicate 8 (.slice none 0 0) ++ [.int .i64 0]) 272 :: L) w' := by
 go_enter Tryz.func201,Tryz.ntmps201
 go_wp2_with (first|(refine zl1 hS ?_)|(refine zlN hS ?_)|(refine zs1 hS ?_;clear hS;intro w hS)|(refine zsN hS ?_;clear hS;intro w hS)|(refine zbx hS ?_;clear hS;intro b w hS)|(refine zal hS ?_;clear hS;intro b w hS))
 go_ret
 exact ⟨_,rfl,hS⟩
structure Bk where
 ps : List (List Ord)
 last : Int
def pileR (v : Value) (p : List Ord) : HP := row v 6 166 p.length (p.flatMap Ord.cells)
def pilesR (vs : List Value) (ps : List (List Ord)) : List HP := List.zipWith pileR vs ps
def bookP (bb : Nat) (b : Bk) : HP := fun f => ∃ vs : List Value,(vs.length = 8 ∧ b.ps.length = 8) ∧ sats [blk bb (vs ++ [.int .i64 b.last]) 272,sats (pilesR vs b.ps)] f
theorem Bw7 {α : Type} : ∀ (l : List α) (k : Nat) (h : k < l.length),(l[k] :: l.eraseIdx k).Perm l
 | _ :: _,0,_ => .refl _
 | x :: l,k + 1,h => (List.Perm.swap x _ _).trans ((Bw7 l k (Nat.lt_of_succ_lt_succ h)).cons x)
section
variable {W w : World} {L : List HP}
theorem JE7 {L : List HP} {S : Nat → Bool} {h : Frag} (x : sats L (cutIn S h)) : sats L h := by
 have e : cutIn S h = cutOut (fun b => !S b) h := by
  funext b;simp only [cutIn,cutOut];cases S b <;> rfl
 exact Cd7 (e ▸ x)
theorem bookOpen {bb : Nat} {b : Bk} (h : St W (bookP bb b :: L) w) : ∃ vs : List Value,vs.length = 8 ∧ b.ps.length = 8 ∧ St W (blk bb (vs ++ [.int .i64 b.last]) 272 :: sats (pilesR vs b.ps) :: L) w := by
 obtain ⟨vs,h⟩ := St.ex h
 obtain ⟨⟨h1,h2⟩,h⟩ := St.and h
 refine ⟨vs,h1,h2,?_⟩
 have h3 := (St.split h).swap
 exact (h3.imp (Y := sats (pilesR vs b.ps)) fun f ⟨S,x,_⟩ => JE7 x).swap
theorem bookShut {bb : Nat} {b : Bk} {vs : List Value} (h1 : vs.length = 8) (h2 : b.ps.length = 8) (h : St W (blk bb (vs ++ [.int .i64 b.last]) 272 :: sats (pilesR vs b.ps) :: L) w) : St W (bookP bb b :: L) w := by
 refine St.mkEx vs (St.mkAnd ⟨h1,h2⟩ ?_)
 refine St.join ?_
 refine St.swap (St.imp h.swap ?_)
 intro f hf
 exact ⟨fun _ => true,hf,trivial⟩
theorem pileTake {vs : List Value} {ps : List (List Ord)} (k : Nat) (h1 : k < vs.length) (h2 : k < ps.length) (h : St W (sats (pilesR vs ps) :: L) w) : St W (pileR vs[k] ps[k] :: sats ((pilesR vs ps).eraseIdx k) :: L) w := by
 have hk : k < (pilesR vs ps).length := by simp [pilesR];omega
 have e : (pilesR vs ps)[k] = pileR vs[k] ps[k] := by simp [pilesR]
 refine St.split (St.imp h fun f hf => ?_)
 rw [← e]
 exact EF7 (Bw7 _ k hk).symm hf
theorem pileBack {vs : List Value} {ps : List (List Ord)} {v : Value} {p : List Ord} (k : Nat) (h1 : k < vs.length) (h2 : k < ps.length) (h : St W (pileR v p :: sats ((pilesR vs ps).eraseIdx k) :: L) w) : St W (sats (pilesR (vs.set k v) (ps.set k p)) :: L) w := by
 have e1 : pilesR (vs.set k v) (ps.set k p) = (pilesR vs ps).set k (pileR v p) := by
  apply List.ext_getElem?
  intro i
  simp only [pilesR,List.getElem?_zipWith,List.getElem?_set]
  by_cases hi : k = i
  ·subst hi
   simp [h1,h2,show k < min vs.length ps.length by omega]
  ·simp [hi]
 have hk : k < ((pilesR vs ps).set k (pileR v p)).length := by simp [pilesR];omega
 have e2 : ((pilesR vs ps).set k (pileR v p))[k] = pileR v p := by simp
 have e3 : ((pilesR vs ps).set k (pileR v p)).eraseIdx k = (pilesR vs ps).eraseIdx k := List.eraseIdx_set_eq
 refine St.imp (St.join h) fun f hf => ?_
 rw [e1]
 have hp := Bw7 _ k hk
 rw [e2,e3] at hp
 exact EF7 hp hf
theorem pileVal {vs : List Value} {ps : List (List Ord)} (k : Nat) (h1 : k < vs.length) (h2 : k < ps.length) (h : St W (sats (pilesR vs ps) :: L) w) : ∃ b c,vs[k] = .slice b ps[k].length c := (pileTake k h1 h2 h).rowVal
end
def offs : List Nat := [0,4,1,5,2,6,3,7]
def ptrL (bb : Nat) : List Value := offs.map fun o => .pointer (some ⟨bb,o,none⟩)
def PilesRel (W : World) (L : List HP) (bb : Nat) (v3 v5 : Value) (w : World) : Prop :=
 ∃ k : Nat,v5 = .int .i64 k ∧ k ≤ 4 ∧ St W (row v3 1 273 (2 * k) ((ptrL bb).take (2 * k)) :: L) w
theorem DE7 (bb : Nat) (W w : World) (L : List HP)
  (hS : St W L w) :
  Calls Tryz.prog 207 #[.pointer (some ⟨bb,0,none⟩)] w fun e w' => ∃ v,e = .returned v ∧ St W (row v 1 273 8 (ptrL bb) :: L) w' := by
 go_enter Tryz.func207,Tryz.ntmps207
 go_wp2_with fail
 go_loopw [3,5] (fun v3 v5 wr => PilesRel W L bb v3 v5 wr) (fun v3 v5 _ => 4 - (intOf v5).toNat)
 case atStart => exact ⟨0,rfl,by omega,hS.rowNil⟩
 case round =>
  clear hS
  obtain ⟨k,rfl,hk,hS⟩ := hrel
  by_cases h4 : k = 4
  ·subst h4
   go_wp2_with fail
   go_ret
   exact ⟨_,rfl,hS⟩
  ·obtain h|h|h|h : k = 0 ∨ k = 1 ∨ k = 2 ∨ k = 3 := by omega
   all_goals subst h
   all_goals clear hk h4
   all_goals go_wp2_with fail
   (refine Ad7 [0,0,0,2,10,30,0,0,64,320,960,2046,4095,8191] (fun i => i == 11 || i == 12) [⟨some 11,none,fun nd => slTo (nd 11) 2 2 [.pointer (some ⟨bb,0,none⟩),.pointer (some ⟨bb,4 + 0,none⟩)] 273⟩,⟨some 12,none,fun nd => row (nd 12) 1 273 (2 * 0 + 2) ((ptrL bb).take (2 * 0) ++ [.pointer (some ⟨bb,0,none⟩),.pointer (some ⟨bb,4 + 0,none⟩)])⟩] [some 12] (by kernel_rfl) (by kernel_rfl) rfl hS (CongOk.cons (fun nd nd' h => by dsimp only;rw [h 11 rfl rfl]) (CongOk.cons (fun nd nd' h => by dsimp only;rw [h 12 rfl rfl]) CongOk.nil)) ?_;intro nd;(iterate 3 (refine cQ ?_;intro K hK;go_big_quiet_op;go_big_quiet_on));(refine zcn ?_);(iterate 4 (refine cQ ?_;intro K hK;go_big_quiet_op;go_big_quiet_on));(refine zcn ?_);(iterate 2 (refine cQ ?_;intro K hK;go_big_quiet_op;go_big_quiet_on));(apply ch_bs;rfl;(with_reducible rfl);rfl;(focus (simp only [fD,fI,fJ,Act.eval,fE,fF,fG,fH,fK];try rfl));(exact esS);(exact rsS);rfl;rfl;rfl;rfl;(intro _;rfl);rfl;(intro _;rfl);(refine frS ?_));(apply Al7;rfl;(with_reducible rfl);rfl;(focus ((conv => lhs;whnf);try rfl));(focus ((conv => lhs;whnf);try rfl));(exact esS);(exact rsS);rfl;decide;rfl;(intro F w hS;exact AC7 hS (by exact takO));(focus (try rfl));rfl;(focus (unfold maxLen;omega));(focus (omega));(intro _;rfl);(intro _;rfl);(refine frS ?_));(refine cQ ?_;intro K hK;go_big_quiet_op;go_big_quiet_on);refine Af7 ?_;clear hS;intro w hS;have hS : St W [slTo (nd 11) 2 2 _ _,row (nd 12) 1 _ _ _,sats L] w := hS;generalize nd 12 = v12 at *;replace hS := hS.drop.unpack [_];simp only [fL,fM] at hS;go_wp2_with fail;go_roundw;(case rel => exact ⟨0 + 1,rfl,by omega,hS⟩);(case measure => simp [intOf]))
   (refine Ad7 [0,0,0,2,10,30,0,0,64,320,960,2046,4095,8191] (fun i => i == 11 || i == 12) [⟨some 11,none,fun nd => slTo (nd 11) 2 2 [.pointer (some ⟨bb,1,none⟩),.pointer (some ⟨bb,4 + 1,none⟩)] 273⟩,⟨some 12,none,fun nd => row (nd 12) 1 273 (2 * 1 + 2) ((ptrL bb).take (2 * 1) ++ [.pointer (some ⟨bb,1,none⟩),.pointer (some ⟨bb,4 + 1,none⟩)])⟩] [some 12] (by kernel_rfl) (by kernel_rfl) rfl hS (CongOk.cons (fun nd nd' h => by dsimp only;rw [h 11 rfl rfl]) (CongOk.cons (fun nd nd' h => by dsimp only;rw [h 12 rfl rfl]) CongOk.nil)) ?_;intro nd;(iterate 3 (refine cQ ?_;intro K hK;go_big_quiet_op;go_big_quiet_on));(refine zcn ?_);(iterate 4 (refine cQ ?_;intro K hK;go_big_quiet_op;go_big_quiet_on));(refine zcn ?_);(iterate 2 (refine cQ ?_;intro K hK;go_big_quiet_op;go_big_quiet_on));(apply ch_bs;rfl;(with_reducible rfl);rfl;(focus (simp only [fD,fI,fJ,Act.eval,fE,fF,fG,fH,fK];try rfl));(exact esS);(exact rsS);rfl;rfl;rfl;rfl;(intro _;rfl);rfl;(intro _;rfl);(refine frS ?_));(apply Al7;rfl;(with_reducible rfl);rfl;(focus ((conv => lhs;whnf);try rfl));(focus ((conv => lhs;whnf);try rfl));(exact esS);(exact rsS);rfl;decide;rfl;(intro F w hS;exact AC7 hS (by exact takO));(focus (try rfl));rfl;(focus (unfold maxLen;omega));(focus (omega));(intro _;rfl);(intro _;rfl);(refine frS ?_));(refine cQ ?_;intro K hK;go_big_quiet_op;go_big_quiet_on);refine Af7 ?_;clear hS;intro w hS;have hS : St W [slTo (nd 11) 2 2 _ _,row (nd 12) 1 _ _ _,sats L] w := hS;generalize nd 12 = v12 at *;replace hS := hS.drop.unpack [_];simp only [fL,fM] at hS;go_wp2_with fail;go_roundw;(case rel => exact ⟨1 + 1,rfl,by omega,hS⟩);(case measure => simp [intOf]))
   (refine Ad7 [0,0,0,2,10,30,0,0,64,320,960,2046,4095,8191] (fun i => i == 11 || i == 12) [⟨some 11,none,fun nd => slTo (nd 11) 2 2 [.pointer (some ⟨bb,2,none⟩),.pointer (some ⟨bb,4 + 2,none⟩)] 273⟩,⟨some 12,none,fun nd => row (nd 12) 1 273 (2 * 2 + 2) ((ptrL bb).take (2 * 2) ++ [.pointer (some ⟨bb,2,none⟩),.pointer (some ⟨bb,4 + 2,none⟩)])⟩] [some 12] (by kernel_rfl) (by kernel_rfl) rfl hS (CongOk.cons (fun nd nd' h => by dsimp only;rw [h 11 rfl rfl]) (CongOk.cons (fun nd nd' h => by dsimp only;rw [h 12 rfl rfl]) CongOk.nil)) ?_;intro nd;(iterate 3 (refine cQ ?_;intro K hK;go_big_quiet_op;go_big_quiet_on));(refine zcn ?_);(iterate 4 (refine cQ ?_;intro K hK;go_big_quiet_op;go_big_quiet_on));(refine zcn ?_);(iterate 2 (refine cQ ?_;intro K hK;go_big_quiet_op;go_big_quiet_on));(apply ch_bs;rfl;(with_reducible rfl);rfl;(focus (simp only [fD,fI,fJ,Act.eval,fE,fF,fG,fH,fK];try rfl));(exact esS);(exact rsS);rfl;rfl;rfl;rfl;(intro _;rfl);rfl;(intro _;rfl);(refine frS ?_));(apply Al7;rfl;(with_reducible rfl);rfl;(focus ((conv => lhs;whnf);try rfl));(focus ((conv => lhs;whnf);try rfl));(exact esS);(exact rsS);rfl;decide;rfl;(intro F w hS;exact AC7 hS (by exact takO));(focus (try rfl));rfl;(focus (unfold maxLen;omega));(focus (omega));(intro _;rfl);(intro _;rfl);(refine frS ?_));(refine cQ ?_;intro K hK;go_big_quiet_op;go_big_quiet_on);refine Af7 ?_;clear hS;intro w hS;have hS : St W [slTo (nd 11) 2 2 _ _,row (nd 12) 1 _ _ _,sats L] w := hS;generalize nd 12 = v12 at *;replace hS := hS.drop.unpack [_];simp only [fL,fM] at hS;go_wp2_with fail;go_roundw;(case rel => exact ⟨2 + 1,rfl,by omega,hS⟩);(case measure => simp [intOf]))
   (refine Ad7 [0,0,0,2,10,30,0,0,64,320,960,2046,4095,8191] (fun i => i == 11 || i == 12) [⟨some 11,none,fun nd => slTo (nd 11) 2 2 [.pointer (some ⟨bb,3,none⟩),.pointer (some ⟨bb,4 + 3,none⟩)] 273⟩,⟨some 12,none,fun nd => row (nd 12) 1 273 (2 * 3 + 2) ((ptrL bb).take (2 * 3) ++ [.pointer (some ⟨bb,3,none⟩),.pointer (some ⟨bb,4 + 3,none⟩)])⟩] [some 12] (by kernel_rfl) (by kernel_rfl) rfl hS (CongOk.cons (fun nd nd' h => by dsimp only;rw [h 11 rfl rfl]) (CongOk.cons (fun nd nd' h => by dsimp only;rw [h 12 rfl rfl]) CongOk.nil)) ?_;intro nd;(iterate 3 (refine cQ ?_;intro K hK;go_big_quiet_op;go_big_quiet_on));(refine zcn ?_);(iterate 4 (refine cQ ?_;intro K hK;go_big_quiet_op;go_big_quiet_on));(refine zcn ?_);(iterate 2 (refine cQ ?_;intro K hK;go_big_quiet_op;go_big_quiet_on));(apply ch_bs;rfl;(with_reducible rfl);rfl;(focus (simp only [fD,fI,fJ,Act.eval,fE,fF,fG,fH,fK];try rfl));(exact esS);(exact rsS);rfl;rfl;rfl;rfl;(intro _;rfl);rfl;(intro _;rfl);(refine frS ?_));(apply Al7;rfl;(with_reducible rfl);rfl;(focus ((conv => lhs;whnf);try rfl));(focus ((conv => lhs;whnf);try rfl));(exact esS);(exact rsS);rfl;decide;rfl;(intro F w hS;exact AC7 hS (by exact takO));(focus (try rfl));rfl;(focus (unfold maxLen;omega));(focus (omega));(intro _;rfl);(intro _;rfl);(refine frS ?_));(refine cQ ?_;intro K hK;go_big_quiet_op;go_big_quiet_on);refine Af7 ?_;clear hS;intro w hS;have hS : St W [slTo (nd 11) 2 2 _ _,row (nd 12) 1 _ _ _,sats L] w := hS;generalize nd 12 = v12 at *;replace hS := hS.drop.unpack [_];simp only [fL,fM] at hS;go_wp2_with fail;go_roundw;(case rel => exact ⟨3 + 1,rfl,by omega,hS⟩);(case measure => simp [intOf]))
def lenTo (ps : List (List Ord)) : Nat → Nat
 | 0 => 0
 | k + 1 => lenTo ps k + (ps.getD (offs.getD k 0) []).length
def Bk.len (b : Bk) : Nat := lenTo b.ps 8
theorem IQ7 (ps : List (List Ord)) (k : Nat) : ∀ d,lenTo ps k ≤ lenTo ps (k + d)
 | 0 => Nat.le_refl _
 | d + 1 => Nat.le_trans (IQ7 ps k d) (Nat.le_add_right _ _)
theorem Au7 (ps : List (List Ord)) {k j : Nat} (h : k ≤ j) : lenTo ps k ≤ lenTo ps j := by
 obtain ⟨d,rfl⟩ := Nat.exists_eq_add_of_le h
 exact IQ7 ps k d
def LenRel (W : World) (L : List HP) (ps : List (List Ord)) (v3 v11 : Value) (w : World) : Prop :=
 ∃ k : Nat,v3 = .int .i64 (lenTo ps k) ∧ v11 = .int .i64 k ∧ k ≤ 8 ∧ St W L w
theorem cellsOf {W w : World} {L : List HP} {vs : List Value} {ps : List (List Ord)} {last : Value} (h1 : vs.length = 8) (h2 : ps.length = 8) (h : St W (sats (pilesR vs ps) :: L) w) (o : Nat) (ho : o < 8) : ∃ b c,(vs ++ [last])[o]? = some (.slice b (ps.getD o []).length c) := by
 obtain ⟨b,c,e⟩ := pileVal o (by omega) (by omega) h
 refine ⟨b,c,?_⟩
 rw [List.getElem?_append_left (by omega),List.getElem?_eq_getElem (by omega),e]
 simp [List.getD_eq_getElem?_getD,List.getElem?_eq_getElem (show o < ps.length by omega)]
theorem FR7 (bb : Nat) (b : Bk) (hb : b.len ≤ 4294967296) (W w : World) (L : List HP)
  (hS : St W (bookP bb b :: L) w) :
  Calls Tryz.prog 168 #[.pointer (some ⟨bb,0,none⟩)] w fun e w' => e = .returned (.int .i64 b.len) ∧ St W (bookP bb b :: L) w' := by
 obtain ⟨vs,h1,h2,hS0⟩ := bookOpen hS
 have hcs := cellsOf (last := .int .i64 b.last) h1 h2 hS0.swap
 clear hS
 have hS := hS0
 clear hS0
 unfold Bk.len at hb
 go_enter Tryz.func168,Tryz.ntmps168
 go_wp2_with (first|(go_at_call 207;refine (DE7 bb W _ _ hS).mono ?_;clear hS;rintro e w ⟨v,rfl,hS⟩;rcases hS.rowOpen with ⟨_,h0,_⟩|⟨g,cap,junk,rfl,hn1,hm1,hj1,hl1,hS'⟩;(exfalso;omega);clear hS;have hS := hS';clear hS';unfold maxLen at hm1))
 go_loopw [3,11] (fun v3 v11 wr => LenRel W (blk g (ptrL bb ++ junk) 273 :: blk bb (vs ++ [.int .i64 b.last]) 272 :: sats (pilesR vs b.ps) :: L) b.ps v3 v11 wr) (fun v3 v11 _ => 8 - (intOf v11).toNat)
 case atStart => exact ⟨0,rfl,rfl,by omega,hS⟩
 case round =>
  clear hS
  obtain ⟨k,rfl,rfl,hk,hS⟩ := hrel
  by_cases h8 : k = 8
  ·subst h8
   go_wp2_with fail
   go_ret
   exact ⟨rfl,bookShut h1 h2 hS.drop⟩
  ·obtain h|h|h|h|h|h|h|h : k = 0 ∨ k = 1 ∨ k = 2 ∨ k = 3 ∨ k = 4 ∨ k = 5 ∨ k = 6 ∨ k = 7 := by omega
   all_goals subst h
   all_goals clear hk h8
   ·(have hk3 := Lib.hid (show lenTo b.ps (0 + 1) = lenTo b.ps 0 + (b.ps.getD 0 []).length from rfl);have hk5 : lenTo b.ps 0 + (b.ps.getD 0 []).length ≤ 4294967296 := Nat.le_trans (Au7 b.ps (k := 0 + 1) (j := 8) (by omega)) hb;obtain ⟨b1,c1,hv⟩ := hcs 0 (by omega);have hk6 := Lib.hid hb;clear hb;generalize hs0 : lenTo b.ps 0 = s0 at *;generalize hn0 : (b.ps.getD 0 []).length = n0 at *;clear hs0 hn0;go_wp2_with (first|(refine zl1 hS ?_ (hc := by exact Cell.there (Cell.here hv)))|(refine zl1 hS ?_ (hc := by exact Cell.here rfl)));go_roundw;(case rel => exact ⟨0 + 1,by rw [hk3.out];rfl,rfl,by omega,hS⟩);try (case measure => simp [intOf]))
   ·(have hk3 := Lib.hid (show lenTo b.ps (1 + 1) = lenTo b.ps 1 + (b.ps.getD 4 []).length from rfl);have hk5 : lenTo b.ps 1 + (b.ps.getD 4 []).length ≤ 4294967296 := Nat.le_trans (Au7 b.ps (k := 1 + 1) (j := 8) (by omega)) hb;obtain ⟨b1,c1,hv⟩ := hcs 4 (by omega);have hk6 := Lib.hid hb;clear hb;generalize hs0 : lenTo b.ps 1 = s0 at *;generalize hn0 : (b.ps.getD 4 []).length = n0 at *;clear hs0 hn0;go_wp2_with (first|(refine zl1 hS ?_ (hc := by exact Cell.there (Cell.here hv)))|(refine zl1 hS ?_ (hc := by exact Cell.here rfl)));go_roundw;(case rel => exact ⟨1 + 1,by rw [hk3.out];rfl,rfl,by omega,hS⟩);try (case measure => simp [intOf]))
   ·(have hk3 := Lib.hid (show lenTo b.ps (2 + 1) = lenTo b.ps 2 + (b.ps.getD 1 []).length from rfl);have hk5 : lenTo b.ps 2 + (b.ps.getD 1 []).length ≤ 4294967296 := Nat.le_trans (Au7 b.ps (k := 2 + 1) (j := 8) (by omega)) hb;obtain ⟨b1,c1,hv⟩ := hcs 1 (by omega);have hk6 := Lib.hid hb;clear hb;generalize hs0 : lenTo b.ps 2 = s0 at *;generalize hn0 : (b.ps.getD 1 []).length = n0 at *;clear hs0 hn0;go_wp2_with (first|(refine zl1 hS ?_ (hc := by exact Cell.there (Cell.here hv)))|(refine zl1 hS ?_ (hc := by exact Cell.here rfl)));go_roundw;(case rel => exact ⟨2 + 1,by rw [hk3.out];rfl,rfl,by omega,hS⟩);try (case measure => simp [intOf]))
   ·(have hk3 := Lib.hid (show lenTo b.ps (3 + 1) = lenTo b.ps 3 + (b.ps.getD 5 []).length from rfl);have hk5 : lenTo b.ps 3 + (b.ps.getD 5 []).length ≤ 4294967296 := Nat.le_trans (Au7 b.ps (k := 3 + 1) (j := 8) (by omega)) hb;obtain ⟨b1,c1,hv⟩ := hcs 5 (by omega);have hk6 := Lib.hid hb;clear hb;generalize hs0 : lenTo b.ps 3 = s0 at *;generalize hn0 : (b.ps.getD 5 []).length = n0 at *;clear hs0 hn0;go_wp2_with (first|(refine zl1 hS ?_ (hc := by exact Cell.there (Cell.here hv)))|(refine zl1 hS ?_ (hc := by exact Cell.here rfl)));go_roundw;(case rel => exact ⟨3 + 1,by rw [hk3.out];rfl,rfl,by omega,hS⟩);try (case measure => simp [intOf]))
   ·(have hk3 := Lib.hid (show lenTo b.ps (4 + 1) = lenTo b.ps 4 + (b.ps.getD 2 []).length from rfl);have hk5 : lenTo b.ps 4 + (b.ps.getD 2 []).length ≤ 4294967296 := Nat.le_trans (Au7 b.ps (k := 4 + 1) (j := 8) (by omega)) hb;obtain ⟨b1,c1,hv⟩ := hcs 2 (by omega);have hk6 := Lib.hid hb;clear hb;generalize hs0 : lenTo b.ps 4 = s0 at *;generalize hn0 : (b.ps.getD 2 []).length = n0 at *;clear hs0 hn0;go_wp2_with (first|(refine zl1 hS ?_ (hc := by exact Cell.there (Cell.here hv)))|(refine zl1 hS ?_ (hc := by exact Cell.here rfl)));go_roundw;(case rel => exact ⟨4 + 1,by rw [hk3.out];rfl,rfl,by omega,hS⟩);try (case measure => simp [intOf]))
   ·(have hk3 := Lib.hid (show lenTo b.ps (5 + 1) = lenTo b.ps 5 + (b.ps.getD 6 []).length from rfl);have hk5 : lenTo b.ps 5 + (b.ps.getD 6 []).length ≤ 4294967296 := Nat.le_trans (Au7 b.ps (k := 5 + 1) (j := 8) (by omega)) hb;obtain ⟨b1,c1,hv⟩ := hcs 6 (by omega);have hk6 := Lib.hid hb;clear hb;generalize hs0 : lenTo b.ps 5 = s0 at *;generalize hn0 : (b.ps.getD 6 []).length = n0 at *;clear hs0 hn0;go_wp2_with (first|(refine zl1 hS ?_ (hc := by exact Cell.there (Cell.here hv)))|(refine zl1 hS ?_ (hc := by exact Cell.here rfl)));go_roundw;(case rel => exact ⟨5 + 1,by rw [hk3.out];rfl,rfl,by omega,hS⟩);try (case measure => simp [intOf]))
   ·(have hk3 := Lib.hid (show lenTo b.ps (6 + 1) = lenTo b.ps 6 + (b.ps.getD 3 []).length from rfl);have hk5 : lenTo b.ps 6 + (b.ps.getD 3 []).length ≤ 4294967296 := Nat.le_trans (Au7 b.ps (k := 6 + 1) (j := 8) (by omega)) hb;obtain ⟨b1,c1,hv⟩ := hcs 3 (by omega);have hk6 := Lib.hid hb;clear hb;generalize hs0 : lenTo b.ps 6 = s0 at *;generalize hn0 : (b.ps.getD 3 []).length = n0 at *;clear hs0 hn0;go_wp2_with (first|(refine zl1 hS ?_ (hc := by exact Cell.there (Cell.here hv)))|(refine zl1 hS ?_ (hc := by exact Cell.here rfl)));go_roundw;(case rel => exact ⟨6 + 1,by rw [hk3.out];rfl,rfl,by omega,hS⟩);try (case measure => simp [intOf]))
   ·(have hk3 := Lib.hid (show lenTo b.ps (7 + 1) = lenTo b.ps 7 + (b.ps.getD 7 []).length from rfl);have hk5 : lenTo b.ps 7 + (b.ps.getD 7 []).length ≤ 4294967296 := Nat.le_trans (Au7 b.ps (k := 7 + 1) (j := 8) (by omega)) hb;obtain ⟨b1,c1,hv⟩ := hcs 7 (by omega);have hk6 := Lib.hid hb;clear hb;generalize hs0 : lenTo b.ps 7 = s0 at *;generalize hn0 : (b.ps.getD 7 []).length = n0 at *;clear hs0 hn0;go_wp2_with (first|(refine zl1 hS ?_ (hc := by exact Cell.there (Cell.here hv)))|(refine zl1 hS ?_ (hc := by exact Cell.here rfl)));go_roundw;(case rel => exact ⟨7 + 1,by rw [hk3.out];rfl,rfl,by omega,hS⟩);try (case measure => simp [intOf]))
end Go.Proofs.YtlmhakmoioogaaaGreat
end
