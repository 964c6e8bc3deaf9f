/-
  Put and take at a pile of a book (heap.Push, heap.Pop on the owned row), and which pile is a side's. For every pile.
  The plain law of a heap of orders: put, take, take out keep what is there, and keep the heap. No program in sight.
-/
import Derived.Test.YtlmhakmoioogaaaGreatEconOnceM5
import Derived.Test.YtlmhakmoioogaaaGreatEconOnceM11
set_option maxHeartbeats 16000000
set_option maxRecDepth 100000
set_option linter.unusedSimpArgs false
set_option linter.unusedVariables false
section
namespace Go.Proofs.YtlmhakmoioogaaaGreat
open Go.RowKit Go.Sl
def pushT (xs : List Ord) (o : Ord) : List Ord := upF xs.length (xs ++ [o]) xs.length
def popT (xs : List Ord) : List Ord := if h : 0 < xs.length then (popF xs (xs.length - 1) (by omega)).take (xs.length - 1) else []
def popV (xs : List Ord) (h : 0 < xs.length) : Ord := (popF xs (xs.length - 1) (by omega))[xs.length - 1]'(by rw [AM7];omega)
theorem Ea7 (xs : List Ord) (o : Ord) : (pushT xs o).length = xs.length + 1 := by simp [pushT,BW7]
theorem Bx7 (xs : List Ord) : (popT xs).length = xs.length - 1 := by
 unfold popT
 split
 ·rw [List.length_take,AM7];omega
 ·simp;omega
theorem KI7 (xs : List Ord) (o : Ord) (l : List Value) (T : TypeId) (bb off : Nat) (v : Value) (h63 : xs.length ≤ 4294967296) (hl : l[off]? = some v) (W w : World) (L : List HP)
  (hS : St W (blk bb l T :: pileR v xs :: L) w) :
  Calls Tryz.prog 206 #[.iface 273 (.pointer (some ⟨bb,off,none⟩)),.iface 166 (.agg o.cells.toArray)] w fun e w' => ∃ v',e = .returned (.tuple #[]) ∧ St W (blk bb (l.set off v') T :: pileR v' (pushT xs o) :: L) w' := by
 refine (JD7 xs o l T bb off xs.length v rfl h63 hl W w L hS).mono ?_
 rintro e w' ⟨v',rfl,hS⟩
 refine ⟨v',rfl,?_⟩
 unfold pileR
 rw [Ea7]
 exact hS
theorem MD7 (xs : List Ord) (hx : 0 < xs.length) (l : List Value) (T : TypeId) (bb off : Nat) (v : Value) (h63 : xs.length ≤ 4294967296) (hl : l[off]? = some v) (W w : World) (L : List HP)
  (hS : St W (blk bb l T :: pileR v xs :: L) w) :
  Calls Tryz.prog 209 #[.iface 273 (.pointer (some ⟨bb,off,none⟩))] w fun e w' => ∃ v',e = .returned (.iface 166 (.agg (popV xs hx).cells.toArray)) ∧ St W (blk bb (l.set off v') T :: pileR v' (popT xs) :: L) w' := by
 have h1 := hS.swap.rowOpen
 rcases h1 with ⟨_,h0,_⟩|⟨g,cap,junk,rfl,hn1,hm1,hj1,hl1,hS1⟩
 ·omega
 ·obtain ⟨n,hn⟩ : ∃ n,xs.length = n + 1 := ⟨xs.length - 1,by omega⟩
  have hpt : popT xs = (popF xs n hn).take n := by
   unfold popT
   rw [dif_pos hx]
   simp only [hn,Nat.add_sub_cancel]
  have hpv : popV xs hx = (popF xs n hn)[n]'(by rw [AM7];omega) := by
   unfold popV
   simp only [hn,Nat.add_sub_cancel]
  rw [hn] at hn1 hl1 hl
  refine (KG7 xs junk l T bb off g n cap hn hn1 hm1 (by omega) hl W w L hS1.swap).mono ?_
  rintro e w' ⟨rfl,hS⟩
  refine ⟨.slice (some ⟨g,0,none⟩) n cap,by rw [hpv],?_⟩
  unfold pileR
  rw [Bx7,hn,hpt]
  have e : (popF xs n hn).flatMap Ord.cells ++ junk = ((popF xs n hn).take n).flatMap Ord.cells ++ (((popF xs n hn).drop n).flatMap Ord.cells ++ junk) := by
   rw [← List.append_assoc,← List.flatMap_append,List.take_append_drop]
  rw [e] at hS
  refine (St.rowShut hS.swap (by omega) hm1 ?_ ?_).swap
  ·rw [← e,List.length_append,Ac7 Ord.len,AM7]
   rw [List.length_append,Ac7 Ord.len,hn] at hj1
   exact hj1
  ·rw [Ac7 Ord.len,List.length_take,AM7]
   simp
def sideK (k : Nat) (y : Bool) : Nat := cond y k (4 + k)
theorem BX7 (bb k : Nat) (hk : k < 4) (y : Bool) (W w : World) (L : List HP) (hS : St W L w) :
  Calls Tryz.prog 204 #[.pointer (some ⟨bb,0,none⟩),.int .i64 k,.bool y] w fun e w' => e = .returned (.pointer (some ⟨bb,sideK k y,none⟩)) ∧ St W L w' := by
 obtain h|h|h|h : k = 0 ∨ k = 1 ∨ k = 2 ∨ k = 3 := by omega
 all_goals subst h
 all_goals cases y
 all_goals go_enter Tryz.func204,Tryz.ntmps204
 all_goals go_wp2_with (first|(refine zl1 hS ?_)|(refine zlN hS ?_)|(refine zs1 hS ?_;clear hS;intro w hS)|(refine zsN hS ?_;clear hS;intro w hS)|(refine zbx hS ?_;clear hS;intro b w hS)|(refine zal hS ?_;clear hS;intro b w hS))
 all_goals go_ret
 all_goals exact ⟨rfl,hS⟩
def loopF : Nat → Ord → List Ord → List Trd → Ord × List Ord × List Trd
 | 0,o,q,l => (o,q,l)
 | _ + 1,o,[],l => (o,[],l)
 | f + 1,o,x :: q,l =>
  if 0 < o.cnt ∧ meetO o x = true then
   loopF f { o with cnt := o.cnt - (tradeF o x).cnt }
    (if x.cnt - (tradeF o x).cnt = 0 then popT ({ x with cnt := x.cnt - (tradeF o x).cnt } :: q) else { x with cnt := x.cnt - (tradeF o x).cnt } :: q)
    (l ++ [tradeF o x])
  else (o,x :: q,l)
def Bk.pile (b : Bk) (k : Nat) : List Ord := b.ps.getD k []
def itemK (o : Ord) : Nat := o.item.toNat
structure Placed where
 trades : List Trd
 left : Int
 errno : Int
 book : Bk
def placeB (b : Bk) (o : Ord) : Placed :=
 if mayB o = false ∨ o.id ≤ b.last then ⟨[],0,1,b⟩
 else if 32 ≤ b.len then ⟨[],0,6,b⟩
 else
  let k := sideK (itemK o) (!o.buy)
  let r := loopF ((b.pile k).length + 1) o (b.pile k) []
  let ps := b.ps.set k r.2.1
  let j := sideK (itemK o) o.buy
  ⟨r.2.2,r.1.cnt,0,⟨if 0 < r.1.cnt then ps.set j (pushT (ps.getD j []) r.1) else ps,o.id⟩⟩
theorem AJ7 {α : Type} (xs : List α) (i j : Nat) (hi : i < xs.length) (hj : j < xs.length) : (swapL xs i j hi hj).Perm xs := List.set_set_perm hi hj
theorem GO7 {α : Type} (xs : List α) (i j : Nat) (hi : i < xs.length) (hj : j < xs.length) (k : Nat) (hk : k < (swapL xs i j hi hj).length) :
  (swapL xs i j hi hj)[k] = if k = j then xs[i] else if k = i then xs[j] else xs[k]'(by rw [Aj7] at hk;exact hk) := by
 simp only [swapL,List.getElem_set]
 by_cases h1 : j = k
 ·subst h1;simp
 ·by_cases h2 : i = k
  ·subst h2;simp [h1,Ne.symm h1]
  ·simp [h1,h2,Ne.symm h1,Ne.symm h2]
theorem FS7 : ∀ (f : Nat) (xs : List Ord) (j : Nat),(upF f xs j).Perm xs
 | 0,_,_ => .refl _
 | f + 1,xs,j => by
  rw [upF]
  split
  ·split
   ·exact (FS7 f _ _).trans (AJ7 _ _ _ _ _)
   ·exact .refl _
  ·exact .refl _
theorem Cz7 : ∀ (f : Nat) (xs : List Ord) (i n : Nat),(downF f xs i n).1.Perm xs
 | 0,_,_,_ => .refl _
 | f + 1,xs,i,n => by
  rw [downF]
  split
  ·split
   ·exact (Cz7 f _ _ _).trans (AJ7 _ _ _ _ _)
   ·exact .refl _
  ·exact .refl _
theorem BG7 : ∀ (f : Nat) (xs : List Ord) (i n k : Nat),n ≤ k → (downF f xs i n).1[k]? = xs[k]?
 | 0,_,_,_,_,_ => rfl
 | f + 1,xs,i,n,k,hk => by
  rw [downF]
  split
  ·rename_i h
   split
   ·have hk1 := GL7 h.2 h.1
    rw [BG7 f _ _ _ _ hk]
    simp only [swapL]
    rw [List.getElem?_set_ne (by omega),List.getElem?_set_ne (by omega)]
   ·rfl
  ·rfl
theorem KJ7 (xs : List Ord) (n : Nat) (h : xs.length = n + 1) : (popF xs n h)[n]? = xs[0]? := by
 unfold popF
 rw [BG7 _ _ _ _ _ (Nat.le_refl _),List.getElem?_eq_getElem (by rw [Aj7];omega),GO7]
 rw [if_pos rfl,List.getElem?_eq_getElem (by omega)]
theorem KK7 (xs : List Ord) (n : Nat) (h : xs.length = n + 1) : (popF xs n h).Perm xs := (Cz7 _ _ _ _).trans (AJ7 _ _ _ _ _)
theorem Cv7 (x : Ord) (q : List Ord) : (popT (x :: q)).Perm q := by
 have h : (x :: q).length = q.length + 1 := rfl
 have e : popT (x :: q) = (popF (x :: q) q.length h).take q.length := by
  unfold popT
  rw [dif_pos (by simp)]
  rfl
 rw [e]
 have h1 := KK7 (x :: q) q.length h
 have h2 := KJ7 (x :: q) q.length h
 have h3 := AM7 h
 rw [List.getElem?_eq_getElem (by rw [h3];omega)] at h2
 have h4 : (popF (x :: q) q.length h) = (popF (x :: q) q.length h).take q.length ++ [x] := by
  have h5 : (popF (x :: q) q.length h).drop q.length = [x] := by
   rw [List.drop_eq_getElem_cons (by rw [h3];omega),List.drop_eq_nil_of_le (by rw [h3];omega)]
   simp only [List.getElem?_cons_zero,Option.some.injEq] at h2
   rw [h2]
  rw [← h5,List.take_append_drop]
 rw [h4] at h1
 exact List.Perm.cons_inv ((List.perm_append_singleton x _).symm.trans h1)
theorem DF7 (xs : List Ord) (o : Ord) : (pushT xs o).Perm (o :: xs) := (FS7 _ _ _).trans (List.perm_append_singleton o xs)
end Go.Proofs.YtlmhakmoioogaaaGreat
end
