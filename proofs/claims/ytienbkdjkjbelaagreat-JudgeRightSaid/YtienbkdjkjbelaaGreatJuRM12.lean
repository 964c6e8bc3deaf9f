/-
  Put and take at a pile of a book (heap.Push, heap.Pop on the owned row), and.
-/
import Derived.Test.YtienbkdjkjbelaaGreatJuRM5
import Derived.Test.YtienbkdjkjbelaaGreatJuRM11
set_option maxHeartbeats 16000000
set_option maxRecDepth 100000
set_option linter.unusedSimpArgs false
set_option linter.unusedVariables false
section
namespace Go.Proofs.YtienbkdjkjbelaaGreat
open Go.RowKit Go.Sl
def N7(xs:List Ord)(o:Ord):List Ord:=upF xs.length (xs++[o]) xs.length
def aQ4(xs:List Ord):List Ord:=if h:0<xs.length then(au4 xs (xs.length-1) (by omega)).take (xs.length-1)else[]
def dO4(xs:List Ord)(h:0<xs.length):Ord:=(au4 xs (xs.length-1) (by omega))[xs.length-1]'(by rw[AG7];omega)
theorem DQ7(xs:List Ord)(o:Ord):(N7 xs o).length=xs.length+1:=by simp[N7,BP7]
theorem Bt7(xs:List Ord):(aQ4 xs).length=xs.length-1:=by
 unfold aQ4;split
 ·rw[jT,AG7];omega
 ·simp;omega
theorem JJ7(xs:List Ord)(o:Ord)(l:List Value)(T:TypeId)(bb off:Nat)(v:Value)(h63:xs.length<=4294967296)(hl:l[off]? = some v)(W w:World)(L:List HP)
  (hS:St W (blk bb l T::j6 v xs::L) w):
  Calls Tryz.prog 190 #[.iface 253 (.pointer (some ⟨bb,off,none⟩)),.iface 173 (.agg o.cells.toArray)] w fun e w'=>∃v',e=.returned (.tuple #[])/\St W (blk bb (l.set off v') T::j6 v' (N7 xs o)::L) w':=by
 refine(IL7 xs o l T bb off xs.length v rfl h63 hl W w L hS).mono ?_;rintro e w' ⟨v',rfl,hS⟩;refine⟨v',rfl,?_⟩;unfold j6;rw[DQ7];exact hS
theorem LI7(xs:List Ord)(hx:0<xs.length)(l:List Value)(T:TypeId)(bb off:Nat)(v:Value)(h63:xs.length<=4294967296)(hl:l[off]? = some v)(W w:World)(L:List HP)
  (hS:St W (blk bb l T::j6 v xs::L) w):
  Calls Tryz.prog 192 #[.iface 253 (.pointer (some ⟨bb,off,none⟩))] w fun e w'=>∃v',e=.returned (.iface 173 (.agg (dO4 xs hx).cells.toArray))/\St W (blk bb (l.set off v') T::j6 v' (aQ4 xs)::L) w':=by
 have h1:=hS.swap.rowOpen
 rcases h1 with ⟨_,h0,_⟩|⟨g,cap,junk,rfl,hn1,hm1,hj1,hl1,hS1⟩
 ·omega
 ·obtain⟨n,hn⟩:∃n,xs.length=n+1:=⟨xs.length-1,by omega⟩
  have hpt:aQ4 xs=(au4 xs n hn).take n:=by unfold aQ4;rw[dif_pos hx];simp only[hn,Nat.add_sub_cancel]
  have hpv:dO4 xs hx=(au4 xs n hn)[n]'(by rw[AG7];omega):=by unfold dO4;simp only[hn,Nat.add_sub_cancel]
  rw[hn]at hn1 hl1 hl;refine(JH7 xs junk l T bb off g n cap hn hn1 hm1 (by omega) hl W w L hS1.swap).mono ?_;rintro e w' ⟨rfl,hS⟩;refine⟨.S g n cap,by rw[hpv],?_⟩;unfold j6;rw[Bt7,hn,hpt];have e:(au4 xs n hn).flatMap Ord.cells++junk=((au4 xs n hn).take n).flatMap Ord.cells++(((au4 xs n hn).drop n).flatMap Ord.cells++junk):=by rw[<-jS,<-List.flatMap_append,List.take_append_drop]
  rw[e]at hS;refine(St.rowShut hS.swap (by omega) hm1 ?_ ?_).swap
  ·rw[<-e,jA,Ab7 Ord.len,AG7];rw[jA,Ab7 Ord.len,hn]at hj1;exact hj1
  ·rw[Ab7 Ord.len,jT,AG7];simp
def l8(k:Nat)(y:Bool):Nat:=cond y k (4+k)
theorem BQ7(bb k:Nat)(hk:k<4)(y:Bool)(W w:World)(L:List HP)(hS:St W L w):
  Calls Tryz.prog 188 #[.P bb,.I k,.bool y] w fun e w'=>e=.returned (.pointer (some ⟨bb,l8 k y,none⟩))/\St W L w':=by
 obtain h|h|h|h:k=0\/k=1\/k=2\/k=3:=by omega
 all_goals subst h
 all_goals cases y
 all_goals go_enter Tryz.func188,Tryz.ntmps188
 all_goals go_wp2_with(first|refine zl1 hS ?_|refine zlN hS ?_|refine zs1 hS ?_;clear hS;intro w hS|refine zsN hS ?_;clear hS;intro w hS|refine zbx hS ?_;clear hS;intro b w hS|refine zal hS ?_;clear hS;intro b w hS)
 all_goals go_ret
 all_goals exact⟨rfl,hS⟩
def H7:Nat->Ord->List Ord->List Trd->Ord×List Ord×List Trd
 | 0,o,q,l=>(o,q,l)
 | _+1,o,[],l=>(o,[],l)
 | f+1,o,x::q,l=>
  if 0<o.cnt/\ab4 o x=true then
   H7 f { o with cnt:=o.cnt-(M7 o x).cnt }
    (if x.cnt-(M7 o x).cnt=0 then aQ4 ({ x with cnt:=x.cnt-(M7 o x).cnt }::q)else{ x with cnt:=x.cnt-(M7 o x).cnt }::q)
    (l++[M7 o x])
  else(o,x::q,l)
def Bk.pile(b:Bk)(k:Nat):List Ord:=b.ps.getD k []
def aA4(o:Ord):Nat:=o.item.toNat
structure Placed where
 trades:List Trd
 left:Int
 errno:Int
 book:Bk
def B9(b:Bk)(o:Ord):Placed:=
 if H5 o=false\/o.id<=b.last then⟨[],0,1,b⟩
 else if 32<=b.len then⟨[],0,6,b⟩
 else
  let k:=l8 (aA4 o) (!o.buy)
  let r:=H7 ((b.pile k).length+1) o (b.pile k) []
  let ps:=b.ps.set k r.2.1
  let j:=l8 (aA4 o) o.buy
  ⟨r.2.2,r.1.cnt,0,⟨if 0<r.1.cnt then ps.set j (N7 (ps.getD j []) r.1)else ps,o.id⟩⟩
theorem AF7{α:Type}(xs:List α)(i j:Nat)(hi:i<xs.length)(hj:j<xs.length):(D5 xs i j hi hj).Perm xs:=List.set_set_perm hi hj
theorem Gx7{α:Type}(xs:List α)(i j:Nat)(hi:i<xs.length)(hj:j<xs.length)(k:Nat)(hk:k<(D5 xs i j hi hj).length):
  (D5 xs i j hi hj)[k]=if k=j then xs[i]else if k=i then xs[j]else xs[k]'(by rw[Af7]at hk;exact hk):=by
 simp only[D5,List.getElem_set];by_cases h1:j=k
 ·subst h1;simp
 ·by_cases h2:i=k
  ·subst h2;simp[h1,Ne.symm h1]
  ·simp[h1,h2,Ne.symm h1,Ne.symm h2]
theorem FA7:∀(f:Nat) (xs:List Ord) (j:Nat),(upF f xs j).Perm xs
 | 0,_,_=>.refl _
 | f+1,xs,j=>by
  rw[upF];split
  ·split
   ·exact(FA7 f _ _).trans (AF7 _ _ _ _ _)
   ·exact .refl _
  ·exact .refl _
theorem Cn7:∀(f:Nat) (xs:List Ord) (i n:Nat),(A9 f xs i n).1.Perm xs
 | 0,_,_,_=>.refl _
 | f+1,xs,i,n=>by
  rw[A9];split
  ·split
   ·exact(Cn7 f _ _ _).trans (AF7 _ _ _ _ _)
   ·exact .refl _
  ·exact .refl _
theorem BB7:∀(f:Nat) (xs:List Ord) (i n k:Nat),n<=k->(A9 f xs i n).1[k]? = xs[k]?
 | 0,_,_,_,_,_=>rfl
 | f+1,xs,i,n,k,hk=>by
  rw[A9];split
  ·rename_i h
   split
   ·have hk1:=Gu7 h.2 h.1;rw[BB7 f _ _ _ _ hk];simp only[D5];rw[List.getElem?_set_ne (by omega),List.getElem?_set_ne (by omega)]
   ·rfl
  ·rfl
theorem JK7(xs:List Ord)(n:Nat)(h:xs.length=n+1):(au4 xs n h)[n]? = xs[0]? := by unfold au4;rw[BB7 _ _ _ _ _ (Nat.le_refl _),jG (by rw[Af7];omega),Gx7];rw[if_pos rfl,jG (by omega)]
theorem JL7(xs:List Ord)(n:Nat)(h:xs.length=n+1):(au4 xs n h).Perm xs:=(Cn7 _ _ _ _).trans (AF7 _ _ _ _ _)
theorem Ch7(x:Ord)(q:List Ord):(aQ4 (x::q)).Perm q:=by
 have h:(x::q).length=q.length+1:=rfl;have e:aQ4 (x::q)=(au4 (x::q) q.length h).take q.length:=by unfold aQ4;rw[dif_pos (by simp)];rfl
 rw[e];have h1:=JL7 (x::q) q.length h;have h2:=JK7 (x::q) q.length h;have h3:=AG7 h;rw[jG (by rw[h3];omega)]at h2
 have h4:(au4 (x::q) q.length h)=(au4 (x::q) q.length h).take q.length++[x]:=by
  have h5:(au4 (x::q) q.length h).drop q.length=[x]:=by rw[List.drop_eq_getElem_cons (by rw[h3];omega),List.drop_eq_nil_of_le (by rw[h3];omega)];simp only[List.getElem?_cons_zero,Option.some.injEq]at h2;rw[h2]
  rw[<-h5,List.take_append_drop]
 rw[h4]at h1;exact List.Perm.cons_inv ((List.perm_append_singleton x _).symm.trans h1)
theorem Dy7(xs:List Ord)(o:Ord):(N7 xs o).Perm (o::xs):=(FA7 _ _ _).trans (List.perm_append_singleton o xs)
end Go.Proofs.YtienbkdjkjbelaaGreat
end
