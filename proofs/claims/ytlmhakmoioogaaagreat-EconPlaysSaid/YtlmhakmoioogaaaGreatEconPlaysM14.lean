/-
  Place in every case, as a function on books; the law's known trade; may an order be, as the document says it.
  Cancel: which order is taken out, what the book is then. For every book and every ID.
  The plain law of a heap of orders: put, take, take out keep its order; its top is the best. No program in sight.
  Cancel on a book: for every book and every ID. A nil Book: Place, Cancel, List, Len.
-/
import Derived.Test.YtlmhakmoioogaaaGreatEconPlaysM5
import Derived.Test.YtlmhakmoioogaaaGreatEconPlaysM13
set_option maxHeartbeats 16000000
set_option maxRecDepth 100000
set_option linter.unusedSimpArgs false
set_option linter.unusedVariables false
section
namespace Go.Proofs.YtlmhakmoioogaaaGreat
open Go.RowKit Go.Sl
def bk0:Bk:=⟨[[],[],[],[],[],[],[],[]],0⟩
theorem QL7:BkOk bk0:=⟨rfl,by decide,(by intro p hp x hx;simp[bk0]at hp;subst hp;cases hx),by decide,by decide⟩
def tradesR(v:Value)(l:List Trd):HP:=row v 8 231 l.length (l.flatMap Trd.cells)
theorem JV7(W w:World)(L:List HP)(hS:St W L w):
  Calls Tryz.prog 201 #[] w fun e w'=>∃b,e=.returned (.pointer (some ⟨b,0,none⟩))∧St W (bookP b bk0::L) w':=by
 refine(NP7 W w L hS).mono ?_
 rintro e w' ⟨b,rfl,hS⟩
 refine⟨b,rfl,?_⟩
 have h1:∀(n:Nat) {L:List HP} {w:World},St W L w→St W (sats (pilesR (List.replicate n (.slice none 0 0)) (List.replicate n []))::L) w:=by
  intro n
  induction n with
  | zero=>intro L w h;exact⟨h.os,h.tape,h.output,fun _=>false,trivial,h.sat⟩
  | succ n ih=>intro L w h;exact St.join ((ih h).rowNil (k:=6) (T:=166))
 exact bookShut (vs:=List.replicate 8 (.slice none 0 0)) rfl rfl (h1 8 hS).swap
theorem KK7(bb:Nat)(bk:Bk)(o:Ord)(hok:BkOk bk)(W w:World)(L:List HP)(hS:St W (bookP bb bk::L) w):
  Calls Tryz.prog 169 #[.pointer (some ⟨bb,0,none⟩),.agg o.cells.toArray] w fun e w'=>∃v,e=.returned (.tuple #[v,.int .i64 (placeB bk o).left,.int .i64 (placeB bk o).errno]) ∧
   St W (bookP bb (placeB bk o).book::tradesR v (placeB bk o).trades::L) w':=by
 have hnil:∀{w:World},St W (bookP bb bk::L) w→St W (bookP bb bk::tradesR (.slice none 0 0) []::L) w:=fun h=>(h.rowNil (k:=8) (T:=231)).swap
 cases hb:mayB o
 ·have e:placeB bk o=⟨[],0,1,bk⟩:=by unfold placeB;rw[if_pos (.inl hb)]
  rw[e]
  refine(Ma7 bb bk o hok hb W w L hS).mono ?_
  rintro e w' ⟨rfl,hS⟩
  exact⟨_,rfl,hnil hS⟩
 ·by_cases hle:o.id≤bk.last
  ·have e:placeB bk o=⟨[],0,1,bk⟩:=by unfold placeB;rw[if_pos (.inr hle)]
   rw[e]
   refine(Mb7 bb bk o hok hb hle W w L hS).mono ?_
   rintro e w' ⟨rfl,hS⟩
   exact⟨_,rfl,hnil hS⟩
  ·have hno:¬(mayB o=false∨o.id≤bk.last):=by rintro(h|h);(rw[hb]at h;cases h);exact hle h
   by_cases hf:32≤bk.len
   ·have e:placeB bk o=⟨[],0,6,bk⟩:=by unfold placeB;rw[if_neg hno,if_pos hf]
    rw[e]
    refine(KJ7 bb bk o hok hb (by omega) hf W w L hS).mono ?_
    rintro e w' ⟨rfl,hS⟩
    exact⟨_,rfl,hnil hS⟩
   ·have e:(placeB bk o).errno=0:=by unfold placeB;rw[if_neg hno,if_neg hf]
    rw[e]
    exact NR7 bb bk o hok hb (by omega) hf W w L hS
def ko1:Ord:=⟨1,⟨#[97]⟩,false,1,3,5⟩
def ko2:Ord:=⟨2,⟨#[98]⟩,true,1,2,7⟩
def kb1:Bk:=⟨[[],[],[],[],[],[ko1],[],[]],1⟩
def kb2:Bk:=⟨[[],[],[],[],[],[⟨1,⟨#[97]⟩,false,1,1,5⟩],[],[]],2⟩
def kt:Trd:=⟨⟨#[98]⟩,⟨#[97]⟩,2,1,1,2,5,7⟩
theorem Bi7(o:Ord)(W w:World)(L:List HP)(hS:St W L w):
  Calls Tryz.prog 182 #[.agg o.cells.toArray] w fun e w'=>e=.returned (.bool (mayB o))∧St W L w':=by
 obtain⟨i,u,y,t,c,p⟩:=o
 simp only[Ord.cells]
 go_enter Tryz.func182,Tryz.ntmps182
 go_wp2_with(first|(refine zl1 hS ?_)|(refine zlN hS ?_)|(refine zs1 hS ?_;clear hS;intro w hS)|(refine zsN hS ?_;clear hS;intro w hS)|(refine zbx hS ?_;clear hS;intro b w hS)|(refine zal hS ?_;clear hS;intro b w hS))
 all_goals go_ret
 all_goals exact⟨by simp[mayB, *];try omega,hS.drop⟩
theorem Gm7:∀(f:Nat) (xs:List Ord) (j k:Nat),j<k→(upF f xs j)[k]? = xs[k]?
 | 0,_,_,_,_=>rfl
 | f+1,xs,j,k,hk=>by
  rw[upF]
  split
  ·rename_i h
   split
   ·rw[Gm7 f _ _ _ (by omega)]
    simp only[swapL]
    rw[List.getElem?_set_ne (by omega),List.getElem?_set_ne (by omega)]
   ·rfl
  ·rfl
theorem HG7(xs:List Ord)(i n:Nat)(h:xs.length=n+1)(hi:i≤n):(remF xs i n h hi)[n]? = xs[i]? := by
 have hsw:(swapL xs i n (by omega) (by omega))[n]? = xs[i]? := by
  rw[List.getElem?_eq_getElem (by rw[Ah7];omega),HF7,if_pos rfl,List.getElem?_eq_getElem (by omega)]
 unfold remF
 split
 ·rename_i he;rw[he]
 ·split
  ·rw[BW7 _ _ _ _ _ (Nat.le_refl _),hsw]
  ·rw[Gm7 _ _ _ _ (by omega),BW7 _ _ _ _ _ (Nat.le_refl _),hsw]
theorem Mc7(xs:List Ord)(i n:Nat)(h:xs.length=n+1)(hi:i≤n):(remF xs i n h hi).Perm xs:=by
 unfold remF
 split
 ·exact .refl _
 ·split
  ·exact(CQ7 _ _ _ _).trans (AR7 _ _ _ _ _)
  ·exact(GH7 _ _ _).trans ((CQ7 _ _ _ _).trans (AR7 _ _ _ _ _))
def remT(xs:List Ord)(i:Nat):List Ord:=if h:i<xs.length then(remF xs i (xs.length-1) (by omega) (by omega)).take (xs.length-1)else xs
theorem Fo7(xs:List Ord)(i:Nat)(h:i<xs.length):(remT xs i).length=xs.length-1:=by
 unfold remT
 rw[dif_pos h,List.length_take,BI7]
 omega
theorem HH7(xs:List Ord)(i:Nat)(h:i<xs.length):(xs[i]::remT xs i).Perm xs:=by
 unfold remT
 rw[dif_pos h]
 obtain⟨n,hn⟩:∃n,xs.length=n+1:=⟨xs.length-1,by omega⟩
 have h1:=Mc7 xs i n hn (by omega)
 have h2:=HG7 xs i n hn (by omega)
 have h3:=BI7 (xs:=xs) (i:=i) hn (by omega)
 rw[List.getElem?_eq_getElem (by rw[h3];omega),List.getElem?_eq_getElem h]at h2
 have h4:(remF xs i n hn (by omega))=(remF xs i n hn (by omega)).take n++[xs[i]]:=by
  have h5:(remF xs i n hn (by omega)).drop n=[xs[i]]:=by
   rw[List.drop_eq_getElem_cons (by rw[h3];omega),List.drop_eq_nil_of_le (by rw[h3];omega)]
   simp only[Option.some.injEq]at h2
   rw[h2]
  rw[←h5,List.take_append_drop]
 simp only[hn,Nat.add_sub_cancel]
 rw[h4]at h1
 exact(List.perm_append_singleton _ _).symm.trans h1
def findAt(ps:List (List Ord))(id:Int):List Nat→Option (Nat×Nat)
 | []=>none
 | k::ks=>match (ps.getD k []).findIdx? (fun o=>o.id==id)with
  | some i=>some (k,i)
  | none=>findAt ps id ks
def o0:Ord:=⟨0,⟨#[]⟩,false,0,0,0⟩
structure Cancelled where
 o:Ord
 errno:Int
 book:Bk
def cancelB(b:Bk)(id:Int):Cancelled:=
 match findAt b.ps id offs with
 | none=>⟨o0,7,b⟩
 | some (k,i)=>⟨(b.pile k).getD i o0,0,⟨b.ps.set k (remT (b.pile k) i),b.last⟩⟩
def idxI(id:Int)(p:List Ord):Int:=match p.findIdx? (fun o=>o.id==id)with
 | some i=>i
 | none => -1
theorem EB7(x:Ord)(B:Nat)(id:Int)(W w:World)(L:List HP)(hS:St W (blk B [.int .i64 id] 3::L) w):
  Calls Tryz.prog 214 #[.agg x.cells.toArray,.pointer (some ⟨B,0,none⟩)] w fun e w'=>e=.returned (.bool (x.id==id))∧St W (blk B [.int .i64 id] 3::L) w':=by
 obtain⟨i,u,y,t,c,p⟩:=x
 simp only[Ord.cells]
 go_enter Tryz.func214,Tryz.ntmps214
 go_wp2_with(first|(refine zl1 hS ?_)|(refine zlN hS ?_)|(refine zs1 hS ?_;clear hS;intro w hS)|(refine zsN hS ?_;clear hS;intro w hS)|(refine zbx hS ?_;clear hS;intro b w hS)|(refine zal hS ?_;clear hS;intro b w hS))
 go_ret
 exact⟨rfl,hS.drop⟩
def IdxRel(W:World)(L:List HP)(v:Value)(p:List Ord)(id:Int)(r:Int)(v8:Value)(w:World):Prop:=
 ∃k:Nat,v8=.int .i64 k∧k≤p.length∧(∀j,j<k→∀x,p[j]? = some x→(x.id==id)=false)∧St W L w
theorem NS7(p:List Ord)(id:Int)(h:∀j,j<p.length→∀x,p[j]? = some x→(x.id==id)=false):idxI id p = -1:=by
 unfold idxI
 rw[List.findIdx?_eq_none_iff.2]
 intro x hx
 obtain⟨j,hj,rfl⟩:=List.mem_iff_getElem.1 hx
 exact h j hj _ (List.getElem?_eq_getElem hj)
theorem PA7(p:List Ord)(id:Int)(k:Nat)(hk:k<p.length)(h:∀j,j<k→∀x,p[j]? = some x→(x.id==id)=false)(hx:(p[k].id==id)=true):idxI id p=k:=by
 unfold idxI
 rw[List.findIdx?_eq_some_iff_getElem.2 ⟨hk,hx,fun j hj=>by rw[h j hj _ (List.getElem?_eq_getElem (by omega))];exact Bool.false_ne_true⟩]
theorem Fp7(p:List Ord)(v:Value)(B:Nat)(id:Int)(h63:p.length≤4294967296)(W w:World)(L:List HP)(hS:St W (blk B [.int .i64 id] 3::pileR v p::L) w):
  Calls Tryz.prog 213 #[v,.func (.func 214) #[] #[.pointer (some ⟨B,0,none⟩)]] w fun e w'=>e=.returned (.int .i64 (idxI id p))∧St W (blk B [.int .i64 id] 3::pileR v p::L) w':=by
 rcases hS.swap.rowOpen with ⟨rfl,h0,_,_⟩|⟨g,cap,junk,rfl,hn1,hm1,hj1,hl1,hS0⟩
 ·obtain rfl:p=[]:=List.eq_nil_of_length_eq_zero h0
  go_enter Tryz.func213,Tryz.ntmps213
  go_wp2_with fail
  go_loopw [8] (fun v wr=>v=.int .i64 0∧St W (blk B [.int .i64 id] 3::pileR (.slice none 0 0) []::L) wr) (fun v _=>0)
  case atStart=>exact⟨rfl,hS⟩
  case round=>
   clear hS
   obtain⟨rfl,hS⟩:=hrel
   go_wp2_with fail
   go_ret
   exact⟨rfl,hS⟩
 ·clear hS
  have hm':cap≤9223372036854775807:=by unfold maxLen at hm1;omega
  go_enter Tryz.func213,Tryz.ntmps213
  go_wp2_with fail
  go_loopw [8] (fun v wr=>IdxRel W (blk B [.int .i64 id] 3::blk g (p.flatMap Ord.cells++junk) 166::L) (.slice (some ⟨g,0,none⟩) p.length cap) p id (idxI id p) v wr) (fun v _=>p.length-(intOf v).toNat)
  case atStart=>exact⟨0,rfl,by omega,fun j hj=>by omega,hS0.swap⟩
  case round=>
   clear hS0
   obtain⟨k,rfl,hk,hno,hS⟩:=hrel
   by_cases hkn:k=p.length
   ·have Hr:=Lib.hid (NS7 p id (hkn▸hno))
    clear hno
    subst hkn
    go_wp2_with fail
    go_ret
    rw[Hr.out]
    exact⟨rfl,(St.rowShut hS.swap hn1 hm1 hj1 hl1).swap⟩
   ·have hkl:k<p.length:=by omega
    clear hkn hk
    have Hno:=Lib.hid hno
    clear hno
    cases hb:(p[k].id==id)
    ·go_wp2_with(first|(refine zlN hS ?_ (hc:=by exact Cells.there (Cells.elem Ord.len hkl)))|(go_at_call 214;refine(EB7 p[k] B id W _ _ hS).mono ?_;clear hS;rw[hb];rintro e w ⟨rfl,hS⟩)|(refine zl1 hS ?_)|(refine zlN hS ?_)|(refine zs1 hS ?_;clear hS;intro w hS)|(refine zsN hS ?_;clear hS;intro w hS)|(refine zbx hS ?_;clear hS;intro b w hS)|(refine zal hS ?_;clear hS;intro b w hS))
     go_roundw
     case rel=>
      refine⟨k+1,rfl,hkl,?_,hS⟩
      intro j hj x hx
      by_cases hjk:j=k
      ·subst hjk
       rw[List.getElem?_eq_getElem hkl]at hx
       cases hx
       exact hb
      ·exact Hno.out j (by omega) x hx
     case measure=>simp[intOf];omega
    ·go_wp2_with(first|(refine zlN hS ?_ (hc:=by exact Cells.there (Cells.elem Ord.len hkl)))|(go_at_call 214;refine(EB7 p[k] B id W _ _ hS).mono ?_;clear hS;rw[hb];rintro e w ⟨rfl,hS⟩)|(refine zl1 hS ?_)|(refine zlN hS ?_)|(refine zs1 hS ?_;clear hS;intro w hS)|(refine zsN hS ?_;clear hS;intro w hS)|(refine zbx hS ?_;clear hS;intro b w hS)|(refine zal hS ?_;clear hS;intro b w hS))
     go_ret
     rw[PA7 p id k hkl Hno.out hb]
     exact⟨rfl,(St.rowShut hS.swap hn1 hm1 hj1 hl1).swap⟩
def ky(y:Bool)(o:Ord):Int:=cond y (-o.price) o.price
def leK(y:Bool)(a b:Ord):Prop:=ky y a<ky y b∨(ky y a=ky y b∧a.id≤b.id)
theorem EK7(y:Bool)(a:Ord):leK y a a:=.inr ⟨rfl,Int.le_refl _⟩
theorem Cn7{y:Bool}{a b c:Ord}(h1:leK y a b)(h2:leK y b c):leK y a c:=by unfold leK at *;omega
theorem Dy7{y:Bool}{a b:Ord}(ha:a.buy=y)(h:lessO a b=true):leK y a b:=by
 subst ha
 unfold lessO at h
 unfold leK ky
 split at h
 ·rename_i hp
  rw[hp]
  right
  simp only[decide_eq_true_eq]at h
  exact⟨rfl,by omega⟩
 ·rename_i hp
  cases hb:a.buy <;> simp[hb]at h ⊢ <;> omega
theorem CS7{y:Bool}{a b:Ord}(ha:a.buy=y)(h:lessO a b=false):leK y b a:=by
 subst ha
 unfold lessO at h
 unfold leK ky
 split at h
 ·rename_i hp
  rw[hp]
  right
  simp only[decide_eq_false_iff_not]at h
  exact⟨rfl,by omega⟩
 ·rename_i hp
  cases hb:a.buy <;> simp[hb]at h ⊢ <;> omega
def at'(xs:List Ord)(k:Nat):Ord:=xs.getD k o0
theorem at'_get{xs:List Ord}{k:Nat}(h:k<xs.length):at' xs k=xs[k]:=by simp[at',List.getD_eq_getElem?_getD,List.getElem?_eq_getElem h]
theorem at'_swap(xs:List Ord)(i j:Nat)(hi:i<xs.length)(hj:j<xs.length)(k:Nat):at' (swapL xs i j hi hj) k=if k=j then at' xs i else if k=i then at' xs j else at' xs k:=by
 unfold at' swapL
 simp only[List.getD_eq_getElem?_getD,List.getElem?_set]
 by_cases h1:k=j
 ·subst h1;simp[hi,hj]
 ·by_cases h2:k=i
  ·subst h2;simp[h1,Ne.symm h1,hj,hi]
  ·simp[h1,h2,Ne.symm h1,Ne.symm h2]
def Side(y:Bool)(xs:List Ord):Prop:=∀x∈xs,x.buy=y
theorem Side.at{y:Bool}{xs:List Ord}(h:Side y xs){k:Nat}(hk:k<xs.length):(at' xs k).buy=y:=by rw[at'_get hk];exact h _ (List.getElem_mem hk)
theorem Side.perm{y:Bool}{xs ys:List Ord}(h:Side y xs)(hp:ys.Perm xs):Side y ys:=fun x hx=>h x (hp.mem_iff.1 hx)
def Hp(y:Bool)(n:Nat)(xs:List Ord):Prop:=∀k,0<k→k<n→leK y (at' xs ((k-1) / 2)) (at' xs k)
structure UpI(y:Bool)(n:Nat)(xs:List Ord)(j:Nat):Prop where
 all:∀k,0<k→k<n→k≠j→leK y (at' xs ((k-1) / 2)) (at' xs k)
 kids:∀k,0<j→k<n→0<k→(k-1) / 2=j→leK y (at' xs ((j-1) / 2)) (at' xs k)
theorem IN7(y:Bool)(n:Nat):∀(f:Nat) (xs:List Ord) (j:Nat),Side y xs→n≤xs.length→j<n→j≤f→UpI y n xs j→Hp y n (upF f xs j)
 | 0,xs,j,_,_,_,hf,h=>fun k h0 hk=>h.all k h0 hk (by omega)
 | f+1,xs,j,hs,hn,hj,hf,h=>by
  rw[upF]
  by_cases hc:0<j∧j<xs.length
  ·rw[dif_pos hc]
   have hp:(j-1) / 2<xs.length:=by omega
   cases hb:lessO xs[j] xs[(j-1) / 2]
   ·simp only[Bool.false_eq_true,if_false]
    intro k h0 hk
    by_cases hkj:k=j
    ·subst hkj
     have:=CS7 (hs _ (List.getElem_mem hc.2)) hb
     rwa [at'_get hp,at'_get hc.2]
    ·exact h.all k h0 hk hkj
   ·simp only[if_true]
    have hle:leK y (at' xs j) (at' xs ((j-1) / 2)):=by
     rw[at'_get hp,at'_get hc.2]
     exact Dy7 (hs _ (List.getElem_mem hc.2)) hb
    refine IN7 y n f _ _ (hs.perm (AR7 _ _ _ hp hc.2)) (by rw[Ah7];exact hn) (by omega) (by omega) ⟨?_,?_⟩
    ·intro k h0 hk hkp
     rw[at'_swap,at'_swap]
     by_cases h1:k=j
     ·subst h1
      rw[if_pos rfl,if_neg (by omega),if_pos rfl]
      exact hle
     ·rw[if_neg h1,if_neg hkp]
      by_cases h2:(k-1) / 2=j
      ·rw[if_pos h2]
       exact h.kids k hc.1 hk h0 h2
      ·rw[if_neg h2]
       by_cases h3:(k-1) / 2=(j-1) / 2
       ·rw[if_pos h3]
        refine Cn7 hle ?_
        rw[←h3]
        exact h.all k h0 hk h1
       ·rw[if_neg h3]
        exact h.all k h0 hk h1
    ·intro k h0 hk hk0 hkp
     rw[at'_swap,at'_swap]
     rw[if_neg (by omega),if_neg (by omega)]
     have hg:=h.all ((j-1) / 2) h0 (by omega) (by omega)
     by_cases h1:k=j
     ·rw[if_pos h1];exact hg
     ·rw[if_neg h1,if_neg (by omega)]
      refine Cn7 hg ?_
      rw[←hkp]
      exact h.all k hk0 hk h1
  ·rw[dif_neg hc]
   exact fun k h0 hk=>h.all k h0 hk (by omega)
structure DownI(y:Bool)(n:Nat)(xs:List Ord)(i:Nat):Prop where
 all:∀k,0<k→k<n→(k-1) / 2≠i→k≠i→leK y (at' xs ((k-1) / 2)) (at' xs k)
 kids:∀k,0<i→k<n→0<k→(k-1) / 2=i→leK y (at' xs ((i-1) / 2)) (at' xs k)
theorem JW7(y:Bool)(n:Nat)(xs:List Ord)(i:Nat)(hs:Side y xs)(hn:n≤xs.length)(h1:2*i+1<n)(k:Nat)(hk:k<n)(h0:0<k)(hp:(k-1) / 2=i):leK y (at' xs (kid xs i n hn)) (at' xs k):=by
 have hkk:k=2*i+1∨k=2*i+2:=by omega
 unfold kid
 split
 ·rename_i h2
  cases hb:lessO xs[2*i+2] xs[2*i+1]
  ·simp only[Bool.false_eq_true,if_false]
   rcases hkk with rfl|rfl
   ·exact EK7 _ _
   ·rw[at'_get (show 2*i+1<xs.length by omega),at'_get (show 2*i+2<xs.length by omega)]
    exact CS7 (hs _ (List.getElem_mem _)) hb
  ·simp only[if_true]
   rcases hkk with rfl|rfl
   ·rw[at'_get (show 2*i+1<xs.length by omega),at'_get (show 2*i+2<xs.length by omega)]
    exact Dy7 (hs _ (List.getElem_mem _)) hb
   ·exact EK7 _ _
 ·rcases hkk with rfl|rfl
  ·exact EK7 _ _
  ·omega
theorem Md7{xs:List Ord}{i n:Nat}(hn:n≤xs.length):(kid xs i n hn-1) / 2=i:=by
 unfold kid
 split
 ·split <;> omega
 ·omega
theorem Fq7(y:Bool)(n:Nat):∀(f:Nat) (xs:List Ord) (i:Nat),Side y xs→n≤xs.length→n≤f+i→DownI y n xs i→(i=0∨n≤i∨leK y (at' xs ((i-1) / 2)) (at' xs i))→Hp y n (downF f xs i n).1
 | 0,xs,i,_,_,hf,h,hi=>fun k h0 hk=>h.all k h0 hk (by omega) (by omega)
 | f+1,xs,i,hs,hn,hf,h,hi=>by
  have hstop:(∀k,0<k→k<n→(k-1) / 2=i→leK y (at' xs i) (at' xs k))→Hp y n xs:=fun hh k h0 hk=>by
   by_cases h1:(k-1) / 2=i
   ·rw[h1];exact hh k h0 hk h1
   ·by_cases h2:k=i
    ·subst h2
     rcases hi with h3|h3|h3
     ·omega
     ·omega
     ·exact h3
    ·exact h.all k h0 hk h1 h2
  rw[downF]
  by_cases hc:2*i+1<n∧n≤xs.length
  ·rw[dif_pos hc]
   have hk1:=HC7 hn hc.1
   have hk2:=HD7 (xs:=xs) (i:=i) (n:=n) hn
   have hk3:=Md7 (xs:=xs) (i:=i) (n:=n) hn
   have hbest:=JW7 y n xs i hs hn hc.1
   have hjl:(kid xs i n hn)<xs.length:=by omega
   have hil:i<xs.length:=by omega
   cases hb:lessO xs[(kid xs i n hn)] xs[i]
   ·simp only[Bool.false_eq_true,if_false]
    refine hstop fun k h0 hk hp=>Cn7 ?_ (hbest k hk h0 hp)
    rw[at'_get hjl,at'_get hil]
    exact CS7 (hs _ (List.getElem_mem hjl)) hb
   ·simp only[if_true]
    have hle:leK y (at' xs (kid xs i n hn)) (at' xs i):=by
     rw[at'_get hjl,at'_get hil]
     exact Dy7 (hs _ (List.getElem_mem hjl)) hb
    refine Fq7 y n f _ _ (hs.perm (AR7 _ _ _ hil hjl)) (by rw[Ah7];exact hn) (by omega) ⟨?_,?_⟩ (.inr (.inr ?_))
    ·intro k h0 hk h1 h2
     rw[at'_swap,at'_swap,if_neg h1,if_neg h2]
     by_cases h3:k=i
     ·rw[if_pos h3,if_neg (by omega)]
      rw[h3]
      exact h.kids _ (h3▸h0) hk1 (by omega) hk3
     ·rw[if_neg h3]
      by_cases h4:(k-1) / 2=i
      ·rw[if_pos h4];exact hbest k hk h0 h4
      ·rw[if_neg h4];exact h.all k h0 hk h4 h3
    ·intro k _ hk h0 hp
     rw[at'_swap,at'_swap,hk3,if_neg (by omega),if_pos rfl,if_neg (by omega),if_neg (by omega)]
     rw[←hp]
     exact h.all k h0 hk (by omega) (by omega)
    ·rw[at'_swap,at'_swap,hk3,if_neg (by omega),if_pos rfl,if_pos rfl]
     exact hle
  ·rw[dif_neg hc]
   exact hstop fun k h0 hk hp=>by omega
theorem NT7 (y : Bool) (n : Nat) (f : Nat) (xs : List Ord) (i : Nat) (hs : Side y xs) (hn : n ≤ xs.length) (hf : n ≤ f + i) (h : DownI y n xs i) :
    (¬ i < (downF f xs i n).2 ∧ (downF f xs i n).1 = xs ∧ UpI y n xs i) ∨ (i < (downF f xs i n).2 ∧ Hp y n (downF f xs i n).1) := by
  have hstop : (∀ k, 0 < k → k < n → (k - 1) / 2 = i → leK y (at' xs i) (at' xs k)) → UpI y n xs i := fun hh => ⟨fun k h0 hk hki => by
      by_cases h1 : (k - 1) / 2 = i
      · rw [h1]; exact hh k h0 hk h1
      · exact h.all k h0 hk h1 hki, h.kids⟩
  have hmono : ∀ (f : Nat) (xs : List Ord) (i : Nat), i ≤ (downF f xs i n).2 := by
    intro f
    induction f with
    | zero => intro xs i; exact Nat.le_refl _
    | succ f ih =>
      intro xs i
      rw [downF]
      split
      · rename_i hc
        split
        · exact Nat.le_trans (Nat.le_of_lt (HD7 hc.2)) (ih _ _)
        · exact Nat.le_refl _
      · exact Nat.le_refl _
  cases f with
  | zero =>
    left
    exact ⟨Nat.lt_irrefl _, rfl, hstop fun k h0 hk hp => by omega⟩
  | succ f =>
    rw [downF]
    by_cases hc : 2 * i + 1 < n ∧ n ≤ xs.length
    · rw [dif_pos hc]
      have hk1 := HC7 hn hc.1
      have hk2 := HD7 (xs := xs) (i := i) (n := n) hn
      have hk3 := Md7 (xs := xs) (i := i) (n := n) hn
      have hbest := JW7 y n xs i hs hn hc.1
      have hjl : (kid xs i n hn) < xs.length := by omega
      have hil : i < xs.length := by omega
      cases hb : lessO xs[(kid xs i n hn)] xs[i]
      · simp only [Bool.false_eq_true, if_false]
        left
        refine ⟨Nat.lt_irrefl _, by trivial, hstop fun k h0 hk hp => Cn7 ?_ (hbest k hk h0 hp)⟩
        rw [at'_get hjl, at'_get hil]
        exact CS7 (hs _ (List.getElem_mem hjl)) hb
      · simp only [if_true]
        have hle : leK y (at' xs (kid xs i n hn)) (at' xs i) := by
          rw [at'_get hjl, at'_get hil]
          exact Dy7 (hs _ (List.getElem_mem hjl)) hb
        right
        refine ⟨Nat.lt_of_lt_of_le hk2 (hmono _ _ _), ?_⟩
        refine Fq7 y n f _ _ (hs.perm (AR7 _ _ _ hil hjl)) (by rw [Ah7]; exact hn) (by omega) ⟨?_, ?_⟩ (.inr (.inr ?_))
        · intro k h0 hk h1 h2
          rw [at'_swap, at'_swap, if_neg h1, if_neg h2]
          by_cases h3 : k = i
          · rw [if_pos h3, if_neg (by omega)]
            rw [h3]
            exact h.kids _ (h3 ▸ h0) hk1 (by omega) hk3
          · rw [if_neg h3]
            by_cases h4 : (k - 1) / 2 = i
            · rw [if_pos h4]; exact hbest k hk h0 h4
            · rw [if_neg h4]; exact h.all k h0 hk h4 h3
        · intro k _ hk h0 hp
          rw [at'_swap, at'_swap, hk3, if_neg (by omega), if_pos rfl, if_neg (by omega), if_neg (by omega)]
          rw [← hp]
          exact h.all k h0 hk (by omega) (by omega)
        · rw [at'_swap, at'_swap, hk3, if_neg (by omega), if_pos rfl, if_pos rfl]
          exact hle
    · rw [dif_neg hc]
      left
      exact ⟨Nat.lt_irrefl _, rfl, hstop fun k h0 hk hp => by omega⟩
theorem at'_take(xs:List Ord)(n k:Nat)(h:k<n):at' (xs.take n) k=at' xs k:=by
 unfold at'
 simp only[List.getD_eq_getElem?_getD,List.getElem?_take,if_pos h]
theorem Hp.take{y:Bool}{n:Nat}{xs:List Ord}(h:Hp y n xs):Hp y n (xs.take n):=fun k h0 hk=>by
 rw[at'_take _ _ _ hk,at'_take _ _ _ (by omega)]
 exact h k h0 hk
structure Heap(y:Bool)(xs:List Ord):Prop where
 side:Side y xs
 hp:Hp y xs.length xs
theorem Heap.nil(y:Bool):Heap y []:=⟨fun _ h=>(by cases h),fun k _ h=>absurd h (Nat.not_lt_zero _)⟩
theorem Heap.top{y:Bool}{x:Ord}{q:List Ord}(h:Heap y (x::q)):∀z∈x::q,leK y x z:=by
 have hk:∀k,k<(x::q).length→leK y x (at' (x::q) k):=by
  intro k
  induction k using Nat.strongRecOn with
  | _ k ih=>
   intro hk
   by_cases h0:k=0
   ·subst h0;exact EK7 _ _
   ·exact Cn7 (ih ((k-1) / 2) (by omega) (by omega)) (h.hp k (by omega) hk)
 intro z hz
 obtain⟨k,hkl,rfl⟩:=List.mem_iff_getElem.1 hz
 have:=hk k hkl
 rwa [at'_get hkl]at this
theorem Heap.pop{y:Bool}{x:Ord}{q:List Ord}(h:Heap y (x::q)):Heap y (popT (x::q)):=by
 have hl:(popT (x::q)).length=q.length:=by rw[BK7];rfl
 refine⟨fun z hz=>h.side z (List.mem_cons_of_mem _ ((CH7 x q).mem_iff.1 hz)),?_⟩
 rw[hl]
 have e:popT (x::q)=(popF (x::q) q.length rfl).take q.length:=by
  unfold popT
  rw[dif_pos (by simp)]
  rfl
 rw[e]
 refine Hp.take ?_
 unfold popF
 have h0:0<(x::q).length:=by simp
 have h1:q.length<(x::q).length:=by simp
 refine Fq7 y q.length _ _ 0 (h.side.perm (AR7 _ _ _ h0 h1)) (by rw[Ah7];simp) (by omega) ⟨?_,fun k hk=>absurd hk (Nat.lt_irrefl _)⟩ (.inl rfl)
 intro k hk0 hk h2 _
 rw[at'_swap,at'_swap,if_neg (by omega),if_neg h2,if_neg (by omega),if_neg (by omega)]
 exact h.hp k hk0 (by simp;omega)
theorem Heap.push{y:Bool}{xs:List Ord}{o:Ord}(h:Heap y xs)(ho:o.buy=y):Heap y (pushT xs o):=by
 have hp:=Eg7 xs o
 refine⟨fun z hz=>?_,?_⟩
 ·rcases List.mem_cons.1 (hp.mem_iff.1 hz)with rfl|hz
  ·exact ho
  ·exact h.side z hz
 ·rw[EA7]
  unfold pushT
  have hap:∀k,k<xs.length→at' (xs++[o]) k=at' xs k:=fun k hk=>by
   unfold at'
   rw[List.getD_eq_getElem?_getD,List.getD_eq_getElem?_getD,List.getElem?_append_left hk]
  refine IN7 y _ _ _ _ ?_ (by simp) (by omega) (Nat.le_refl _) ⟨?_,fun k h0 hk hk0 hp=>by omega⟩
  ·intro z hz
   rcases List.mem_append.1 hz with hz|hz
   ·exact h.side z hz
   ·rw[List.mem_singleton.1 hz];exact ho
  ·intro k h0 hk hkn
   rw[hap _ (by omega),hap _ (by omega)]
   exact h.hp k h0 (by omega)
theorem Heap.rem{y:Bool}{xs:List Ord}{i:Nat}(h:Heap y xs)(hi:i<xs.length):Heap y (remT xs i):=by
 have hl:=Fo7 xs i hi
 refine⟨fun z hz=>h.side z ((HH7 xs i hi).mem_iff.1 (List.mem_cons_of_mem _ hz)),?_⟩
 rw[hl]
 unfold remT
 rw[dif_pos hi]
 obtain⟨n,hn⟩:∃n,xs.length=n+1:=⟨xs.length-1,by omega⟩
 simp only[hn,Nat.add_sub_cancel]
 refine Hp.take ?_
 unfold remF
 split
 ·exact fun k h0 hk=>h.hp k h0 (by omega)
 ·rename_i hin
  have hnl:n<xs.length:=by omega
  have hsd:=h.side.perm (AR7 xs i n hi hnl)
  have hD:DownI y n (swapL xs i n hi hnl) i:=by
   refine⟨?_,?_⟩
   ·intro k h0 hk h1 h2
    rw[at'_swap,at'_swap,if_neg (by omega),if_neg h1,if_neg (by omega),if_neg h2]
    exact h.hp k h0 (by omega)
   ·intro k h0 hk hk0 hp
    rw[at'_swap,at'_swap,if_neg (by omega),if_neg (by omega),if_neg (by omega),if_neg (by omega)]
    have h1:=h.hp i h0 (by omega)
    have h2:=h.hp k hk0 (by omega)
    rw[hp]at h2
    exact Cn7 h1 h2
  rcases NT7 y n n _ i hsd (by rw[Ah7];omega) (by omega) hD with ⟨h1,h2,h3⟩|⟨h1,h2⟩
  ·rw[if_neg h1,h2]
   exact IN7 y n i _ i hsd (by rw[Ah7];omega) (by omega) (Nat.le_refl _) h3
  ·rw[if_pos h1]
   exact h2
theorem Heap.cnt{y:Bool}{x:Ord}{q:List Ord}(h:Heap y (x::q))(c:Int):Heap y ({ x with cnt:=c }::q):=by
 refine⟨fun z hz=>?_,?_⟩
 ·rcases List.mem_cons.1 hz with rfl|hz
  ·exact h.side x (List.mem_cons_self ..)
  ·exact h.side z (List.mem_cons_of_mem _ hz)
 ·have hk:∀k,ky y (at' ({ x with cnt:=c }::q) k)=ky y (at' (x::q) k)∧(at' ({ x with cnt:=c }::q) k).id=(at' (x::q) k).id:=by
   intro k
   cases k with
   | zero=>exact⟨rfl,rfl⟩
   | succ k=>exact⟨rfl,rfl⟩
  intro k h0 hkl
  have:=h.hp k h0 hkl
  unfold leK at *
  rw[(hk _).1,(hk _).2,(hk k).1,(hk k).2]
  exact this
section
variable{A B C D E F G H X:HP}{L:List HP}
theorem _root_.Go.Sl.Take.t1:Take (A::X::L) X (A::L):=.tail .head
theorem _root_.Go.Sl.Take.t2:Take (A::B::X::L) X (A::B::L):=.tail .t1
theorem _root_.Go.Sl.Take.t3:Take (A::B::C::X::L) X (A::B::C::L):=.tail .t2
theorem _root_.Go.Sl.Take.t4:Take (A::B::C::D::X::L) X (A::B::C::D::L):=.tail .t3
theorem _root_.Go.Sl.Take.t5:Take (A::B::C::D::E::X::L) X (A::B::C::D::E::L):=.tail .t4
theorem _root_.Go.Sl.Take.t6:Take (A::B::C::D::E::F::X::L) X (A::B::C::D::E::F::L):=.tail .t5
theorem _root_.Go.Sl.Take.t7:Take (A::B::C::D::E::F::G::X::L) X (A::B::C::D::E::F::G::L):=.tail .t6
end
theorem NU7(xs:List Ord)(i:Nat)(hi:i<xs.length)(l:List Value)(T:TypeId)(bb off:Nat)(v:Value)(h63:xs.length≤4294967296)(hl:l[off]? = some v)(W w:World)(L:List HP)
  (hS:St W (blk bb l T::pileR v xs::L) w):
  Calls Tryz.prog 215 #[.iface 273 (.pointer (some ⟨bb,off,none⟩)),.int .i64 i] w fun e w'=>∃v',e=.returned (.iface 166 (.agg xs[i].cells.toArray))∧St W (blk bb (l.set off v') T::pileR v' (remT xs i)::L) w':=by
 rcases hS.swap.rowOpen with ⟨_,h0,_⟩|⟨g,cap,junk,rfl,hn1,hm1,hj1,hl1,hS1⟩
 ·omega
 ·obtain⟨n,hn⟩:∃n,xs.length=n+1:=⟨xs.length-1,by omega⟩
  have hpt:remT xs i=(remF xs i n hn (by omega)).take n:=by
   unfold remT
   rw[dif_pos hi]
   simp only[hn,Nat.add_sub_cancel]
  have hlast:(remF xs i n hn (by omega))[n]? = some xs[i]:=by rw[HG7,List.getElem?_eq_getElem hi]
  have hrl:=Fo7 xs i hi
  rw[hn]at hn1 hl1 hl
  refine(LW7 xs _ xs[i] junk l T bb off g i n cap hn (by omega) rfl hlast hn1 hm1 (by omega) hl W w L hS1.swap).mono ?_
  rintro e w' ⟨rfl,hS⟩
  refine⟨.slice (some ⟨g,0,none⟩) n cap,rfl,?_⟩
  unfold pileR
  rw[hrl,hn,hpt]
  have e:(remF xs i n hn (by omega)).flatMap Ord.cells++junk=((remF xs i n hn (by omega)).take n).flatMap Ord.cells++(((remF xs i n hn (by omega)).drop n).flatMap Ord.cells++junk):=by
   rw[←List.append_assoc,←List.flatMap_append,List.take_append_drop]
  rw[e]at hS
  refine(St.rowShut hS.swap (by omega) hm1 ?_ ?_).swap
  ·rw[←e,List.length_append,Ab7 Ord.len,BI7]
   rw[List.length_append,Ab7 Ord.len,hn]at hj1
   exact hj1
  ·rw[Ab7 Ord.len,List.length_take,BI7]
   simp
theorem Fr7{ps:List (List Ord)}{id:Int}{k:Nat}{ks:List Nat}(h:idxI id (ps.getD k [])<0):findAt ps id (k::ks)=findAt ps id ks:=by
 rw[findAt]
 unfold idxI at h
 split
 ·rename_i i hi;rw[hi]at h;simp at h;omega
 ·rfl
theorem Fs7{ps:List (List Ord)}{id:Int}{k:Nat}{ks:List Nat}{i:Nat}(h:idxI id (ps.getD k [])=i):findAt ps id (k::ks)=some (k,i)∧i<(ps.getD k []).length∧((ps.getD k []).getD i o0).id=id:=by
 rw[findAt]
 unfold idxI at h
 split
 ·rename_i j hj
  rw[hj]at h
  simp only at h
  obtain rfl:j=i:=by omega
  obtain⟨h1,h2,_⟩:=List.findIdx?_eq_some_iff_getElem.1 hj
  refine⟨rfl,h1,?_⟩
  rw[List.getD_eq_getElem?_getD,List.getElem?_eq_getElem h1]
  simpa using h2
 ·rename_i hj;rw[hj]at h;simp only at h;omega
def CanRel(W:World)(L:List HP)(bb:Nat)(b:Bk)(id:Int)(v15:Value)(w:World):Prop:=
 ∃k:Nat,v15=.int .i64 k∧k≤8∧findAt b.ps id offs=findAt b.ps id (offs.drop k)∧St W (bookP bb b::L) w
theorem JX7(bb:Nat)(junk:List Value)(k:Nat)(h:k<8):∃o,o<8∧offs.drop k=o::offs.drop (k+1)∧(ptrL bb++junk)[k]? = some (.pointer (some ⟨bb,o,none⟩)):=by
 obtain h|h|h|h|h|h|h|h:k=0∨k=1∨k=2∨k=3∨k=4∨k=5∨k=6∨k=7:=by omega
 all_goals subst h
 all_goals exact⟨_,by decide,rfl,rfl⟩
theorem JY7(b:Bk)(o:Nat)(h:o<8)(hb:b.len≤32):(b.ps.getD o []).length≤32:=Nat.le_trans (Eh7 b o h) hb
theorem IO7(bb:Nat)(b1:Bk)(id:Int)(hok:b1.len≤32)(W w:World)(L:List HP)(hS:St W (bookP bb b1::L) w):
  Calls Tryz.prog 174 #[.pointer (some ⟨bb,0,none⟩),.int .i64 id] w fun e w'=>e=.returned (.tuple #[.agg (cancelB b1 id).o.cells.toArray,.int .i64 (cancelB b1 id).errno])∧St W (bookP bb (cancelB b1 id).book::L) w':=by
 have hmf:∀(fn:Fn) (first cap:Array Value) (w:World),(Instr.makeFunc fn first cap).run Tryz.prog w=.ok (.func fn first cap) w:=fun _ _ _ _=>rfl
 have hta:=OZ7
 go_enter Tryz.func174,Tryz.ntmps174
 go_wp2_with(first|(go_at_call 207;refine(Ef7 bb W _ _ hS).mono ?_;clear hS;rintro e w ⟨v,rfl,hS⟩;rcases hS.rowOpen with ⟨_,h0,_⟩|⟨g,cap,junk,rfl,hn1,hm1,hj1,hl1,hS'⟩;(exfalso;omega);clear hS;have hS:=hS';clear hS';unfold maxLen at hm1)|((with_reducible apply Az7 hS);(with_reducible rfl);rfl;rfl;rfl;clear hS;intro bB w hS;(refine frS ?_))|(refine zl1 hS ?_)|(refine zlN hS ?_)|(refine zs1 hS ?_;clear hS;intro w hS)|(refine zsN hS ?_;clear hS;intro w hS)|(refine zbx hS ?_;clear hS;intro b w hS)|(refine zal hS ?_;clear hS;intro b w hS))
 have hS1:=((hS.perm (List.perm_middle (l₁:=[_,_,_]))).take .t3).swap
 clear hS
 have hS:=hS1
 clear hS1
 go_loopw [15] (fun v wr=>CanRel W (blk bB [.int .i64 id] 3::blk g (ptrL bb++junk) 273::blk b [.int .i64 0,.string ⟨#[]⟩,.bool false,.int .i64 0,.int .i64 0,.int .i64 0] 166::L) bb b1 id v wr) (fun v _=>8-(intOf v).toNat)
 case atStart=>exact⟨0,rfl,by omega,rfl,hS⟩
 case round=>
  clear hS
  obtain⟨k,rfl,hk,hf,hS⟩:=hrel
  by_cases h8:k=8
  ·subst h8
   have e1:cancelB b1 id=⟨o0,7,b1⟩:=by unfold cancelB;rw[hf];rfl
   have E1:=Lib.hid e1
   clear hf e1
   go_wp2_with(first|(refine zl1 hS ?_)|(refine zlN hS ?_)|(refine zs1 hS ?_;clear hS;intro w hS)|(refine zsN hS ?_;clear hS;intro w hS)|(refine zbx hS ?_;clear hS;intro b w hS)|(refine zal hS ?_;clear hS;intro b w hS))
   (apply Ac7;rfl;rfl;rfl;rfl;exact hS;decide +kernel;(exact cesS);kernel_rfl)
   rw[E1.out]
   exact⟨rfl,hS.swap.drop.swap.drop.swap.drop⟩
  ·have hk8:k<8:=by omega
   clear h8 hk
   obtain⟨o,ho,hdr,hpt⟩:=JX7 bb junk k hk8
   rw[hdr]at hf
   obtain⟨vs,h1,h2,hS0⟩:=bookOpen hS
   clear hS
   have ho1:o<vs.length:=by omega
   have ho2:o<b1.ps.length:=by omega
   have hpk:b1.ps[o]=b1.pile o:=by unfold Bk.pile;simp[List.getD_eq_getElem?_getD,List.getElem?_eq_getElem ho2]
   have hS1:=pileTake o ho1 ho2 hS0.swap
   clear hS0
   rw[hpk]at hS1
   have hl:(vs++[Value.int .i64 b1.last])[o]? = some vs[o]:=by rw[List.getElem?_append_left ho1,List.getElem?_eq_getElem ho1]
   generalize hvv:vs[o]=v at hl hS1
   have hp32:=JY7 b1 o ho hok
   have hgd:b1.ps.getD o []=b1.pile o:=rfl
   rw[hgd]at hp32
   have Hvv:=Lib.hid hvv
   clear hvv
   have hS:=hS1.take .t3
   clear hS1
   cases hfi:(b1.pile o).findIdx? (fun x=>x.id==id)with
   | none=>
    have hx:idxI id (b1.pile o) = -1:=by unfold idxI;rw[hfi]
    rw[Fr7 (by rw[hgd,hx];omega)]at hf
    have Hf:=Lib.hid hf
    clear hf hfi hdr
    go_wp2_with(first|(refine zl1 hS ?_ (hc:=by exact Cell.there (Cell.there (Cell.there (Cell.there (Cell.here hpt))))))|(refine zl1 hS ?_ (hc:=by exact Cell.there (Cell.there (Cell.there (Cell.here hl)))))|(go_at_call 213;refine(Fp7 (b1.pile o) v bB id (by omega) W _ _ hS).mono ?_;clear hS;rw[hx];rintro e w ⟨rfl,hS⟩))
    have hS3:=(hS.take .t2).take .t2
    clear hS
    have hS4:=pileBack o ho1 ho2 hS3
    clear hS3
    rw[←Hvv.out,←hpk,List.set_getElem_self,List.set_getElem_self]at hS4
    have hS5:=bookShut h1 h2 (hS4.take .t2)
    clear hS4
    go_roundw
    case rel=>exact⟨k+1,rfl,hk8,Hf.out,hS5⟩
    case measure=>simp[intOf];omega
   | some i=>
    have hx:idxI id (b1.pile o)=i:=by unfold idxI;rw[hfi]
    obtain⟨hf1,hil,_⟩:=Fs7 (ks:=offs.drop (k+1)) (hgd.symm▸hx)
    rw[hgd]at hil
    rw[hf1]at hf
    have e1:cancelB b1 id=⟨(b1.pile o)[i],0,⟨b1.ps.set o (remT (b1.pile o) i),b1.last⟩⟩:=by
     unfold cancelB
     rw[hf]
     simp[List.getD_eq_getElem?_getD,List.getElem?_eq_getElem hil]
    have E1:=Lib.hid e1
    clear e1 hf hf1 hfi hdr
    generalize hxx:(b1.pile o)[i]=x at E1
    have Hxx:=Lib.hid hxx
    clear hxx
    obtain⟨xi,xu,xy,xt,xc,xp⟩:=x
    go_wp2_with(first|(refine zl1 hS ?_ (hc:=by exact Cell.there (Cell.there (Cell.there (Cell.there (Cell.here hpt))))))|(refine zl1 hS ?_ (hc:=by exact Cell.there (Cell.there (Cell.there (Cell.here hl)))))|(go_at_call 213;refine(Fp7 (b1.pile o) v bB id (by omega) W _ _ hS).mono ?_;clear hS;rw[hx];rintro e w ⟨rfl,hS⟩)|(go_at_call 215;refine(NU7 (b1.pile o) i hil _ _ bb o v (by omega) hl W _ _ (((hS.take .t3).take .t2).swap)).mono ?_;clear hS;rw[Hxx.out];simp only[Ord.cells];rintro e w ⟨v',rfl,hS⟩)|(refine zl1 hS ?_)|(refine zlN hS ?_)|(refine zs1 hS ?_;clear hS;intro w hS)|(refine zsN hS ?_;clear hS;intro w hS)|(refine zbx hS ?_;clear hS;intro b w hS)|(refine zal hS ?_;clear hS;intro b w hS))
    (apply Ac7;rfl;rfl;rfl;rfl;exact hS;decide +kernel;(exact cesS);kernel_rfl)
    rw[E1.out]
    refine⟨rfl,?_⟩
    have hS3:=(hS.take .t3).take .t2
    rw[List.set_append_left _ _ ho1]at hS3
    have hS4:=bookShut (vs:=vs.set o v') (b:=⟨b1.ps.set o (remT (b1.pile o) i),b1.last⟩) (by simpa using h1) (by simpa using h2) (pileBack o ho1 ho2 hS3).swap
    exact hS4.swap.drop.swap.drop.swap.drop
end Go.Proofs.YtlmhakmoioogaaaGreat
end
