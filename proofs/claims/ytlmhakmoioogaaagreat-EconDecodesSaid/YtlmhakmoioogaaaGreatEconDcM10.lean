/-
  The plain law of a heap of orders.
-/
import Derived.Test.YtlmhakmoioogaaaGreatEconDcM1
import Derived.Test.YtlmhakmoioogaaaGreatEconDcM2
import Derived.Test.YtlmhakmoioogaaaGreatEconDcM4
import Derived.Test.YtlmhakmoioogaaaGreatEconDcM9
import Derived.Test.YtlmhakmoioogaaaGreatProg
import Derived.Shelf.SlSortCmp.WholeK
import Derived.Shelf.SlicesG.Cmp
import Derived.Shelf.Small.Bits
import Derived.Ground.SlsfProg
import Derived.Ground.SlgcProg
import Derived.Ground.NamesProg
import Derived.Test.YtlmhakmoioogaaaGreatRows
import Derived.Lib.SmallJoins
import Derived.ChangeArms
import Derived.ProofKit
set_option maxHeartbeats 16000000
set_option maxRecDepth 100000
set_option linter.unusedSimpArgs false
set_option linter.unusedVariables false
section
namespace Go.Proofs.YtlmhakmoioogaaaGreat
open Go.RowKit Go.Sl
def ky(y:Bool)(o:Ord):Int:=cond y (-o.price) o.price
def leK(y:Bool)(a b:Ord):Prop:=ky y a<ky y b\/(ky y a=ky y b/\a.id<=b.id)
theorem FR7(y:Bool)(a:Ord):leK y a a:=.inr ⟨rfl,Int.le_refl _⟩
theorem CP7{y:Bool}{a b c:Ord}(h1:leK y a b)(h2:leK y b c):leK y a c:=by unfold leK at *;omega
theorem Et7{y:Bool}{a b:Ord}(ha:a.buy=y)(h:Q8 a b=true):leK y a b:=by
 subst ha;unfold Q8 at h;unfold leK ky;split at h
 ·rename_i hp
  rw[hp];right;simp only[decide_eq_true_eq]at h;exact⟨rfl,by omega⟩
 ·rename_i hp
  cases hb:a.buy <;> simp[hb]at h ⊢ <;> omega
theorem DL7{y:Bool}{a b:Ord}(ha:a.buy=y)(h:Q8 a b=false):leK y b a:=by
 subst ha;unfold Q8 at h;unfold leK ky;split at h
 ·rename_i hp
  rw[hp];right;simp only[decide_eq_false_iff_not]at h;exact⟨rfl,by omega⟩
 ·rename_i hp
  cases hb:a.buy <;> simp[hb]at h ⊢ <;> omega
def at'(xs:List Ord)(k:Nat):Ord:=xs.getD k o0
theorem x7{xs:List Ord}{k:Nat}(h:k<xs.length):at' xs k=xs[k]:=by simp[at',List.getD_eq_getElem?_getD,jG h]
theorem B7(xs:List Ord)(i j:Nat)(hi:i<xs.length)(hj:j<xs.length)(k:Nat):at' (G5 xs i j hi hj) k=if k=j then at' xs i else if k=i then at' xs j else at' xs k:=by
 unfold at' G5;simp only[List.getD_eq_getElem?_getD,List.getElem?_set];by_cases h1:k=j
 ·subst h1;simp[hi,hj]
 ·by_cases h2:k=i
  ·subst h2;simp[h1,Ne.symm h1,hj,hi]
  ·simp[h1,h2,Ne.symm h1,Ne.symm h2]
def cA4(y:Bool)(xs:List Ord):Prop:=∀x∈xs,x.buy=y
theorem cA4.at{y:Bool}{xs:List Ord}(h:cA4 y xs){k:Nat}(hk:k<xs.length):(at' xs k).buy=y:=by rw[x7 hk];exact h _ (jW hk)
theorem cA4.perm{y:Bool}{xs ys:List Ord}(h:cA4 y xs)(hp:ys.Perm xs):cA4 y ys:=fun x hx=>h x (hp.mem_iff.1 hx)
def Hp(y:Bool)(n:Nat)(xs:List Ord):Prop:=∀k,0<k->k<n->leK y (at' xs ((k-1) / 2)) (at' xs k)
structure UpI(y:Bool)(n:Nat)(xs:List Ord)(j:Nat):Prop where
 all:∀k,0<k->k<n->k≠j->leK y (at' xs ((k-1) / 2)) (at' xs k)
 kids:∀k,0<j->k<n->0<k->(k-1) / 2=j->leK y (at' xs ((j-1) / 2)) (at' xs k)
theorem Km7(y:Bool)(n:Nat):∀(f:Nat) (xs:List Ord) (j:Nat),cA4 y xs->n<=xs.length->j<n->j<=f->UpI y n xs j->Hp y n (upF f xs j)
 | 0,xs,j,_,_,_,hf,h=>fun k h0 hk=>h.all k h0 hk (by omega)
 | f+1,xs,j,hs,hn,hj,hf,h=>by
  rw[upF];by_cases hc:0<j/\j<xs.length
  ·rw[dif_pos hc];have hp:(j-1) / 2<xs.length:=by omega
   cases hb:Q8 xs[j] xs[(j-1) / 2]
   ·simp only[Bool.false_eq_true,if_false];intro k h0 hk;by_cases hkj:k=j
    ·subst hkj;have:=DL7 (hs _ (jW hc.2)) hb;rwa [x7 hp,x7 hc.2]
    ·exact h.all k h0 hk hkj
   ·simp only[if_true];have hle:leK y (at' xs j) (at' xs ((j-1) / 2)):=by rw[x7 hp,x7 hc.2];exact Et7 (hs _ (jW hc.2)) hb
    refine Km7 y n f _ _ (hs.perm (Bh7 _ _ _ hp hc.2)) (by rw[Ah7];exact hn) (by omega) (by omega) ⟨?_,?_⟩
    ·intro k h0 hk hkp;rw[B7,B7];by_cases h1:k=j
     ·subst h1;rw[if_pos rfl,if_neg (by omega),if_pos rfl];exact hle
     ·rw[if_neg h1,if_neg hkp];by_cases h2:(k-1) / 2=j
      ·rw[if_pos h2];exact h.kids k hc.1 hk h0 h2
      ·rw[if_neg h2];by_cases h3:(k-1) / 2=(j-1) / 2
       ·rw[if_pos h3];refine CP7 hle ?_;rw[<-h3];exact h.all k h0 hk h1
       ·rw[if_neg h3];exact h.all k h0 hk h1
    ·intro k h0 hk hk0 hkp;rw[B7,B7];rw[if_neg (by omega),if_neg (by omega)];have hg:=h.all ((j-1) / 2) h0 (by omega) (by omega);by_cases h1:k=j
     ·rw[if_pos h1];exact hg
     ·rw[if_neg h1,if_neg (by omega)];refine CP7 hg ?_;rw[<-hkp];exact h.all k hk0 hk h1
  ·rw[dif_neg hc];exact fun k h0 hk=>h.all k h0 hk (by omega)
structure DownI(y:Bool)(n:Nat)(xs:List Ord)(i:Nat):Prop where
 all:∀k,0<k->k<n->(k-1) / 2≠i->k≠i->leK y (at' xs ((k-1) / 2)) (at' xs k)
 kids:∀k,0<i->k<n->0<k->(k-1) / 2=i->leK y (at' xs ((i-1) / 2)) (at' xs k)
theorem Ly7(y:Bool)(n:Nat)(xs:List Ord)(i:Nat)(hs:cA4 y xs)(hn:n<=xs.length)(h1:2*i+1<n)(k:Nat)(hk:k<n)(h0:0<k)(hp:(k-1) / 2=i):leK y (at' xs (kid xs i n hn)) (at' xs k):=by
 have hkk:k=2*i+1\/k=2*i+2:=by omega
 unfold kid;split
 ·rename_i h2
  cases hb:Q8 xs[2*i+2] xs[2*i+1]
  ·simp only[Bool.false_eq_true,if_false]
   rcases hkk with rfl|rfl
   ·exact FR7 _ _
   ·rw[x7 (show 2*i+1<xs.length by omega),x7 (show 2*i+2<xs.length by omega)];exact DL7 (hs _ (jW _)) hb
  ·simp only[if_true]
   rcases hkk with rfl|rfl
   ·rw[x7 (show 2*i+1<xs.length by omega),x7 (show 2*i+2<xs.length by omega)];exact Et7 (hs _ (jW _)) hb
   ·exact FR7 _ _
 ·rcases hkk with rfl|rfl
  ·exact FR7 _ _
  ·omega
theorem NN7{xs:List Ord}{i n:Nat}(hn:n<=xs.length):(kid xs i n hn-1) / 2=i:=by
 unfold kid;split
 ·split <;> omega
 ·omega
theorem Gu7(y:Bool)(n:Nat):∀(f:Nat) (xs:List Ord) (i:Nat),cA4 y xs->n<=xs.length->n<=f+i->DownI y n xs i->(i=0\/n<=i\/leK y (at' xs ((i-1) / 2)) (at' xs i))->Hp y n (D6 f xs i n).1
 | 0,xs,i,_,_,hf,h,hi=>fun k h0 hk=>h.all k h0 hk (by omega) (by omega)
 | f+1,xs,i,hs,hn,hf,h,hi=>by
  have hstop:(∀k,0<k->k<n->(k-1) / 2=i->leK y (at' xs i) (at' xs k))->Hp y n xs:=fun hh k h0 hk=>by
   by_cases h1:(k-1) / 2=i
   ·rw[h1];exact hh k h0 hk h1
   ·by_cases h2:k=i
    ·subst h2
     rcases hi with h3|h3|h3
     ·omega
     ·omega
     ·exact h3
    ·exact h.all k h0 hk h1 h2
  rw[D6];by_cases hc:2*i+1<n/\n<=xs.length
  ·rw[dif_pos hc];have hk1:=Jd7 hn hc.1;have hk2:=Je7 (xs:=xs) (i:=i) (n:=n) hn;have hk3:=NN7 (xs:=xs) (i:=i) (n:=n) hn;have hbest:=Ly7 y n xs i hs hn hc.1;have hjl:(kid xs i n hn)<xs.length:=by omega
   have hil:i<xs.length:=by omega
   cases hb:Q8 xs[(kid xs i n hn)] xs[i]
   ·simp only[Bool.false_eq_true,if_false];refine hstop fun k h0 hk hp=>CP7 ?_ (hbest k hk h0 hp)
    rw[x7 hjl,x7 hil];exact DL7 (hs _ (jW hjl)) hb
   ·simp only[if_true];have hle:leK y (at' xs (kid xs i n hn)) (at' xs i):=by rw[x7 hjl,x7 hil];exact Et7 (hs _ (jW hjl)) hb
    refine Gu7 y n f _ _ (hs.perm (Bh7 _ _ _ hil hjl)) (by rw[Ah7];exact hn) (by omega) ⟨?_,?_⟩ (.inr (.inr ?_))
    ·intro k h0 hk h1 h2;rw[B7,B7,if_neg h1,if_neg h2];by_cases h3:k=i
     ·rw[if_pos h3,if_neg (by omega)];rw[h3];exact h.kids _ (h3▸h0) hk1 (by omega) hk3
     ·rw[if_neg h3];by_cases h4:(k-1) / 2=i
      ·rw[if_pos h4];exact hbest k hk h0 h4
      ·rw[if_neg h4];exact h.all k h0 hk h4 h3
    ·intro k _ hk h0 hp;rw[B7,B7,hk3,if_neg (by omega),if_pos rfl,if_neg (by omega),if_neg (by omega)];rw[<-hp];exact h.all k h0 hk (by omega) (by omega)
    ·rw[B7,B7,hk3,if_neg (by omega),if_pos rfl,if_pos rfl];exact hle
  ·rw[dif_neg hc];exact hstop fun k h0 hk hp=>by omega
theorem PO7 (y : Bool) (n : Nat) (f : Nat) (xs : List Ord) (i : Nat) (hs : cA4 y xs) (hn : n <= xs.length) (hf : n <= f + i) (h : DownI y n xs i) :
    (¬ i < (D6 f xs i n).2 /\ (D6 f xs i n).1 = xs /\ UpI y n xs i) \/ (i < (D6 f xs i n).2 /\ Hp y n (D6 f xs i n).1) := by
  have hstop : (∀ k, 0 < k -> k < n -> (k - 1) / 2 = i -> leK y (at' xs i) (at' xs k)) -> UpI y n xs i := fun hh => ⟨fun k h0 hk hki => by
      by_cases h1 : (k - 1) / 2 = i
      · rw [h1]; exact hh k h0 hk h1
      · exact h.all k h0 hk h1 hki, h.kids⟩
  have hmono : ∀ (f : Nat) (xs : List Ord) (i : Nat), i <= (D6 f xs i n).2 := by
    intro f
    induction f with
    | zero => intro xs i; exact Nat.le_refl _
    | succ f ih =>
      intro xs i;rw [D6];split
      · rename_i hc
        split
        · exact Nat.le_trans (Nat.le_of_lt (Je7 hc.2)) (ih _ _)
        · exact Nat.le_refl _
      · exact Nat.le_refl _
  cases f with
  | zero =>
    left
    exact ⟨Nat.lt_irrefl _, rfl, hstop fun k h0 hk hp => by omega⟩
  | succ f =>
    rw [D6];by_cases hc : 2 * i + 1 < n /\ n <= xs.length
    · rw [dif_pos hc]
      have hk1 := Jd7 hn hc.1;have hk2 := Je7 (xs := xs) (i := i) (n := n) hn;have hk3 := NN7 (xs := xs) (i := i) (n := n) hn;have hbest := Ly7 y n xs i hs hn hc.1;have hjl : (kid xs i n hn) < xs.length := by omega
      have hil : i < xs.length := by omega
      cases hb : Q8 xs[(kid xs i n hn)] xs[i]
      · simp only [Bool.false_eq_true, if_false]
        left
        refine ⟨Nat.lt_irrefl _, by trivial, hstop fun k h0 hk hp => CP7 ?_ (hbest k hk h0 hp)⟩;rw [x7 hjl, x7 hil];exact DL7 (hs _ (jW hjl)) hb
      · simp only [if_true]
        have hle : leK y (at' xs (kid xs i n hn)) (at' xs i) := by rw [x7 hjl, x7 hil];exact Et7 (hs _ (jW hjl)) hb
        right
        refine ⟨Nat.lt_of_lt_of_le hk2 (hmono _ _ _), ?_⟩;refine Gu7 y n f _ _ (hs.perm (Bh7 _ _ _ hil hjl)) (by rw [Ah7]; exact hn) (by omega) ⟨?_, ?_⟩ (.inr (.inr ?_))
        · intro k h0 hk h1 h2
          rw [B7, B7, if_neg h1, if_neg h2];by_cases h3 : k = i
          · rw [if_pos h3, if_neg (by omega)]
            rw [h3];exact h.kids _ (h3 ▸ h0) hk1 (by omega) hk3
          · rw [if_neg h3]
            by_cases h4 : (k - 1) / 2 = i
            · rw [if_pos h4]; exact hbest k hk h0 h4
            · rw [if_neg h4]; exact h.all k h0 hk h4 h3
        · intro k _ hk h0 hp
          rw [B7, B7, hk3, if_neg (by omega), if_pos rfl, if_neg (by omega), if_neg (by omega)];rw [<- hp];exact h.all k h0 hk (by omega) (by omega)
        · rw [B7, B7, hk3, if_neg (by omega), if_pos rfl, if_pos rfl]
          exact hle
    · rw [dif_neg hc]
      left
      exact ⟨Nat.lt_irrefl _, rfl, hstop fun k h0 hk hp => by omega⟩
theorem db4(xs:List Ord)(n k:Nat)(h:k<n):at' (xs.take n) k=at' xs k:=by unfold at';simp only[List.getD_eq_getElem?_getD,List.getElem?_take,if_pos h]
theorem Hp.take{y:Bool}{n:Nat}{xs:List Ord}(h:Hp y n xs):Hp y n (xs.take n):=fun k h0 hk=>by rw[db4 _ _ _ hk,db4 _ _ _ (by omega)];exact h k h0 hk
structure Heap(y:Bool)(xs:List Ord):Prop where
 side:cA4 y xs
 hp:Hp y xs.length xs
theorem Heap.nil(y:Bool):Heap y []:=⟨fun _ h=>(by cases h),fun k _ h=>absurd h (Nat.not_lt_zero _)⟩
theorem Heap.top{y:Bool}{x:Ord}{q:List Ord}(h:Heap y (x::q)):∀z∈x::q,leK y x z:=by
 have hk:∀k,k<(x::q).length->leK y x (at' (x::q) k):=by
  intro k
  induction k using Nat.strongRecOn with
  | _ k ih=>
   intro hk;by_cases h0:k=0
   ·subst h0;exact FR7 _ _
   ·exact CP7 (ih ((k-1) / 2) (by omega) (by omega)) (h.hp k (by omega) hk)
 intro z hz;obtain⟨k,hkl,rfl⟩:=List.mem_iff_getElem.1 hz;have:=hk k hkl;rwa [x7 hkl]at this
theorem Heap.pop{y:Bool}{x:Ord}{q:List Ord}(h:Heap y (x::q)):Heap y (bw4 (x::q)):=by
 have hl:(bw4 (x::q)).length=q.length:=by rw[Cm7];rfl
 refine⟨fun z hz=>h.side z (List.mem_cons_of_mem _ ((Dr7 x q).mem_iff.1 hz)),?_⟩;rw[hl];have e:bw4 (x::q)=(aX4 (x::q) q.length rfl).take q.length:=by unfold bw4;rw[dif_pos (by simp)];rfl
 rw[e];refine Hp.take ?_;unfold aX4;have h0:0<(x::q).length:=by simp
 have h1:q.length<(x::q).length:=by simp
 refine Gu7 y q.length _ _ 0 (h.side.perm (Bh7 _ _ _ h0 h1)) (by rw[Ah7];simp) (by omega) ⟨?_,fun k hk=>absurd hk (Nat.lt_irrefl _)⟩ (.inl rfl);intro k hk0 hk h2 _;rw[B7,B7,if_neg (by omega),if_neg h2,if_neg (by omega),if_neg (by omega)];exact h.hp k hk0 (by simp;omega)
theorem Heap.push{y:Bool}{xs:List Ord}{o:Ord}(h:Heap y xs)(ho:o.buy=y):Heap y (al4 xs o):=by
 have hp:=Ff7 xs o;refine⟨fun z hz=>?_,?_⟩
 ·rcases List.mem_cons.1 (hp.mem_iff.1 hz)with rfl|hz
  ·exact ho
  ·exact h.side z hz
 ·rw[FC7];unfold al4;have hap:∀k,k<xs.length->at' (xs++[o]) k=at' xs k:=fun k hk=>by unfold at';rw[List.getD_eq_getElem?_getD,List.getD_eq_getElem?_getD,List.getElem?_append_left hk]
  refine Km7 y _ _ _ _ ?_ (by simp) (by omega) (Nat.le_refl _) ⟨?_,fun k h0 hk hk0 hp=>by omega⟩
  ·intro z hz
   rcases List.mem_append.1 hz with hz|hz
   ·exact h.side z hz
   ·rw[List.mem_singleton.1 hz];exact ho
  ·intro k h0 hk hkn;rw[hap _ (by omega),hap _ (by omega)];exact h.hp k h0 (by omega)
theorem Heap.rem{y:Bool}{xs:List Ord}{i:Nat}(h:Heap y xs)(hi:i<xs.length):Heap y (bI4 xs i):=by
 have hl:=Gs7 xs i hi;refine⟨fun z hz=>h.side z ((Ji7 xs i hi).mem_iff.1 (List.mem_cons_of_mem _ hz)),?_⟩;rw[hl];unfold bI4;rw[dif_pos hi];obtain⟨n,hn⟩:∃n,xs.length=n+1:=⟨xs.length-1,by omega⟩
 simp only[hn,Nat.add_sub_cancel];refine Hp.take ?_;unfold bl4;split
 ·exact fun k h0 hk=>h.hp k h0 (by omega)
 ·rename_i hin
  have hnl:n<xs.length:=by omega
  have hsd:=h.side.perm (Bh7 xs i n hi hnl)
  have hD:DownI y n (G5 xs i n hi hnl) i:=by
   refine⟨?_,?_⟩
   ·intro k h0 hk h1 h2;rw[B7,B7,if_neg (by omega),if_neg h1,if_neg (by omega),if_neg h2];exact h.hp k h0 (by omega)
   ·intro k h0 hk hk0 hp;rw[B7,B7,if_neg (by omega),if_neg (by omega),if_neg (by omega),if_neg (by omega)];have h1:=h.hp i h0 (by omega);have h2:=h.hp k hk0 (by omega);rw[hp]at h2;exact CP7 h1 h2
  rcases PO7 y n n _ i hsd (by rw[Ah7];omega) (by omega) hD with ⟨h1,h2,h3⟩|⟨h1,h2⟩
  ·rw[if_neg h1,h2];exact Km7 y n i _ i hsd (by rw[Ah7];omega) (by omega) (Nat.le_refl _) h3
  ·rw[if_pos h1];exact h2
theorem Heap.cnt{y:Bool}{x:Ord}{q:List Ord}(h:Heap y (x::q))(c:Int):Heap y ({ x with cnt:=c }::q):=by
 refine⟨fun z hz=>?_,?_⟩
 ·rcases List.mem_cons.1 hz with rfl|hz
  ·exact h.side x (List.mem_cons_self ..)
  ·exact h.side z (List.mem_cons_of_mem _ hz)
 ·have hk:∀k,ky y (at' ({ x with cnt:=c }::q) k)=ky y (at' (x::q) k)/\(at' ({ x with cnt:=c }::q) k).id=(at' (x::q) k).id:=by
   intro k
   cases k with
   | zero=>exact⟨rfl,rfl⟩
   | succ k=>exact⟨rfl,rfl⟩
  intro k h0 hkl;have:=h.hp k h0 hkl;unfold leK at *;rw[(hk _).1,(hk _).2,(hk k).1,(hk k).2];exact this
section
variable{A B C D E F G H X:HP}{L:List HP}
theorem _root_.Go.Sl.Take.t1:Take (A::X::L) X (A::L):=.tail .head
theorem _root_.Go.Sl.Take.t2:Take (A::B::X::L) X (A::B::L):=.tail .t1
theorem _root_.Go.Sl.Take.t3:Take (A::B::C::X::L) X (A::B::C::L):=.tail .t2
theorem _root_.Go.Sl.Take.t4:Take (A::B::C::D::X::L) X (A::B::C::D::L):=.tail .t3
theorem _root_.Go.Sl.Take.t5:Take (A::B::C::D::E::X::L) X (A::B::C::D::E::L):=.tail .t4
theorem _root_.Go.Sl.Take.t6:Take (A::B::C::D::E::F::X::L) X (A::B::C::D::E::F::L):=.tail .t5
theorem _root_.Go.Sl.Take.t7:Take (A::B::C::D::E::F::G::X::L) X (A::B::C::D::E::F::G::L):=.tail .t6
end
theorem PP7(xs:List Ord)(i:Nat)(hi:i<xs.length)(l:List Value)(T:TypeId)(bb off:Nat)(v:Value)(h63:xs.length<=4294967296)(hl:l[off]? = some v)(W w:World)(L:List HP)
  (hS:St W (blk bb l T::i9 v xs::L) w):
  Calls Tryz.prog 215 #[.iface 273 (.pointer (some ⟨bb,off,none⟩)),.I i] w fun e w'=>∃v',e=.returned (.iface 166 (.agg xs[i].cells.toArray))/\St W (blk bb (l.set off v') T::i9 v' (bI4 xs i)::L) w':=by
 rcases hS.swap.rowOpen with ⟨_,h0,_⟩|⟨g,cap,junk,rfl,hn1,hm1,hj1,hl1,hS1⟩
 ·omega
 ·obtain⟨n,hn⟩:∃n,xs.length=n+1:=⟨xs.length-1,by omega⟩
  have hpt:bI4 xs i=(bl4 xs i n hn (by omega)).take n:=by unfold bI4;rw[dif_pos hi];simp only[hn,Nat.add_sub_cancel]
  have hlast:(bl4 xs i n hn (by omega))[n]? = some xs[i]:=by rw[Jh7,jG hi]
  have hrl:=Gs7 xs i hi;rw[hn]at hn1 hl1 hl;refine(NG7 xs _ xs[i] junk l T bb off g i n cap hn (by omega) rfl hlast hn1 hm1 (by omega) hl W w L hS1.swap).mono ?_;rintro e w' ⟨rfl,hS⟩;refine⟨.S g n cap,rfl,?_⟩;unfold i9;rw[hrl,hn,hpt];have e:(bl4 xs i n hn (by omega)).flatMap Ord.cells++junk=((bl4 xs i n hn (by omega)).take n).flatMap Ord.cells++(((bl4 xs i n hn (by omega)).drop n).flatMap Ord.cells++junk):=by rw[<-jS,<-List.flatMap_append,List.take_append_drop]
  rw[e]at hS;refine(St.rowShut hS.swap (by omega) hm1 ?_ ?_).swap
  ·rw[<-e,jA,Al7 Ord.len,Ck7];rw[jA,Al7 Ord.len,hn]at hj1;exact hj1
  ·rw[Al7 Ord.len,jT,Ck7];simp
theorem Gv7{ps:List (List Ord)}{id:Int}{k:Nat}{ks:List Nat}(h:bx4 id (ps.getD k [])<0):aw4 ps id (k::ks)=aw4 ps id ks:=by
 rw[aw4];unfold bx4 at h;split
 ·rename_i i hi;rw[hi]at h;simp at h;omega
 ·rfl
theorem Gw7{ps:List (List Ord)}{id:Int}{k:Nat}{ks:List Nat}{i:Nat}(h:bx4 id (ps.getD k [])=i):aw4 ps id (k::ks)=some (k,i)/\i<(ps.getD k []).length/\((ps.getD k []).getD i o0).id=id:=by
 rw[aw4];unfold bx4 at h;split
 ·rename_i j hj
  rw[hj]at h;simp only at h;obtain rfl:j=i:=by omega
  obtain⟨h1,h2,_⟩:=List.findIdx?_eq_some_iff_getElem.1 hj;refine⟨rfl,h1,?_⟩;rw[List.getD_eq_getElem?_getD,jG h1];simpa using h2
 ·rename_i hj;rw[hj]at h;simp only at h;omega
def fa4(W:World)(L:List HP)(bb:Nat)(b:Bk)(id:Int)(v15:Value)(w:World):Prop:=
 ∃k:Nat,v15=.I k/\k<=8/\aw4 b.ps id bv4=aw4 b.ps id (bv4.drop k)/\St W (A6 bb b::L) w
theorem Lz7(bb:Nat)(junk:List Value)(k:Nat)(h:k<8):∃o,o<8/\bv4.drop k=o::bv4.drop (k+1)/\(cj4 bb++junk)[k]? = some (.pointer (some ⟨bb,o,none⟩)):=by
 obtain h|h|h|h|h|h|h|h:k=0\/k=1\/k=2\/k=3\/k=4\/k=5\/k=6\/k=7:=by omega
 all_goals subst h
 all_goals exact⟨_,by decide,rfl,rfl⟩
theorem LA7(b:Bk)(o:Nat)(h:o<8)(hb:b.len<=32):(b.ps.getD o []).length<=32:=Nat.le_trans (Fg7 b o h) hb
theorem Kn7(bb:Nat)(b1:Bk)(id:Int)(hok:b1.len<=32)(W w:World)(L:List HP)(hS:St W (A6 bb b1::L) w):
  Calls Tryz.prog 174 #[.P bb,.I id] w fun e w'=>e=.returned (.tuple #[.agg (T7 b1 id).o.cells.toArray,.I (T7 b1 id).errno])/\St W (A6 bb (T7 b1 id).book::L) w':=by
 have hmf:∀(fn:Fn) (first cap:Array Value) (w:World),(Instr.makeFunc fn first cap).run Tryz.prog w=.ok (.func fn first cap) w:=fun _ _ _ _=>rfl
 have hta:=Ri7;go_enter Tryz.func174,Tryz.ntmps174;go_wp2_with(first|(go_at_call 207;refine(Fe7 bb W _ _ hS).mono ?_;clear hS;rintro e w ⟨v,rfl,hS⟩;rcases hS.rowOpen with ⟨_,h0,_⟩|⟨g,cap,junk,rfl,hn1,hm1,hj1,hl1,hS'⟩;exfalso;omega;clear hS;have hS:=hS';clear hS';unfold maxLen at hm1)|(with_reducible apply Df7 hS);rfl;rfl;rfl;rfl;clear hS;intro bB w hS;refine frS ?_|refine zl1 hS ?_|refine zlN hS ?_|refine zs1 hS ?_;clear hS;intro w hS|refine zsN hS ?_;clear hS;intro w hS|refine zbx hS ?_;clear hS;intro b w hS|refine zal hS ?_;clear hS;intro b w hS);have hS1:=((hS.perm (List.perm_middle (l₁:=[_,_,_]))).take .t3).swap;clear hS;have hS:=hS1;clear hS1
 go_loopw [15] (fun v wr=>fa4 W (blk bB [.I id] 3::blk g (cj4 bb++junk) 273::blk b [.I 0,.string ⟨#[]⟩,.bool false,.I 0,.I 0,.I 0] 166::L) bb b1 id v wr) (fun v _=>8-(intOf v).toNat)
 case atStart=>exact⟨0,rfl,by omega,rfl,hS⟩
 case round=>
  clear hS;obtain⟨k,rfl,hk,hf,hS⟩:=hrel;by_cases h8:k=8
  ·subst h8;have e1:T7 b1 id=⟨o0,7,b1⟩:=by unfold T7;rw[hf];rfl
   have E1:=jH e1;clear hf e1;go_wp2_with(first|refine zl1 hS ?_|refine zlN hS ?_|refine zs1 hS ?_;clear hS;intro w hS|refine zsN hS ?_;clear hS;intro w hS|refine zbx hS ?_;clear hS;intro b w hS|refine zal hS ?_;clear hS;intro b w hS);apply Ab7;rfl;rfl;rfl;rfl;exact hS;decide +kernel;(exact x9);kernel_rfl;rw[E1.out];exact⟨rfl,hS.swap.drop.swap.drop.swap.drop⟩
  ·have hk8:k<8:=by omega
   clear h8 hk;obtain⟨o,ho,hdr,hpt⟩:=Lz7 bb junk k hk8;rw[hdr]at hf;obtain⟨vs,h1,h2,hS0⟩:=ak4 hS;clear hS;have ho1:o<vs.length:=by omega
   have ho2:o<b1.ps.length:=by omega
   have hpk:b1.ps[o]=b1.pile o:=by unfold Bk.pile;simp[List.getD_eq_getElem?_getD,jG ho2]
   have hS1:=bd4 o ho1 ho2 hS0.swap;clear hS0;rw[hpk]at hS1;have hl:(vs++[Value.int .i64 b1.last])[o]? = some vs[o]:=by rw[List.getElem?_append_left ho1,jG ho1]
   generalize hvv:vs[o]=v at hl hS1;have hp32:=LA7 b1 o ho hok;have hgd:b1.ps.getD o []=b1.pile o:=rfl;rw[hgd]at hp32;have Hvv:=jH hvv;clear hvv;have hS:=hS1.take .t3;clear hS1
   cases hfi:(b1.pile o).findIdx? (fun x=>x.id==id)with
   | none=>
    have hx:bx4 id (b1.pile o) = -1:=by unfold bx4;rw[hfi]
    rw[Gv7 (by rw[hgd,hx];omega)]at hf;have Hf:=jH hf;clear hf hfi hdr;go_wp2_with(first|refine zl1 hS ?_ (hc:=by exact e8.there (e8.there (e8.there (e8.there (e8.here hpt)))))|refine zl1 hS ?_ (hc:=by exact e8.there (e8.there (e8.there (e8.here hl))))|go_at_call 213;refine(Gt7 (b1.pile o) v bB id (by omega) W _ _ hS).mono ?_;clear hS;rw[hx];rintro e w ⟨rfl,hS⟩);have hS3:=(hS.take .t2).take .t2;clear hS;have hS4:=be4 o ho1 ho2 hS3;clear hS3;rw[<-Hvv.out,<-hpk,List.set_getElem_self,List.set_getElem_self]at hS4;have hS5:=O6 h1 h2 (hS4.take .t2);clear hS4;go_roundw
    case rel=>exact⟨k+1,rfl,hk8,Hf.out,hS5⟩
    case measure=>simp[intOf];omega
   | some i=>
    have hx:bx4 id (b1.pile o)=i:=by unfold bx4;rw[hfi]
    obtain⟨hf1,hil,_⟩:=Gw7 (ks:=bv4.drop (k+1)) (hgd.symm▸hx);rw[hgd]at hil;rw[hf1]at hf;have e1:T7 b1 id=⟨(b1.pile o)[i],0,⟨b1.ps.set o (bI4 (b1.pile o) i),b1.last⟩⟩:=by unfold T7;rw[hf];simp[List.getD_eq_getElem?_getD,jG hil]
    have E1:=jH e1;clear e1 hf hf1 hfi hdr;generalize hxx:(b1.pile o)[i]=x at E1;have Hxx:=jH hxx;clear hxx;obtain⟨xi,xu,xy,xt,xc,xp⟩:=x;go_wp2_with(first|refine zl1 hS ?_ (hc:=by exact e8.there (e8.there (e8.there (e8.there (e8.here hpt)))))|refine zl1 hS ?_ (hc:=by exact e8.there (e8.there (e8.there (e8.here hl))))|go_at_call 213;refine(Gt7 (b1.pile o) v bB id (by omega) W _ _ hS).mono ?_;clear hS;rw[hx];rintro e w ⟨rfl,hS⟩|go_at_call 215;refine(PP7 (b1.pile o) i hil _ _ bb o v (by omega) hl W _ _ (((hS.take .t3).take .t2).swap)).mono ?_;clear hS;rw[Hxx.out];simp only[Ord.cells];rintro e w ⟨v',rfl,hS⟩|refine zl1 hS ?_|refine zlN hS ?_|refine zs1 hS ?_;clear hS;intro w hS|refine zsN hS ?_;clear hS;intro w hS|refine zbx hS ?_;clear hS;intro b w hS|refine zal hS ?_;clear hS;intro b w hS);apply Ab7;rfl;rfl;rfl;rfl;exact hS;decide +kernel;(exact x9);kernel_rfl;rw[E1.out];refine⟨rfl,?_⟩;have hS3:=(hS.take .t3).take .t2;rw[List.set_append_left _ _ ho1]at hS3;have hS4:=O6 (vs:=vs.set o v') (b:=⟨b1.ps.set o (bI4 (b1.pile o) i),b1.last⟩) (by simpa using h1) (by simpa using h2) (be4 o ho1 ho2 hS3).swap;exact hS4.swap.drop.swap.drop.swap.drop
end Go.Proofs.YtlmhakmoioogaaaGreat
end
section
namespace Go.Proofs.YtlmhakmoioogaaaGreat
open Go.Shelf
def Tryz.sortOrd_ren:Go.Shelf.Ren:=⟨fun|6=>211|15=>177|14=>250|28=>224|29=>225|20=>264|21=>265|22=>266|23=>267|24=>268|25=>269|26=>270|27=>271|46=>275|47=>252|48=>253|49=>276|50=>277|57=>278|n=>n,fun|22=>185|24=>166|25=>284|3=>3|39=>195|0=>0|53=>295|55=>194|4=>4|46=>289|45=>288|50=>134|5=>5|9=>9|66=>318|70=>262|76=>332|77=>181|n=>n,fun|n=>n⟩
theorem Tryz.sortOrd:Go.Proofs.SlLaysF0.n6 Tryz.prog Tryz.sortOrd_ren:={
 mixed:=by kernel_rfl
 f6:=⟨Tryz.f211.name,by decide,Tryz.func211.trans (congrArg some (by kernel_rfl))⟩
 f14:=⟨Tryz.f250.name,by decide,Tryz.func250.trans (congrArg some (by kernel_rfl))⟩
 f15:=Tryz.func177.trans (congrArg some (by kernel_rfl))
 f20:=⟨Tryz.f264.name,by decide,Tryz.func264.trans (congrArg some (by kernel_rfl))⟩
 f21:=⟨Tryz.f265.name,by decide,Tryz.func265.trans (congrArg some (by kernel_rfl))⟩
 f22:=⟨Tryz.f266.name,by decide,Tryz.func266.trans (congrArg some (by kernel_rfl))⟩
 f23:=⟨Tryz.f267.name,by decide,Tryz.func267.trans (congrArg some (by kernel_rfl))⟩
 f24:=⟨Tryz.f268.name,by decide,Tryz.func268.trans (congrArg some (by kernel_rfl))⟩
 f25:=⟨Tryz.f269.name,by decide,Tryz.func269.trans (congrArg some (by kernel_rfl))⟩
 f26:=⟨Tryz.f270.name,by decide,Tryz.func270.trans (congrArg some (by kernel_rfl))⟩
 f27:=⟨Tryz.f271.name,by decide,Tryz.func271.trans (congrArg some (by kernel_rfl))⟩
 f28:=Tryz.func224.trans (congrArg some (by kernel_rfl))
 f29:=Tryz.func225.trans (congrArg some (by kernel_rfl))
 f46:=⟨Tryz.f275.name,by decide,Tryz.func275.trans (congrArg some (by kernel_rfl))⟩
 f47:=Tryz.func252.trans (congrArg some (by kernel_rfl))
 f48:=Tryz.func253.trans (congrArg some (by kernel_rfl))
 f49:=⟨Tryz.f276.name,by decide,Tryz.func276.trans (congrArg some (by kernel_rfl))⟩
 f50:=⟨Tryz.f277.name,by decide,Tryz.func277.trans (congrArg some (by kernel_rfl))⟩
 f57:=⟨Tryz.f278.name,by decide,Tryz.func278.trans (congrArg some (by kernel_rfl))⟩
 t0:=Tryz.underlying0
 a0:=Tryz.isAgg0
 z0:=Tryz.sizeOf0
 v0:=Tryz.zeroValue0
 t3:=Tryz.underlying3
 a3:=Tryz.isAgg3
 z3:=Tryz.sizeOf3
 v3:=Tryz.zeroValue3
 t4:=Tryz.underlying4
 a4:=Tryz.isAgg4
 z4:=Tryz.sizeOf4
 v4:=Tryz.zeroValue4
 t5:=Tryz.underlying5
 a5:=Tryz.isAgg5
 z5:=Tryz.sizeOf5
 v5:=Tryz.zeroValue5
 t9:=Tryz.underlying9
 a9:=Tryz.isAgg9
 z9:=Tryz.sizeOf9
 v9:=Tryz.zeroValue9
 t22:=Tryz.underlying185
 a22:=Tryz.isAgg185
 z22:=Tryz.sizeOf185
 v22:=Tryz.zeroValue185
 t25:=Tryz.underlying284
 a25:=Tryz.isAgg284
 z25:=Tryz.sizeOf284
 v25:=Tryz.zeroValue284
 t39:=Tryz.underlying195
 a39:=Tryz.isAgg195
 z39:=Tryz.sizeOf195
 v39:=Tryz.zeroValue195
 t45:=Tryz.underlying288
 a45:=Tryz.isAgg288
 z45:=Tryz.sizeOf288
 v45:=Tryz.zeroValue288
 t46:=Tryz.underlying289
 a46:=Tryz.isAgg289
 z46:=Tryz.sizeOf289
 v46:=Tryz.zeroValue289
 t50:=Tryz.underlying134
 a50:=Tryz.isAgg134
 z50:=Tryz.sizeOf134
 v50:=Tryz.zeroValue134
 t53:=Tryz.underlying295
 a53:=Tryz.isAgg295
 z53:=Tryz.sizeOf295
 v53:=Tryz.zeroValue295
 t55:=Tryz.underlying194
 a55:=Tryz.isAgg194
 z55:=Tryz.sizeOf194
 v55:=Tryz.zeroValue194
 t66:=Tryz.underlying318
 a66:=Tryz.isAgg318
 z66:=Tryz.sizeOf318
 v66:=Tryz.zeroValue318
 t70:=Tryz.underlying262
 a70:=Tryz.isAgg262
 z70:=Tryz.sizeOf262
 v70:=Tryz.zeroValue262
 t76:=Tryz.underlying332
 a76:=Tryz.isAgg332
 z76:=Tryz.sizeOf332
 v76:=Tryz.zeroValue332
 t77:=Tryz.underlying181
 a77:=Tryz.isAgg181
 z77:=Tryz.sizeOf181
 v77:=Tryz.zeroValue181 }
def Tryz.cmpInt_ren:Go.Shelf.Ren:=⟨fun|5=>112|7=>178|n=>n,fun|22=>3|3=>3|4=>4|n=>n,fun|n=>n⟩
theorem Tryz.cmpInt:Go.Proofs.SlLaysC2.n5 Tryz.prog Tryz.cmpInt_ren:={
 mixed:=by kernel_rfl
 f5:=⟨Tryz.f112.name,by decide,Tryz.func112.trans (congrArg some (by kernel_rfl))⟩
 f7:=⟨Tryz.f178.name,by decide,Tryz.func178.trans (congrArg some (by kernel_rfl))⟩
 t3:=Tryz.underlying3
 a3:=Tryz.isAgg3
 z3:=Tryz.sizeOf3
 v3:=Tryz.zeroValue3
 t4:=Tryz.underlying4
 a4:=Tryz.isAgg4
 z4:=Tryz.sizeOf4
 v4:=Tryz.zeroValue4
 t22:=Tryz.underlying3
 a22:=Tryz.isAgg3
 z22:=Tryz.sizeOf3
 v22:=Tryz.zeroValue3 }
def Tryz.bitsLen_ren:Go.Shelf.Ren:=⟨fun|125=>177|128=>224|129=>225|n=>n,fun|46=>195|3=>3|51=>295|53=>194|4=>4|5=>5|9=>9|n=>n,fun|n=>n⟩
theorem Tryz.bitsLen:Go.Proofs.Lays.n125 Tryz.prog Tryz.bitsLen_ren:={
 mixed:=by kernel_rfl
 f125:=Tryz.func177.trans (congrArg some (by kernel_rfl))
 f128:=Tryz.func224.trans (congrArg some (by kernel_rfl))
 f129:=Tryz.func225.trans (congrArg some (by kernel_rfl))
 t3:=Tryz.underlying3
 a3:=Tryz.isAgg3
 z3:=Tryz.sizeOf3
 v3:=Tryz.zeroValue3
 t4:=Tryz.underlying4
 a4:=Tryz.isAgg4
 z4:=Tryz.sizeOf4
 v4:=Tryz.zeroValue4
 t5:=Tryz.underlying5
 a5:=Tryz.isAgg5
 z5:=Tryz.sizeOf5
 v5:=Tryz.zeroValue5
 t9:=Tryz.underlying9
 a9:=Tryz.isAgg9
 z9:=Tryz.sizeOf9
 v9:=Tryz.zeroValue9
 t46:=Tryz.underlying195
 a46:=Tryz.isAgg195
 z46:=Tryz.sizeOf195
 v46:=Tryz.zeroValue195
 t51:=Tryz.underlying295
 a51:=Tryz.isAgg295
 z51:=Tryz.sizeOf295
 v51:=Tryz.zeroValue295
 t53:=Tryz.underlying194
 a53:=Tryz.isAgg194
 z53:=Tryz.sizeOf194
 v53:=Tryz.zeroValue194 }
end Go.Proofs.YtlmhakmoioogaaaGreat
end
section
namespace Go.Proofs.YtlmhakmoioogaaaGreat
open Go.Shelf Go.RowKit Go.Lib Go.Sort Go.Sl
instance : Inhabited Ord := ⟨o0⟩
def ds4(x y:Ord):Int:=Lib.compareInt x.id y.id
theorem ltO(x y:Ord):ltOf ds4 x y=decide (x.id<y.id):=by
 unfold ltOf ds4 Lib.compareInt;by_cases h1:x.id<y.id
 ·simp[h1]
 ·by_cases h2:y.id<x.id <;> simp[h1,h2]
theorem ge4:SWO (ltOf ds4) where
 irrefl x:=by rw[ltO];simp
 trans x y z h1 h2:=by rw[ltO]at *;simp at *;omega
 ntrans x y z h1 h2:=by rw[ltO]at *;simp at *;omega
theorem dU4(x y:Ord)(W:World):Calls Tryz.prog 212 #[.agg x.cells.toArray,.agg y.cells.toArray] W fun e w'=>e=.returned (.I (ds4 x y))/\∃q os',w'=grow (W.drewN q) os':=by
 have hcon:=fun W'=>AnyG.cmp_Compare_int Tryz.cmpInt x.id y.id W'
 change ∀W',Calls Tryz.prog 112 _ _ _ at hcon;unfold ds4;obtain⟨i,u,b,t,c,p⟩:=x;obtain⟨i',u',b',t',c',p'⟩:=y;simp only[Ord.cells]at hcon ⊢;generalize Lib.compareInt i i'=r at hcon ⊢;go_enter Tryz.func212,Tryz.ntmps212;go_wp2_with(go_at_call 112;refine(hcon _).mono ?_;rintro e w' ⟨rfl,rfl⟩);go_ret;exact⟨rfl,0,_,by rw[alloc_eq_grow,alloc_eq_grow,grow_grow];rfl⟩
theorem dV4(blk off size:Nat)(w:World):CmpLays Tryz.prog 212 #[] Ord.cells 6 ds4 blk off size w:=fun _ _ _ _ x y=>dU4 x y _
theorem St.grow{W w:World}{L:List HP}(h:St W L w)(os:Array Obj):St W L (Sort.grow w os):=by
 refine⟨h.os,h.tape,h.output,BZ7 (S:=fun b=>decide (w.heap.size<=b)) ?_⟩
 have e:w7 (fun b=>decide (w.heap.size<=b)) (fun b=>(Sort.grow w os).heap[b]?)=fun b=>w.heap[b]? := by
  funext b
  show cond (decide (w.heap.size<=b)) none ((w.heap++os)[b]?)=w.heap[b]?
  by_cases hb:w.heap.size<=b
  ·rw[decide_eq_true hb,Array.getElem?_eq_none hb];rfl
  ·rw[decide_eq_false hb,Array.getElem?_append_left (by omega)];rfl
 rw[e];exact h.sat
theorem Gx7(l:List Ord)(junk:List Value)(j:Nat)(hj:j<l.length*6):(l.flatMap Ord.cells++junk)[j]? = some ((flatK Ord.cells 6 l.toArray)[j]!):=by
 rw[get_flatK _ _ _ _ (by simpa using hj)];have hq:j / 6<l.length:=by omega
 have h1:=DI7 Ord.len l junk (j / 6) hq (j%6) (by omega);rw[show j / 6*6+j%6=j by omega]at h1;rw[h1];have h2:l.toArray[j / 6]! = l[j / 6]:=by simp[hq]
 rw[h2,jG (by rw[Ord.len];omega)];rw[getElem!_pos _ _ (by rw[Ord.len];omega)]
theorem PQ7(l:List Ord)(g cap:Nat)(junk:List Value)(h62:l.length<4611686018427387904)(W w:World)(L:List HP)(hS:St W (blk g (l.flatMap Ord.cells++junk) 166::L) w):
  Calls Tryz.prog 211 #[.S g l.length cap,.func (.func 212) #[] #[]] w fun e w'=> e=.returned (.tuple #[])/\∃l':List Ord,l'.Perm l/\l'.Pairwise (fun x y=>x.id<=y.id)/\St W (blk g (l'.flatMap Ord.cells++junk) 166::L) w':=by
 have eg:∀args w,(callFunc 212 args).run Tryz.prog w=.ok (.enter 212 args) w:=enters_of Tryz.func212 (by kernel_rfl) rfl;have hgt:=hS.get (b:=g) .head;have hblk:g<w.heap.size:=(Array.getElem?_eq_some_iff.1 hgt).1;have hH:HoldsK Ord.cells 6 w g 0 l.toArray:=by intro j hj;rw[size_flatK]at hj;refine⟨hS.cell .head ?_,hS.free .head⟩;rw[Nat.zero_add];exact Gx7 l junk j (by simpa using hj)
 have hcon:=AnyQ.slices_SortFunc Tryz.sortOrd 6 Tryz.isAgg166 Tryz.sizeOf166 Ord.cells Ord.len (fun x v hv=>by simp[Ord.cells]at hv;rcases hv with rfl|rfl|rfl|rfl|rfl|rfl <;> rfl) ds4 ge4 212 #[] g 0 cap l.toArray w eg (dV4 g 0 l.toArray.size w) hH hblk (by simpa using h62);change Calls Tryz.prog 211 _ _ _ at hcon;simp only[List.size_toArray]at hcon;refine hcon.mono ?_;rintro e w' ⟨rfl,d',n,os,⟨hp1,_,hp3⟩,hs,rfl⟩;refine⟨rfl,d'.toList,?_,?_,?_⟩
 ·have e1:d'.extract 0 l.length=d':=by
   have:l.length=d'.size:=by rw[hp1];simp
   rw[this,Array.extract_size]
  have e2:l.toArray.extract 0 l.length=l.toArray:=by
   have:l.length=l.toArray.size:=by simp
   rw[this,Array.extract_size]
  rw[e1,e2]at hp3;exact hp3
 ·rw[List.pairwise_iff_getElem];intro i j hi hj hij;have:=hs i j (Nat.zero_le _) hij (by simp at hj;rw[hp1]at hj;simpa using hj);rw[ltO]at this;simp only[decide_eq_false_iff_not]at this;have hi':i<d'.size:=by simpa using hi
  have hj':j<d'.size:=by simpa using hj
  rw[getElem!_pos d' i hi',getElem!_pos d' j hj']at this;simp only[Array.getElem_toList];omega
 ·unfold sortWorldK;refine St.grow ?_ os;have hSd:St W (blk g (l.flatMap Ord.cells++junk) 166::L) (Sort.ahead w n):=⟨hS.os,hS.tape,hS.output,hS.sat⟩
  refine hSd.putO (w':=putRowK Ord.cells 6 (Sort.ahead w n) g 0 d') (o':=.cells (d'.toList.flatMap Ord.cells++junk).toArray 166 (0,0)) .head rfl rfl rfl fun k=>?_
  show((Sort.ahead w n).heap.modify g _)[k]? = _
  rw[Array.getElem?_modify];by_cases hk:k=g
  ·subst hk;rw[if_pos rfl,if_pos rfl];have hgt':(Sort.ahead w n).heap[k]? = some (.cells (l.flatMap Ord.cells++junk).toArray 166 (0,0)):=hgt;rw[hgt'];simp only[Option.map_some,Sort.onCells]
   congr 2
   have hdl:d'.toList.length=l.length:=by rw[Array.length_toList,hp1];simp
   have hf1:=Al7 Ord.len l;have hf2:=Al7 Ord.len d'.toList;apply Array.ext_getElem?;intro t;unfold Sort.putCells;simp only[Array.getElem?_mapIdx,List.getElem?_toArray,size_flatK,Nat.zero_le,true_and,Nat.zero_add,Nat.sub_zero,id];have hds:d'.size=l.length:=by rw[hp1];simp
   by_cases ht:t<l.length*6
   ·have h1:=Gx7 d'.toList junk t (by rw[hdl];exact ht);rw[h1,Gx7 l junk t ht];simp[hds,ht]
   ·have h2:(l.flatMap Ord.cells++junk)[t]? = (d'.toList.flatMap Ord.cells++junk)[t]? := by
     rw[List.getElem?_append_right (by omega),List.getElem?_append_right (by omega),hf1,hf2,hdl]
    rw[<-h2];simp[hds,ht]
  ·rw[if_neg (fun h=>hk h.symm),if_neg hk]
theorem MF7(f:Value)(W w:World)(L:List HP)(hS:St W L w):
  Calls Tryz.prog 264 #[.slice none 0 0,.I 0,.I 0,f] w fun e w'=>e=.returned (.tuple #[])/\St W L w':=by
 go_enter Tryz.func264,Tryz.ntmps264;go_wp2_with fail
 go_loopw [8] (fun v wr=>v=.I 1/\St W L wr) (fun _ _=>0)
 case atStart=>exact⟨rfl,hS⟩
 case round=>
  clear hS;obtain⟨rfl,hS⟩:=hrel;go_wp2_with fail;go_end0;exact⟨rfl,hS⟩
theorem RO7(n:Int)(f:Value)(W w:World)(L:List HP)(hS:St W L w):
  Calls Tryz.prog 250 #[.slice none 0 0,.I 0,.I 0,.I n,f] w fun e w'=>e=.returned (.tuple #[])/\St W L w':=by
 go_enter Tryz.func250,Tryz.ntmps250;go_wp2_with fail
 go_loopw [1,2] (fun v1 v2 wr=>v1=.I 0/\v2=.I 0/\St W L wr) (fun _ _ _=>0)
 case atStart=>exact⟨rfl,rfl,hS⟩
 case round=>
  clear hS;obtain⟨rfl,rfl,hS⟩:=hrel;go_wp2_with(first|go_at_call 264;refine(MF7 _ W _ _ hS).mono ?_;clear hS;rintro e w ⟨rfl,hS⟩);refine bodyPost_ret (results_none rfl _ _ _) rfl ?_;exact⟨rfl,hS⟩
theorem PR7(f:Value)(W w:World)(L:List HP)(hS:St W L w):
  Calls Tryz.prog 211 #[.slice none 0 0,f] w fun e w'=>e=.returned (.tuple #[])/\St W L w':=by
 have hl:∀w:World,Calls Tryz.prog 177 #[.int .u64 0] w fun e w'=>(∃l:Int,e=.returned (.I l))/\w'=w:=fun w=>
  (Any.bits_Len Tryz.bitsLen 0 w (by omega) (by omega)).mono fun _ _ ⟨he,hw⟩=>⟨⟨_,he⟩,hw⟩
 go_enter Tryz.func211,Tryz.ntmps211;go_wp2_with(first|go_at_call 177;refine(hl _).mono ?_;rintro e w ⟨⟨l,rfl⟩,rfl⟩|go_at_call 250;refine(RO7 _ _ W _ _ hS).mono ?_;clear hS;rintro e w ⟨rfl,hS⟩);go_end0;exact⟨rfl,hS⟩
end Go.Proofs.YtlmhakmoioogaaaGreat
end
section
namespace Go.Proofs.YtlmhakmoioogaaaGreat
open Go.RowKit Go.Sl
theorem Trd.len(o:Trd):o.cells.length=8:=rfl
def so(zs:List Int)(k:Nat):Ord:=⟨(k:Int)+1,⟨#[115]⟩,false,2,1,1+(zs.getD k 0)%8⟩
def bB(q:List Ord)(k:Nat):Bk:=⟨[[],[],[],[],[],[],q,[]],k⟩
def bo(want:Int):Ord:=⟨100,⟨#[98]⟩,true,2,want,1024⟩
def bt(x:Ord):Trd:=⟨⟨#[98]⟩,x.who,100,x.id,2,1,x.price,1024⟩
structure BestL(zs:List Int)(ts:List Trd):Prop where
 one:∀i (h:i<ts.length),ts[i].cnt=1/\∃k,k<zs.length/\ts[i].sell=(k:Int)+1/\ts[i].price=1+(zs.getD k 0)%8
 two:∀i (h:i+1<ts.length),ts[i].price<ts[i+1].price\/(ts[i].price=ts[i+1].price/\ts[i].sell<=ts[i+1].sell)
def sg(zs:List Int)(k:Nat):Ord:=⟨(k:Int)+1,⟨#[115]⟩,false,1,2,1+(zs.getD k 0)%8⟩
def bG(q:List Ord)(k:Nat):Bk:=⟨[[],[],[],[],[],q,[],[]],k⟩
structure GoneQ(n:Nat)(q:List Ord):Prop where
 nodup:(q.map Ord.id).Nodup
 each:∀x∈q,x.cnt=2/\x.id<=n
end Go.Proofs.YtlmhakmoioogaaaGreat
end
section
namespace Go.Proofs.YtlmhakmoioogaaaGreat
open Go.Joins Go.ChangeShapes Go.WideShapes Go.RowKit Go.Deep Go.Sl
def gJ4(w:World)(v:Value)(zs:List Int):Prop:=
 (zs=[]/\∃a cap,v=.slice a 0 cap) \/
 ∃b off cap,v=.slice (some ⟨b,off,none⟩) zs.length cap/\0<zs.length/\zs.length<=9223372036854775807/\∀i,i<zs.length->w.cell? ⟨b,off+i,none⟩=some (.I (zs.getD i 0))
end Go.Proofs.YtlmhakmoioogaaaGreat
end
section
namespace Go.Proofs.YtlmhakmoioogaaaGreat
open Go.RowKit Go.Sl
def fq4(v:Value)(ks:List Int):HP:=row v 1 3 ks.length (ks.map (Value.int .i64))
def gK4(W:World)(L:List HP)(zs:List Int)(bb:Nat)(v8:Value)(w:World):Prop:=
 ∃(k:Nat) (q:List Ord),v8=.I k/\k<=zs.length/\q.length=k/\GoneQ k q/\St W (A6 bb (bG q k)::L) w
def gL4(W:World)(L:List HP)(n m:Nat)(bb:Nat)(v9 v10:Value)(w:World):Prop:=
 ∃(k:Nat) (q:List Ord) (gone:List Int),v10=.I k/\k<=m/\q.length<=20/\GoneQ n q/\gone.length=k/\(∀x∈q,x.id∉gone)/\(∀x∈gone,x<=32)/\St W (A6 bb (bG q n)::fq4 v9 gone::L) w
def gM4(W:World)(L:List HP)(n:Nat)(v:Value)(w:World):Prop:=∃i:Nat,v=.I i/\i<=n/\St W L w
end Go.Proofs.YtlmhakmoioogaaaGreat
end
section
namespace Go.Sl
open Go.RowKit
section
variable{P:Program}{ops:Array Oper}{Q:Exit->Act->World->Prop}{a:Act}{w:World}{W:World}{L L' R:List HP}{rest:List Oper}{o:Oper}
theorem Jj7{t t2 e e2:TypeId}(ht:P.underlying t=some (.slice e))(h2:P.underlying t2=some (.slice e2))(ty:TypeId)(s x:Value)(w:World):(Builtin.append_ #[t,t2] ty #[s,x]).run P w=(Builtin.append_ #[t,t] ty #[s,x]).run P w:=by
 unfold Builtin.append_;simp only[List.getElem?_toArray,List.getElem?_cons_zero,List.getElem?_cons_succ,Sem.run_bind,run_underlying ht,run_underlying h2,Result.andThen_ok]
 cases s <;> simp[run_underlying ht,run_underlying h2]
theorem MG7{s x:Operand}{t t2 e e2:TypeId}{z:Value}{k bytes:Nat}{v xv:Value}{n m:Nat}{cs news:List Value}(hS:St W L w)(ho:o.op=.call { callee:=.builtin .append,args:=#[s,x],argTypes:=#[t,t2] })
  (hg:Region.wanted o (yielded ops a.tmps)=true) (hs:a.eval s=v) (hx:a.eval x=xv) (ht:y6 P t=some e) (ht2:y6 P t2=some e2) (hi:C9 P e=some (some z,k,bytes)) (hz:z.cells.size=k) (hk:0<k) (hu:Take L (row v k e n cs) R)
  (hsrc:Src L xv m news) (hl:news.length=m*k) (h1:news.all (·.oneCell')=true) (h63:n+m<=maxLen) (hb:(n+m)*bytes<=140737488355328)
  (h:∀v' w',St W (row v' k e (n+m) (cs++news)::R) w'->wpList P ops Q rest (a.put o.dst v') w'):wpList P ops Q (o::rest) a w:=by
 obtain⟨v',w',hr,hS'⟩:=DH7 (P:=P) (ty:=o.type) ht hi hz hk rfl hS hu (hsrc.at hS) hl h1 h63 hb;refine Ak7 hg (v:=v') (w':=w') ?_ (h v' w' hS');unfold execOp;simp only[ho,resolve,invoke,builtin,Sem.run_bind,Sem.run_pure,Result.andThen_ok,List.map_toArray,List.map_cons,List.map_nil,hs,hx,Jj7 (BH7 ht) (BH7 ht2),hr]
end
end Go.Sl
end
section
namespace Go.Proofs.YtlmhakmoioogaaaGreat
open Go.RowKit Go.Sl
def aC4(ps:List (List Ord))(k:Nat):List Ord:=(bv4.take k).flatMap fun o=>ps.getD o []
theorem Jk7(ps:List (List Ord))(k:Nat)(hk:k<=8):(aC4 ps k).length=z8 ps k:=by
 obtain h|h|h|h|h|h|h|h|h:k=0\/k=1\/k=2\/k=3\/k=4\/k=5\/k=6\/k=7\/k=8:=by omega
 all_goals subst h
 all_goals simp[aC4,z8,bv4]
 all_goals omega
theorem MH7(ps:List (List Ord)){k o:Nat}(h:bv4.drop k=o::bv4.drop (k+1)):aC4 ps (k+1)=aC4 ps k++ps.getD o []:=by
 have h1:bv4[k]? = some o:=by have:=congrArg List.head? h;simpa[List.head?_drop]using this
 unfold aC4;rw[List.take_add_one,h1];simp
theorem St.src{W w:World}{L:List HP}{v:Value}{k n:Nat}{T:TypeId}{cs:List Value}(hk:0<k)(h:St W (row v k T n cs::L) w):Src (row v k T n cs::L) v n cs:=by
 rcases h.rowOpen with ⟨rfl,rfl,rfl,_⟩|⟨g,cap,junk,rfl,hn1,hm1,hj1,hl1,_⟩
 ·exact .inl ⟨rfl,rfl,rfl⟩
 ·refine .inr ⟨g,0,cap,rfl,fun j u hj=>?_⟩;rw[Nat.zero_add];have hjl:=(List.getElem?_eq_some_iff.1 hj).1;refine e8.row ?_ hj
  rcases Nat.eq_zero_or_pos n with h0|h0
  ·rw[hl1,h0,Nat.zero_mul]at hjl;omega
  ·exact h0
def ey4(W:World)(L:List HP)(bb:Nat)(b:Bk)(v3 v11:Value)(w:World):Prop:=
 ∃k:Nat,v11=.I k/\k<=8/\St W (i9 v3 (aC4 b.ps k)::A6 bb b::L) w
theorem PS7(l:List Ord):(l.flatMap Ord.cells).all (·.oneCell')=true:=by
 rw[List.all_eq_true];intro v hv;obtain⟨x,_,hx⟩:=List.mem_flatMap.1 hv;simp[Ord.cells]at hx
 rcases hx with rfl|rfl|rfl|rfl|rfl|rfl <;> rfl
theorem NO7(bb:Nat)(b1:Bk)(hok:b1.len<=32)(W w:World)(L:List HP)(hS:St W (A6 bb b1::L) w):
  Calls Tryz.prog 172 #[.P bb] w fun e w'=>∃v l,e=.returned v/\l.Perm (aC4 b1.ps 8)/\l.Pairwise (fun x y:Ord=>x.id<=y.id)/\St W (A6 bb b1::i9 v l::L) w':=by
 go_enter Tryz.func172,Tryz.ntmps172;go_wp2_with(first|(go_at_call 207;refine(Fe7 bb W _ _ hS).mono ?_;clear hS;rintro e w ⟨v,rfl,hS⟩;rcases hS.rowOpen with ⟨_,h0,_⟩|⟨g,cap,junk,rfl,hn1,hm1,hj1,hl1,hS'⟩;exfalso;omega;clear hS;have hS:=hS';clear hS';unfold maxLen at hm1)|refine zl1 hS ?_|refine zlN hS ?_|refine zs1 hS ?_;clear hS;intro w hS|refine zsN hS ?_;clear hS;intro w hS|refine zbx hS ?_;clear hS;intro b w hS|refine zal hS ?_;clear hS;intro b w hS);have hS1:=(hS.swap.rowNil (k:=6) (T:=166))
 clear hS;have hS:=hS1;clear hS1
 go_loopw [3,11] (fun v3 v wr=>ey4 W (blk g (cj4 bb++junk) 273::L) bb b1 v3 v wr) (fun _ v _=>8-(intOf v).toNat)
 case atStart=>exact⟨0,rfl,by omega,hS⟩
 case round=>
  clear hS;obtain⟨k,rfl,hk,hS⟩:=hrel;by_cases h8:k=8
  ·subst h8;have hcl:(aC4 b1.ps 8).length<=32:=by rw[Jk7 _ _ (Nat.le_refl _)];exact hok
   rcases hS.rowOpen with ⟨rfl,h0,_,hS'⟩|⟨g2,cap2,junk2,rfl,hn2,hm2,hj2,hl2,hS'⟩
   ·have hc0:aC4 b1.ps 8=[]:=List.eq_nil_of_length_eq_zero h0;go_wp2_with(first|go_at_call 211;refine(PR7 _ W _ _ hS).mono ?_;clear hS;rintro e w ⟨rfl,hS⟩);go_ret;refine⟨_,aC4 b1.ps 8,rfl,.refl _,by rw[hc0];exact .nil,?_⟩;exact(hS.take .t2).drop.swap
   ·clear hS;have hS:=hS';clear hS';go_wp2_with(first|go_at_call 211;refine(PQ7 (aC4 b1.ps 8) g2 cap2 junk2 (by omega) W _ _ hS).mono ?_;clear hS;rintro e w ⟨rfl,l,hl,hsd,hS⟩);go_ret;refine⟨_,l,rfl,hl,hsd,?_⟩;have hll:=hl.length_eq;have hf1:=Al7 Ord.len l;have hf2:=Al7 Ord.len (aC4 b1.ps 8);rw[<-hll]at hn2;have h1:St W (i9 (.S g2 l.length cap2) l::A6 bb b1::blk g (cj4 bb++junk) 273::L) w:=St.rowShut hS hn2 hm2 (by rw[jA]at hj2 ⊢;rw[hf1,hll,<-hf2];exact hj2) (by rw[hf1]);rw[hll]at h1;exact(h1.take .t2).drop.swap
  ·have hk8:k<8:=by omega
   clear h8 hk;obtain⟨o,ho,hdr,hpt⟩:=Lz7 bb junk k hk8;have hcs:=MH7 b1.ps hdr;obtain⟨vs,h1,h2,hS0⟩:=ak4 hS.swap;clear hS;have ho1:o<vs.length:=by omega
   have ho2:o<b1.ps.length:=by omega
   have hpk:b1.ps[o]=b1.pile o:=by unfold Bk.pile;simp[List.getD_eq_getElem?_getD,jG ho2]
   have hS1:=bd4 o ho1 ho2 hS0.swap;clear hS0;rw[hpk]at hS1;have hl:(vs++[Value.int .i64 b1.last])[o]? = some vs[o]:=by rw[List.getElem?_append_left ho1,jG ho1]
   generalize hvv:vs[o]=v at hl hS1;have hp32:=LA7 b1 o ho hok;have hgd:b1.ps.getD o []=b1.pile o:=rfl;rw[hgd]at hp32 hcs;have Hvv:=jH hvv;clear hvv;have hS:=hS1.take .t3;clear hS1;have hcl:(aC4 b1.ps k).length<=32:=by rw[Jk7 _ _ (by omega)];exact Nat.le_trans (Au7 _ (by omega)) hok
   have hsrc:Src (i9 u3 (aC4 b1.ps k)::i9 v (b1.pile o)::sats ((C8 vs b1.ps).eraseIdx o)::blk bb (vs++[Value.int .i64 b1.last]) 272::blk g (cj4 bb++junk) 273::L) v (b1.pile o).length ((b1.pile o).flatMap Ord.cells):=(St.src (by decide) hS.drop).there;have Hcs:=jH hcs;clear hcs hdr;go_wp2_with(first|refine zl1 hS ?_ (hc:=by exact e8.there (e8.there (e8.there (e8.there (e8.here hpt)))))|refine zl1 hS ?_ (hc:=by exact e8.there (e8.there (e8.there (e8.here hl))))|(with_reducible apply MG7 (e2:=166) hS);rfl;rfl;rfl;rfl;exact esS;kernel_rfl;exact rsS;rfl;decide;exact g8;exact hsrc;(focus(rw[Al7 Ord.len]));(focus(exact PS7 _));(focus(unfold maxLen;omega));(focus(omega));clear hS;intro v3 w hS;refine frS ?_);have hS3:=((hS.take .t1).take .t2).swap;clear hS;have hS4:=be4 o ho1 ho2 hS3;clear hS3;rw[<-Hvv.out,<-hpk,List.set_getElem_self,List.set_getElem_self]at hS4;have hS5:=(O6 h1 h2 (hS4.take .t2)).swap;clear hS4;go_roundw
   case rel=>
    refine⟨k+1,rfl,hk8,?_⟩;rw[Hcs.out];unfold i9;rw[jA,List.flatMap_append,<-hpk];exact hS5
   case measure=>simp[intOf];omega
end Go.Proofs.YtlmhakmoioogaaaGreat
end
