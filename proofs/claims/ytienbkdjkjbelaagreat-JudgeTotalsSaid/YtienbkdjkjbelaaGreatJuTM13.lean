/-
  Cancel.
-/
import Derived.Test.YtienbkdjkjbelaaGreatJuTM5
import Derived.Test.YtienbkdjkjbelaaGreatJuTM12
import Derived.Test.YtienbkdjkjbelaaGreatProg
import Derived.Shelf.SlSortCmp.WholeK
import Derived.Shelf.SlicesG.Cmp
import Derived.Shelf.Small.Bits
import Derived.Ground.SlsfProg
import Derived.Ground.SlgcProg
import Derived.Ground.NamesProg
set_option maxHeartbeats 16000000
set_option maxRecDepth 100000
set_option linter.unusedSimpArgs false
set_option linter.unusedVariables false
section
namespace Go.Proofs.YtienbkdjkjbelaaGreat
open Go.RowKit Go.Sl
theorem FX7:∀(f:Nat) (xs:List Ord) (j k:Nat),j<k->(upF f xs j)[k]? = xs[k]?
 | 0,_,_,_,_=>rfl
 | f+1,xs,j,k,hk=>by
  rw[upF];split
  ·rename_i h
   split
   ·rw[FX7 f _ _ _ (by omega)];simp only[F7];rw[List.getElem?_set_ne (by omega),List.getElem?_set_ne (by omega)]
   ·rfl
  ·rfl
theorem Hl7(xs:List Ord)(i n:Nat)(h:xs.length=n+1)(hi:i<=n):(bh4 xs i n h hi)[n]? = xs[i]? := by
 have hsw:(F7 xs i n (by omega) (by omega))[n]? = xs[i]? := by rw[jG (by rw[Af7];omega),Hk7,if_pos rfl,jG (by omega)]
 unfold bh4;split
 ·rename_i he;rw[he]
 ·split
  ·rw[BO7 _ _ _ _ _ (Nat.le_refl _),hsw]
  ·rw[FX7 _ _ _ _ (by omega),BO7 _ _ _ _ _ (Nat.le_refl _),hsw]
theorem LK7(xs:List Ord)(i n:Nat)(h:xs.length=n+1)(hi:i<=n):(bh4 xs i n h hi).Perm xs:=by
 unfold bh4;split
 ·exact .refl _
 ·split
  ·exact(CD7 _ _ _ _).trans (AK7 _ _ _ _ _)
  ·exact(Gq7 _ _ _).trans ((CD7 _ _ _ _).trans (AK7 _ _ _ _ _))
def bO4(xs:List Ord)(i:Nat):List Ord:=if h:i<xs.length then(bh4 xs i (xs.length-1) (by omega) (by omega)).take (xs.length-1)else xs
theorem Fe7(xs:List Ord)(i:Nat)(h:i<xs.length):(bO4 xs i).length=xs.length-1:=by unfold bO4;rw[dif_pos h,jT,BB7];omega
theorem Hm7(xs:List Ord)(i:Nat)(h:i<xs.length):(xs[i]::bO4 xs i).Perm xs:=by
 unfold bO4;rw[dif_pos h];obtain⟨n,hn⟩:∃n,xs.length=n+1:=⟨xs.length-1,by omega⟩
 have h1:=LK7 xs i n hn (by omega);have h2:=Hl7 xs i n hn (by omega);have h3:=BB7 (xs:=xs) (i:=i) hn (by omega);rw[jG (by rw[h3];omega),jG h]at h2
 have h4:(bh4 xs i n hn (by omega))=(bh4 xs i n hn (by omega)).take n++[xs[i]]:=by
  have h5:(bh4 xs i n hn (by omega)).drop n=[xs[i]]:=by rw[List.drop_eq_getElem_cons (by rw[h3];omega),List.drop_eq_nil_of_le (by rw[h3];omega)];simp only[Option.some.injEq]at h2;rw[h2]
  rw[<-h5,List.take_append_drop]
 simp only[hn,Nat.add_sub_cancel];rw[h4]at h1;exact(List.perm_append_singleton _ _).symm.trans h1
def am4(ps:List (List Ord))(id:Int):List Nat->Option (Nat×Nat)
 | []=>none
 | k::ks=>match (ps.getD k []).findIdx? (fun o=>o.id==id)with
  | some i=>some (k,i)
  | none=>am4 ps id ks
def o0:Ord:=⟨0,⟨#[]⟩,false,0,0,0⟩
structure Cancelled where
 o:Ord
 errno:Int
 book:Bk
def O7(b:Bk)(id:Int):Cancelled:=
 match am4 b.ps id br4 with
 | none=>⟨o0,7,b⟩
 | some (k,i)=>⟨(b.pile k).getD i o0,0,⟨b.ps.set k (bO4 (b.pile k) i),b.last⟩⟩
def bt4(id:Int)(p:List Ord):Int:=match p.findIdx? (fun o=>o.id==id)with
 | some i=>i
 | none => -1
theorem Ev7(x:Ord)(B:Nat)(id:Int)(W w:World)(L:List HP)(hS:St W (blk B [.I id] 3::L) w):
  Calls Tryz.prog 195 #[.agg x.cells.toArray,.P B] w fun e w'=>e=.returned (.bool (x.id==id))/\St W (blk B [.I id] 3::L) w':=by
 obtain⟨i,u,y,t,c,p⟩:=x;simp only[Ord.cells];go_enter Tryz.func195,Tryz.ntmps195;go_wp2_with(first|refine zl1 hS ?_|refine zlN hS ?_|refine zs1 hS ?_;clear hS;intro w hS|refine zsN hS ?_;clear hS;intro w hS|refine zbx hS ?_;clear hS;intro b w hS|refine zal hS ?_;clear hS;intro b w hS);go_ret;exact⟨rfl,hS.drop⟩
def eO4(W:World)(L:List HP)(v:Value)(p:List Ord)(id:Int)(r:Int)(v8:Value)(w:World):Prop:=
 ∃k:Nat,v8=.I k/\k<=p.length/\(∀j,j<k->∀x,p[j]? = some x->(x.id==id)=false)/\St W L w
theorem NT7(p:List Ord)(id:Int)(h:∀j,j<p.length->∀x,p[j]? = some x->(x.id==id)=false):bt4 id p = -1:=by unfold bt4;rw[List.findIdx?_eq_none_iff.2];intro x hx;obtain⟨j,hj,rfl⟩:=List.mem_iff_getElem.1 hx;exact h j hj _ (jG hj)
theorem PP7(p:List Ord)(id:Int)(k:Nat)(hk:k<p.length)(h:∀j,j<k->∀x,p[j]? = some x->(x.id==id)=false)(hx:(p[k].id==id)=true):bt4 id p=k:=by unfold bt4;rw[List.findIdx?_eq_some_iff_getElem.2 ⟨hk,hx,fun j hj=>by rw[h j hj _ (jG (by omega))];exact Bool.false_ne_true⟩]
theorem Ff7(p:List Ord)(v:Value)(B:Nat)(id:Int)(h63:p.length<=4294967296)(W w:World)(L:List HP)(hS:St W (blk B [.I id] 3::j7 v p::L) w):
  Calls Tryz.prog 194 #[v,.func (.func 195) #[] #[.P B]] w fun e w'=>e=.returned (.I (bt4 id p))/\St W (blk B [.I id] 3::j7 v p::L) w':=by
 rcases hS.swap.rowOpen with ⟨rfl,h0,_,_⟩|⟨g,cap,junk,rfl,hn1,hm1,hj1,hl1,hS0⟩
 ·obtain rfl:p=[]:=List.eq_nil_of_length_eq_zero h0;go_enter Tryz.func194,Tryz.ntmps194;go_wp2_with fail
  go_loopw [8] (fun v wr=>v=.I 0/\St W (blk B [.I id] 3::j7 (.slice none 0 0) []::L) wr) (fun v _=>0)
  case atStart=>exact⟨rfl,hS⟩
  case round=>
   clear hS;obtain⟨rfl,hS⟩:=hrel;go_wp2_with fail;go_ret;exact⟨rfl,hS⟩
 ·clear hS;have hm':cap<=9223372036854775807:=by unfold maxLen at hm1;omega
  go_enter Tryz.func194,Tryz.ntmps194;go_wp2_with fail
  go_loopw [8] (fun v wr=>eO4 W (blk B [.I id] 3::blk g (p.flatMap Ord.cells++junk) 173::L) (.S g p.length cap) p id (bt4 id p) v wr) (fun v _=>p.length-(intOf v).toNat)
  case atStart=>exact⟨0,rfl,by omega,fun j hj=>by omega,hS0.swap⟩
  case round=>
   clear hS0;obtain⟨k,rfl,hk,hno,hS⟩:=hrel;by_cases hkn:k=p.length
   ·have Hr:=jH (NT7 p id (hkn▸hno));clear hno;subst hkn;go_wp2_with fail;go_ret;rw[Hr.out];exact⟨rfl,(St.rowShut hS.swap hn1 hm1 hj1 hl1).swap⟩
   ·have hkl:k<p.length:=by omega
    clear hkn hk;have Hno:=jH hno;clear hno
    cases hb:(p[k].id==id)
    ·go_wp2_with(first|refine zlN hS ?_ (hc:=by exact d8.there (d8.elem Ord.len hkl))|go_at_call 195;refine(Ev7 p[k] B id W _ _ hS).mono ?_;clear hS;rw[hb];rintro e w ⟨rfl,hS⟩|refine zl1 hS ?_|refine zlN hS ?_|refine zs1 hS ?_;clear hS;intro w hS|refine zsN hS ?_;clear hS;intro w hS|refine zbx hS ?_;clear hS;intro b w hS|refine zal hS ?_;clear hS;intro b w hS);go_roundw
     case rel=>
      refine⟨k+1,rfl,hkl,?_,hS⟩;intro j hj x hx;by_cases hjk:j=k
      ·subst hjk;rw[jG hkl]at hx
       cases hx
       exact hb
      ·exact Hno.out j (by omega) x hx
     case measure=>simp[intOf];omega
    ·go_wp2_with(first|refine zlN hS ?_ (hc:=by exact d8.there (d8.elem Ord.len hkl))|go_at_call 195;refine(Ev7 p[k] B id W _ _ hS).mono ?_;clear hS;rw[hb];rintro e w ⟨rfl,hS⟩|refine zl1 hS ?_|refine zlN hS ?_|refine zs1 hS ?_;clear hS;intro w hS|refine zsN hS ?_;clear hS;intro w hS|refine zbx hS ?_;clear hS;intro b w hS|refine zal hS ?_;clear hS;intro b w hS);go_ret;rw[PP7 p id k hkl Hno.out hb];exact⟨rfl,(St.rowShut hS.swap hn1 hm1 hj1 hl1).swap⟩
def ky(y:Bool)(o:Ord):Int:=cond y (-o.price) o.price
def leK(y:Bool)(a b:Ord):Prop:=ky y a<ky y b\/(ky y a=ky y b/\a.id<=b.id)
theorem ED7(y:Bool)(a:Ord):leK y a a:=.inr ⟨rfl,Int.le_refl _⟩
theorem BZ7{y:Bool}{a b c:Ord}(h1:leK y a b)(h2:leK y b c):leK y a c:=by unfold leK at *;omega
theorem Dp7{y:Bool}{a b:Ord}(ha:a.buy=y)(h:M8 a b=true):leK y a b:=by
 subst ha;unfold M8 at h;unfold leK ky;split at h
 ·rename_i hp
  rw[hp];right;simp only[decide_eq_true_eq]at h;exact⟨rfl,by omega⟩
 ·rename_i hp
  cases hb:a.buy <;> simp[hb]at h ⊢ <;> omega
theorem CF7{y:Bool}{a b:Ord}(ha:a.buy=y)(h:M8 a b=false):leK y b a:=by
 subst ha;unfold M8 at h;unfold leK ky;split at h
 ·rename_i hp
  rw[hp];right;simp only[decide_eq_false_iff_not]at h;exact⟨rfl,by omega⟩
 ·rename_i hp
  cases hb:a.buy <;> simp[hb]at h ⊢ <;> omega
def at'(xs:List Ord)(k:Nat):Ord:=xs.getD k o0
theorem m5{xs:List Ord}{k:Nat}(h:k<xs.length):at' xs k=xs[k]:=by simp[at',List.getD_eq_getElem?_getD,jG h]
theorem A9(xs:List Ord)(i j:Nat)(hi:i<xs.length)(hj:j<xs.length)(k:Nat):at' (F7 xs i j hi hj) k=if k=j then at' xs i else if k=i then at' xs j else at' xs k:=by
 unfold at' F7;simp only[List.getD_eq_getElem?_getD,List.getElem?_set];by_cases h1:k=j
 ·subst h1;simp[hi,hj]
 ·by_cases h2:k=i
  ·subst h2;simp[h1,Ne.symm h1,hj,hi]
  ·simp[h1,h2,Ne.symm h1,Ne.symm h2]
def cy4(y:Bool)(xs:List Ord):Prop:=∀x∈xs,x.buy=y
theorem cy4.at{y:Bool}{xs:List Ord}(h:cy4 y xs){k:Nat}(hk:k<xs.length):(at' xs k).buy=y:=by rw[m5 hk];exact h _ (jW hk)
theorem cy4.perm{y:Bool}{xs ys:List Ord}(h:cy4 y xs)(hp:ys.Perm xs):cy4 y ys:=fun x hx=>h x (hp.mem_iff.1 hx)
def Hp(y:Bool)(n:Nat)(xs:List Ord):Prop:=∀k,0<k->k<n->leK y (at' xs ((k-1) / 2)) (at' xs k)
structure UpI(y:Bool)(n:Nat)(xs:List Ord)(j:Nat):Prop where
 all:∀k,0<k->k<n->k≠j->leK y (at' xs ((k-1) / 2)) (at' xs k)
 kids:∀k,0<j->k<n->0<k->(k-1) / 2=j->leK y (at' xs ((j-1) / 2)) (at' xs k)
theorem Iu7(y:Bool)(n:Nat):∀(f:Nat) (xs:List Ord) (j:Nat),cy4 y xs->n<=xs.length->j<n->j<=f->UpI y n xs j->Hp y n (upF f xs j)
 | 0,xs,j,_,_,_,hf,h=>fun k h0 hk=>h.all k h0 hk (by omega)
 | f+1,xs,j,hs,hn,hj,hf,h=>by
  rw[upF];by_cases hc:0<j/\j<xs.length
  ·rw[dif_pos hc];have hp:(j-1) / 2<xs.length:=by omega
   cases hb:M8 xs[j] xs[(j-1) / 2]
   ·simp only[Bool.false_eq_true,if_false];intro k h0 hk;by_cases hkj:k=j
    ·subst hkj;have:=CF7 (hs _ (jW hc.2)) hb;rwa [m5 hp,m5 hc.2]
    ·exact h.all k h0 hk hkj
   ·simp only[if_true];have hle:leK y (at' xs j) (at' xs ((j-1) / 2)):=by rw[m5 hp,m5 hc.2];exact Dp7 (hs _ (jW hc.2)) hb
    refine Iu7 y n f _ _ (hs.perm (AK7 _ _ _ hp hc.2)) (by rw[Af7];exact hn) (by omega) (by omega) ⟨?_,?_⟩
    ·intro k h0 hk hkp;rw[A9,A9];by_cases h1:k=j
     ·subst h1;rw[if_pos rfl,if_neg (by omega),if_pos rfl];exact hle
     ·rw[if_neg h1,if_neg hkp];by_cases h2:(k-1) / 2=j
      ·rw[if_pos h2];exact h.kids k hc.1 hk h0 h2
      ·rw[if_neg h2];by_cases h3:(k-1) / 2=(j-1) / 2
       ·rw[if_pos h3];refine BZ7 hle ?_;rw[<-h3];exact h.all k h0 hk h1
       ·rw[if_neg h3];exact h.all k h0 hk h1
    ·intro k h0 hk hk0 hkp;rw[A9,A9];rw[if_neg (by omega),if_neg (by omega)];have hg:=h.all ((j-1) / 2) h0 (by omega) (by omega);by_cases h1:k=j
     ·rw[if_pos h1];exact hg
     ·rw[if_neg h1,if_neg (by omega)];refine BZ7 hg ?_;rw[<-hkp];exact h.all k hk0 hk h1
  ·rw[dif_neg hc];exact fun k h0 hk=>h.all k h0 hk (by omega)
structure DownI(y:Bool)(n:Nat)(xs:List Ord)(i:Nat):Prop where
 all:∀k,0<k->k<n->(k-1) / 2≠i->k≠i->leK y (at' xs ((k-1) / 2)) (at' xs k)
 kids:∀k,0<i->k<n->0<k->(k-1) / 2=i->leK y (at' xs ((i-1) / 2)) (at' xs k)
theorem Jz7(y:Bool)(n:Nat)(xs:List Ord)(i:Nat)(hs:cy4 y xs)(hn:n<=xs.length)(h1:2*i+1<n)(k:Nat)(hk:k<n)(h0:0<k)(hp:(k-1) / 2=i):leK y (at' xs (kid xs i n hn)) (at' xs k):=by
 have hkk:k=2*i+1\/k=2*i+2:=by omega
 unfold kid;split
 ·rename_i h2
  cases hb:M8 xs[2*i+2] xs[2*i+1]
  ·simp only[Bool.false_eq_true,if_false]
   rcases hkk with rfl|rfl
   ·exact ED7 _ _
   ·rw[m5 (show 2*i+1<xs.length by omega),m5 (show 2*i+2<xs.length by omega)];exact CF7 (hs _ (jW _)) hb
  ·simp only[if_true]
   rcases hkk with rfl|rfl
   ·rw[m5 (show 2*i+1<xs.length by omega),m5 (show 2*i+2<xs.length by omega)];exact Dp7 (hs _ (jW _)) hb
   ·exact ED7 _ _
 ·rcases hkk with rfl|rfl
  ·exact ED7 _ _
  ·omega
theorem LL7{xs:List Ord}{i n:Nat}(hn:n<=xs.length):(kid xs i n hn-1) / 2=i:=by
 unfold kid;split
 ·split <;> omega
 ·omega
theorem Fg7(y:Bool)(n:Nat):∀(f:Nat) (xs:List Ord) (i:Nat),cy4 y xs->n<=xs.length->n<=f+i->DownI y n xs i->(i=0\/n<=i\/leK y (at' xs ((i-1) / 2)) (at' xs i))->Hp y n (C9 f xs i n).1
 | 0,xs,i,_,_,hf,h,hi=>fun k h0 hk=>h.all k h0 hk (by omega) (by omega)
 | f+1,xs,i,hs,hn,hf,h,hi=>by
  have hstop:(∀k,0<k->k<n->(k-1) / 2=i->leK y (at' xs i) (at' xs k))->Hp y n xs:=fun hh k h0 hk=>by
   by_cases h1:(k-1) / 2=i
   ·rw[h1];exact hh k h0 hk h1
   ·by_cases h2:k=i
    ·subst h2
     rcases hi with h3|h3|h3
     ·omega
     ·omega
     ·exact h3
    ·exact h.all k h0 hk h1 h2
  rw[C9];by_cases hc:2*i+1<n/\n<=xs.length
  ·rw[dif_pos hc];have hk1:=Hh7 hn hc.1;have hk2:=Hi7 (xs:=xs) (i:=i) (n:=n) hn;have hk3:=LL7 (xs:=xs) (i:=i) (n:=n) hn;have hbest:=Jz7 y n xs i hs hn hc.1;have hjl:(kid xs i n hn)<xs.length:=by omega
   have hil:i<xs.length:=by omega
   cases hb:M8 xs[(kid xs i n hn)] xs[i]
   ·simp only[Bool.false_eq_true,if_false];refine hstop fun k h0 hk hp=>BZ7 ?_ (hbest k hk h0 hp)
    rw[m5 hjl,m5 hil];exact CF7 (hs _ (jW hjl)) hb
   ·simp only[if_true];have hle:leK y (at' xs (kid xs i n hn)) (at' xs i):=by rw[m5 hjl,m5 hil];exact Dp7 (hs _ (jW hjl)) hb
    refine Fg7 y n f _ _ (hs.perm (AK7 _ _ _ hil hjl)) (by rw[Af7];exact hn) (by omega) ⟨?_,?_⟩ (.inr (.inr ?_))
    ·intro k h0 hk h1 h2;rw[A9,A9,if_neg h1,if_neg h2];by_cases h3:k=i
     ·rw[if_pos h3,if_neg (by omega)];rw[h3];exact h.kids _ (h3▸h0) hk1 (by omega) hk3
     ·rw[if_neg h3];by_cases h4:(k-1) / 2=i
      ·rw[if_pos h4];exact hbest k hk h0 h4
      ·rw[if_neg h4];exact h.all k h0 hk h4 h3
    ·intro k _ hk h0 hp;rw[A9,A9,hk3,if_neg (by omega),if_pos rfl,if_neg (by omega),if_neg (by omega)];rw[<-hp];exact h.all k h0 hk (by omega) (by omega)
    ·rw[A9,A9,hk3,if_neg (by omega),if_pos rfl,if_pos rfl];exact hle
  ·rw[dif_neg hc];exact hstop fun k h0 hk hp=>by omega
theorem NU7 (y : Bool) (n : Nat) (f : Nat) (xs : List Ord) (i : Nat) (hs : cy4 y xs) (hn : n <= xs.length) (hf : n <= f + i) (h : DownI y n xs i) :
    (¬ i < (C9 f xs i n).2 /\ (C9 f xs i n).1 = xs /\ UpI y n xs i) \/ (i < (C9 f xs i n).2 /\ Hp y n (C9 f xs i n).1) := by
  have hstop : (∀ k, 0 < k -> k < n -> (k - 1) / 2 = i -> leK y (at' xs i) (at' xs k)) -> UpI y n xs i := fun hh => ⟨fun k h0 hk hki => by
      by_cases h1 : (k - 1) / 2 = i
      · rw [h1]; exact hh k h0 hk h1
      · exact h.all k h0 hk h1 hki, h.kids⟩
  have hmono : ∀ (f : Nat) (xs : List Ord) (i : Nat), i <= (C9 f xs i n).2 := by
    intro f
    induction f with
    | zero => intro xs i; exact Nat.le_refl _
    | succ f ih =>
      intro xs i;rw [C9];split
      · rename_i hc
        split
        · exact Nat.le_trans (Nat.le_of_lt (Hi7 hc.2)) (ih _ _)
        · exact Nat.le_refl _
      · exact Nat.le_refl _
  cases f with
  | zero =>
    left
    exact ⟨Nat.lt_irrefl _, rfl, hstop fun k h0 hk hp => by omega⟩
  | succ f =>
    rw [C9];by_cases hc : 2 * i + 1 < n /\ n <= xs.length
    · rw [dif_pos hc]
      have hk1 := Hh7 hn hc.1;have hk2 := Hi7 (xs := xs) (i := i) (n := n) hn;have hk3 := LL7 (xs := xs) (i := i) (n := n) hn;have hbest := Jz7 y n xs i hs hn hc.1;have hjl : (kid xs i n hn) < xs.length := by omega
      have hil : i < xs.length := by omega
      cases hb : M8 xs[(kid xs i n hn)] xs[i]
      · simp only [Bool.false_eq_true, if_false]
        left
        refine ⟨Nat.lt_irrefl _, by trivial, hstop fun k h0 hk hp => BZ7 ?_ (hbest k hk h0 hp)⟩;rw [m5 hjl, m5 hil];exact CF7 (hs _ (jW hjl)) hb
      · simp only [if_true]
        have hle : leK y (at' xs (kid xs i n hn)) (at' xs i) := by rw [m5 hjl, m5 hil];exact Dp7 (hs _ (jW hjl)) hb
        right
        refine ⟨Nat.lt_of_lt_of_le hk2 (hmono _ _ _), ?_⟩;refine Fg7 y n f _ _ (hs.perm (AK7 _ _ _ hil hjl)) (by rw [Af7]; exact hn) (by omega) ⟨?_, ?_⟩ (.inr (.inr ?_))
        · intro k h0 hk h1 h2
          rw [A9, A9, if_neg h1, if_neg h2];by_cases h3 : k = i
          · rw [if_pos h3, if_neg (by omega)]
            rw [h3];exact h.kids _ (h3 ▸ h0) hk1 (by omega) hk3
          · rw [if_neg h3]
            by_cases h4 : (k - 1) / 2 = i
            · rw [if_pos h4]; exact hbest k hk h0 h4
            · rw [if_neg h4]; exact h.all k h0 hk h4 h3
        · intro k _ hk h0 hp
          rw [A9, A9, hk3, if_neg (by omega), if_pos rfl, if_neg (by omega), if_neg (by omega)];rw [<- hp];exact h.all k h0 hk (by omega) (by omega)
        · rw [A9, A9, hk3, if_neg (by omega), if_pos rfl, if_pos rfl]
          exact hle
    · rw [dif_neg hc]
      left
      exact ⟨Nat.lt_irrefl _, rfl, hstop fun k h0 hk hp => by omega⟩
theorem cU4(xs:List Ord)(n k:Nat)(h:k<n):at' (xs.take n) k=at' xs k:=by unfold at';simp only[List.getD_eq_getElem?_getD,List.getElem?_take,if_pos h]
theorem Hp.take{y:Bool}{n:Nat}{xs:List Ord}(h:Hp y n xs):Hp y n (xs.take n):=fun k h0 hk=>by rw[cU4 _ _ _ hk,cU4 _ _ _ (by omega)];exact h k h0 hk
structure Heap(y:Bool)(xs:List Ord):Prop where
 side:cy4 y xs
 hp:Hp y xs.length xs
theorem Heap.nil(y:Bool):Heap y []:=⟨fun _ h=>(by cases h),fun k _ h=>absurd h (Nat.not_lt_zero _)⟩
theorem Heap.top{y:Bool}{x:Ord}{q:List Ord}(h:Heap y (x::q)):∀z∈x::q,leK y x z:=by
 have hk:∀k,k<(x::q).length->leK y x (at' (x::q) k):=by
  intro k
  induction k using Nat.strongRecOn with
  | _ k ih=>
   intro hk;by_cases h0:k=0
   ·subst h0;exact ED7 _ _
   ·exact BZ7 (ih ((k-1) / 2) (by omega) (by omega)) (h.hp k (by omega) hk)
 intro z hz;obtain⟨k,hkl,rfl⟩:=List.mem_iff_getElem.1 hz;have:=hk k hkl;rwa [m5 hkl]at this
theorem Heap.pop{y:Bool}{x:Ord}{q:List Ord}(h:Heap y (x::q)):Heap y (bs4 (x::q)):=by
 have hl:(bs4 (x::q)).length=q.length:=by rw[BD7];rfl
 refine⟨fun z hz=>h.side z (List.mem_cons_of_mem _ ((Cu7 x q).mem_iff.1 hz)),?_⟩;rw[hl];have e:bs4 (x::q)=(aS4 (x::q) q.length rfl).take q.length:=by unfold bs4;rw[dif_pos (by simp)];rfl
 rw[e];refine Hp.take ?_;unfold aS4;have h0:0<(x::q).length:=by simp
 have h1:q.length<(x::q).length:=by simp
 refine Fg7 y q.length _ _ 0 (h.side.perm (AK7 _ _ _ h0 h1)) (by rw[Af7];simp) (by omega) ⟨?_,fun k hk=>absurd hk (Nat.lt_irrefl _)⟩ (.inl rfl);intro k hk0 hk h2 _;rw[A9,A9,if_neg (by omega),if_neg h2,if_neg (by omega),if_neg (by omega)];exact h.hp k hk0 (by simp;omega)
theorem Heap.push{y:Bool}{xs:List Ord}{o:Ord}(h:Heap y xs)(ho:o.buy=y):Heap y (af4 xs o):=by
 have hp:=DY7 xs o;refine⟨fun z hz=>?_,?_⟩
 ·rcases List.mem_cons.1 (hp.mem_iff.1 hz)with rfl|hz
  ·exact ho
  ·exact h.side z hz
 ·rw[Eu7];unfold af4;have hap:∀k,k<xs.length->at' (xs++[o]) k=at' xs k:=fun k hk=>by unfold at';rw[List.getD_eq_getElem?_getD,List.getD_eq_getElem?_getD,List.getElem?_append_left hk]
  refine Iu7 y _ _ _ _ ?_ (by simp) (by omega) (Nat.le_refl _) ⟨?_,fun k h0 hk hk0 hp=>by omega⟩
  ·intro z hz
   rcases List.mem_append.1 hz with hz|hz
   ·exact h.side z hz
   ·rw[List.mem_singleton.1 hz];exact ho
  ·intro k h0 hk hkn;rw[hap _ (by omega),hap _ (by omega)];exact h.hp k h0 (by omega)
theorem Heap.rem{y:Bool}{xs:List Ord}{i:Nat}(h:Heap y xs)(hi:i<xs.length):Heap y (bO4 xs i):=by
 have hl:=Fe7 xs i hi;refine⟨fun z hz=>h.side z ((Hm7 xs i hi).mem_iff.1 (List.mem_cons_of_mem _ hz)),?_⟩;rw[hl];unfold bO4;rw[dif_pos hi];obtain⟨n,hn⟩:∃n,xs.length=n+1:=⟨xs.length-1,by omega⟩
 simp only[hn,Nat.add_sub_cancel];refine Hp.take ?_;unfold bh4;split
 ·exact fun k h0 hk=>h.hp k h0 (by omega)
 ·rename_i hin
  have hnl:n<xs.length:=by omega
  have hsd:=h.side.perm (AK7 xs i n hi hnl)
  have hD:DownI y n (F7 xs i n hi hnl) i:=by
   refine⟨?_,?_⟩
   ·intro k h0 hk h1 h2;rw[A9,A9,if_neg (by omega),if_neg h1,if_neg (by omega),if_neg h2];exact h.hp k h0 (by omega)
   ·intro k h0 hk hk0 hp;rw[A9,A9,if_neg (by omega),if_neg (by omega),if_neg (by omega),if_neg (by omega)];have h1:=h.hp i h0 (by omega);have h2:=h.hp k hk0 (by omega);rw[hp]at h2;exact BZ7 h1 h2
  rcases NU7 y n n _ i hsd (by rw[Af7];omega) (by omega) hD with ⟨h1,h2,h3⟩|⟨h1,h2⟩
  ·rw[if_neg h1,h2];exact Iu7 y n i _ i hsd (by rw[Af7];omega) (by omega) (Nat.le_refl _) h3
  ·rw[if_pos h1];exact h2
theorem Heap.cnt{y:Bool}{x:Ord}{q:List Ord}(h:Heap y (x::q))(c:Int):Heap y ({ x with cnt:=c }::q):=by
 refine⟨fun z hz=>?_,?_⟩
 ·rcases List.mem_cons.1 hz with rfl|hz
  ·exact h.side x (List.mem_cons_self ..)
  ·exact h.side z (List.mem_cons_of_mem _ hz)
 ·have hk:∀k,ky y (at' ({ x with cnt:=c }::q) k)=ky y (at' (x::q) k)/\(at' ({ x with cnt:=c }::q) k).id=(at' (x::q) k).id:=by
   intro k
   cases k with
   | zero=>exact⟨rfl,rfl⟩
   | succ k=>exact⟨rfl,rfl⟩
  intro k h0 hkl;have:=h.hp k h0 hkl;unfold leK at *;rw[(hk _).1,(hk _).2,(hk k).1,(hk k).2];exact this
section
variable{A B C D E F G H X:HP}{L:List HP}
theorem _root_.Go.Sl.Take.t1:Take (A::X::L) X (A::L):=.tail .head
theorem _root_.Go.Sl.Take.t2:Take (A::B::X::L) X (A::B::L):=.tail .t1
theorem _root_.Go.Sl.Take.t3:Take (A::B::C::X::L) X (A::B::C::L):=.tail .t2
theorem _root_.Go.Sl.Take.t4:Take (A::B::C::D::X::L) X (A::B::C::D::L):=.tail .t3
theorem _root_.Go.Sl.Take.t5:Take (A::B::C::D::E::X::L) X (A::B::C::D::E::L):=.tail .t4
theorem _root_.Go.Sl.Take.t6:Take (A::B::C::D::E::F::X::L) X (A::B::C::D::E::F::L):=.tail .t5
theorem _root_.Go.Sl.Take.t7:Take (A::B::C::D::E::F::G::X::L) X (A::B::C::D::E::F::G::L):=.tail .t6
end
theorem NV7(xs:List Ord)(i:Nat)(hi:i<xs.length)(l:List Value)(T:TypeId)(bb off:Nat)(v:Value)(h63:xs.length<=4294967296)(hl:l[off]? = some v)(W w:World)(L:List HP)
  (hS:St W (blk bb l T::j7 v xs::L) w):
  Calls Tryz.prog 196 #[.iface 253 (.pointer (some ⟨bb,off,none⟩)),.I i] w fun e w'=>∃v',e=.returned (.iface 173 (.agg xs[i].cells.toArray))/\St W (blk bb (l.set off v') T::j7 v' (bO4 xs i)::L) w':=by
 rcases hS.swap.rowOpen with ⟨_,h0,_⟩|⟨g,cap,junk,rfl,hn1,hm1,hj1,hl1,hS1⟩
 ·omega
 ·obtain⟨n,hn⟩:∃n,xs.length=n+1:=⟨xs.length-1,by omega⟩
  have hpt:bO4 xs i=(bh4 xs i n hn (by omega)).take n:=by unfold bO4;rw[dif_pos hi];simp only[hn,Nat.add_sub_cancel]
  have hlast:(bh4 xs i n hn (by omega))[n]? = some xs[i]:=by rw[Hl7,jG hi]
  have hrl:=Fe7 xs i hi;rw[hn]at hn1 hl1 hl;refine(LE7 xs _ xs[i] junk l T bb off g i n cap hn (by omega) rfl hlast hn1 hm1 (by omega) hl W w L hS1.swap).mono ?_;rintro e w' ⟨rfl,hS⟩;refine⟨.S g n cap,rfl,?_⟩;unfold j7;rw[hrl,hn,hpt];have e:(bh4 xs i n hn (by omega)).flatMap Ord.cells++junk=((bh4 xs i n hn (by omega)).take n).flatMap Ord.cells++(((bh4 xs i n hn (by omega)).drop n).flatMap Ord.cells++junk):=by rw[<-jS,<-List.flatMap_append,List.take_append_drop]
  rw[e]at hS;refine(St.rowShut hS.swap (by omega) hm1 ?_ ?_).swap
  ·rw[<-e,jA,Ab7 Ord.len,BB7];rw[jA,Ab7 Ord.len,hn]at hj1;exact hj1
  ·rw[Ab7 Ord.len,jT,BB7];simp
theorem Fh7{ps:List (List Ord)}{id:Int}{k:Nat}{ks:List Nat}(h:bt4 id (ps.getD k [])<0):am4 ps id (k::ks)=am4 ps id ks:=by
 rw[am4];unfold bt4 at h;split
 ·rename_i i hi;rw[hi]at h;simp at h;omega
 ·rfl
theorem Fi7{ps:List (List Ord)}{id:Int}{k:Nat}{ks:List Nat}{i:Nat}(h:bt4 id (ps.getD k [])=i):am4 ps id (k::ks)=some (k,i)/\i<(ps.getD k []).length/\((ps.getD k []).getD i o0).id=id:=by
 rw[am4];unfold bt4 at h;split
 ·rename_i j hj
  rw[hj]at h;simp only at h;obtain rfl:j=i:=by omega
  obtain⟨h1,h2,_⟩:=List.findIdx?_eq_some_iff_getElem.1 hj;refine⟨rfl,h1,?_⟩;rw[List.getD_eq_getElem?_getD,jG h1];simpa using h2
 ·rename_i hj;rw[hj]at h;simp only at h;omega
def eP4(W:World)(L:List HP)(bb:Nat)(b:Bk)(id:Int)(v15:Value)(w:World):Prop:=
 ∃k:Nat,v15=.I k/\k<=8/\am4 b.ps id br4=am4 b.ps id (br4.drop k)/\St W (w9 bb b::L) w
theorem JA7(bb:Nat)(junk:List Value)(k:Nat)(h:k<8):∃o,o<8/\br4.drop k=o::br4.drop (k+1)/\(cn4 bb++junk)[k]? = some (.pointer (some ⟨bb,o,none⟩)):=by
 obtain h|h|h|h|h|h|h|h:k=0\/k=1\/k=2\/k=3\/k=4\/k=5\/k=6\/k=7:=by omega
 all_goals subst h
 all_goals exact⟨_,by decide,rfl,rfl⟩
theorem JB7(b:Bk)(o:Nat)(h:o<8)(hb:b.len<=32):(b.ps.getD o []).length<=32:=Nat.le_trans (DZ7 b o h) hb
theorem Iv7(bb:Nat)(b1:Bk)(id:Int)(hok:b1.len<=32)(W w:World)(L:List HP)(hS:St W (w9 bb b1::L) w):
  Calls Tryz.prog 154 #[.P bb,.I id] w fun e w'=>e=.returned (.tuple #[.agg (O7 b1 id).o.cells.toArray,.I (O7 b1 id).errno])/\St W (w9 bb (O7 b1 id).book::L) w':=by
 have hmf:∀(fn:Fn) (first cap:Array Value) (w:World),(Instr.makeFunc fn first cap).run Tryz.prog w=.ok (.func fn first cap) w:=fun _ _ _ _=>rfl
 have hta:=Pk7;go_enter Tryz.func154,Tryz.ntmps154;go_wp2_with(first|(go_at_call 159;refine(DX7 bb W _ _ hS).mono ?_;clear hS;rintro e w ⟨v,rfl,hS⟩;rcases hS.rowOpen with ⟨_,h0,_⟩|⟨g,cap,junk,rfl,hn1,hm1,hj1,hl1,hS'⟩;exfalso;omega;clear hS;have hS:=hS';clear hS';unfold maxLen at hm1)|(with_reducible apply Ay7 hS);rfl;rfl;rfl;rfl;clear hS;intro bB w hS;refine frS ?_|refine zl1 hS ?_|refine zlN hS ?_|refine zs1 hS ?_;clear hS;intro w hS|refine zsN hS ?_;clear hS;intro w hS|refine zbx hS ?_;clear hS;intro b w hS|refine zal hS ?_;clear hS;intro b w hS);have hS1:=((hS.perm (List.perm_middle (l₁:=[_,_,_]))).take .t3).swap;clear hS;have hS:=hS1;clear hS1
 go_loopw [15] (fun v wr=>eP4 W (blk bB [.I id] 3::blk g (cn4 bb++junk) 253::blk b [.I 0,.string ⟨#[]⟩,.bool false,.I 0,.I 0,.I 0] 173::L) bb b1 id v wr) (fun v _=>8-(intOf v).toNat)
 case atStart=>exact⟨0,rfl,by omega,rfl,hS⟩
 case round=>
  clear hS;obtain⟨k,rfl,hk,hf,hS⟩:=hrel;by_cases h8:k=8
  ·subst h8;have e1:O7 b1 id=⟨o0,7,b1⟩:=by unfold O7;rw[hf];rfl
   have E1:=jH e1;clear hf e1;go_wp2_with(first|refine zl1 hS ?_|refine zlN hS ?_|refine zs1 hS ?_;clear hS;intro w hS|refine zsN hS ?_;clear hS;intro w hS|refine zbx hS ?_;clear hS;intro b w hS|refine zal hS ?_;clear hS;intro b w hS);apply Ac7;rfl;rfl;rfl;rfl;exact hS;decide +kernel;(exact r6);kernel_rfl;rw[E1.out];exact⟨rfl,hS.swap.drop.swap.drop.swap.drop⟩
  ·have hk8:k<8:=by omega
   clear h8 hk;obtain⟨o,ho,hdr,hpt⟩:=JA7 bb junk k hk8;rw[hdr]at hf;obtain⟨vs,h1,h2,hS0⟩:=ae4 hS;clear hS;have ho1:o<vs.length:=by omega
   have ho2:o<b1.ps.length:=by omega
   have hpk:b1.ps[o]=b1.pile o:=by unfold Bk.pile;simp[List.getD_eq_getElem?_getD,jG ho2]
   have hS1:=bb4 o ho1 ho2 hS0.swap;clear hS0;rw[hpk]at hS1;have hl:(vs++[Value.int .i64 b1.last])[o]? = some vs[o]:=by rw[List.getElem?_append_left ho1,jG ho1]
   generalize hvv:vs[o]=v at hl hS1;have hp32:=JB7 b1 o ho hok;have hgd:b1.ps.getD o []=b1.pile o:=rfl;rw[hgd]at hp32;have Hvv:=jH hvv;clear hvv;have hS:=hS1.take .t3;clear hS1
   cases hfi:(b1.pile o).findIdx? (fun x=>x.id==id)with
   | none=>
    have hx:bt4 id (b1.pile o) = -1:=by unfold bt4;rw[hfi]
    rw[Fh7 (by rw[hgd,hx];omega)]at hf;have Hf:=jH hf;clear hf hfi hdr;go_wp2_with(first|refine zl1 hS ?_ (hc:=by exact i6.there (i6.there (i6.there (i6.there (i6.here hpt)))))|refine zl1 hS ?_ (hc:=by exact i6.there (i6.there (i6.there (i6.here hl))))|go_at_call 194;refine(Ff7 (b1.pile o) v bB id (by omega) W _ _ hS).mono ?_;clear hS;rw[hx];rintro e w ⟨rfl,hS⟩);have hS3:=(hS.take .t2).take .t2;clear hS;have hS4:=bc4 o ho1 ho2 hS3;clear hS3;rw[<-Hvv.out,<-hpk,List.set_getElem_self,List.set_getElem_self]at hS4;have hS5:=K8 h1 h2 (hS4.take .t2);clear hS4;go_roundw
    case rel=>exact⟨k+1,rfl,hk8,Hf.out,hS5⟩
    case measure=>simp[intOf];omega
   | some i=>
    have hx:bt4 id (b1.pile o)=i:=by unfold bt4;rw[hfi]
    obtain⟨hf1,hil,_⟩:=Fi7 (ks:=br4.drop (k+1)) (hgd.symm▸hx);rw[hgd]at hil;rw[hf1]at hf;have e1:O7 b1 id=⟨(b1.pile o)[i],0,⟨b1.ps.set o (bO4 (b1.pile o) i),b1.last⟩⟩:=by unfold O7;rw[hf];simp[List.getD_eq_getElem?_getD,jG hil]
    have E1:=jH e1;clear e1 hf hf1 hfi hdr;generalize hxx:(b1.pile o)[i]=x at E1;have Hxx:=jH hxx;clear hxx;obtain⟨xi,xu,xy,xt,xc,xp⟩:=x;go_wp2_with(first|refine zl1 hS ?_ (hc:=by exact i6.there (i6.there (i6.there (i6.there (i6.here hpt)))))|refine zl1 hS ?_ (hc:=by exact i6.there (i6.there (i6.there (i6.here hl))))|go_at_call 194;refine(Ff7 (b1.pile o) v bB id (by omega) W _ _ hS).mono ?_;clear hS;rw[hx];rintro e w ⟨rfl,hS⟩|go_at_call 196;refine(NV7 (b1.pile o) i hil _ _ bb o v (by omega) hl W _ _ (((hS.take .t3).take .t2).swap)).mono ?_;clear hS;rw[Hxx.out];simp only[Ord.cells];rintro e w ⟨v',rfl,hS⟩|refine zl1 hS ?_|refine zlN hS ?_|refine zs1 hS ?_;clear hS;intro w hS|refine zsN hS ?_;clear hS;intro w hS|refine zbx hS ?_;clear hS;intro b w hS|refine zal hS ?_;clear hS;intro b w hS);apply Ac7;rfl;rfl;rfl;rfl;exact hS;decide +kernel;(exact r6);kernel_rfl;rw[E1.out];refine⟨rfl,?_⟩;have hS3:=(hS.take .t3).take .t2;rw[List.set_append_left _ _ ho1]at hS3;have hS4:=K8 (vs:=vs.set o v') (b:=⟨b1.ps.set o (bO4 (b1.pile o) i),b1.last⟩) (by simpa using h1) (by simpa using h2) (bc4 o ho1 ho2 hS3).swap;exact hS4.swap.drop.swap.drop.swap.drop
end Go.Proofs.YtienbkdjkjbelaaGreat
end
section
namespace Go.Proofs.YtienbkdjkjbelaaGreat
open Go.Shelf
def Tryz.sortOrd_ren:Go.Shelf.Ren:=⟨fun|6=>160|15=>127|14=>206|28=>171|29=>172|20=>222|21=>223|22=>224|23=>225|24=>226|25=>227|26=>228|27=>229|46=>233|47=>208|48=>209|49=>234|50=>235|57=>236|n=>n,fun|22=>167|24=>173|25=>256|3=>3|39=>163|0=>0|53=>265|55=>162|4=>4|46=>259|45=>258|50=>188|5=>5|9=>9|66=>296|70=>300|76=>317|77=>196|n=>n,fun|n=>n⟩
theorem Tryz.sortOrd:Go.Proofs.SlLaysF0.n6 Tryz.prog Tryz.sortOrd_ren:={
 mixed:=by kernel_rfl
 f6:=⟨Tryz.f160.name,by decide,Tryz.func160.trans (congrArg some (by kernel_rfl))⟩
 f14:=⟨Tryz.f206.name,by decide,Tryz.func206.trans (congrArg some (by kernel_rfl))⟩
 f15:=Tryz.func127.trans (congrArg some (by kernel_rfl))
 f20:=⟨Tryz.f222.name,by decide,Tryz.func222.trans (congrArg some (by kernel_rfl))⟩
 f21:=⟨Tryz.f223.name,by decide,Tryz.func223.trans (congrArg some (by kernel_rfl))⟩
 f22:=⟨Tryz.f224.name,by decide,Tryz.func224.trans (congrArg some (by kernel_rfl))⟩
 f23:=⟨Tryz.f225.name,by decide,Tryz.func225.trans (congrArg some (by kernel_rfl))⟩
 f24:=⟨Tryz.f226.name,by decide,Tryz.func226.trans (congrArg some (by kernel_rfl))⟩
 f25:=⟨Tryz.f227.name,by decide,Tryz.func227.trans (congrArg some (by kernel_rfl))⟩
 f26:=⟨Tryz.f228.name,by decide,Tryz.func228.trans (congrArg some (by kernel_rfl))⟩
 f27:=⟨Tryz.f229.name,by decide,Tryz.func229.trans (congrArg some (by kernel_rfl))⟩
 f28:=Tryz.func171.trans (congrArg some (by kernel_rfl))
 f29:=Tryz.func172.trans (congrArg some (by kernel_rfl))
 f46:=⟨Tryz.f233.name,by decide,Tryz.func233.trans (congrArg some (by kernel_rfl))⟩
 f47:=Tryz.func208.trans (congrArg some (by kernel_rfl))
 f48:=Tryz.func209.trans (congrArg some (by kernel_rfl))
 f49:=⟨Tryz.f234.name,by decide,Tryz.func234.trans (congrArg some (by kernel_rfl))⟩
 f50:=⟨Tryz.f235.name,by decide,Tryz.func235.trans (congrArg some (by kernel_rfl))⟩
 f57:=⟨Tryz.f236.name,by decide,Tryz.func236.trans (congrArg some (by kernel_rfl))⟩
 t0:=Tryz.underlying0
 a0:=Tryz.isAgg0
 z0:=Tryz.sizeOf0
 v0:=Tryz.zeroValue0
 t3:=Tryz.underlying3
 a3:=Tryz.isAgg3
 z3:=Tryz.sizeOf3
 v3:=Tryz.zeroValue3
 t4:=Tryz.underlying4
 a4:=Tryz.isAgg4
 z4:=Tryz.sizeOf4
 v4:=Tryz.zeroValue4
 t5:=Tryz.underlying5
 a5:=Tryz.isAgg5
 z5:=Tryz.sizeOf5
 v5:=Tryz.zeroValue5
 t9:=Tryz.underlying9
 a9:=Tryz.isAgg9
 z9:=Tryz.sizeOf9
 v9:=Tryz.zeroValue9
 t22:=Tryz.underlying167
 a22:=Tryz.isAgg167
 z22:=Tryz.sizeOf167
 v22:=Tryz.zeroValue167
 t25:=Tryz.underlying256
 a25:=Tryz.isAgg256
 z25:=Tryz.sizeOf256
 v25:=Tryz.zeroValue256
 t39:=Tryz.underlying163
 a39:=Tryz.isAgg163
 z39:=Tryz.sizeOf163
 v39:=Tryz.zeroValue163
 t45:=Tryz.underlying258
 a45:=Tryz.isAgg258
 z45:=Tryz.sizeOf258
 v45:=Tryz.zeroValue258
 t46:=Tryz.underlying259
 a46:=Tryz.isAgg259
 z46:=Tryz.sizeOf259
 v46:=Tryz.zeroValue259
 t50:=Tryz.underlying188
 a50:=Tryz.isAgg188
 z50:=Tryz.sizeOf188
 v50:=Tryz.zeroValue188
 t53:=Tryz.underlying265
 a53:=Tryz.isAgg265
 z53:=Tryz.sizeOf265
 v53:=Tryz.zeroValue265
 t55:=Tryz.underlying162
 a55:=Tryz.isAgg162
 z55:=Tryz.sizeOf162
 v55:=Tryz.zeroValue162
 t66:=Tryz.underlying296
 a66:=Tryz.isAgg296
 z66:=Tryz.sizeOf296
 v66:=Tryz.zeroValue296
 t70:=Tryz.underlying300
 a70:=Tryz.isAgg300
 z70:=Tryz.sizeOf300
 v70:=Tryz.zeroValue300
 t76:=Tryz.underlying317
 a76:=Tryz.isAgg317
 z76:=Tryz.sizeOf317
 v76:=Tryz.zeroValue317
 t77:=Tryz.underlying196
 a77:=Tryz.isAgg196
 z77:=Tryz.sizeOf196
 v77:=Tryz.zeroValue196 }
def Tryz.cmpInt_ren:Go.Shelf.Ren:=⟨fun|5=>92|7=>130|n=>n,fun|22=>3|3=>3|4=>4|n=>n,fun|n=>n⟩
theorem Tryz.cmpInt:Go.Proofs.SlLaysC2.n5 Tryz.prog Tryz.cmpInt_ren:={
 mixed:=by kernel_rfl
 f5:=⟨Tryz.f92.name,by decide,Tryz.func92.trans (congrArg some (by kernel_rfl))⟩
 f7:=⟨Tryz.f130.name,by decide,Tryz.func130.trans (congrArg some (by kernel_rfl))⟩
 t3:=Tryz.underlying3
 a3:=Tryz.isAgg3
 z3:=Tryz.sizeOf3
 v3:=Tryz.zeroValue3
 t4:=Tryz.underlying4
 a4:=Tryz.isAgg4
 z4:=Tryz.sizeOf4
 v4:=Tryz.zeroValue4
 t22:=Tryz.underlying3
 a22:=Tryz.isAgg3
 z22:=Tryz.sizeOf3
 v22:=Tryz.zeroValue3 }
def Tryz.bitsLen_ren:Go.Shelf.Ren:=⟨fun|125=>127|128=>171|129=>172|n=>n,fun|46=>163|3=>3|51=>265|53=>162|4=>4|5=>5|9=>9|n=>n,fun|n=>n⟩
theorem Tryz.bitsLen:Go.Proofs.Lays.n125 Tryz.prog Tryz.bitsLen_ren:={
 mixed:=by kernel_rfl
 f125:=Tryz.func127.trans (congrArg some (by kernel_rfl))
 f128:=Tryz.func171.trans (congrArg some (by kernel_rfl))
 f129:=Tryz.func172.trans (congrArg some (by kernel_rfl))
 t3:=Tryz.underlying3
 a3:=Tryz.isAgg3
 z3:=Tryz.sizeOf3
 v3:=Tryz.zeroValue3
 t4:=Tryz.underlying4
 a4:=Tryz.isAgg4
 z4:=Tryz.sizeOf4
 v4:=Tryz.zeroValue4
 t5:=Tryz.underlying5
 a5:=Tryz.isAgg5
 z5:=Tryz.sizeOf5
 v5:=Tryz.zeroValue5
 t9:=Tryz.underlying9
 a9:=Tryz.isAgg9
 z9:=Tryz.sizeOf9
 v9:=Tryz.zeroValue9
 t46:=Tryz.underlying163
 a46:=Tryz.isAgg163
 z46:=Tryz.sizeOf163
 v46:=Tryz.zeroValue163
 t51:=Tryz.underlying265
 a51:=Tryz.isAgg265
 z51:=Tryz.sizeOf265
 v51:=Tryz.zeroValue265
 t53:=Tryz.underlying162
 a53:=Tryz.isAgg162
 z53:=Tryz.sizeOf162
 v53:=Tryz.zeroValue162 }
end Go.Proofs.YtienbkdjkjbelaaGreat
end
