/-
  Place in every case, as a function on books.
-/
import Derived.Test.YtienbkdjkjbelaaGreatJuRM5
import Derived.Test.YtienbkdjkjbelaaGreatJuRM13
set_option maxHeartbeats 16000000
set_option maxRecDepth 100000
set_option linter.unusedSimpArgs false
set_option linter.unusedVariables false
section
namespace Go.Proofs.YtienbkdjkjbelaaGreat
open Go.RowKit Go.Sl
def bk0:Bk:=⟨[[],[],[],[],[],[],[],[]],0⟩
theorem Ok7:BkOk bk0:=⟨rfl,by decide,(by intro p hp x hx;simp[bk0]at hp;subst hp;cases hx),by decide,by decide⟩
def N8(v:Value)(l:List Trd):HP:=row v 8 243 l.length (l.flatMap Trd.cells)
theorem Ig7(W w:World)(L:List HP)(hS:St W L w):
  Calls Tryz.prog 185 #[] w fun e w'=>∃b,e=.returned (.P b)/\St W (s9 b bk0::L) w':=by
 refine(LH7 W w L hS).mono ?_;rintro e w' ⟨b,rfl,hS⟩;refine⟨b,rfl,?_⟩
 have h1:∀(n:Nat) {L:List HP} {w:World},St W L w->St W (sats (A5 (List.replicate n (.slice none 0 0)) (List.replicate n []))::L) w:=by
  intro n
  induction n with
  | zero=>intro L w h;exact⟨h.os,h.tape,h.output,fun _=>false,trivial,h.sat⟩
  | succ n ih=>intro L w h;exact St.join ((ih h).rowNil (k:=6) (T:=173))
 exact I6 (vs:=List.replicate 8 (.slice none 0 0)) rfl rfl (h1 8 hS).swap
theorem IO7(bb:Nat)(bk:Bk)(o:Ord)(hok:BkOk bk)(W w:World)(L:List HP)(hS:St W (s9 bb bk::L) w):
  Calls Tryz.prog 150 #[.P bb,.agg o.cells.toArray] w fun e w'=>∃v,e=.returned (.tuple #[v,.I (B9 bk o).left,.I (B9 bk o).errno]) /\
   St W (s9 bb (B9 bk o).book::N8 v (B9 bk o).trades::L) w':=by
 have hnil:∀{w:World},St W (s9 bb bk::L) w->St W (s9 bb bk::N8 (.slice none 0 0) []::L) w:=fun h=>(h.rowNil (k:=8) (T:=243)).swap
 cases hb:H5 o
 ·have e:B9 bk o=⟨[],0,1,bk⟩:=by unfold B9;rw[if_pos (.inl hb)]
  rw[e];refine(JM7 bb bk o hok hb W w L hS).mono ?_;rintro e w' ⟨rfl,hS⟩;exact⟨_,rfl,hnil hS⟩
 ·by_cases hle:o.id<=bk.last
  ·have e:B9 bk o=⟨[],0,1,bk⟩:=by unfold B9;rw[if_pos (.inr hle)]
   rw[e];refine(JN7 bb bk o hok hb hle W w L hS).mono ?_;rintro e w' ⟨rfl,hS⟩;exact⟨_,rfl,hnil hS⟩
  ·have hno:¬(H5 o=false\/o.id<=bk.last):=by rintro(h|h);(rw[hb]at h;cases h);exact hle h
   by_cases hf:32<=bk.len
   ·have e:B9 bk o=⟨[],0,6,bk⟩:=by unfold B9;rw[if_neg hno,if_pos hf]
    rw[e];refine(IN7 bb bk o hok hb (by omega) hf W w L hS).mono ?_;rintro e w' ⟨rfl,hS⟩;exact⟨_,rfl,hnil hS⟩
   ·have e:(B9 bk o).errno=0:=by unfold B9;rw[if_neg hno,if_neg hf]
    rw[e];exact LJ7 bb bk o hok hb (by omega) hf W w L hS
def ko1:Ord:=⟨1,⟨#[97]⟩,false,1,3,5⟩
def ko2:Ord:=⟨2,⟨#[98]⟩,true,1,2,7⟩
def kb1:Bk:=⟨[[],[],[],[],[],[ko1],[],[]],1⟩
def kb2:Bk:=⟨[[],[],[],[],[],[⟨1,⟨#[97]⟩,false,1,1,5⟩],[],[]],2⟩
def kt:Trd:=⟨⟨#[98]⟩,⟨#[97]⟩,2,1,1,2,5,7⟩
theorem AW7(o:Ord)(W w:World)(L:List HP)(hS:St W L w):
  Calls Tryz.prog 134 #[.agg o.cells.toArray] w fun e w'=>e=.returned (.bool (H5 o))/\St W L w':=by
 obtain⟨i,u,y,t,c,p⟩:=o;simp only[Ord.cells];go_enter Tryz.func134,Tryz.ntmps134;go_wp2_with(first|refine zl1 hS ?_|refine zlN hS ?_|refine zs1 hS ?_;clear hS;intro w hS|refine zsN hS ?_;clear hS;intro w hS|refine zbx hS ?_;clear hS;intro b w hS|refine zal hS ?_;clear hS;intro b w hS)
 all_goals go_ret
 all_goals exact⟨by simp[H5, *];try omega,hS.drop⟩
theorem Ff7:∀(f:Nat) (xs:List Ord) (j k:Nat),j<k->(upF f xs j)[k]? = xs[k]?
 | 0,_,_,_,_=>rfl
 | f+1,xs,j,k,hk=>by
  rw[upF];split
  ·rename_i h
   split
   ·rw[Ff7 f _ _ _ (by omega)];simp only[D5];rw[List.getElem?_set_ne (by omega),List.getElem?_set_ne (by omega)]
   ·rfl
  ·rfl
theorem Gy7(xs:List Ord)(i n:Nat)(h:xs.length=n+1)(hi:i<=n):(aD4 xs i n h hi)[n]? = xs[i]? := by
 have hsw:(D5 xs i n (by omega) (by omega))[n]? = xs[i]? := by rw[jG (by rw[Af7];omega),Gx7,if_pos rfl,jG (by omega)]
 unfold aD4;split
 ·rename_i he;rw[he]
 ·split
  ·rw[BB7 _ _ _ _ _ (Nat.le_refl _),hsw]
  ·rw[Ff7 _ _ _ _ (by omega),BB7 _ _ _ _ _ (Nat.le_refl _),hsw]
theorem JO7(xs:List Ord)(i n:Nat)(h:xs.length=n+1)(hi:i<=n):(aD4 xs i n h hi).Perm xs:=by
 unfold aD4;split
 ·exact .refl _
 ·split
  ·exact(Cn7 _ _ _ _).trans (AF7 _ _ _ _ _)
  ·exact(FA7 _ _ _).trans ((Cn7 _ _ _ _).trans (AF7 _ _ _ _ _))
def bh4(xs:List Ord)(i:Nat):List Ord:=if h:i<xs.length then(aD4 xs i (xs.length-1) (by omega) (by omega)).take (xs.length-1)else xs
theorem Ep7(xs:List Ord)(i:Nat)(h:i<xs.length):(bh4 xs i).length=xs.length-1:=by unfold bh4;rw[dif_pos h,jT,Br7];omega
theorem Gz7(xs:List Ord)(i:Nat)(h:i<xs.length):(xs[i]::bh4 xs i).Perm xs:=by
 unfold bh4;rw[dif_pos h];obtain⟨n,hn⟩:∃n,xs.length=n+1:=⟨xs.length-1,by omega⟩
 have h1:=JO7 xs i n hn (by omega);have h2:=Gy7 xs i n hn (by omega);have h3:=Br7 (xs:=xs) (i:=i) hn (by omega);rw[jG (by rw[h3];omega),jG h]at h2
 have h4:(aD4 xs i n hn (by omega))=(aD4 xs i n hn (by omega)).take n++[xs[i]]:=by
  have h5:(aD4 xs i n hn (by omega)).drop n=[xs[i]]:=by rw[List.drop_eq_getElem_cons (by rw[h3];omega),List.drop_eq_nil_of_le (by rw[h3];omega)];simp only[Option.some.injEq]at h2;rw[h2]
  rw[<-h5,List.take_append_drop]
 simp only[hn,Nat.add_sub_cancel];rw[h4]at h1;exact(List.perm_append_singleton _ _).symm.trans h1
def O8(ps:List (List Ord))(id:Int):List Nat->Option (Nat×Nat)
 | []=>none
 | k::ks=>match (ps.getD k []).findIdx? (fun o=>o.id==id)with
  | some i=>some (k,i)
  | none=>O8 ps id ks
def o0:Ord:=⟨0,⟨#[]⟩,false,0,0,0⟩
structure Cancelled where
 o:Ord
 errno:Int
 book:Bk
def M6(b:Bk)(id:Int):Cancelled:=
 match O8 b.ps id aP4 with
 | none=>⟨o0,7,b⟩
 | some (k,i)=>⟨(b.pile k).getD i o0,0,⟨b.ps.set k (bh4 (b.pile k) i),b.last⟩⟩
def aR4(id:Int)(p:List Ord):Int:=match p.findIdx? (fun o=>o.id==id)with
 | some i=>i
 | none => -1
theorem DR7(x:Ord)(B:Nat)(id:Int)(W w:World)(L:List HP)(hS:St W (blk B [.I id] 3::L) w):
  Calls Tryz.prog 195 #[.agg x.cells.toArray,.P B] w fun e w'=>e=.returned (.bool (x.id==id))/\St W (blk B [.I id] 3::L) w':=by
 obtain⟨i,u,y,t,c,p⟩:=x;simp only[Ord.cells];go_enter Tryz.func195,Tryz.ntmps195;go_wp2_with(first|refine zl1 hS ?_|refine zlN hS ?_|refine zs1 hS ?_;clear hS;intro w hS|refine zsN hS ?_;clear hS;intro w hS|refine zbx hS ?_;clear hS;intro b w hS|refine zal hS ?_;clear hS;intro b w hS);go_ret;exact⟨rfl,hS.drop⟩
def dP4(W:World)(L:List HP)(v:Value)(p:List Ord)(id:Int)(r:Int)(v8:Value)(w:World):Prop:=
 ∃k:Nat,v8=.I k/\k<=p.length/\(∀j,j<k->∀x,p[j]? = some x->(x.id==id)=false)/\St W L w
theorem LK7(p:List Ord)(id:Int)(h:∀j,j<p.length->∀x,p[j]? = some x->(x.id==id)=false):aR4 id p = -1:=by unfold aR4;rw[List.findIdx?_eq_none_iff.2];intro x hx;obtain⟨j,hj,rfl⟩:=List.mem_iff_getElem.1 hx;exact h j hj _ (jG hj)
theorem Nn7(p:List Ord)(id:Int)(k:Nat)(hk:k<p.length)(h:∀j,j<k->∀x,p[j]? = some x->(x.id==id)=false)(hx:(p[k].id==id)=true):aR4 id p=k:=by unfold aR4;rw[List.findIdx?_eq_some_iff_getElem.2 ⟨hk,hx,fun j hj=>by rw[h j hj _ (jG (by omega))];exact Bool.false_ne_true⟩]
theorem Eq7(p:List Ord)(v:Value)(B:Nat)(id:Int)(h63:p.length<=4294967296)(W w:World)(L:List HP)(hS:St W (blk B [.I id] 3::j6 v p::L) w):
  Calls Tryz.prog 194 #[v,.func (.func 195) #[] #[.P B]] w fun e w'=>e=.returned (.I (aR4 id p))/\St W (blk B [.I id] 3::j6 v p::L) w':=by
 rcases hS.swap.rowOpen with ⟨rfl,h0,_,_⟩|⟨g,cap,junk,rfl,hn1,hm1,hj1,hl1,hS0⟩
 ·obtain rfl:p=[]:=List.eq_nil_of_length_eq_zero h0;go_enter Tryz.func194,Tryz.ntmps194;go_wp2_with fail
  go_loopw [8] (fun v wr=>v=.I 0/\St W (blk B [.I id] 3::j6 (.slice none 0 0) []::L) wr) (fun v _=>0)
  case atStart=>exact⟨rfl,hS⟩
  case round=>
   clear hS;obtain⟨rfl,hS⟩:=hrel;go_wp2_with fail;go_ret;exact⟨rfl,hS⟩
 ·clear hS;have hm':cap<=9223372036854775807:=by unfold maxLen at hm1;omega
  go_enter Tryz.func194,Tryz.ntmps194;go_wp2_with fail
  go_loopw [8] (fun v wr=>dP4 W (blk B [.I id] 3::blk g (p.flatMap Ord.cells++junk) 173::L) (.S g p.length cap) p id (aR4 id p) v wr) (fun v _=>p.length-(intOf v).toNat)
  case atStart=>exact⟨0,rfl,by omega,fun j hj=>by omega,hS0.swap⟩
  case round=>
   clear hS0;obtain⟨k,rfl,hk,hno,hS⟩:=hrel;by_cases hkn:k=p.length
   ·have Hr:=jH (LK7 p id (hkn▸hno));clear hno;subst hkn;go_wp2_with fail;go_ret;rw[Hr.out];exact⟨rfl,(St.rowShut hS.swap hn1 hm1 hj1 hl1).swap⟩
   ·have hkl:k<p.length:=by omega
    clear hkn hk;have Hno:=jH hno;clear hno
    cases hb:(p[k].id==id)
    ·go_wp2_with(first|refine zlN hS ?_ (hc:=by exact d8.there (d8.elem Ord.len hkl))|go_at_call 195;refine(DR7 p[k] B id W _ _ hS).mono ?_;clear hS;rw[hb];rintro e w ⟨rfl,hS⟩|refine zl1 hS ?_|refine zlN hS ?_|refine zs1 hS ?_;clear hS;intro w hS|refine zsN hS ?_;clear hS;intro w hS|refine zbx hS ?_;clear hS;intro b w hS|refine zal hS ?_;clear hS;intro b w hS);go_roundw
     case rel=>
      refine⟨k+1,rfl,hkl,?_,hS⟩;intro j hj x hx;by_cases hjk:j=k
      ·subst hjk;rw[jG hkl]at hx
       cases hx
       exact hb
      ·exact Hno.out j (by omega) x hx
     case measure=>simp[intOf];omega
    ·go_wp2_with(first|refine zlN hS ?_ (hc:=by exact d8.there (d8.elem Ord.len hkl))|go_at_call 195;refine(DR7 p[k] B id W _ _ hS).mono ?_;clear hS;rw[hb];rintro e w ⟨rfl,hS⟩|refine zl1 hS ?_|refine zlN hS ?_|refine zs1 hS ?_;clear hS;intro w hS|refine zsN hS ?_;clear hS;intro w hS|refine zbx hS ?_;clear hS;intro b w hS|refine zal hS ?_;clear hS;intro b w hS);go_ret;rw[Nn7 p id k hkl Hno.out hb];exact⟨rfl,(St.rowShut hS.swap hn1 hm1 hj1 hl1).swap⟩
def ky(y:Bool)(o:Ord):Int:=cond y (-o.price) o.price
def leK(y:Bool)(a b:Ord):Prop:=ky y a<ky y b\/(ky y a=ky y b/\a.id<=b.id)
theorem DZ7(y:Bool)(a:Ord):leK y a a:=.inr ⟨rfl,Int.le_refl _⟩
theorem BR7{y:Bool}{a b c:Ord}(h1:leK y a b)(h2:leK y b c):leK y a c:=by unfold leK at *;omega
theorem CT7{y:Bool}{a b:Ord}(ha:a.buy=y)(h:K8 a b=true):leK y a b:=by
 subst ha;unfold K8 at h;unfold leK ky;split at h
 ·rename_i hp
  rw[hp];right;simp only[decide_eq_true_eq]at h;exact⟨rfl,by omega⟩
 ·rename_i hp
  cases hb:a.buy <;> simp[hb]at h ⊢ <;> omega
theorem Cp7{y:Bool}{a b:Ord}(ha:a.buy=y)(h:K8 a b=false):leK y b a:=by
 subst ha;unfold K8 at h;unfold leK ky;split at h
 ·rename_i hp
  rw[hp];right;simp only[decide_eq_false_iff_not]at h;exact⟨rfl,by omega⟩
 ·rename_i hp
  cases hb:a.buy <;> simp[hb]at h ⊢ <;> omega
def at'(xs:List Ord)(k:Nat):Ord:=xs.getD k o0
theorem l7{xs:List Ord}{k:Nat}(h:k<xs.length):at' xs k=xs[k]:=by simp[at',List.getD_eq_getElem?_getD,jG h]
theorem w5(xs:List Ord)(i j:Nat)(hi:i<xs.length)(hj:j<xs.length)(k:Nat):at' (D5 xs i j hi hj) k=if k=j then at' xs i else if k=i then at' xs j else at' xs k:=by
 unfold at' D5;simp only[List.getD_eq_getElem?_getD,List.getElem?_set];by_cases h1:k=j
 ·subst h1;simp[hi,hj]
 ·by_cases h2:k=i
  ·subst h2;simp[h1,Ne.symm h1,hj,hi]
  ·simp[h1,h2,Ne.symm h1,Ne.symm h2]
def bW4(y:Bool)(xs:List Ord):Prop:=∀x∈xs,x.buy=y
theorem bW4.at{y:Bool}{xs:List Ord}(h:bW4 y xs){k:Nat}(hk:k<xs.length):(at' xs k).buy=y:=by rw[l7 hk];exact h _ (jW hk)
theorem bW4.perm{y:Bool}{xs ys:List Ord}(h:bW4 y xs)(hp:ys.Perm xs):bW4 y ys:=fun x hx=>h x (hp.mem_iff.1 hx)
def Hp(y:Bool)(n:Nat)(xs:List Ord):Prop:=∀k,0<k->k<n->leK y (at' xs ((k-1) / 2)) (at' xs k)
structure UpI(y:Bool)(n:Nat)(xs:List Ord)(j:Nat):Prop where
 all:∀k,0<k->k<n->k≠j->leK y (at' xs ((k-1) / 2)) (at' xs k)
 kids:∀k,0<j->k<n->0<k->(k-1) / 2=j->leK y (at' xs ((j-1) / 2)) (at' xs k)
theorem Hr7(y:Bool)(n:Nat):∀(f:Nat) (xs:List Ord) (j:Nat),bW4 y xs->n<=xs.length->j<n->j<=f->UpI y n xs j->Hp y n (upF f xs j)
 | 0,xs,j,_,_,_,hf,h=>fun k h0 hk=>h.all k h0 hk (by omega)
 | f+1,xs,j,hs,hn,hj,hf,h=>by
  rw[upF];by_cases hc:0<j/\j<xs.length
  ·rw[dif_pos hc];have hp:(j-1) / 2<xs.length:=by omega
   cases hb:K8 xs[j] xs[(j-1) / 2]
   ·simp only[Bool.false_eq_true,if_false];intro k h0 hk;by_cases hkj:k=j
    ·subst hkj;have:=Cp7 (hs _ (jW hc.2)) hb;rwa [l7 hp,l7 hc.2]
    ·exact h.all k h0 hk hkj
   ·simp only[if_true];have hle:leK y (at' xs j) (at' xs ((j-1) / 2)):=by rw[l7 hp,l7 hc.2];exact CT7 (hs _ (jW hc.2)) hb
    refine Hr7 y n f _ _ (hs.perm (AF7 _ _ _ hp hc.2)) (by rw[Af7];exact hn) (by omega) (by omega) ⟨?_,?_⟩
    ·intro k h0 hk hkp;rw[w5,w5];by_cases h1:k=j
     ·subst h1;rw[if_pos rfl,if_neg (by omega),if_pos rfl];exact hle
     ·rw[if_neg h1,if_neg hkp];by_cases h2:(k-1) / 2=j
      ·rw[if_pos h2];exact h.kids k hc.1 hk h0 h2
      ·rw[if_neg h2];by_cases h3:(k-1) / 2=(j-1) / 2
       ·rw[if_pos h3];refine BR7 hle ?_;rw[<-h3];exact h.all k h0 hk h1
       ·rw[if_neg h3];exact h.all k h0 hk h1
    ·intro k h0 hk hk0 hkp;rw[w5,w5];rw[if_neg (by omega),if_neg (by omega)];have hg:=h.all ((j-1) / 2) h0 (by omega) (by omega);by_cases h1:k=j
     ·rw[if_pos h1];exact hg
     ·rw[if_neg h1,if_neg (by omega)];refine BR7 hg ?_;rw[<-hkp];exact h.all k hk0 hk h1
  ·rw[dif_neg hc];exact fun k h0 hk=>h.all k h0 hk (by omega)
structure DownI(y:Bool)(n:Nat)(xs:List Ord)(i:Nat):Prop where
 all:∀k,0<k->k<n->(k-1) / 2≠i->k≠i->leK y (at' xs ((k-1) / 2)) (at' xs k)
 kids:∀k,0<i->k<n->0<k->(k-1) / 2=i->leK y (at' xs ((i-1) / 2)) (at' xs k)
theorem Ih7(y:Bool)(n:Nat)(xs:List Ord)(i:Nat)(hs:bW4 y xs)(hn:n<=xs.length)(h1:2*i+1<n)(k:Nat)(hk:k<n)(h0:0<k)(hp:(k-1) / 2=i):leK y (at' xs (kid xs i n hn)) (at' xs k):=by
 have hkk:k=2*i+1\/k=2*i+2:=by omega
 unfold kid;split
 ·rename_i h2
  cases hb:K8 xs[2*i+2] xs[2*i+1]
  ·simp only[Bool.false_eq_true,if_false]
   rcases hkk with rfl|rfl
   ·exact DZ7 _ _
   ·rw[l7 (show 2*i+1<xs.length by omega),l7 (show 2*i+2<xs.length by omega)];exact Cp7 (hs _ (jW _)) hb
  ·simp only[if_true]
   rcases hkk with rfl|rfl
   ·rw[l7 (show 2*i+1<xs.length by omega),l7 (show 2*i+2<xs.length by omega)];exact CT7 (hs _ (jW _)) hb
   ·exact DZ7 _ _
 ·rcases hkk with rfl|rfl
  ·exact DZ7 _ _
  ·omega
theorem JP7{xs:List Ord}{i n:Nat}(hn:n<=xs.length):(kid xs i n hn-1) / 2=i:=by
 unfold kid;split
 ·split <;> omega
 ·omega
theorem Er7(y:Bool)(n:Nat):∀(f:Nat) (xs:List Ord) (i:Nat),bW4 y xs->n<=xs.length->n<=f+i->DownI y n xs i->(i=0\/n<=i\/leK y (at' xs ((i-1) / 2)) (at' xs i))->Hp y n (A9 f xs i n).1
 | 0,xs,i,_,_,hf,h,hi=>fun k h0 hk=>h.all k h0 hk (by omega) (by omega)
 | f+1,xs,i,hs,hn,hf,h,hi=>by
  have hstop:(∀k,0<k->k<n->(k-1) / 2=i->leK y (at' xs i) (at' xs k))->Hp y n xs:=fun hh k h0 hk=>by
   by_cases h1:(k-1) / 2=i
   ·rw[h1];exact hh k h0 hk h1
   ·by_cases h2:k=i
    ·subst h2
     rcases hi with h3|h3|h3
     ·omega
     ·omega
     ·exact h3
    ·exact h.all k h0 hk h1 h2
  rw[A9];by_cases hc:2*i+1<n/\n<=xs.length
  ·rw[dif_pos hc];have hk1:=Gu7 hn hc.1;have hk2:=Gv7 (xs:=xs) (i:=i) (n:=n) hn;have hk3:=JP7 (xs:=xs) (i:=i) (n:=n) hn;have hbest:=Ih7 y n xs i hs hn hc.1;have hjl:(kid xs i n hn)<xs.length:=by omega
   have hil:i<xs.length:=by omega
   cases hb:K8 xs[(kid xs i n hn)] xs[i]
   ·simp only[Bool.false_eq_true,if_false];refine hstop fun k h0 hk hp=>BR7 ?_ (hbest k hk h0 hp)
    rw[l7 hjl,l7 hil];exact Cp7 (hs _ (jW hjl)) hb
   ·simp only[if_true];have hle:leK y (at' xs (kid xs i n hn)) (at' xs i):=by rw[l7 hjl,l7 hil];exact CT7 (hs _ (jW hjl)) hb
    refine Er7 y n f _ _ (hs.perm (AF7 _ _ _ hil hjl)) (by rw[Af7];exact hn) (by omega) ⟨?_,?_⟩ (.inr (.inr ?_))
    ·intro k h0 hk h1 h2;rw[w5,w5,if_neg h1,if_neg h2];by_cases h3:k=i
     ·rw[if_pos h3,if_neg (by omega)];rw[h3];exact h.kids _ (h3▸h0) hk1 (by omega) hk3
     ·rw[if_neg h3];by_cases h4:(k-1) / 2=i
      ·rw[if_pos h4];exact hbest k hk h0 h4
      ·rw[if_neg h4];exact h.all k h0 hk h4 h3
    ·intro k _ hk h0 hp;rw[w5,w5,hk3,if_neg (by omega),if_pos rfl,if_neg (by omega),if_neg (by omega)];rw[<-hp];exact h.all k h0 hk (by omega) (by omega)
    ·rw[w5,w5,hk3,if_neg (by omega),if_pos rfl,if_pos rfl];exact hle
  ·rw[dif_neg hc];exact hstop fun k h0 hk hp=>by omega
theorem LL7 (y : Bool) (n : Nat) (f : Nat) (xs : List Ord) (i : Nat) (hs : bW4 y xs) (hn : n <= xs.length) (hf : n <= f + i) (h : DownI y n xs i) :
    (¬ i < (A9 f xs i n).2 /\ (A9 f xs i n).1 = xs /\ UpI y n xs i) \/ (i < (A9 f xs i n).2 /\ Hp y n (A9 f xs i n).1) := by
  have hstop : (∀ k, 0 < k -> k < n -> (k - 1) / 2 = i -> leK y (at' xs i) (at' xs k)) -> UpI y n xs i := fun hh => ⟨fun k h0 hk hki => by
      by_cases h1 : (k - 1) / 2 = i
      · rw [h1]; exact hh k h0 hk h1
      · exact h.all k h0 hk h1 hki, h.kids⟩
  have hmono : ∀ (f : Nat) (xs : List Ord) (i : Nat), i <= (A9 f xs i n).2 := by
    intro f
    induction f with
    | zero => intro xs i; exact Nat.le_refl _
    | succ f ih =>
      intro xs i;rw [A9];split
      · rename_i hc
        split
        · exact Nat.le_trans (Nat.le_of_lt (Gv7 hc.2)) (ih _ _)
        · exact Nat.le_refl _
      · exact Nat.le_refl _
  cases f with
  | zero =>
    left
    exact ⟨Nat.lt_irrefl _, rfl, hstop fun k h0 hk hp => by omega⟩
  | succ f =>
    rw [A9];by_cases hc : 2 * i + 1 < n /\ n <= xs.length
    · rw [dif_pos hc]
      have hk1 := Gu7 hn hc.1;have hk2 := Gv7 (xs := xs) (i := i) (n := n) hn;have hk3 := JP7 (xs := xs) (i := i) (n := n) hn;have hbest := Ih7 y n xs i hs hn hc.1;have hjl : (kid xs i n hn) < xs.length := by omega
      have hil : i < xs.length := by omega
      cases hb : K8 xs[(kid xs i n hn)] xs[i]
      · simp only [Bool.false_eq_true, if_false]
        left
        refine ⟨Nat.lt_irrefl _, by trivial, hstop fun k h0 hk hp => BR7 ?_ (hbest k hk h0 hp)⟩;rw [l7 hjl, l7 hil];exact Cp7 (hs _ (jW hjl)) hb
      · simp only [if_true]
        have hle : leK y (at' xs (kid xs i n hn)) (at' xs i) := by rw [l7 hjl, l7 hil];exact CT7 (hs _ (jW hjl)) hb
        right
        refine ⟨Nat.lt_of_lt_of_le hk2 (hmono _ _ _), ?_⟩;refine Er7 y n f _ _ (hs.perm (AF7 _ _ _ hil hjl)) (by rw [Af7]; exact hn) (by omega) ⟨?_, ?_⟩ (.inr (.inr ?_))
        · intro k h0 hk h1 h2
          rw [w5, w5, if_neg h1, if_neg h2];by_cases h3 : k = i
          · rw [if_pos h3, if_neg (by omega)]
            rw [h3];exact h.kids _ (h3 ▸ h0) hk1 (by omega) hk3
          · rw [if_neg h3]
            by_cases h4 : (k - 1) / 2 = i
            · rw [if_pos h4]; exact hbest k hk h0 h4
            · rw [if_neg h4]; exact h.all k h0 hk h4 h3
        · intro k _ hk h0 hp
          rw [w5, w5, hk3, if_neg (by omega), if_pos rfl, if_neg (by omega), if_neg (by omega)];rw [<- hp];exact h.all k h0 hk (by omega) (by omega)
        · rw [w5, w5, hk3, if_neg (by omega), if_pos rfl, if_pos rfl]
          exact hle
    · rw [dif_neg hc]
      left
      exact ⟨Nat.lt_irrefl _, rfl, hstop fun k h0 hk hp => by omega⟩
theorem cp4(xs:List Ord)(n k:Nat)(h:k<n):at' (xs.take n) k=at' xs k:=by unfold at';simp only[List.getD_eq_getElem?_getD,List.getElem?_take,if_pos h]
theorem Hp.take{y:Bool}{n:Nat}{xs:List Ord}(h:Hp y n xs):Hp y n (xs.take n):=fun k h0 hk=>by rw[cp4 _ _ _ hk,cp4 _ _ _ (by omega)];exact h k h0 hk
structure Heap(y:Bool)(xs:List Ord):Prop where
 side:bW4 y xs
 hp:Hp y xs.length xs
theorem Heap.nil(y:Bool):Heap y []:=⟨fun _ h=>(by cases h),fun k _ h=>absurd h (Nat.not_lt_zero _)⟩
theorem Heap.top{y:Bool}{x:Ord}{q:List Ord}(h:Heap y (x::q)):∀z∈x::q,leK y x z:=by
 have hk:∀k,k<(x::q).length->leK y x (at' (x::q) k):=by
  intro k
  induction k using Nat.strongRecOn with
  | _ k ih=>
   intro hk;by_cases h0:k=0
   ·subst h0;exact DZ7 _ _
   ·exact BR7 (ih ((k-1) / 2) (by omega) (by omega)) (h.hp k (by omega) hk)
 intro z hz;obtain⟨k,hkl,rfl⟩:=List.mem_iff_getElem.1 hz;have:=hk k hkl;rwa [l7 hkl]at this
theorem Heap.pop{y:Bool}{x:Ord}{q:List Ord}(h:Heap y (x::q)):Heap y (aQ4 (x::q)):=by
 have hl:(aQ4 (x::q)).length=q.length:=by rw[Bt7];rfl
 refine⟨fun z hz=>h.side z (List.mem_cons_of_mem _ ((Ch7 x q).mem_iff.1 hz)),?_⟩;rw[hl];have e:aQ4 (x::q)=(au4 (x::q) q.length rfl).take q.length:=by unfold aQ4;rw[dif_pos (by simp)];rfl
 rw[e];refine Hp.take ?_;unfold au4;have h0:0<(x::q).length:=by simp
 have h1:q.length<(x::q).length:=by simp
 refine Er7 y q.length _ _ 0 (h.side.perm (AF7 _ _ _ h0 h1)) (by rw[Af7];simp) (by omega) ⟨?_,fun k hk=>absurd hk (Nat.lt_irrefl _)⟩ (.inl rfl);intro k hk0 hk h2 _;rw[w5,w5,if_neg (by omega),if_neg h2,if_neg (by omega),if_neg (by omega)];exact h.hp k hk0 (by simp;omega)
theorem Heap.push{y:Bool}{xs:List Ord}{o:Ord}(h:Heap y xs)(ho:o.buy=y):Heap y (N7 xs o):=by
 have hp:=Dy7 xs o;refine⟨fun z hz=>?_,?_⟩
 ·rcases List.mem_cons.1 (hp.mem_iff.1 hz)with rfl|hz
  ·exact ho
  ·exact h.side z hz
 ·rw[DQ7];unfold N7;have hap:∀k,k<xs.length->at' (xs++[o]) k=at' xs k:=fun k hk=>by unfold at';rw[List.getD_eq_getElem?_getD,List.getD_eq_getElem?_getD,List.getElem?_append_left hk]
  refine Hr7 y _ _ _ _ ?_ (by simp) (by omega) (Nat.le_refl _) ⟨?_,fun k h0 hk hk0 hp=>by omega⟩
  ·intro z hz
   rcases List.mem_append.1 hz with hz|hz
   ·exact h.side z hz
   ·rw[List.mem_singleton.1 hz];exact ho
  ·intro k h0 hk hkn;rw[hap _ (by omega),hap _ (by omega)];exact h.hp k h0 (by omega)
theorem Heap.rem{y:Bool}{xs:List Ord}{i:Nat}(h:Heap y xs)(hi:i<xs.length):Heap y (bh4 xs i):=by
 have hl:=Ep7 xs i hi;refine⟨fun z hz=>h.side z ((Gz7 xs i hi).mem_iff.1 (List.mem_cons_of_mem _ hz)),?_⟩;rw[hl];unfold bh4;rw[dif_pos hi];obtain⟨n,hn⟩:∃n,xs.length=n+1:=⟨xs.length-1,by omega⟩
 simp only[hn,Nat.add_sub_cancel];refine Hp.take ?_;unfold aD4;split
 ·exact fun k h0 hk=>h.hp k h0 (by omega)
 ·rename_i hin
  have hnl:n<xs.length:=by omega
  have hsd:=h.side.perm (AF7 xs i n hi hnl)
  have hD:DownI y n (D5 xs i n hi hnl) i:=by
   refine⟨?_,?_⟩
   ·intro k h0 hk h1 h2;rw[w5,w5,if_neg (by omega),if_neg h1,if_neg (by omega),if_neg h2];exact h.hp k h0 (by omega)
   ·intro k h0 hk hk0 hp;rw[w5,w5,if_neg (by omega),if_neg (by omega),if_neg (by omega),if_neg (by omega)];have h1:=h.hp i h0 (by omega);have h2:=h.hp k hk0 (by omega);rw[hp]at h2;exact BR7 h1 h2
  rcases LL7 y n n _ i hsd (by rw[Af7];omega) (by omega) hD with ⟨h1,h2,h3⟩|⟨h1,h2⟩
  ·rw[if_neg h1,h2];exact Hr7 y n i _ i hsd (by rw[Af7];omega) (by omega) (Nat.le_refl _) h3
  ·rw[if_pos h1];exact h2
theorem Heap.cnt{y:Bool}{x:Ord}{q:List Ord}(h:Heap y (x::q))(c:Int):Heap y ({ x with cnt:=c }::q):=by
 refine⟨fun z hz=>?_,?_⟩
 ·rcases List.mem_cons.1 hz with rfl|hz
  ·exact h.side x (List.mem_cons_self ..)
  ·exact h.side z (List.mem_cons_of_mem _ hz)
 ·have hk:∀k,ky y (at' ({ x with cnt:=c }::q) k)=ky y (at' (x::q) k)/\(at' ({ x with cnt:=c }::q) k).id=(at' (x::q) k).id:=by
   intro k
   cases k with
   | zero=>exact⟨rfl,rfl⟩
   | succ k=>exact⟨rfl,rfl⟩
  intro k h0 hkl;have:=h.hp k h0 hkl;unfold leK at *;rw[(hk _).1,(hk _).2,(hk k).1,(hk k).2];exact this
end Go.Proofs.YtienbkdjkjbelaaGreat
end
