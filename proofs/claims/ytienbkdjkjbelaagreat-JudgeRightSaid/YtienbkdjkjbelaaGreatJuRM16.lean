/-
  A book as the document tells it.
-/
import Derived.Test.YtienbkdjkjbelaaGreatJuRM15
set_option maxHeartbeats 16000000
set_option maxRecDepth 100000
set_option linter.unusedSimpArgs false
set_option linter.unusedVariables false
section
namespace Go.Proofs.YtienbkdjkjbelaaGreat
open Go.RowKit Go.Sl
def J9(a b:Ord):Bool:=decide (a.item=b.item)&&(a.buy != b.buy)&&(if a.buy then decide (b.price<=a.price)else decide (a.price<=b.price))
def N9(o x z:Ord):Bool:=if o.buy then decide (x.price<z.price)else decide (z.price<x.price)
def ca4(o:Ord)(L:List Ord)(n:Nat):Option Nat->Bool
 | none=>true
 | some k=>N9 o (at' L n) (at' L k)
def r8(o:Ord)(L:List Ord):Nat->Option Nat
 | 0=>none
 | n+1=>
  if J9 o (at' L n)&&ca4 o L n (r8 o L n)then some n else r8 o L n
def E8(o x:Ord):Trd:=if o.buy then⟨o.who,x.who,o.id,x.id,o.item,K7 o.cnt x.cnt,x.price,o.price⟩else⟨x.who,o.who,x.id,o.id,o.item,K7 o.cnt x.cnt,x.price,x.price⟩
def aS4(L:List Ord)(k:Nat)(c:Int):List Ord:=if c=0 then L.eraseIdx k else L.set k { at' L k with cnt:=c }
def r6:Nat->Ord->List Ord->List Trd->Ord×List Ord×List Trd
 | 0,o,L,ts=>(o,L,ts)
 | f+1,o,L,ts=>
  if 0<o.cnt then
   match r8 o L L.length with
   | none=>(o,L,ts)
   | some k=>r6 f { o with cnt:=o.cnt-K7 o.cnt (at' L k).cnt } (aS4 L k ((at' L k).cnt-K7 o.cnt (at' L k).cnt)) (ts++[E8 o (at' L k)])
  else(o,L,ts)
structure PlacedR where
 trades:List Trd
 left:Int
 errno:Int
 L:List Ord
 last:Int
def D6(L:List Ord)(last:Int)(o:Ord):PlacedR:=
 if H5 o=false\/o.id<=last then⟨[],0,1,L,last⟩
 else if 32<=L.length then⟨[],0,6,L,last⟩
 else
  let r:=r6 (L.length+1) o L []
  ⟨r.2.2,r.1.cnt,0,if 0<r.1.cnt then r.2.1++[r.1]else r.2.1,o.id⟩
structure CancelledR where
 o:Ord
 errno:Int
 L:List Ord
def p9(L:List Ord)(id:Int):CancelledR:=
 match L.findIdx? (fun o=>o.id==id)with
 | none=>⟨o0,7,L⟩
 | some i=>⟨at' L i,0,L.eraseIdx i⟩
theorem Ev7{o:Ord}{L:List Ord}:∀{n:Nat},r8 o L n=none->∀i,i<n->J9 o (at' L i)=false
 | 0,_,i,hi=>absurd hi (Nat.not_lt_zero _)
 | n+1,h,i,hi=>by
  rw[r8]at h;split at h
  ·cases h
  ·rename_i hc
   by_cases hin:i=n
   ·subst hin;rw[h]at hc;simpa[ca4]using hc
   ·exact Ev7 h i (by omega)
theorem AC7{o:Ord}{L:List Ord}:∀{n k:Nat},r8 o L n=some k->k<n/\J9 o (at' L k)=true/\∀i,i<n->J9 o (at' L i)=true->N9 o (at' L i) (at' L k)=false/\(i<k->N9 o (at' L k) (at' L i)=true)
 | 0,k,h=>by cases h
 | n+1,k,h=>by
  rw[r8]at h;split at h
  ·rename_i hc
   cases h
   simp only[jB]at hc;refine⟨Nat.lt_succ_self _,hc.1,fun i hi hm=>?_⟩;by_cases hin:i=n
   ·subst hin;refine⟨?_,fun h=>absurd h (Nat.lt_irrefl _)⟩;unfold N9;split <;> simp
   ·have hin':i<n:=by omega
    cases hb:r8 o L n with
    | none=>rw[Ev7 hb i hin']at hm;cases hm
    | some k'=>
     rw[hb]at hc;obtain⟨_,_,h3⟩:=AC7 hb;have h4:=(h3 i hin' hm).1;have h5:N9 o (at' L n) (at' L k')=true:=hc.2;unfold N9 at *;split at h5
     ·rename_i ho
      rw[if_pos ho]at h4 ⊢;rw[if_pos ho];simp only[decide_eq_true_eq,decide_eq_false_iff_not]at *;exact⟨by omega,fun _=>by omega⟩
     ·rename_i ho
      rw[if_neg ho]at h4 ⊢;rw[if_neg ho];simp only[decide_eq_true_eq,decide_eq_false_iff_not]at *;exact⟨by omega,fun _=>by omega⟩
  ·rename_i hc
   obtain⟨h1,h2,h3⟩:=AC7 h;refine⟨by omega,h2,fun i hi hm=>?_⟩;by_cases hin:i=n
   ·subst hin;refine⟨?_,fun h=>by omega⟩;rw[h,hm]at hc;simpa[ca4]using hc
   ·exact h3 i (by omega) hm
theorem JR7(o x z:Ord):N9 o x z=decide (ky (!o.buy) x<ky (!o.buy) z):=by
 unfold N9 ky
 cases o.buy <;> simp
abbrev aY4(L:List Ord):Prop:=L.Pairwise fun x z=>x.id<z.id
theorem aY4.lt{L:List Ord}(h:aY4 L){i j:Nat}(hj:j<L.length)(hij:i<j):(at' L i).id<(at' L j).id:=by rw[l7 hj,l7 (show i<L.length by omega)];exact List.pairwise_iff_getElem.1 h i j (by omega) hj hij
theorem aY4.inj{L:List Ord}(h:aY4 L){i j:Nat}(hi:i<L.length)(hj:j<L.length)(he:(at' L i).id=(at' L j).id):i=j:=by
 rcases Nat.lt_trichotomy i j with h1|h1|h1
 ·have:=h.lt hj h1;omega
 ·exact h1
 ·have:=h.lt hi h1;omega
theorem bQ4{L:List Ord}{x:Ord}(hx:x∈L):∃i,i<L.length/\at' L i=x:=by obtain⟨i,hi,rfl⟩:=List.mem_iff_getElem.1 hx;exact⟨i,hi,l7 hi⟩
theorem H9{L:List Ord}{i:Nat}(hi:i<L.length):at' L i∈L:=by rw[l7 hi];exact jW hi
theorem aY4.eq{L:List Ord}(h:aY4 L){x z:Ord}(hx:x∈L)(hz:z∈L)(he:x.id=z.id):x=z:=by obtain⟨i,hi,rfl⟩:=bQ4 hx;obtain⟨j,hj,rfl⟩:=bQ4 hz;rw[h.inj hi hj he]
theorem GC7:∀{l L:List Ord},l.Perm L->l.Pairwise (fun x z=>x.id<=z.id)->aY4 L->l=L
 | [],L,hp,_,_=>(List.nil_perm.1 hp).symm
 | a::l,[],hp,_,_=>by simp at hp
 | a::l,b::L,hp,h1,h2=>by
  have ha:a∈b::L:=hp.mem_iff.1 (List.mem_cons_self ..);have hb:b∈a::l:=hp.mem_iff.2 (List.mem_cons_self ..)
  have hab:a=b:=by
   rcases List.mem_cons.1 ha with h|h
   ·exact h
   ·rcases List.mem_cons.1 hb with h'|h'
    ·exact h'.symm
    ·have e1:=(List.pairwise_cons.1 h2).1 a h;have e2:=(List.pairwise_cons.1 h1).1 b h';omega
  subst hab;rw[GC7 hp.cons_inv (List.pairwise_cons.1 h1).2 (List.pairwise_cons.1 h2).2]
theorem Ik7(L:List Ord){k:Nat}(hk:k<L.length):(at' L k::L.eraseIdx k).Perm L:=by rw[l7 hk];exact Bs7 L k hk
theorem Ol7(L:List Ord){k:Nat}(hk:k<L.length)(x:Ord):(x::L.eraseIdx k).Perm (L.set k x):=by have h:=Bs7 (L.set k x) k (by simpa using hk);rw[List.getElem_set_self,List.eraseIdx_set_eq]at h;exact h
theorem aY4.erase{L:List Ord}(h:aY4 L)(k:Nat):aY4 (L.eraseIdx k):=List.Pairwise.sublist (List.eraseIdx_sublist L k) h
theorem aY4.set{L:List Ord}(h:aY4 L){k:Nat}(hk:k<L.length)(c:Int):aY4 (L.set k { at' L k with cnt:=c }):=by
 have e:∀i (hi:i<L.length),((L.set k { at' L k with cnt:=c })[i]'(by simpa using hi)).id=(at' L i).id:=by
  intro i hi;rw[List.getElem_set];split
  ·rename_i he;subst he;rfl
  ·rw[l7 hi]
 rw[aY4,List.pairwise_iff_getElem];intro i j hi hj hij;rw[List.length_set]at hi hj;rw[e i hi,e j hj];exact h.lt hj hij
structure Sim(o:Ord)(q rest L:List Ord):Prop where
 perm:L.Perm (q++rest)
 heap:Heap (!o.buy) q
 item:∀x∈q,x.item=o.item
 far:∀x∈rest,J9 o x=false
 byId:aY4 L
theorem GD7{o x:Ord}(hi:x.item=o.item)(hb:x.buy=!o.buy):J9 o x=ab4 o x:=by
 unfold J9 ab4;rw[hi,hb]
 cases o.buy <;> simp
theorem IS7{o x:Ord}(hb:x.buy=!o.buy):E8 o x=M7 o x:=by
 unfold E8 M7;rw[hb]
 cases o.buy <;> simp
theorem Sim.best_no{o:Ord}{x:Ord}{q rest L:List Ord}(h:Sim o (x::q) rest L)(hm:ab4 o x=false):r8 o L L.length=none:=by
 cases hb:r8 o L L.length with
 | none=>rfl
 | some k=>
  obtain⟨hk,hmk,_⟩:=AC7 hb;have hmem:=h.perm.mem_iff.1 (H9 hk)
  rcases List.mem_append.1 hmem with hq|hr
  ·have hle:=h.heap.top _ hq;have hs:=h.heap.side _ hq;have hs0:=h.heap.side x (List.mem_cons_self ..);rw[GD7 (h.item _ hq) hs]at hmk;unfold leK ky at hle;unfold ab4 at hm hmk;rw[hs]at hmk;rw[hs0]at hm
   cases ho:o.buy <;> simp[ho]at hm hmk hle <;> omega
  ·rw[h.far _ hr]at hmk;cases hmk
theorem Sim.best_nil{o:Ord}{rest L:List Ord}(h:Sim o [] rest L):r8 o L L.length=none:=by
 cases hb:r8 o L L.length with
 | none=>rfl
 | some k=>
  obtain⟨hk,hmk,_⟩:=AC7 hb;rw[h.far _ (h.perm.mem_iff.1 (H9 hk))]at hmk
  cases hmk
theorem Sim.best_yes{o:Ord}{x:Ord}{q rest L:List Ord}(h:Sim o (x::q) rest L)(hm:ab4 o x=true):∃k,r8 o L L.length=some k/\k<L.length/\at' L k=x:=by
 have hs0:=h.heap.side x (List.mem_cons_self ..);have hx:x∈L:=h.perm.mem_iff.2 (by simp);obtain⟨i,hi,hix⟩:=bQ4 hx;have hmi:J9 o (at' L i)=true:=by rw[hix,GD7 (h.item x (List.mem_cons_self ..)) hs0];exact hm
 cases hb:r8 o L L.length with
 | none=>rw[Ev7 hb i hi]at hmi;cases hmi
 | some k=>
  obtain⟨hk,hmk,hall⟩:=AC7 hb;refine⟨k,rfl,hk,?_⟩;have hmem:=h.perm.mem_iff.1 (H9 hk)
  rcases List.mem_append.1 hmem with hq|hr
  ·have hle:=h.heap.top _ hq;obtain⟨h1,h2⟩:=hall i hi hmi;rw[JR7,hix]at h1 h2;simp only[decide_eq_false_iff_not,decide_eq_true_eq]at h1 h2;unfold leK at hle
   rcases Nat.lt_trichotomy i k with h3|h3|h3
   ·have:=h2 h3;omega
   ·rw[<-h3];exact hix
   ·have:=h.byId.lt hi h3;rw[hix]at this;omega
  ·rw[h.far _ hr]at hmk;cases hmk
theorem CU7{a b:Int}(ha:0<a)(hb:0<b):0<K7 a b/\K7 a b<=a/\K7 a b<=b:=by unfold K7;split <;> omega
theorem Sim.step{o:Ord}{x:Ord}{q rest L:List Ord}(h:Sim o (x::q) rest L){k:Nat}(hk:k<L.length)(hx:at' L k=x)(c c':Int):
  Sim { o with cnt:=c' } (if c=0 then aQ4 ({ x with cnt:=c }::q)else{ x with cnt:=c }::q) rest (aS4 L k c):=by
 have hc:=h.heap.cnt c;have hp:=Ch7 { x with cnt:=c } q;have h1:=(Ik7 L hk).symm;rw[hx]at h1;have h2:(L.eraseIdx k).Perm (q++rest):=(h1.symm.trans h.perm).cons_inv;unfold aS4;by_cases hz:c=0
 ·rw[if_pos hz,if_pos hz];refine⟨h2.trans (hp.symm.append_right rest),hc.pop,fun z hz'=>h.item z (List.mem_cons_of_mem _ (hp.mem_iff.1 hz')),h.far,h.byId.erase k⟩
 ·rw[if_neg hz,if_neg hz,hx];refine⟨(Ol7 L hk _).symm.trans (h2.cons _),hc,?_,h.far,?_⟩
  ·intro z hz'
   rcases List.mem_cons.1 hz' with rfl|hz'
   ·exact h.item x (List.mem_cons_self ..)
   ·exact h.item z (List.mem_cons_of_mem _ hz')
  ·have:=h.byId.set hk c;rw[hx]at this;exact this
theorem DA7(o x:Ord):(M7 o x).cnt=K7 o.cnt x.cnt:=by unfold M7;split <;> rfl
theorem sim:∀(f:Nat) (o:Ord) (q rest L:List Ord) (ts:List Trd),Sim o q rest L->
  ∃L',r6 f o L ts=((H7 f o q ts).1,L',(H7 f o q ts).2.2)/\Sim (H7 f o q ts).1 (H7 f o q ts).2.1 rest L'
 | 0,o,q,rest,L,ts,h=>⟨L,rfl,h⟩
 | f+1,o,[],rest,L,ts,h=>by refine⟨L,?_,h⟩;rw[r6,h.best_nil];simp only[ite_self];rfl
 | f+1,o,x::q,rest,L,ts,h=>by
  rw[r6,H7];by_cases h0:0<o.cnt
  ·rw[if_pos h0]
   cases hm:ab4 o x
   ·rw[h.best_no hm,if_neg (by rintro⟨_,h⟩;cases h)];exact⟨L,rfl,h⟩
   ·obtain⟨k,hb,hk,hx⟩:=h.best_yes hm;rw[hb,if_pos ⟨h0,rfl⟩];simp only;rw[hx,DA7,IS7 (h.heap.side x (List.mem_cons_self ..))];exact sim f _ _ rest _ _ (h.step hk hx _ _)
  ·rw[if_neg h0,if_neg (fun h=>h0 h.1)];exact⟨L,rfl,h⟩
theorem GE7:∀(f f':Nat) (o:Ord) (q:List Ord) (ts:List Trd),(∀x∈q,0<x.cnt)->(q.length<f/\q.length<f')\/(o.cnt<=0/\0<f/\0<f')->H7 f o q ts=H7 f' o q ts
 | 0,_,_,_,_,_,h=>by omega
 | _+1,0,_,_,_,_,h=>by omega
 | f+1,f'+1,o,[],ts,_,h=>rfl
 | f+1,f'+1,o,x::q,ts,hc,h=>by
  rw[H7,H7];by_cases hcond:0<o.cnt/\ab4 o x=true
  ·rw[if_pos hcond,if_pos hcond];have hx:=hc x (List.mem_cons_self ..);have hmin:=CU7 hcond.1 hx;have hl:(x::q).length<f+1/\(x::q).length<f'+1:=by omega
   simp only[jC]at hl;rw[DA7];refine GE7 f f' _ _ _ ?_ ?_
   ·intro z hz;split at hz
    ·exact hc z (List.mem_cons_of_mem _ ((Ch7 _ _).mem_iff.1 hz))
    ·rename_i hne
     rcases List.mem_cons.1 hz with rfl|hz
     ·simp only;omega
     ·exact hc z (List.mem_cons_of_mem _ hz)
   ·by_cases hz:x.cnt-K7 o.cnt x.cnt=0
    ·left
     rw[if_pos hz,Bt7];simp only[jC];omega
    ·right
     refine⟨?_,by omega,by omega⟩;simp only;unfold K7 at hz ⊢;split at hz <;> split <;> omega
  ·rw[if_neg hcond,if_neg hcond]
structure Rep(b:Bk)(L:List Ord):Prop where
 ok:BkOk b
 perm:L.Perm b.ps.flatten
 byId:aY4 L
 heap:∀k,k<8->Heap (decide (k<4)) (b.pile k)
 item:∀k,k<8->∀x∈b.pile k,x.item=((k%4:Nat):Int)
 each:∀x∈L,MayP x/\x.id<=b.last
theorem dD4(k:Nat):bk0.pile k=[]:=by
 unfold Bk.pile bk0
 match k with
 | 0=>rfl
 | 1=>rfl
 | 2=>rfl
 | 3=>rfl
 | 4=>rfl
 | 5=>rfl
 | 6=>rfl
 | 7=>rfl
 | k+8=>rfl
theorem eq4:Rep bk0 []:=
 ⟨Ok7,.refl _,.nil,fun k _=>(by rw[dD4];exact Heap.nil _),fun k _ x hx=>(by rw[dD4]at hx;cases hx),fun x hx=>(by cases hx)⟩
theorem BC7(b:Bk)(h:b.ps.length=8):b.len=b.ps.flatten.length:=by
 obtain⟨ps,last⟩:=b
 match ps,h with
 | [p0,p1,p2,p3,p4,p5,p6,p7],_=>
  simp[Bk.len,s6,aP4];omega
theorem Il7(ps:List (List Ord))(h:ps.length=8):(ae4 ps 8).Perm ps.flatten:=by
 have hp:aP4.Perm (List.range 8):=by decide
 have h1:(ae4 ps 8).Perm ((List.range 8).flatMap fun o=>ps.getD o []):=hp.flatMap_right _
 match ps,h with
 | [p0,p1,p2,p3,p4,p5,p6,p7],_=>exact h1
theorem Cq7(ps:List (List Ord))(h:ps.length=8)(k j:Nat)(hk:k<8)(q:List Ord)(m m':Int):(Bk.mk (ps.set k q) m).pile j=if j=k then q else(Bk.mk ps m').pile j:=by
 unfold Bk.pile;simp only[List.getD_eq_getElem?_getD,List.getElem?_set];by_cases hj:k=j
 ·subst hj;simp[h,hk]
 ·rw[if_neg hj,if_neg (fun h=>hj h.symm)]
theorem Eb7(b:Bk)(h:b.ps.length=8)(k:Nat)(hk:k<8):b.ps[k]'(by omega)=b.pile k:=by unfold Bk.pile;simp[List.getD_eq_getElem?_getD,jG (show k<b.ps.length by omega)]
def bS4(b:Bk)(k:Nat):List Ord:=(b.ps.eraseIdx k).flatten
theorem Ew7(b:Bk)(h:b.ps.length=8)(k:Nat)(hk:k<8):b.ps.flatten.Perm (b.pile k++bS4 b k):=by have:=(Bs7 b.ps k (by omega)).symm.flatten;rw[Eb7 b h k hk]at this;exact this
theorem Ex7(ps:List (List Ord))(h:ps.length=8)(k:Nat)(hk:k<8)(q:List Ord):(ps.set k q).flatten.Perm (q++(ps.eraseIdx k).flatten):=by have:=(Bs7 (ps.set k q) k (by simp;omega)).symm.flatten;rw[List.getElem_set_self,List.eraseIdx_set_eq]at this;exact this
theorem IT7(ps:List (List Ord))(h:ps.length=8)(j:Nat)(hj:j<8)(o:Ord):(ps.set j (N7 (ps.getD j []) o)).flatten.Perm (o::ps.flatten):=by have h1:=Ex7 ps h j hj (N7 (ps.getD j []) o);have h2:=Ew7 ⟨ps,0⟩ h j hj;exact(h1.trans ((Dy7 _ _).append_right _)).trans (h2.symm.cons o)
theorem LP7{b:Bk}(h:b.ps.length=8){k:Nat}{z:Ord}(hz:z∈bS4 b k):∃j,j<8/\j≠k/\z∈b.pile j:=by obtain⟨p,hp,hzp⟩:=List.mem_flatten.1 hz;obtain⟨j,hj,hjk,rfl⟩:=List.mem_eraseIdx_iff_getElem.1 hp;exact⟨j,by omega,hjk,by rw[<-Eb7 b h j (by omega)];exact hzp⟩
theorem Rep.far{b:Bk}{L:List Ord}(h:Rep b L){o:Ord}{it:Nat}(hit:o.item=it)(h4:it<4):∀x∈bS4 b (l8 it (!o.buy)),J9 o x=false:=by
 intro x hx;obtain⟨j,hj,hjk,hxj⟩:=LP7 h.ok.n8 hx;have h1:=h.item j hj x hxj;have h2:=(h.heap j hj).side x hxj
 cases hm:J9 o x with
 | false=>rfl
 | true=>
  exfalso
  apply hjk;unfold J9 at hm;simp only[jB,decide_eq_true_eq,bne_iff_ne,ne_eq]at hm;obtain⟨⟨h3,h5⟩,_⟩:=hm;rw[hit,h1]at h3;rw[h2]at h5;have h6:it=j%4:=by omega
  unfold l8
  cases ho:o.buy
  ·rw[ho]at h5
   have:j<4:=by
    by_cases h:j<4
    ·exact h
    ·simp[h]at h5
   simp only[Bool.not_false,cond_true];omega
  ·rw[ho]at h5;have:¬j<4:=by intro h;simp[h]at h5
   simp only[Bool.not_true,cond_false];omega
theorem CV7(it:Nat)(y:Bool)(h:it<4):decide (l8 it y<4)=y:=by unfold l8;cases y <;> simp;exact h
theorem Ey7(it:Nat)(y:Bool)(h:it<4):l8 it y%4=it:=by unfold l8;cases y <;> simp <;> omega
theorem Rep.sim{b:Bk}{L:List Ord}(h:Rep b L){o:Ord}{it:Nat}(hit:o.item=it)(h4:it<4):Sim o (b.pile (l8 it (!o.buy))) (bS4 b (l8 it (!o.buy))) L:=by
 have hk:=AR7 it (!o.buy) h4;refine⟨h.perm.trans (Ew7 b h.ok.n8 _ hk),?_,?_,h.far hit h4,h.byId⟩
 ·have:=h.heap _ hk;rw[CV7 it _ h4]at this;exact this
 ·intro x hx;rw[h.item _ hk x hx,Ey7 it _ h4,hit]
theorem MS7:∀(f:Nat) (o:Ord) (q:List Ord) (ts:List Trd),(∀x∈q,0<x.cnt)->0<=o.cnt->(H7 f o q ts).1={ o with cnt:=(H7 f o q ts).1.cnt }/\0<=(H7 f o q ts).1.cnt/\(H7 f o q ts).1.cnt<=o.cnt
 | 0,o,q,ts,_,h=>⟨rfl,h,Int.le_refl _⟩
 | f+1,o,[],ts,_,h=>⟨rfl,h,Int.le_refl _⟩
 | f+1,o,x::q,ts,hq,h=>by
  rw[H7];by_cases hc:0<o.cnt/\ab4 o x=true
  ·rw[if_pos hc];have hx:=hq x (List.mem_cons_self ..);have hmin:=CU7 hc.1 hx;rw[DA7]
   obtain⟨h1,h2,h3⟩:=MS7 f { o with cnt:=o.cnt-K7 o.cnt x.cnt } (if x.cnt-K7 o.cnt x.cnt=0 then aQ4 ({ x with cnt:=x.cnt-K7 o.cnt x.cnt }::q)else{ x with cnt:=x.cnt-K7 o.cnt x.cnt }::q) (ts++[M7 o x]) (fun z hz=>by
    split at hz
    ·exact hq z (List.mem_cons_of_mem _ ((Ch7 _ _).mem_iff.1 hz))
    ·rename_i hne
     rcases List.mem_cons.1 hz with rfl|hz
     ·simp only;omega
     ·exact hq z (List.mem_cons_of_mem _ hz)) (by simp only;omega)
   exact⟨h1,h2,by simp only at h3;omega⟩
  ·rw[if_neg hc];exact⟨rfl,h,Int.le_refl _⟩
theorem Im7(P:Ord->Prop)(hP:∀x c,P x->1<=c->c<=x.cnt->P { x with cnt:=c })(h1:∀x,P x->1<=x.cnt):∀(f:Nat) (o:Ord) (L:List Ord) (ts:List Trd),(∀x∈L,P x)->(∀x∈(r6 f o L ts).2.1,P x)/\(r6 f o L ts).2.1.length<=L.length
 | 0,o,L,ts,h=>⟨h,Nat.le_refl _⟩
 | f+1,o,L,ts,h=>by
  rw[r6];by_cases h0:0<o.cnt
  ·rw[if_pos h0]
   cases hb:r8 o L L.length with
   | none=>exact⟨h,Nat.le_refl _⟩
   | some k=>
    obtain⟨hk,_,_⟩:=AC7 hb;have hx:=h _ (H9 hk);have hmin:=CU7 h0 (h1 _ hx)
    have hcut:∀x∈aS4 L k ((at' L k).cnt-K7 o.cnt (at' L k).cnt),P x:=by
     unfold aS4;split
     ·exact fun x hx=>h x (List.mem_of_mem_eraseIdx hx)
     ·intro x hxm
      rcases List.mem_or_eq_of_mem_set hxm with hx'|rfl
      ·exact h x hx'
      ·exact hP _ _ hx (by omega) (by omega)
    have hlen:(aS4 L k ((at' L k).cnt-K7 o.cnt (at' L k).cnt)).length<=L.length:=by
     unfold aS4;split
     ·rw[List.length_eraseIdx];split <;> omega
     ·rw[List.length_set];exact Nat.le_refl _
    obtain⟨h2,h3⟩:=Im7 P hP h1 f { o with cnt:=o.cnt-K7 o.cnt (at' L k).cnt } (aS4 L k ((at' L k).cnt-K7 o.cnt (at' L k).cnt)) (ts++[E8 o (at' L k)]) hcut;exact⟨h2,Nat.le_trans h3 hlen⟩
  ·rw[if_neg h0];exact⟨h,Nat.le_refl _⟩
theorem Ez7{x:Ord}{c:Int}(h:MayP x)(h1:1<=c)(h2:c<=x.cnt):MayP { x with cnt:=c }:=⟨h.id0,h.id1,h.who0,h.who1,h.item0,h.item1,h1,Int.le_trans h2 h.cnt1,h.price0,h.price1⟩
theorem EA7{b:Bk}{L:List Ord}(h:Rep b L)(o:Ord):
  (B9 b o).trades=(D6 L b.last o).trades/\(B9 b o).left=(D6 L b.last o).left/\(B9 b o).errno=(D6 L b.last o).errno/\(B9 b o).book.last=(D6 L b.last o).last/\Rep (B9 b o).book (D6 L b.last o).L:=by
 have hlen:b.len=L.length:=by rw[BC7 b h.ok.n8,h.perm.length_eq]
 unfold B9 D6;by_cases hbad:H5 o=false\/o.id<=b.last
 ·rw[if_pos hbad,if_pos hbad];exact⟨rfl,rfl,rfl,rfl,h⟩
 ·rw[if_neg hbad,if_neg hbad,hlen];by_cases hf:32<=L.length
  ·rw[if_pos hf,if_pos hf];exact⟨rfl,rfl,rfl,rfl,h⟩
  ·rw[if_neg hf,if_neg hf]
   have hmay:MayP o:=Aq7.1 (by
    cases hm:H5 o with
    | true=>rfl
    | false=>exact absurd (Or.inl hm) hbad)
   have hid:b.last<o.id:=by
    by_cases hle:o.id<=b.last
    ·exact absurd (Or.inr hle) hbad
    ·omega
   obtain⟨it,hit⟩:∃it:Nat,o.item=it:=⟨o.item.toNat,by have:=hmay.item0;omega⟩
   have h4:it<4:=by have:=hmay.item1;omega
   have hik:aA4 o=it:=by unfold aA4;rw[hit];rfl
   dsimp only;rw[hik];have hk:=AR7 it (!o.buy) h4;have hj:=AR7 it o.buy h4;have hne:=If7 it o.buy h4;have hsim:=h.sim hit h4;have hq:∀x∈b.pile (l8 it (!o.buy)),0<x.cnt:=fun x hx=>by have:=(h.each x (hsim.perm.mem_iff.2 (List.mem_append_left _ hx))).1.cnt0;omega
   have hlq:(b.pile (l8 it (!o.buy))).length<=L.length:=by rw[<-hlen];exact Dz7 b _ hk
   rw[GE7 ((b.pile (l8 it (!o.buy))).length+1) (L.length+1) o _ [] hq (.inl ⟨by omega,by omega⟩)];obtain⟨L',hr,hs⟩:=sim (L.length+1) o _ _ _ [] hsim;obtain⟨ho1,ho2,ho3⟩:=MS7 (L.length+1) o (b.pile (l8 it (!o.buy))) [] hq (by have:=hmay.cnt0;omega);obtain⟨hkeep,hlk⟩:=Im7 (fun x=>MayP x/\x.id<=b.last) (fun x c hx h1 h2=>⟨Ez7 hx.1 h1 h2,hx.2⟩) (fun x hx=>hx.1.cnt0) (L.length+1) o L [] h.each;rw[hr]at hkeep hlk ⊢;generalize H7 (L.length+1) o (b.pile (l8 it (!o.buy))) []=r at hs ho1 ho2 ho3 hr hkeep hlk ⊢;obtain⟨o',q',ts⟩:=r;simp only at hs ho1 ho2 ho3 hkeep hlk ⊢;have hob:o'.buy=o.buy:=by rw[ho1]
   have hoi:o'.item=it:=by rw[ho1];exact hit
   have hoid:o'.id=o.id:=by rw[ho1]
   have hn8:=h.ok.n8;have hps:(b.ps.set (l8 it (!o.buy)) q').length=8:=by simpa using hn8
   refine⟨by trivial,by trivial,by trivial,by trivial,?_⟩;have hpermS:L'.Perm (b.ps.set (l8 it (!o.buy)) q').flatten:=hs.perm.trans (Ex7 b.ps hn8 _ hk q').symm
   have hheap1:∀j,j<8->Heap (decide (j<4)) ((Bk.mk (b.ps.set (l8 it (!o.buy)) q') o.id).pile j):=by
    intro j hj;rw[Cq7 b.ps hn8 _ j hk q' o.id b.last];split
    ·rename_i he
     rw[he,CV7 it _ h4];have:=hs.heap;rw[hob]at this;exact this
    ·exact h.heap j hj
   have hitem1:∀j,j<8->∀x∈(Bk.mk (b.ps.set (l8 it (!o.buy)) q') o.id).pile j,x.item=((j%4:Nat):Int):=by
    intro j hj x hx;rw[Cq7 b.ps hn8 _ j hk q' o.id b.last]at hx;split at hx
    ·rename_i he
     rw[he,Ey7 it _ h4,hs.item x hx,hoi]
    ·exact h.item j hj x hx
   have hid1:=hmay.id1;have hlast:=h.ok.last0;by_cases hc:0<o'.cnt
   ·rw[if_pos hc,if_pos hc];have hmo:MayP o':=by rw[ho1];exact Ez7 hmay (by omega) ho3
    have hperm:(L'++[o']).Perm ((b.ps.set (l8 it (!o.buy)) q').set (l8 it o.buy) (N7 ((b.ps.set (l8 it (!o.buy)) q').getD (l8 it o.buy) []) o')).flatten:=
     ((List.perm_append_singleton o' L').trans (hpermS.cons o')).trans (IT7 _ hps _ hj o').symm
    have heach:∀x∈L'++[o'],MayP x/\x.id<=o.id:=by
     intro x hx
     rcases List.mem_append.1 hx with hx|hx
     ·have:=hkeep x hx;exact⟨this.1,by omega⟩
     ·rw[List.mem_singleton.1 hx];exact⟨hmo,by omega⟩
    refine⟨⟨by simp[hn8],?_,?_,by simp only;omega,hid1⟩,hperm,?_,?_,?_,heach⟩
    ·rw[BC7 _ (by simp[hn8]),<-hperm.length_eq,jA];simp only[jC,List.length_nil];omega
    ·intro p hp x hx;have hxm:x∈L'++[o']:=hperm.mem_iff.2 (List.mem_flatten.2 ⟨p,hp,hx⟩);have:=(heach x hxm).1;exact⟨this.cnt0,this.cnt1⟩
    ·refine List.pairwise_append.2 ⟨hs.byId,List.pairwise_singleton _ _,?_⟩;intro x hx z hz;rw[List.mem_singleton.1 hz,hoid];have:=(hkeep x hx).2;omega
    ·intro j hj8;rw[Cq7 _ hps _ j hj _ o.id o.id];split
     ·rename_i he
      rw[he,CV7 it _ h4];have:=hheap1 _ hj;rw[CV7 it _ h4]at this;exact this.push hob
     ·exact hheap1 j hj8
    ·intro j hj8 x hx;rw[Cq7 _ hps _ j hj _ o.id o.id]at hx;split at hx
     ·rename_i he
      rcases List.mem_cons.1 ((Dy7 _ _).mem_iff.1 hx)with rfl|hx
      ·rw[he,Ey7 it _ h4,hoi]
      ·rw[he];exact hitem1 _ hj x hx
     ·exact hitem1 j hj8 x hx
   ·rw[if_neg hc,if_neg hc];have heach:∀x∈L',MayP x/\x.id<=o.id:=fun x hx=>by have:=hkeep x hx;exact⟨this.1,by omega⟩
    refine⟨⟨hps,?_,?_,by simp only;omega,hid1⟩,hpermS,hs.byId,hheap1,hitem1,heach⟩
    ·rw[BC7 _ hps,<-hpermS.length_eq];omega
    ·intro p hp x hx;have hxm:x∈L':=hpermS.mem_iff.2 (List.mem_flatten.2 ⟨p,hp,hx⟩);have:=(heach x hxm).1;exact⟨this.cnt0,this.cnt1⟩
theorem Fg7:∀{ps:List (List Ord)} {id:Int} {ks:List Nat} {k i:Nat},O8 ps id ks=some (k,i)->k∈ks/\i<(ps.getD k []).length/\((ps.getD k []).getD i o0).id=id
 | _,_,[],_,_,h=>by cases h
 | ps,id,k'::ks,k,i,h=>by
  by_cases hx:aR4 id (ps.getD k' [])<0
  ·rw[Es7 hx]at h;obtain⟨h1,h2,h3⟩:=Fg7 h;exact⟨List.mem_cons_of_mem _ h1,h2,h3⟩
  ·obtain⟨j,hj⟩:∃j:Nat,aR4 id (ps.getD k' [])=j:=⟨(aR4 id (ps.getD k' [])).toNat,by omega⟩
   obtain⟨h1,h2,h3⟩:=Et7 (ks:=ks) hj;rw[h1]at h
   cases h
   exact⟨List.mem_cons_self ..,h2,h3⟩
theorem EB7:∀{ps:List (List Ord)} {id:Int} {ks:List Nat},O8 ps id ks=none->∀k∈ks, ∀x∈ps.getD k [],x.id≠id
 | _,_,[],_,k,hk=>by cases hk
 | ps,id,k'::ks,h,k,hk=>by
  rw[O8]at h
  cases hf:(ps.getD k' []).findIdx? (fun o=>o.id==id)with
  | some i=>rw[hf]at h;cases h
  | none=>
   rw[hf]at h
   rcases List.mem_cons.1 hk with rfl|hk
   ·intro x hx;simpa using List.findIdx?_eq_none_iff.1 hf x hx
   ·exact EB7 h k hk
theorem IU7{b:Bk}{L:List Ord}(h:Rep b L)(id:Int):
  (M6 b id).o=(p9 L id).o/\(M6 b id).errno=(p9 L id).errno/\(M6 b id).book.last=b.last/\Rep (M6 b id).book (p9 L id).L:=by
 have hn8:=h.ok.n8;unfold M6 p9
 cases hf:O8 b.ps id aP4 with
 | none=>
  have hno:∀x∈L,x.id≠id:=by intro x hx;have hx':=(Il7 b.ps hn8).mem_iff.2 (h.perm.mem_iff.1 hx);obtain⟨o,ho,hxo⟩:=List.mem_flatMap.1 hx';exact EB7 hf o (List.mem_of_mem_take ho) x hxo
  rw[List.findIdx?_eq_none_iff.2 (fun x hx=>by simpa using hno x hx)];exact⟨rfl,rfl,rfl,h⟩
 | some p=>
  obtain⟨k,i⟩:=p;obtain⟨hkm,hil,hid⟩:=Fg7 hf
  have hk8:k<8:=by
   have:∀o∈aP4,o<8:=by decide
   exact this k hkm
  have hil':i<(b.pile k).length:=hil;have hsp:=Ew7 b hn8 k hk8;have hrem:=Gz7 (b.pile k) i hil';have hx:(b.pile k).getD i o0=(b.pile k)[i]:=by simp[List.getD_eq_getElem?_getD,jG hil']
  have hxid:((b.pile k)[i]).id=id:=by rw[<-hx];exact hid
  have hxL:(b.pile k)[i]∈L:=h.perm.mem_iff.2 (hsp.mem_iff.2 (List.mem_append_left _ (jW hil')))
  cases hg:L.findIdx? (fun o=>o.id==id)with
  | none=>
   have:=List.findIdx?_eq_none_iff.1 hg _ hxL;simp[hxid]at this
  | some m=>
   obtain⟨hm,hmx,_⟩:=List.findIdx?_eq_some_iff_getElem.1 hg;have hmid:(at' L m).id=id:=by rw[l7 hm];simpa using hmx
   have heq:(b.pile k)[i]=at' L m:=h.byId.eq hxL (H9 hm) (by rw[hxid,hmid]);dsimp only;rw[hx,heq];refine⟨rfl,rfl,rfl,?_⟩
   have hperm:(L.eraseIdx m).Perm (b.ps.set k (bh4 (b.pile k) i)).flatten:=by
    have h1:=(Ik7 L hm).trans (h.perm.trans hsp);have h2:(b.pile k++bS4 b k).Perm (at' L m::(bh4 (b.pile k) i++bS4 b k)):=by rw[<-heq];exact(hrem.symm.append_right (bS4 b k))
    exact(h1.trans h2).cons_inv.trans (Ex7 b.ps hn8 k hk8 _).symm
   have heach:∀x∈L.eraseIdx m,MayP x/\x.id<=b.last:=fun x hx=>h.each x (List.mem_of_mem_eraseIdx hx)
   have hps:(b.ps.set k (bh4 (b.pile k) i)).length=8:=by simpa using hn8
   refine⟨⟨hps,?_,?_,h.ok.last0,h.ok.last1⟩,hperm,h.byId.erase m,?_,?_,heach⟩
   ·rw[BC7 _ hps,<-hperm.length_eq,List.length_eraseIdx];have:=h.ok.few;rw[BC7 _ hn8,<-h.perm.length_eq]at this;split <;> omega
   ·intro p hp x hx;have:=(heach x (hperm.mem_iff.2 (List.mem_flatten.2 ⟨p,hp,hx⟩))).1;exact⟨this.cnt0,this.cnt1⟩
   ·intro j hj;rw[Cq7 b.ps hn8 k j hk8 _ b.last b.last];split
    ·rename_i he
     rw[he];exact(h.heap k hk8).rem hil'
    ·exact h.heap j hj
   ·intro j hj x hx;rw[Cq7 b.ps hn8 k j hk8 _ b.last b.last]at hx;split at hx
    ·rename_i he
     rw[he];exact h.item k hk8 x (hrem.mem_iff.1 (List.mem_cons_of_mem _ hx))
    ·exact h.item j hj x hx
structure TrOk(o x:Ord)(t:Trd):Prop where
 price:t.price=x.price
 buys:o.buy=true->t.sell=x.id/\t.bid=o.price/\x.price<=o.price
 sells:o.buy=false->t.buy=x.id/\t.bid=x.price/\o.price<=x.price
theorem JS7{o x:Ord}(hm:J9 o x=true):TrOk o x (E8 o x):=by
 unfold J9 at hm;simp only[jB,decide_eq_true_eq]at hm;obtain⟨_,h3⟩:=hm;unfold E8
 cases hb:o.buy
 ·rw[hb]at h3;simp only[Bool.false_eq_true,if_false,decide_eq_true_eq]at h3 ⊢;exact⟨rfl,fun h=>(by rw[hb]at h;cases h),fun _=>⟨rfl,rfl,h3⟩⟩
 ·rw[hb]at h3;simp only[if_true,decide_eq_true_eq]at h3 ⊢;exact⟨rfl,fun _=>⟨rfl,rfl,h3⟩,fun h=>(by rw[hb]at h;cases h)⟩
theorem Fh7:∀(f:Nat) (o:Ord) (L:List Ord) (ts:List Trd) (t:Trd),t∈(r6 f o L ts).2.2->t∈ts\/∃x∈L,TrOk o x t
 | 0,o,L,ts,t,h=>.inl h
 | f+1,o,L,ts,t,h=>by
  rw[r6]at h;by_cases h0:0<o.cnt
  ·rw[if_pos h0]at h
   cases hb:r8 o L L.length with
   | none=>rw[hb]at h;exact .inl h
   | some k=>
    rw[hb]at h;obtain⟨hk,hm,_⟩:=AC7 hb
    rcases Fh7 f _ _ _ t h with h|⟨x,hx,hok⟩
    ·rcases List.mem_append.1 h with h|h
     ·exact .inl h
     ·rw[List.mem_singleton.1 h];exact .inr ⟨_,H9 hk,JS7 hm⟩
    ·have hx':∃z∈L,z.id=x.id/\z.price=x.price:=by
      unfold aS4 at hx;split at hx
      ·exact⟨x,List.mem_of_mem_eraseIdx hx,rfl,rfl⟩
      ·rcases List.mem_or_eq_of_mem_set hx with hx|rfl
       ·exact⟨x,hx,rfl,rfl⟩
       ·exact⟨_,H9 hk,rfl,rfl⟩
     obtain⟨z,hz,e1,e2⟩:=hx';refine .inr ⟨z,hz,⟨by rw[e2];exact hok.price,fun hy=>?_,fun hy=>?_⟩⟩
     ·have:=hok.buys hy;rw[e1,e2];exact this
     ·have:=hok.sells hy;rw[e1,e2];exact this
  ·rw[if_neg h0]at h;exact .inl h
theorem GF7{b:Bk}{L:List Ord}(h:Rep b L)(o:Ord){t:Trd}(ht:t∈(B9 b o).trades):∃x∈L,TrOk o x t:=by
 rw[(EA7 h o).1]at ht;unfold D6 at ht;split at ht
 ·cases ht
 ·split at ht
  ·cases ht
  ·rcases Fh7 _ _ _ _ _ ht with h|h
   ·cases h
   ·exact h
def pTo(L:List Ord)(id:Int):Nat->Int
 | 0=>0
 | n+1=>if(at' L n).id=id then(at' L n).price else pTo L id n
theorem LQ7{b:Bk}{L l:List Ord}(h:Rep b L)(hp:l.Perm (ae4 b.ps 8))(hs:l.Pairwise fun x z=>x.id<=z.id):l=L:=
 GC7 ((hp.trans (Il7 b.ps h.ok.n8)).trans h.perm.symm) hs h.byId
theorem Np7(bb:Nat){b:Bk}{L:List Ord}(h:Rep b L)(W w:World)(Lr:List HP)(hS:St W (s9 bb b::Lr) w):
  Calls Tryz.prog 124 #[.P bb] w fun e w'=>∃a c,e=.returned (.slice a L.length c)/\St W (s9 bb b::j6 (.slice a L.length c) L::Lr) w':=by
 refine(JQ7 bb b h.ok.few W w Lr hS).mono ?_;rintro e w' ⟨v,l,rfl,hl,hsd,hS⟩;obtain rfl:=LQ7 h hl hsd;obtain⟨a,c,rfl⟩:=hS.drop.rowVal;exact⟨a,c,rfl,hS⟩
theorem LR7(bb:Nat){b:Bk}{L:List Ord}(h:Rep b L)(o:Ord)(W w:World)(Lr:List HP)(hS:St W (s9 bb b::Lr) w):
  Calls Tryz.prog 150 #[.P bb,.agg o.cells.toArray] w fun e w'=>∃b' ts a c,(ts=(D6 L b.last o).trades/\b'.last=(D6 L b.last o).last/\Rep b' (D6 L b.last o).L/\∀t∈ts, ∃x∈L,TrOk o x t) /\
   e=.returned (.tuple #[.slice a ts.length c,.I (D6 L b.last o).left,.I (D6 L b.last o).errno])/\St W (s9 bb b'::N8 (.slice a ts.length c) ts::Lr) w':=by
 obtain⟨h1,h2,h3,h4,h5⟩:=EA7 h o;refine(IO7 bb b o h.ok W w Lr hS).mono ?_;rintro e w' ⟨v,rfl,hS⟩;obtain⟨a,c,rfl⟩:=hS.drop.rowVal;refine⟨_,_,a,c,⟨h1,h4,h5,fun t ht=>GF7 h o ht⟩,?_,hS⟩;rw[h2,h3]
theorem JT7(bb:Nat){b:Bk}{L:List Ord}(h:Rep b L)(id:Int)(W w:World)(Lr:List HP)(hS:St W (s9 bb b::Lr) w):
  Calls Tryz.prog 154 #[.P bb,.I id] w fun e w'=>∃b',(b'.last=b.last/\Rep b' (p9 L id).L) /\
   e=.returned (.tuple #[.agg (p9 L id).o.cells.toArray,.I (p9 L id).errno])/\St W (s9 bb b'::Lr) w':=by
 obtain⟨h1,h2,h3,h4⟩:=IU7 h id;refine(Hs7 bb b id h.ok.few W w Lr hS).mono ?_;rintro e w' ⟨rfl,hS⟩;exact⟨_,⟨h3,h4⟩,by rw[h1,h2],hS⟩
end Go.Proofs.YtienbkdjkjbelaaGreat
end
