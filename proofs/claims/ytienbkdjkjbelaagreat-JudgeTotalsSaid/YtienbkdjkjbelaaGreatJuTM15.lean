/-
  A book and the row that the document tells.
-/
import Derived.Test.YtienbkdjkjbelaaGreatJuTM14
set_option maxHeartbeats 16000000
set_option maxRecDepth 100000
set_option linter.unusedSimpArgs false
set_option linter.unusedVariables false
section
namespace Go.Proofs.YtienbkdjkjbelaaGreat
open Go.RowKit Go.Sl
structure Rep(b:Bk)(L:List Ord):Prop where
 ok:BkOk b
 perm:L.Perm b.ps.flatten
 byId:bE4 L
 heap:∀k,k<8->Heap (decide (k<4)) (b.pile k)
 item:∀k,k<8->∀x∈b.pile k,x.item=((k%4:Nat):Int)
 each:∀x∈L,MayP x/\x.id<=b.last
theorem eB4(k:Nat):bk0.pile k=[]:=by
 unfold Bk.pile bk0
 match k with
 | 0=>rfl
 | 1=>rfl
 | 2=>rfl
 | 3=>rfl
 | 4=>rfl
 | 5=>rfl
 | 6=>rfl
 | 7=>rfl
 | k+8=>rfl
theorem fn4:Rep bk0 []:=
 ⟨Ra7,.refl _,.nil,fun k _=>(by rw[eB4];exact Heap.nil _),fun k _ x hx=>(by rw[eB4]at hx;cases hx),fun x hx=>(by cases hx)⟩
theorem BP7(b:Bk)(h:b.ps.length=8):b.len=b.ps.flatten.length:=by
 obtain⟨ps,last⟩:=b
 match ps,h with
 | [p0,p1,p2,p3,p4,p5,p6,p7],_=>
  simp[Bk.len,t8,br4];omega
theorem JC7(ps:List (List Ord))(h:ps.length=8):(ax4 ps 8).Perm ps.flatten:=by
 have hp:br4.Perm (List.range 8):=by decide
 have h1:(ax4 ps 8).Perm ((List.range 8).flatMap fun o=>ps.getD o []):=hp.flatMap_right _
 match ps,h with
 | [p0,p1,p2,p3,p4,p5,p6,p7],_=>exact h1
theorem CH7(ps:List (List Ord))(h:ps.length=8)(k j:Nat)(hk:k<8)(q:List Ord)(m m':Int):(Bk.mk (ps.set k q) m).pile j=if j=k then q else(Bk.mk ps m').pile j:=by
 unfold Bk.pile;simp only[List.getD_eq_getElem?_getD,List.getElem?_set];by_cases hj:k=j
 ·subst hj;simp[h,hk]
 ·rw[if_neg hj,if_neg (fun h=>hj h.symm)]
theorem EF7(b:Bk)(h:b.ps.length=8)(k:Nat)(hk:k<8):b.ps[k]'(by omega)=b.pile k:=by unfold Bk.pile;simp[List.getD_eq_getElem?_getD,jG (show k<b.ps.length by omega)]
def cu4(b:Bk)(k:Nat):List Ord:=(b.ps.eraseIdx k).flatten
theorem Fl7(b:Bk)(h:b.ps.length=8)(k:Nat)(hk:k<8):b.ps.flatten.Perm (b.pile k++cu4 b k):=by have:=(BC7 b.ps k (by omega)).symm.flatten;rw[EF7 b h k hk]at this;exact this
theorem Fm7(ps:List (List Ord))(h:ps.length=8)(k:Nat)(hk:k<8)(q:List Ord):(ps.set k q).flatten.Perm (q++(ps.eraseIdx k).flatten):=by have:=(BC7 (ps.set k q) k (by simp;omega)).symm.flatten;rw[List.getElem_set_self,List.eraseIdx_set_eq]at this;exact this
theorem Kr7(ps:List (List Ord))(h:ps.length=8)(j:Nat)(hj:j<8)(o:Ord):(ps.set j (af4 (ps.getD j []) o)).flatten.Perm (o::ps.flatten):=by have h1:=Fm7 ps h j hj (af4 (ps.getD j []) o);have h2:=Fl7 ⟨ps,0⟩ h j hj;exact(h1.trans ((DY7 _ _).append_right _)).trans (h2.symm.cons o)
theorem NY7{b:Bk}(h:b.ps.length=8){k:Nat}{z:Ord}(hz:z∈cu4 b k):∃j,j<8/\j≠k/\z∈b.pile j:=by obtain⟨p,hp,hzp⟩:=List.mem_flatten.1 hz;obtain⟨j,hj,hjk,rfl⟩:=List.mem_eraseIdx_iff_getElem.1 hp;exact⟨j,by omega,hjk,by rw[<-EF7 b h j (by omega)];exact hzp⟩
theorem Rep.far{b:Bk}{L:List Ord}(h:Rep b L){o:Ord}{it:Nat}(hit:o.item=it)(h4:it<4):∀x∈cu4 b (m8 it (!o.buy)),K9 o x=false:=by
 intro x hx;obtain⟨j,hj,hjk,hxj⟩:=NY7 h.ok.n8 hx;have h1:=h.item j hj x hxj;have h2:=(h.heap j hj).side x hxj
 cases hm:K9 o x with
 | false=>rfl
 | true=>
  exfalso
  apply hjk;unfold K9 at hm;simp only[jB,decide_eq_true_eq,bne_iff_ne,ne_eq]at hm;obtain⟨⟨h3,h5⟩,_⟩:=hm;rw[hit,h1]at h3;rw[h2]at h5;have h6:it=j%4:=by omega
  unfold m8
  cases ho:o.buy
  ·rw[ho]at h5
   have:j<4:=by
    by_cases h:j<4
    ·exact h
    ·simp[h]at h5
   simp only[Bool.not_false,cond_true];omega
  ·rw[ho]at h5;have:¬j<4:=by intro h;simp[h]at h5
   simp only[Bool.not_true,cond_false];omega
theorem Dq7(it:Nat)(y:Bool)(h:it<4):decide (m8 it y<4)=y:=by unfold m8;cases y <;> simp;exact h
theorem Fn7(it:Nat)(y:Bool)(h:it<4):m8 it y%4=it:=by unfold m8;cases y <;> simp <;> omega
theorem Rep.sim{b:Bk}{L:List Ord}(h:Rep b L){o:Ord}{it:Nat}(hit:o.item=it)(h4:it<4):Sim o (b.pile (m8 it (!o.buy))) (cu4 b (m8 it (!o.buy))) L:=by
 have hk:=AV7 it (!o.buy) h4;refine⟨h.perm.trans (Fl7 b h.ok.n8 _ hk),?_,?_,h.far hit h4,h.byId⟩
 ·have:=h.heap _ hk;rw[Dq7 it _ h4]at this;exact this
 ·intro x hx;rw[h.item _ hk x hx,Fn7 it _ h4,hit]
theorem Po7:∀(f:Nat) (o:Ord) (q:List Ord) (ts:List Trd),(∀x∈q,0<x.cnt)->0<=o.cnt->(K5 f o q ts).1={ o with cnt:=(K5 f o q ts).1.cnt }/\0<=(K5 f o q ts).1.cnt/\(K5 f o q ts).1.cnt<=o.cnt
 | 0,o,q,ts,_,h=>⟨rfl,h,Int.le_refl _⟩
 | f+1,o,[],ts,_,h=>⟨rfl,h,Int.le_refl _⟩
 | f+1,o,x::q,ts,hq,h=>by
  rw[K5];by_cases hc:0<o.cnt/\av4 o x=true
  ·rw[if_pos hc];have hx:=hq x (List.mem_cons_self ..);have hmin:=CG7 hc.1 hx;rw[Ea7]
   obtain⟨h1,h2,h3⟩:=Po7 f { o with cnt:=o.cnt-I6 o.cnt x.cnt } (if x.cnt-I6 o.cnt x.cnt=0 then bs4 ({ x with cnt:=x.cnt-I6 o.cnt x.cnt }::q)else{ x with cnt:=x.cnt-I6 o.cnt x.cnt }::q) (ts++[P5 o x]) (fun z hz=>by
    split at hz
    ·exact hq z (List.mem_cons_of_mem _ ((Cu7 _ _).mem_iff.1 hz))
    ·rename_i hne
     rcases List.mem_cons.1 hz with rfl|hz
     ·simp only;omega
     ·exact hq z (List.mem_cons_of_mem _ hz)) (by simp only;omega)
   exact⟨h1,h2,by simp only at h3;omega⟩
  ·rw[if_neg hc];exact⟨rfl,h,Int.le_refl _⟩
theorem JD7(P:Ord->Prop)(hP:∀x c,P x->1<=c->c<=x.cnt->P { x with cnt:=c })(h1:∀x,P x->1<=x.cnt):∀(f:Nat) (o:Ord) (L:List Ord) (ts:List Trd),(∀x∈L,P x)->(∀x∈(m7 f o L ts).2.1,P x)/\(m7 f o L ts).2.1.length<=L.length
 | 0,o,L,ts,h=>⟨h,Nat.le_refl _⟩
 | f+1,o,L,ts,h=>by
  rw[m7];by_cases h0:0<o.cnt
  ·rw[if_pos h0]
   cases hb:s9 o L L.length with
   | none=>exact⟨h,Nat.le_refl _⟩
   | some k=>
    obtain⟨hk,_,_⟩:=AG7 hb;have hx:=h _ (H8 hk);have hmin:=CG7 h0 (h1 _ hx)
    have hcut:∀x∈aT4 L k ((at' L k).cnt-I6 o.cnt (at' L k).cnt),P x:=by
     unfold aT4;split
     ·exact fun x hx=>h x (List.mem_of_mem_eraseIdx hx)
     ·intro x hxm
      rcases List.mem_or_eq_of_mem_set hxm with hx'|rfl
      ·exact h x hx'
      ·exact hP _ _ hx (by omega) (by omega)
    have hlen:(aT4 L k ((at' L k).cnt-I6 o.cnt (at' L k).cnt)).length<=L.length:=by
     unfold aT4;split
     ·rw[List.length_eraseIdx];split <;> omega
     ·rw[List.length_set];exact Nat.le_refl _
    obtain⟨h2,h3⟩:=JD7 P hP h1 f { o with cnt:=o.cnt-I6 o.cnt (at' L k).cnt } (aT4 L k ((at' L k).cnt-I6 o.cnt (at' L k).cnt)) (ts++[F5 o (at' L k)]) hcut;exact⟨h2,Nat.le_trans h3 hlen⟩
  ·rw[if_neg h0];exact⟨h,Nat.le_refl _⟩
theorem Eb7{x:Ord}{c:Int}(h:MayP x)(h1:1<=c)(h2:c<=x.cnt):MayP { x with cnt:=c }:=⟨h.id0,h.id1,h.who0,h.who1,h.item0,h.item1,h1,Int.le_trans h2 h.cnt1,h.price0,h.price1⟩
theorem Fo7{b:Bk}{L:List Ord}(h:Rep b L)(o:Ord):
  (E6 b o).trades=(F9 L b.last o).trades/\(E6 b o).left=(F9 L b.last o).left/\(E6 b o).errno=(F9 L b.last o).errno/\(E6 b o).book.last=(F9 L b.last o).last/\Rep (E6 b o).book (F9 L b.last o).L:=by
 have hlen:b.len=L.length:=by rw[BP7 b h.ok.n8,h.perm.length_eq]
 unfold E6 F9;by_cases hbad:J7 o=false\/o.id<=b.last
 ·rw[if_pos hbad,if_pos hbad];exact⟨rfl,rfl,rfl,rfl,h⟩
 ·rw[if_neg hbad,if_neg hbad,hlen];by_cases hf:32<=L.length
  ·rw[if_pos hf,if_pos hf];exact⟨rfl,rfl,rfl,rfl,h⟩
  ·rw[if_neg hf,if_neg hf]
   have hmay:MayP o:=Ao7.1 (by
    cases hm:J7 o with
    | true=>rfl
    | false=>exact absurd (Or.inl hm) hbad)
   have hid:b.last<o.id:=by
    by_cases hle:o.id<=b.last
    ·exact absurd (Or.inr hle) hbad
    ·omega
   obtain⟨it,hit⟩:∃it:Nat,o.item=it:=⟨o.item.toNat,by have:=hmay.item0;omega⟩
   have h4:it<4:=by have:=hmay.item1;omega
   have hik:bd4 o=it:=by unfold bd4;rw[hit];rfl
   dsimp only;rw[hik];have hk:=AV7 it (!o.buy) h4;have hj:=AV7 it o.buy h4;have hne:=Jx7 it o.buy h4;have hsim:=h.sim hit h4;have hq:∀x∈b.pile (m8 it (!o.buy)),0<x.cnt:=fun x hx=>by have:=(h.each x (hsim.perm.mem_iff.2 (List.mem_append_left _ hx))).1.cnt0;omega
   have hlq:(b.pile (m8 it (!o.buy))).length<=L.length:=by rw[<-hlen];exact DZ7 b _ hk
   rw[Hr7 ((b.pile (m8 it (!o.buy))).length+1) (L.length+1) o _ [] hq (.inl ⟨by omega,by omega⟩)];obtain⟨L',hr,hs⟩:=sim (L.length+1) o _ _ _ [] hsim;obtain⟨ho1,ho2,ho3⟩:=Po7 (L.length+1) o (b.pile (m8 it (!o.buy))) [] hq (by have:=hmay.cnt0;omega);obtain⟨hkeep,hlk⟩:=JD7 (fun x=>MayP x/\x.id<=b.last) (fun x c hx h1 h2=>⟨Eb7 hx.1 h1 h2,hx.2⟩) (fun x hx=>hx.1.cnt0) (L.length+1) o L [] h.each;rw[hr]at hkeep hlk ⊢;generalize K5 (L.length+1) o (b.pile (m8 it (!o.buy))) []=r at hs ho1 ho2 ho3 hr hkeep hlk ⊢;obtain⟨o',q',ts⟩:=r;simp only at hs ho1 ho2 ho3 hkeep hlk ⊢;have hob:o'.buy=o.buy:=by rw[ho1]
   have hoi:o'.item=it:=by rw[ho1];exact hit
   have hoid:o'.id=o.id:=by rw[ho1]
   have hn8:=h.ok.n8;have hps:(b.ps.set (m8 it (!o.buy)) q').length=8:=by simpa using hn8
   refine⟨by trivial,by trivial,by trivial,by trivial,?_⟩;have hpermS:L'.Perm (b.ps.set (m8 it (!o.buy)) q').flatten:=hs.perm.trans (Fm7 b.ps hn8 _ hk q').symm
   have hheap1:∀j,j<8->Heap (decide (j<4)) ((Bk.mk (b.ps.set (m8 it (!o.buy)) q') o.id).pile j):=by
    intro j hj;rw[CH7 b.ps hn8 _ j hk q' o.id b.last];split
    ·rename_i he
     rw[he,Dq7 it _ h4];have:=hs.heap;rw[hob]at this;exact this
    ·exact h.heap j hj
   have hitem1:∀j,j<8->∀x∈(Bk.mk (b.ps.set (m8 it (!o.buy)) q') o.id).pile j,x.item=((j%4:Nat):Int):=by
    intro j hj x hx;rw[CH7 b.ps hn8 _ j hk q' o.id b.last]at hx;split at hx
    ·rename_i he
     rw[he,Fn7 it _ h4,hs.item x hx,hoi]
    ·exact h.item j hj x hx
   have hid1:=hmay.id1;have hlast:=h.ok.last0;by_cases hc:0<o'.cnt
   ·rw[if_pos hc,if_pos hc];have hmo:MayP o':=by rw[ho1];exact Eb7 hmay (by omega) ho3
    have hperm:(L'++[o']).Perm ((b.ps.set (m8 it (!o.buy)) q').set (m8 it o.buy) (af4 ((b.ps.set (m8 it (!o.buy)) q').getD (m8 it o.buy) []) o')).flatten:=
     ((List.perm_append_singleton o' L').trans (hpermS.cons o')).trans (Kr7 _ hps _ hj o').symm
    have heach:∀x∈L'++[o'],MayP x/\x.id<=o.id:=by
     intro x hx
     rcases List.mem_append.1 hx with hx|hx
     ·have:=hkeep x hx;exact⟨this.1,by omega⟩
     ·rw[List.mem_singleton.1 hx];exact⟨hmo,by omega⟩
    refine⟨⟨by simp[hn8],?_,?_,by simp only;omega,hid1⟩,hperm,?_,?_,?_,heach⟩
    ·rw[BP7 _ (by simp[hn8]),<-hperm.length_eq,jA];simp only[jC,List.length_nil];omega
    ·intro p hp x hx;have hxm:x∈L'++[o']:=hperm.mem_iff.2 (List.mem_flatten.2 ⟨p,hp,hx⟩);have:=(heach x hxm).1;exact⟨this.cnt0,this.cnt1⟩
    ·refine List.pairwise_append.2 ⟨hs.byId,List.pairwise_singleton _ _,?_⟩;intro x hx z hz;rw[List.mem_singleton.1 hz,hoid];have:=(hkeep x hx).2;omega
    ·intro j hj8;rw[CH7 _ hps _ j hj _ o.id o.id];split
     ·rename_i he
      rw[he,Dq7 it _ h4];have:=hheap1 _ hj;rw[Dq7 it _ h4]at this;exact this.push hob
     ·exact hheap1 j hj8
    ·intro j hj8 x hx;rw[CH7 _ hps _ j hj _ o.id o.id]at hx;split at hx
     ·rename_i he
      rcases List.mem_cons.1 ((DY7 _ _).mem_iff.1 hx)with rfl|hx
      ·rw[he,Fn7 it _ h4,hoi]
      ·rw[he];exact hitem1 _ hj x hx
     ·exact hitem1 j hj8 x hx
   ·rw[if_neg hc,if_neg hc];have heach:∀x∈L',MayP x/\x.id<=o.id:=fun x hx=>by have:=hkeep x hx;exact⟨this.1,by omega⟩
    refine⟨⟨hps,?_,?_,by simp only;omega,hid1⟩,hpermS,hs.byId,hheap1,hitem1,heach⟩
    ·rw[BP7 _ hps,<-hpermS.length_eq];omega
    ·intro p hp x hx;have hxm:x∈L':=hpermS.mem_iff.2 (List.mem_flatten.2 ⟨p,hp,hx⟩);have:=(heach x hxm).1;exact⟨this.cnt0,this.cnt1⟩
theorem FY7:∀{ps:List (List Ord)} {id:Int} {ks:List Nat} {k i:Nat},am4 ps id ks=some (k,i)->k∈ks/\i<(ps.getD k []).length/\((ps.getD k []).getD i o0).id=id
 | _,_,[],_,_,h=>by cases h
 | ps,id,k'::ks,k,i,h=>by
  by_cases hx:bt4 id (ps.getD k' [])<0
  ·rw[Fh7 hx]at h;obtain⟨h1,h2,h3⟩:=FY7 h;exact⟨List.mem_cons_of_mem _ h1,h2,h3⟩
  ·obtain⟨j,hj⟩:∃j:Nat,bt4 id (ps.getD k' [])=j:=⟨(bt4 id (ps.getD k' [])).toNat,by omega⟩
   obtain⟨h1,h2,h3⟩:=Fi7 (ks:=ks) hj;rw[h1]at h
   cases h
   exact⟨List.mem_cons_self ..,h2,h3⟩
theorem Fp7:∀{ps:List (List Ord)} {id:Int} {ks:List Nat},am4 ps id ks=none->∀k∈ks, ∀x∈ps.getD k [],x.id≠id
 | _,_,[],_,k,hk=>by cases hk
 | ps,id,k'::ks,h,k,hk=>by
  rw[am4]at h
  cases hf:(ps.getD k' []).findIdx? (fun o=>o.id==id)with
  | some i=>rw[hf]at h;cases h
  | none=>
   rw[hf]at h
   rcases List.mem_cons.1 hk with rfl|hk
   ·intro x hx;simpa using List.findIdx?_eq_none_iff.1 hf x hx
   ·exact Fp7 h k hk
theorem Ks7{b:Bk}{L:List Ord}(h:Rep b L)(id:Int):
  (O7 b id).o=(m9 L id).o/\(O7 b id).errno=(m9 L id).errno/\(O7 b id).book.last=b.last/\Rep (O7 b id).book (m9 L id).L:=by
 have hn8:=h.ok.n8;unfold O7 m9
 cases hf:am4 b.ps id br4 with
 | none=>
  have hno:∀x∈L,x.id≠id:=by intro x hx;have hx':=(JC7 b.ps hn8).mem_iff.2 (h.perm.mem_iff.1 hx);obtain⟨o,ho,hxo⟩:=List.mem_flatMap.1 hx';exact Fp7 hf o (List.mem_of_mem_take ho) x hxo
  rw[List.findIdx?_eq_none_iff.2 (fun x hx=>by simpa using hno x hx)];exact⟨rfl,rfl,rfl,h⟩
 | some p=>
  obtain⟨k,i⟩:=p;obtain⟨hkm,hil,hid⟩:=FY7 hf
  have hk8:k<8:=by
   have:∀o∈br4,o<8:=by decide
   exact this k hkm
  have hil':i<(b.pile k).length:=hil;have hsp:=Fl7 b hn8 k hk8;have hrem:=Hm7 (b.pile k) i hil';have hx:(b.pile k).getD i o0=(b.pile k)[i]:=by simp[List.getD_eq_getElem?_getD,jG hil']
  have hxid:((b.pile k)[i]).id=id:=by rw[<-hx];exact hid
  have hxL:(b.pile k)[i]∈L:=h.perm.mem_iff.2 (hsp.mem_iff.2 (List.mem_append_left _ (jW hil')))
  cases hg:L.findIdx? (fun o=>o.id==id)with
  | none=>
   have:=List.findIdx?_eq_none_iff.1 hg _ hxL;simp[hxid]at this
  | some m=>
   obtain⟨hm,hmx,_⟩:=List.findIdx?_eq_some_iff_getElem.1 hg;have hmid:(at' L m).id=id:=by rw[m5 hm];simpa using hmx
   have heq:(b.pile k)[i]=at' L m:=h.byId.eq hxL (H8 hm) (by rw[hxid,hmid]);dsimp only;rw[hx,heq];refine⟨rfl,rfl,rfl,?_⟩
   have hperm:(L.eraseIdx m).Perm (b.ps.set k (bO4 (b.pile k) i)).flatten:=by
    have h1:=(Gr7 L hm).trans (h.perm.trans hsp);have h2:(b.pile k++cu4 b k).Perm (at' L m::(bO4 (b.pile k) i++cu4 b k)):=by rw[<-heq];exact(hrem.symm.append_right (cu4 b k))
    exact(h1.trans h2).cons_inv.trans (Fm7 b.ps hn8 k hk8 _).symm
   have heach:∀x∈L.eraseIdx m,MayP x/\x.id<=b.last:=fun x hx=>h.each x (List.mem_of_mem_eraseIdx hx)
   have hps:(b.ps.set k (bO4 (b.pile k) i)).length=8:=by simpa using hn8
   refine⟨⟨hps,?_,?_,h.ok.last0,h.ok.last1⟩,hperm,h.byId.erase m,?_,?_,heach⟩
   ·rw[BP7 _ hps,<-hperm.length_eq,List.length_eraseIdx];have:=h.ok.few;rw[BP7 _ hn8,<-h.perm.length_eq]at this;split <;> omega
   ·intro p hp x hx;have:=(heach x (hperm.mem_iff.2 (List.mem_flatten.2 ⟨p,hp,hx⟩))).1;exact⟨this.cnt0,this.cnt1⟩
   ·intro j hj;rw[CH7 b.ps hn8 k j hk8 _ b.last b.last];split
    ·rename_i he
     rw[he];exact(h.heap k hk8).rem hil'
    ·exact h.heap j hj
   ·intro j hj x hx;rw[CH7 b.ps hn8 k j hk8 _ b.last b.last]at hx;split at hx
    ·rename_i he
     rw[he];exact h.item k hk8 x (hrem.mem_iff.1 (List.mem_cons_of_mem _ hx))
    ·exact h.item j hj x hx
structure TrOk(o x:Ord)(t:Trd):Prop where
 price:t.price=x.price
 buys:o.buy=true->t.sell=x.id/\t.bid=o.price/\x.price<=o.price
 sells:o.buy=false->t.buy=x.id/\t.bid=x.price/\o.price<=x.price
theorem LO7{o x:Ord}(hm:K9 o x=true):TrOk o x (F5 o x):=by
 unfold K9 at hm;simp only[jB,decide_eq_true_eq]at hm;obtain⟨_,h3⟩:=hm;unfold F5
 cases hb:o.buy
 ·rw[hb]at h3;simp only[Bool.false_eq_true,if_false,decide_eq_true_eq]at h3 ⊢;exact⟨rfl,fun h=>(by rw[hb]at h;cases h),fun _=>⟨rfl,rfl,h3⟩⟩
 ·rw[hb]at h3;simp only[if_true,decide_eq_true_eq]at h3 ⊢;exact⟨rfl,fun _=>⟨rfl,rfl,h3⟩,fun h=>(by rw[hb]at h;cases h)⟩
theorem FZ7:∀(f:Nat) (o:Ord) (L:List Ord) (ts:List Trd) (t:Trd),t∈(m7 f o L ts).2.2->t∈ts\/∃x∈L,TrOk o x t
 | 0,o,L,ts,t,h=>.inl h
 | f+1,o,L,ts,t,h=>by
  rw[m7]at h;by_cases h0:0<o.cnt
  ·rw[if_pos h0]at h
   cases hb:s9 o L L.length with
   | none=>rw[hb]at h;exact .inl h
   | some k=>
    rw[hb]at h;obtain⟨hk,hm,_⟩:=AG7 hb
    rcases FZ7 f _ _ _ t h with h|⟨x,hx,hok⟩
    ·rcases List.mem_append.1 h with h|h
     ·exact .inl h
     ·rw[List.mem_singleton.1 h];exact .inr ⟨_,H8 hk,LO7 hm⟩
    ·have hx':∃z∈L,z.id=x.id/\z.price=x.price:=by
      unfold aT4 at hx;split at hx
      ·exact⟨x,List.mem_of_mem_eraseIdx hx,rfl,rfl⟩
      ·rcases List.mem_or_eq_of_mem_set hx with hx|rfl
       ·exact⟨x,hx,rfl,rfl⟩
       ·exact⟨_,H8 hk,rfl,rfl⟩
     obtain⟨z,hz,e1,e2⟩:=hx';refine .inr ⟨z,hz,⟨by rw[e2];exact hok.price,fun hy=>?_,fun hy=>?_⟩⟩
     ·have:=hok.buys hy;rw[e1,e2];exact this
     ·have:=hok.sells hy;rw[e1,e2];exact this
  ·rw[if_neg h0]at h;exact .inl h
theorem Hs7{b:Bk}{L:List Ord}(h:Rep b L)(o:Ord){t:Trd}(ht:t∈(E6 b o).trades):∃x∈L,TrOk o x t:=by
 rw[(Fo7 h o).1]at ht;unfold F9 at ht;split at ht
 ·cases ht
 ·split at ht
  ·cases ht
  ·rcases FZ7 _ _ _ _ _ ht with h|h
   ·cases h
   ·exact h
def pTo(L:List Ord)(id:Int):Nat->Int
 | 0=>0
 | n+1=>if(at' L n).id=id then(at' L n).price else pTo L id n
theorem NZ7{b:Bk}{L l:List Ord}(h:Rep b L)(hp:l.Perm (ax4 b.ps 8))(hs:l.Pairwise fun x z=>x.id<=z.id):l=L:=
 Hp7 ((hp.trans (JC7 b.ps h.ok.n8)).trans h.perm.symm) hs h.byId
theorem PR7(bb:Nat){b:Bk}{L:List Ord}(h:Rep b L)(W w:World)(Lr:List HP)(hS:St W (w9 bb b::Lr) w):
  Calls Tryz.prog 124 #[.P bb] w fun e w'=>∃a c,e=.returned (.slice a L.length c)/\St W (w9 bb b::j7 (.slice a L.length c) L::Lr) w':=by
 refine(LM7 bb b h.ok.few W w Lr hS).mono ?_;rintro e w' ⟨v,l,rfl,hl,hsd,hS⟩;obtain rfl:=NZ7 h hl hsd;obtain⟨a,c,rfl⟩:=hS.drop.rowVal;exact⟨a,c,rfl,hS⟩
theorem Oa7(bb:Nat){b:Bk}{L:List Ord}(h:Rep b L)(o:Ord)(W w:World)(Lr:List HP)(hS:St W (w9 bb b::Lr) w):
  Calls Tryz.prog 150 #[.P bb,.agg o.cells.toArray] w fun e w'=>∃b' ts a c,(ts=(F9 L b.last o).trades/\b'.last=(F9 L b.last o).last/\Rep b' (F9 L b.last o).L/\∀t∈ts, ∃x∈L,TrOk o x t) /\
   e=.returned (.tuple #[.slice a ts.length c,.I (F9 L b.last o).left,.I (F9 L b.last o).errno])/\St W (w9 bb b'::ag4 (.slice a ts.length c) ts::Lr) w':=by
 obtain⟨h1,h2,h3,h4,h5⟩:=Fo7 h o;refine(Km7 bb b o h.ok W w Lr hS).mono ?_;rintro e w' ⟨v,rfl,hS⟩;obtain⟨a,c,rfl⟩:=hS.drop.rowVal;refine⟨_,_,a,c,⟨h1,h4,h5,fun t ht=>Hs7 h o ht⟩,?_,hS⟩;rw[h2,h3]
theorem LP7(bb:Nat){b:Bk}{L:List Ord}(h:Rep b L)(id:Int)(W w:World)(Lr:List HP)(hS:St W (w9 bb b::Lr) w):
  Calls Tryz.prog 154 #[.P bb,.I id] w fun e w'=>∃b',(b'.last=b.last/\Rep b' (m9 L id).L) /\
   e=.returned (.tuple #[.agg (m9 L id).o.cells.toArray,.I (m9 L id).errno])/\St W (w9 bb b'::Lr) w':=by
 obtain⟨h1,h2,h3,h4⟩:=Ks7 h id;refine(Iv7 bb b id h.ok.few W w Lr hS).mono ?_;rintro e w' ⟨rfl,hS⟩;exact⟨_,⟨h3,h4⟩,by rw[h1,h2],hS⟩
end Go.Proofs.YtienbkdjkjbelaaGreat
end
