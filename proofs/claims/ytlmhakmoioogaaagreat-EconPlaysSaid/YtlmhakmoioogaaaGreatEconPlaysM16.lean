/-
  A book as the document tells it: one row of orders by their IDs. Place and Cancel of the code are those of the document. Plain, no program in sight.
  A book and the row that the document tells: Place and Cancel keep them together. Plain, no program in sight.
  BookPrices: the plain law: each trade is at the price of the one that stood there. No program in sight.
-/
import Derived.Test.YtlmhakmoioogaaaGreatEconPlaysM15
set_option maxHeartbeats 16000000
set_option maxRecDepth 100000
set_option linter.unusedSimpArgs false
set_option linter.unusedVariables false
section
namespace Go.Proofs.YtlmhakmoioogaaaGreat
open Go.RowKit Go.Sl
def meetR(a b:Ord):Bool:=decide (a.item=b.item)&&(a.buy != b.buy)&&(if a.buy then decide (b.price≤a.price)else decide (a.price≤b.price))
def betterR(o x z:Ord):Bool:=if o.buy then decide (x.price<z.price)else decide (z.price<x.price)
def goodR(o:Ord)(L:List Ord)(n:Nat):Option Nat→Bool
 | none=>true
 | some k=>betterR o (at' L n) (at' L k)
def bestTo(o:Ord)(L:List Ord):Nat→Option Nat
 | 0=>none
 | n+1=>
  if meetR o (at' L n)&&goodR o L n (bestTo o L n)then some n else bestTo o L n
def tradeR(o x:Ord):Trd:=if o.buy then⟨o.who,x.who,o.id,x.id,o.item,minI o.cnt x.cnt,x.price,o.price⟩else⟨x.who,o.who,x.id,o.id,o.item,minI o.cnt x.cnt,x.price,x.price⟩
def cutR(L:List Ord)(k:Nat)(c:Int):List Ord:=if c=0 then L.eraseIdx k else L.set k { at' L k with cnt:=c }
def refLoop:Nat→Ord→List Ord→List Trd→Ord×List Ord×List Trd
 | 0,o,L,ts=>(o,L,ts)
 | f+1,o,L,ts=>
  if 0<o.cnt then
   match bestTo o L L.length with
   | none=>(o,L,ts)
   | some k=>refLoop f { o with cnt:=o.cnt-minI o.cnt (at' L k).cnt } (cutR L k ((at' L k).cnt-minI o.cnt (at' L k).cnt)) (ts++[tradeR o (at' L k)])
  else(o,L,ts)
structure PlacedR where
 trades:List Trd
 left:Int
 errno:Int
 L:List Ord
 last:Int
def placeR(L:List Ord)(last:Int)(o:Ord):PlacedR:=
 if mayB o=false∨o.id≤last then⟨[],0,1,L,last⟩
 else if 32≤L.length then⟨[],0,6,L,last⟩
 else
  let r:=refLoop (L.length+1) o L []
  ⟨r.2.2,r.1.cnt,0,if 0<r.1.cnt then r.2.1++[r.1]else r.2.1,o.id⟩
structure CancelledR where
 o:Ord
 errno:Int
 L:List Ord
def cancelR(L:List Ord)(id:Int):CancelledR:=
 match L.findIdx? (fun o=>o.id==id)with
 | none=>⟨o0,7,L⟩
 | some i=>⟨at' L i,0,L.eraseIdx i⟩
theorem Fu7{o:Ord}{L:List Ord}:∀{n:Nat},bestTo o L n=none→∀i,i<n→meetR o (at' L i)=false
 | 0,_,i,hi=>absurd hi (Nat.not_lt_zero _)
 | n+1,h,i,hi=>by
  rw[bestTo]at h
  split at h
  ·cases h
  ·rename_i hc
   by_cases hin:i=n
   ·subst hin
    rw[h]at hc
    simpa[goodR]using hc
   ·exact Fu7 h i (by omega)
theorem AQ7{o:Ord}{L:List Ord}:∀{n k:Nat},bestTo o L n=some k→k<n∧meetR o (at' L k)=true∧∀i,i<n→meetR o (at' L i)=true→betterR o (at' L i) (at' L k)=false∧(i<k→betterR o (at' L k) (at' L i)=true)
 | 0,k,h=>by cases h
 | n+1,k,h=>by
  rw[bestTo]at h
  split at h
  ·rename_i hc
   cases h
   simp only[Bool.and_eq_true]at hc
   refine⟨Nat.lt_succ_self _,hc.1,fun i hi hm=>?_⟩
   by_cases hin:i=n
   ·subst hin
    refine⟨?_,fun h=>absurd h (Nat.lt_irrefl _)⟩
    unfold betterR;split <;> simp
   ·have hin':i<n:=by omega
    cases hb:bestTo o L n with
    | none=>rw[Fu7 hb i hin']at hm;cases hm
    | some k'=>
     rw[hb]at hc
     obtain⟨_,_,h3⟩:=AQ7 hb
     have h4:=(h3 i hin' hm).1
     have h5:betterR o (at' L n) (at' L k')=true:=hc.2
     unfold betterR at *
     split at h5
     ·rename_i ho
      rw[if_pos ho]at h4 ⊢
      rw[if_pos ho]
      simp only[decide_eq_true_eq,decide_eq_false_iff_not]at *
      exact⟨by omega,fun _=>by omega⟩
     ·rename_i ho
      rw[if_neg ho]at h4 ⊢
      rw[if_neg ho]
      simp only[decide_eq_true_eq,decide_eq_false_iff_not]at *
      exact⟨by omega,fun _=>by omega⟩
  ·rename_i hc
   obtain⟨h1,h2,h3⟩:=AQ7 h
   refine⟨by omega,h2,fun i hi hm=>?_⟩
   by_cases hin:i=n
   ·subst hin
    refine⟨?_,fun h=>by omega⟩
    rw[h,hm]at hc
    simpa[goodR]using hc
   ·exact h3 i (by omega) hm
theorem Mf7(o x z:Ord):betterR o x z=decide (ky (!o.buy) x<ky (!o.buy) z):=by
 unfold betterR ky
 cases o.buy <;> simp
abbrev ById(L:List Ord):Prop:=L.Pairwise fun x z=>x.id<z.id
theorem ById.lt{L:List Ord}(h:ById L){i j:Nat}(hj:j<L.length)(hij:i<j):(at' L i).id<(at' L j).id:=by
 rw[at'_get hj,at'_get (show i<L.length by omega)]
 exact List.pairwise_iff_getElem.1 h i j (by omega) hj hij
theorem ById.inj{L:List Ord}(h:ById L){i j:Nat}(hi:i<L.length)(hj:j<L.length)(he:(at' L i).id=(at' L j).id):i=j:=by
 rcases Nat.lt_trichotomy i j with h1|h1|h1
 ·have:=h.lt hj h1;omega
 ·exact h1
 ·have:=h.lt hi h1;omega
theorem mem_at'{L:List Ord}{x:Ord}(hx:x∈L):∃i,i<L.length∧at' L i=x:=by
 obtain⟨i,hi,rfl⟩:=List.mem_iff_getElem.1 hx
 exact⟨i,hi,at'_get hi⟩
theorem at'_mem{L:List Ord}{i:Nat}(hi:i<L.length):at' L i∈L:=by rw[at'_get hi];exact List.getElem_mem hi
theorem ById.eq{L:List Ord}(h:ById L){x z:Ord}(hx:x∈L)(hz:z∈L)(he:x.id=z.id):x=z:=by
 obtain⟨i,hi,rfl⟩:=mem_at' hx
 obtain⟨j,hj,rfl⟩:=mem_at' hz
 rw[h.inj hi hj he]
theorem HK7:∀{l L:List Ord},l.Perm L→l.Pairwise (fun x z=>x.id≤z.id)→ById L→l=L
 | [],L,hp,_,_=>(List.nil_perm.1 hp).symm
 | a::l,[],hp,_,_=>by simp at hp
 | a::l,b::L,hp,h1,h2=>by
  have ha:a∈b::L:=hp.mem_iff.1 (List.mem_cons_self ..)
  have hb:b∈a::l:=hp.mem_iff.2 (List.mem_cons_self ..)
  have hab:a=b:=by
   rcases List.mem_cons.1 ha with h|h
   ·exact h
   ·rcases List.mem_cons.1 hb with h'|h'
    ·exact h'.symm
    ·have e1:=(List.pairwise_cons.1 h2).1 a h
     have e2:=(List.pairwise_cons.1 h1).1 b h'
     omega
  subst hab
  rw[HK7 hp.cons_inv (List.pairwise_cons.1 h1).2 (List.pairwise_cons.1 h2).2]
theorem GI7(L:List Ord){k:Nat}(hk:k<L.length):(at' L k::L.eraseIdx k).Perm L:=by rw[at'_get hk];exact BJ7 L k hk
theorem Pd7(L:List Ord){k:Nat}(hk:k<L.length)(x:Ord):(x::L.eraseIdx k).Perm (L.set k x):=by
 have h:=BJ7 (L.set k x) k (by simpa using hk)
 rw[List.getElem_set_self,List.eraseIdx_set_eq]at h
 exact h
theorem ById.erase{L:List Ord}(h:ById L)(k:Nat):ById (L.eraseIdx k):=List.Pairwise.sublist (List.eraseIdx_sublist L k) h
theorem ById.set{L:List Ord}(h:ById L){k:Nat}(hk:k<L.length)(c:Int):ById (L.set k { at' L k with cnt:=c }):=by
 have e:∀i (hi:i<L.length),((L.set k { at' L k with cnt:=c })[i]'(by simpa using hi)).id=(at' L i).id:=by
  intro i hi
  rw[List.getElem_set]
  split
  ·rename_i he;subst he;rfl
  ·rw[at'_get hi]
 rw[ById,List.pairwise_iff_getElem]
 intro i j hi hj hij
 rw[List.length_set]at hi hj
 rw[e i hi,e j hj]
 exact h.lt hj hij
structure Sim(o:Ord)(q rest L:List Ord):Prop where
 perm:L.Perm (q++rest)
 heap:Heap (!o.buy) q
 item:∀x∈q,x.item=o.item
 far:∀x∈rest,meetR o x=false
 byId:ById L
theorem HL7{o x:Ord}(hi:x.item=o.item)(hb:x.buy=!o.buy):meetR o x=meetO o x:=by
 unfold meetR meetO
 rw[hi,hb]
 cases o.buy <;> simp
theorem KO7{o x:Ord}(hb:x.buy=!o.buy):tradeR o x=tradeF o x:=by
 unfold tradeR tradeF
 rw[hb]
 cases o.buy <;> simp
theorem Sim.best_no{o:Ord}{x:Ord}{q rest L:List Ord}(h:Sim o (x::q) rest L)(hm:meetO o x=false):bestTo o L L.length=none:=by
 cases hb:bestTo o L L.length with
 | none=>rfl
 | some k=>
  obtain⟨hk,hmk,_⟩:=AQ7 hb
  have hmem:=h.perm.mem_iff.1 (at'_mem hk)
  rcases List.mem_append.1 hmem with hq|hr
  ·have hle:=h.heap.top _ hq
   have hs:=h.heap.side _ hq
   have hs0:=h.heap.side x (List.mem_cons_self ..)
   rw[HL7 (h.item _ hq) hs]at hmk
   unfold leK ky at hle
   unfold meetO at hm hmk
   rw[hs]at hmk
   rw[hs0]at hm
   cases ho:o.buy <;> simp[ho]at hm hmk hle <;> omega
  ·rw[h.far _ hr]at hmk;cases hmk
theorem Sim.best_nil{o:Ord}{rest L:List Ord}(h:Sim o [] rest L):bestTo o L L.length=none:=by
 cases hb:bestTo o L L.length with
 | none=>rfl
 | some k=>
  obtain⟨hk,hmk,_⟩:=AQ7 hb
  rw[h.far _ (h.perm.mem_iff.1 (at'_mem hk))]at hmk
  cases hmk
theorem Sim.best_yes{o:Ord}{x:Ord}{q rest L:List Ord}(h:Sim o (x::q) rest L)(hm:meetO o x=true):∃k,bestTo o L L.length=some k∧k<L.length∧at' L k=x:=by
 have hs0:=h.heap.side x (List.mem_cons_self ..)
 have hx:x∈L:=h.perm.mem_iff.2 (by simp)
 obtain⟨i,hi,hix⟩:=mem_at' hx
 have hmi:meetR o (at' L i)=true:=by rw[hix,HL7 (h.item x (List.mem_cons_self ..)) hs0];exact hm
 cases hb:bestTo o L L.length with
 | none=>rw[Fu7 hb i hi]at hmi;cases hmi
 | some k=>
  obtain⟨hk,hmk,hall⟩:=AQ7 hb
  refine⟨k,rfl,hk,?_⟩
  have hmem:=h.perm.mem_iff.1 (at'_mem hk)
  rcases List.mem_append.1 hmem with hq|hr
  ·have hle:=h.heap.top _ hq
   obtain⟨h1,h2⟩:=hall i hi hmi
   rw[Mf7,hix]at h1 h2
   simp only[decide_eq_false_iff_not,decide_eq_true_eq]at h1 h2
   unfold leK at hle
   rcases Nat.lt_trichotomy i k with h3|h3|h3
   ·have:=h2 h3;omega
   ·rw[←h3];exact hix
   ·have:=h.byId.lt hi h3
    rw[hix]at this
    omega
  ·rw[h.far _ hr]at hmk;cases hmk
theorem Dz7{a b:Int}(ha:0<a)(hb:0<b):0<minI a b∧minI a b≤a∧minI a b≤b:=by unfold minI;split <;> omega
theorem Sim.step{o:Ord}{x:Ord}{q rest L:List Ord}(h:Sim o (x::q) rest L){k:Nat}(hk:k<L.length)(hx:at' L k=x)(c c':Int):
  Sim { o with cnt:=c' } (if c=0 then popT ({ x with cnt:=c }::q)else{ x with cnt:=c }::q) rest (cutR L k c):=by
 have hc:=h.heap.cnt c
 have hp:=CH7 { x with cnt:=c } q
 have h1:=(GI7 L hk).symm
 rw[hx]at h1
 have h2:(L.eraseIdx k).Perm (q++rest):=(h1.symm.trans h.perm).cons_inv
 unfold cutR
 by_cases hz:c=0
 ·rw[if_pos hz,if_pos hz]
  refine⟨h2.trans (hp.symm.append_right rest),hc.pop,fun z hz'=>h.item z (List.mem_cons_of_mem _ (hp.mem_iff.1 hz')),h.far,h.byId.erase k⟩
 ·rw[if_neg hz,if_neg hz,hx]
  refine⟨(Pd7 L hk _).symm.trans (h2.cons _),hc,?_,h.far,?_⟩
  ·intro z hz'
   rcases List.mem_cons.1 hz' with rfl|hz'
   ·exact h.item x (List.mem_cons_self ..)
   ·exact h.item z (List.mem_cons_of_mem _ hz')
  ·have:=h.byId.set hk c
   rw[hx]at this
   exact this
theorem Ei7(o x:Ord):(tradeF o x).cnt=minI o.cnt x.cnt:=by unfold tradeF;split <;> rfl
theorem sim:∀(f:Nat) (o:Ord) (q rest L:List Ord) (ts:List Trd),Sim o q rest L→
  ∃L',refLoop f o L ts=((loopF f o q ts).1,L',(loopF f o q ts).2.2)∧Sim (loopF f o q ts).1 (loopF f o q ts).2.1 rest L'
 | 0,o,q,rest,L,ts,h=>⟨L,rfl,h⟩
 | f+1,o,[],rest,L,ts,h=>by
  refine⟨L,?_,h⟩
  rw[refLoop,h.best_nil]
  simp only[ite_self]
  rfl
 | f+1,o,x::q,rest,L,ts,h=>by
  rw[refLoop,loopF]
  by_cases h0:0<o.cnt
  ·rw[if_pos h0]
   cases hm:meetO o x
   ·rw[h.best_no hm,if_neg (by rintro⟨_,h⟩;cases h)]
    exact⟨L,rfl,h⟩
   ·obtain⟨k,hb,hk,hx⟩:=h.best_yes hm
    rw[hb,if_pos ⟨h0,rfl⟩]
    simp only
    rw[hx,Ei7,KO7 (h.heap.side x (List.mem_cons_self ..))]
    exact sim f _ _ rest _ _ (h.step hk hx _ _)
  ·rw[if_neg h0,if_neg (fun h=>h0 h.1)]
   exact⟨L,rfl,h⟩
theorem HM7:∀(f f':Nat) (o:Ord) (q:List Ord) (ts:List Trd),(∀x∈q,0<x.cnt)→(q.length<f∧q.length<f')∨(o.cnt≤0∧0<f∧0<f')→loopF f o q ts=loopF f' o q ts
 | 0,_,_,_,_,_,h=>by omega
 | _+1,0,_,_,_,_,h=>by omega
 | f+1,f'+1,o,[],ts,_,h=>rfl
 | f+1,f'+1,o,x::q,ts,hc,h=>by
  rw[loopF,loopF]
  by_cases hcond:0<o.cnt∧meetO o x=true
  ·rw[if_pos hcond,if_pos hcond]
   have hx:=hc x (List.mem_cons_self ..)
   have hmin:=Dz7 hcond.1 hx
   have hl:(x::q).length<f+1∧(x::q).length<f'+1:=by omega
   simp only[List.length_cons]at hl
   rw[Ei7]
   refine HM7 f f' _ _ _ ?_ ?_
   ·intro z hz
    split at hz
    ·exact hc z (List.mem_cons_of_mem _ ((CH7 _ _).mem_iff.1 hz))
    ·rename_i hne
     rcases List.mem_cons.1 hz with rfl|hz
     ·simp only;omega
     ·exact hc z (List.mem_cons_of_mem _ hz)
   ·by_cases hz:x.cnt-minI o.cnt x.cnt=0
    ·left
     rw[if_pos hz,BK7]
     simp only[List.length_cons]
     omega
    ·right
     refine⟨?_,by omega,by omega⟩
     simp only
     unfold minI at hz ⊢
     split at hz <;> split <;> omega
  ·rw[if_neg hcond,if_neg hcond]
structure Rep(b:Bk)(L:List Ord):Prop where
 ok:BkOk b
 perm:L.Perm b.ps.flatten
 byId:ById L
 heap:∀k,k<8→Heap (decide (k<4)) (b.pile k)
 item:∀k,k<8→∀x∈b.pile k,x.item=((k%4:Nat):Int)
 each:∀x∈L,MayP x∧x.id≤b.last
theorem pile0(k:Nat):bk0.pile k=[]:=by
 unfold Bk.pile bk0
 match k with
 | 0=>rfl
 | 1=>rfl
 | 2=>rfl
 | 3=>rfl
 | 4=>rfl
 | 5=>rfl
 | 6=>rfl
 | 7=>rfl
 | k+8=>rfl
theorem rep0:Rep bk0 []:=
 ⟨QL7,.refl _,.nil,fun k _=>(by rw[pile0];exact Heap.nil _),fun k _ x hx=>(by rw[pile0]at hx;cases hx),fun x hx=>(by cases hx)⟩
theorem BX7(b:Bk)(h:b.ps.length=8):b.len=b.ps.flatten.length:=by
 obtain⟨ps,last⟩:=b
 match ps,h with
 | [p0,p1,p2,p3,p4,p5,p6,p7],_=>
  simp[Bk.len,lenTo,offs]
  omega
theorem JZ7(ps:List (List Ord))(h:ps.length=8):(catTo ps 8).Perm ps.flatten:=by
 have hp:offs.Perm (List.range 8):=by decide
 have h1:(catTo ps 8).Perm ((List.range 8).flatMap fun o=>ps.getD o []):=hp.flatMap_right _
 match ps,h with
 | [p0,p1,p2,p3,p4,p5,p6,p7],_=>exact h1
theorem CT7(ps:List (List Ord))(h:ps.length=8)(k j:Nat)(hk:k<8)(q:List Ord)(m m':Int):(Bk.mk (ps.set k q) m).pile j=if j=k then q else(Bk.mk ps m').pile j:=by
 unfold Bk.pile
 simp only[List.getD_eq_getElem?_getD,List.getElem?_set]
 by_cases hj:k=j
 ·subst hj;simp[h,hk]
 ·rw[if_neg hj,if_neg (fun h=>hj h.symm)]
theorem EM7(b:Bk)(h:b.ps.length=8)(k:Nat)(hk:k<8):b.ps[k]'(by omega)=b.pile k:=by
 unfold Bk.pile
 simp[List.getD_eq_getElem?_getD,List.getElem?_eq_getElem (show k<b.ps.length by omega)]
def restK(b:Bk)(k:Nat):List Ord:=(b.ps.eraseIdx k).flatten
theorem Fv7(b:Bk)(h:b.ps.length=8)(k:Nat)(hk:k<8):b.ps.flatten.Perm (b.pile k++restK b k):=by
 have:=(BJ7 b.ps k (by omega)).symm.flatten
 rw[EM7 b h k hk]at this
 exact this
theorem Fw7(ps:List (List Ord))(h:ps.length=8)(k:Nat)(hk:k<8)(q:List Ord):(ps.set k q).flatten.Perm (q++(ps.eraseIdx k).flatten):=by
 have:=(BJ7 (ps.set k q) k (by simp;omega)).symm.flatten
 rw[List.getElem_set_self,List.eraseIdx_set_eq]at this
 exact this
theorem KP7(ps:List (List Ord))(h:ps.length=8)(j:Nat)(hj:j<8)(o:Ord):(ps.set j (pushT (ps.getD j []) o)).flatten.Perm (o::ps.flatten):=by
 have h1:=Fw7 ps h j hj (pushT (ps.getD j []) o)
 have h2:=Fv7 ⟨ps,0⟩ h j hj
 exact(h1.trans ((Eg7 _ _).append_right _)).trans (h2.symm.cons o)
theorem NX7{b:Bk}(h:b.ps.length=8){k:Nat}{z:Ord}(hz:z∈restK b k):∃j,j<8∧j≠k∧z∈b.pile j:=by
 obtain⟨p,hp,hzp⟩:=List.mem_flatten.1 hz
 obtain⟨j,hj,hjk,rfl⟩:=List.mem_eraseIdx_iff_getElem.1 hp
 exact⟨j,by omega,hjk,by rw[←EM7 b h j (by omega)];exact hzp⟩
theorem Rep.far{b:Bk}{L:List Ord}(h:Rep b L){o:Ord}{it:Nat}(hit:o.item=it)(h4:it<4):∀x∈restK b (sideK it (!o.buy)),meetR o x=false:=by
 intro x hx
 obtain⟨j,hj,hjk,hxj⟩:=NX7 h.ok.n8 hx
 have h1:=h.item j hj x hxj
 have h2:=(h.heap j hj).side x hxj
 cases hm:meetR o x with
 | false=>rfl
 | true=>
  exfalso
  apply hjk
  unfold meetR at hm
  simp only[Bool.and_eq_true,decide_eq_true_eq,bne_iff_ne,ne_eq]at hm
  obtain⟨⟨h3,h5⟩,_⟩:=hm
  rw[hit,h1]at h3
  rw[h2]at h5
  have h6:it=j%4:=by omega
  unfold sideK
  cases ho:o.buy
  ·rw[ho]at h5
   have:j<4:=by
    by_cases h:j<4
    ·exact h
    ·simp[h]at h5
   simp only[Bool.not_false,cond_true]
   omega
  ·rw[ho]at h5
   have:¬j<4:=by
    intro h
    simp[h]at h5
   simp only[Bool.not_true,cond_false]
   omega
theorem DA7(it:Nat)(y:Bool)(h:it<4):decide (sideK it y<4)=y:=by unfold sideK;cases y <;> simp;exact h
theorem Fx7(it:Nat)(y:Bool)(h:it<4):sideK it y%4=it:=by unfold sideK;cases y <;> simp <;> omega
theorem Rep.sim{b:Bk}{L:List Ord}(h:Rep b L){o:Ord}{it:Nat}(hit:o.item=it)(h4:it<4):Sim o (b.pile (sideK it (!o.buy))) (restK b (sideK it (!o.buy))) L:=by
 have hk:=Bd7 it (!o.buy) h4
 refine⟨h.perm.trans (Fv7 b h.ok.n8 _ hk),?_,?_,h.far hit h4,h.byId⟩
 ·have:=h.heap _ hk
  rw[DA7 it _ h4]at this
  exact this
 ·intro x hx
  rw[h.item _ hk x hx,Fx7 it _ h4,hit]
theorem Pe7:∀(f:Nat) (o:Ord) (q:List Ord) (ts:List Trd),(∀x∈q,0<x.cnt)→0≤o.cnt→(loopF f o q ts).1={ o with cnt:=(loopF f o q ts).1.cnt }∧0≤(loopF f o q ts).1.cnt∧(loopF f o q ts).1.cnt≤o.cnt
 | 0,o,q,ts,_,h=>⟨rfl,h,Int.le_refl _⟩
 | f+1,o,[],ts,_,h=>⟨rfl,h,Int.le_refl _⟩
 | f+1,o,x::q,ts,hq,h=>by
  rw[loopF]
  by_cases hc:0<o.cnt∧meetO o x=true
  ·rw[if_pos hc]
   have hx:=hq x (List.mem_cons_self ..)
   have hmin:=Dz7 hc.1 hx
   rw[Ei7]
   obtain⟨h1,h2,h3⟩:=Pe7 f { o with cnt:=o.cnt-minI o.cnt x.cnt } (if x.cnt-minI o.cnt x.cnt=0 then popT ({ x with cnt:=x.cnt-minI o.cnt x.cnt }::q)else{ x with cnt:=x.cnt-minI o.cnt x.cnt }::q) (ts++[tradeF o x]) (fun z hz=>by
    split at hz
    ·exact hq z (List.mem_cons_of_mem _ ((CH7 _ _).mem_iff.1 hz))
    ·rename_i hne
     rcases List.mem_cons.1 hz with rfl|hz
     ·simp only;omega
     ·exact hq z (List.mem_cons_of_mem _ hz)) (by simp only;omega)
   exact⟨h1,h2,by simp only at h3;omega⟩
  ·rw[if_neg hc]
   exact⟨rfl,h,Int.le_refl _⟩
theorem Ka7(P:Ord→Prop)(hP:∀x c,P x→1≤c→c≤x.cnt→P { x with cnt:=c })(h1:∀x,P x→1≤x.cnt):∀(f:Nat) (o:Ord) (L:List Ord) (ts:List Trd),(∀x∈L,P x)→(∀x∈(refLoop f o L ts).2.1,P x)∧(refLoop f o L ts).2.1.length≤L.length
 | 0,o,L,ts,h=>⟨h,Nat.le_refl _⟩
 | f+1,o,L,ts,h=>by
  rw[refLoop]
  by_cases h0:0<o.cnt
  ·rw[if_pos h0]
   cases hb:bestTo o L L.length with
   | none=>exact⟨h,Nat.le_refl _⟩
   | some k=>
    obtain⟨hk,_,_⟩:=AQ7 hb
    have hx:=h _ (at'_mem hk)
    have hmin:=Dz7 h0 (h1 _ hx)
    have hcut:∀x∈cutR L k ((at' L k).cnt-minI o.cnt (at' L k).cnt),P x:=by
     unfold cutR
     split
     ·exact fun x hx=>h x (List.mem_of_mem_eraseIdx hx)
     ·intro x hxm
      rcases List.mem_or_eq_of_mem_set hxm with hx'|rfl
      ·exact h x hx'
      ·exact hP _ _ hx (by omega) (by omega)
    have hlen:(cutR L k ((at' L k).cnt-minI o.cnt (at' L k).cnt)).length≤L.length:=by
     unfold cutR
     split
     ·rw[List.length_eraseIdx];split <;> omega
     ·rw[List.length_set];exact Nat.le_refl _
    obtain⟨h2,h3⟩:=Ka7 P hP h1 f { o with cnt:=o.cnt-minI o.cnt (at' L k).cnt } (cutR L k ((at' L k).cnt-minI o.cnt (at' L k).cnt)) (ts++[tradeR o (at' L k)]) hcut
    exact⟨h2,Nat.le_trans h3 hlen⟩
  ·rw[if_neg h0]
   exact⟨h,Nat.le_refl _⟩
theorem GJ7{x:Ord}{c:Int}(h:MayP x)(h1:1≤c)(h2:c≤x.cnt):MayP { x with cnt:=c }:=⟨h.id0,h.id1,h.who0,h.who1,h.item0,h.item1,h1,Int.le_trans h2 h.cnt1,h.price0,h.price1⟩
theorem Fy7{b:Bk}{L:List Ord}(h:Rep b L)(o:Ord):
  (placeB b o).trades=(placeR L b.last o).trades∧(placeB b o).left=(placeR L b.last o).left∧(placeB b o).errno=(placeR L b.last o).errno∧(placeB b o).book.last=(placeR L b.last o).last∧Rep (placeB b o).book (placeR L b.last o).L:=by
 have hlen:b.len=L.length:=by rw[BX7 b h.ok.n8,h.perm.length_eq]
 unfold placeB placeR
 by_cases hbad:mayB o=false∨o.id≤b.last
 ·rw[if_pos hbad,if_pos hbad];exact⟨rfl,rfl,rfl,rfl,h⟩
 ·rw[if_neg hbad,if_neg hbad,hlen]
  by_cases hf:32≤L.length
  ·rw[if_pos hf,if_pos hf];exact⟨rfl,rfl,rfl,rfl,h⟩
  ·rw[if_neg hf,if_neg hf]
   have hmay:MayP o:=Ar7.1 (by
    cases hm:mayB o with
    | true=>rfl
    | false=>exact absurd (Or.inl hm) hbad)
   have hid:b.last<o.id:=by
    by_cases hle:o.id≤b.last
    ·exact absurd (Or.inr hle) hbad
    ·omega
   obtain⟨it,hit⟩:∃it:Nat,o.item=it:=⟨o.item.toNat,by have:=hmay.item0;omega⟩
   have h4:it<4:=by have:=hmay.item1;omega
   have hik:itemK o=it:=by unfold itemK;rw[hit];rfl
   dsimp only
   rw[hik]
   have hk:=Bd7 it (!o.buy) h4
   have hj:=Bd7 it o.buy h4
   have hne:=JU7 it o.buy h4
   have hsim:=h.sim hit h4
   have hq:∀x∈b.pile (sideK it (!o.buy)),0<x.cnt:=fun x hx=>by
    have:=(h.each x (hsim.perm.mem_iff.2 (List.mem_append_left _ hx))).1.cnt0
    omega
   have hlq:(b.pile (sideK it (!o.buy))).length≤L.length:=by rw[←hlen];exact Eh7 b _ hk
   rw[HM7 ((b.pile (sideK it (!o.buy))).length+1) (L.length+1) o _ [] hq (.inl ⟨by omega,by omega⟩)]
   obtain⟨L',hr,hs⟩:=sim (L.length+1) o _ _ _ [] hsim
   obtain⟨ho1,ho2,ho3⟩:=Pe7 (L.length+1) o (b.pile (sideK it (!o.buy))) [] hq (by have:=hmay.cnt0;omega)
   obtain⟨hkeep,hlk⟩:=Ka7 (fun x=>MayP x∧x.id≤b.last) (fun x c hx h1 h2=>⟨GJ7 hx.1 h1 h2,hx.2⟩) (fun x hx=>hx.1.cnt0) (L.length+1) o L [] h.each
   rw[hr]at hkeep hlk ⊢
   generalize loopF (L.length+1) o (b.pile (sideK it (!o.buy))) []=r at hs ho1 ho2 ho3 hr hkeep hlk ⊢
   obtain⟨o',q',ts⟩:=r
   simp only at hs ho1 ho2 ho3 hkeep hlk ⊢
   have hob:o'.buy=o.buy:=by rw[ho1]
   have hoi:o'.item=it:=by rw[ho1];exact hit
   have hoid:o'.id=o.id:=by rw[ho1]
   have hn8:=h.ok.n8
   have hps:(b.ps.set (sideK it (!o.buy)) q').length=8:=by simpa using hn8
   refine⟨by trivial,by trivial,by trivial,by trivial,?_⟩
   have hpermS:L'.Perm (b.ps.set (sideK it (!o.buy)) q').flatten:=hs.perm.trans (Fw7 b.ps hn8 _ hk q').symm
   have hheap1:∀j,j<8→Heap (decide (j<4)) ((Bk.mk (b.ps.set (sideK it (!o.buy)) q') o.id).pile j):=by
    intro j hj
    rw[CT7 b.ps hn8 _ j hk q' o.id b.last]
    split
    ·rename_i he
     rw[he,DA7 it _ h4]
     have:=hs.heap
     rw[hob]at this
     exact this
    ·exact h.heap j hj
   have hitem1:∀j,j<8→∀x∈(Bk.mk (b.ps.set (sideK it (!o.buy)) q') o.id).pile j,x.item=((j%4:Nat):Int):=by
    intro j hj x hx
    rw[CT7 b.ps hn8 _ j hk q' o.id b.last]at hx
    split at hx
    ·rename_i he
     rw[he,Fx7 it _ h4,hs.item x hx,hoi]
    ·exact h.item j hj x hx
   have hid1:=hmay.id1
   have hlast:=h.ok.last0
   by_cases hc:0<o'.cnt
   ·rw[if_pos hc,if_pos hc]
    have hmo:MayP o':=by rw[ho1];exact GJ7 hmay (by omega) ho3
    have hperm:(L'++[o']).Perm ((b.ps.set (sideK it (!o.buy)) q').set (sideK it o.buy) (pushT ((b.ps.set (sideK it (!o.buy)) q').getD (sideK it o.buy) []) o')).flatten:=
     ((List.perm_append_singleton o' L').trans (hpermS.cons o')).trans (KP7 _ hps _ hj o').symm
    have heach:∀x∈L'++[o'],MayP x∧x.id≤o.id:=by
     intro x hx
     rcases List.mem_append.1 hx with hx|hx
     ·have:=hkeep x hx
      exact⟨this.1,by omega⟩
     ·rw[List.mem_singleton.1 hx];exact⟨hmo,by omega⟩
    refine⟨⟨by simp[hn8],?_,?_,by simp only;omega,hid1⟩,hperm,?_,?_,?_,heach⟩
    ·rw[BX7 _ (by simp[hn8]),←hperm.length_eq,List.length_append]
     simp only[List.length_cons,List.length_nil]
     omega
    ·intro p hp x hx
     have hxm:x∈L'++[o']:=hperm.mem_iff.2 (List.mem_flatten.2 ⟨p,hp,hx⟩)
     have:=(heach x hxm).1
     exact⟨this.cnt0,this.cnt1⟩
    ·refine List.pairwise_append.2 ⟨hs.byId,List.pairwise_singleton _ _,?_⟩
     intro x hx z hz
     rw[List.mem_singleton.1 hz,hoid]
     have:=(hkeep x hx).2
     omega
    ·intro j hj8
     rw[CT7 _ hps _ j hj _ o.id o.id]
     split
     ·rename_i he
      rw[he,DA7 it _ h4]
      have:=hheap1 _ hj
      rw[DA7 it _ h4]at this
      exact this.push hob
     ·exact hheap1 j hj8
    ·intro j hj8 x hx
     rw[CT7 _ hps _ j hj _ o.id o.id]at hx
     split at hx
     ·rename_i he
      rcases List.mem_cons.1 ((Eg7 _ _).mem_iff.1 hx)with rfl|hx
      ·rw[he,Fx7 it _ h4,hoi]
      ·rw[he];exact hitem1 _ hj x hx
     ·exact hitem1 j hj8 x hx
   ·rw[if_neg hc,if_neg hc]
    have heach:∀x∈L',MayP x∧x.id≤o.id:=fun x hx=>by
     have:=hkeep x hx
     exact⟨this.1,by omega⟩
    refine⟨⟨hps,?_,?_,by simp only;omega,hid1⟩,hpermS,hs.byId,hheap1,hitem1,heach⟩
    ·rw[BX7 _ hps,←hpermS.length_eq];omega
    ·intro p hp x hx
     have hxm:x∈L':=hpermS.mem_iff.2 (List.mem_flatten.2 ⟨p,hp,hx⟩)
     have:=(heach x hxm).1
     exact⟨this.cnt0,this.cnt1⟩
theorem Gn7:∀{ps:List (List Ord)} {id:Int} {ks:List Nat} {k i:Nat},findAt ps id ks=some (k,i)→k∈ks∧i<(ps.getD k []).length∧((ps.getD k []).getD i o0).id=id
 | _,_,[],_,_,h=>by cases h
 | ps,id,k'::ks,k,i,h=>by
  by_cases hx:idxI id (ps.getD k' [])<0
  ·rw[Fr7 hx]at h
   obtain⟨h1,h2,h3⟩:=Gn7 h
   exact⟨List.mem_cons_of_mem _ h1,h2,h3⟩
  ·obtain⟨j,hj⟩:∃j:Nat,idxI id (ps.getD k' [])=j:=⟨(idxI id (ps.getD k' [])).toNat,by omega⟩
   obtain⟨h1,h2,h3⟩:=Fs7 (ks:=ks) hj
   rw[h1]at h
   cases h
   exact⟨List.mem_cons_self ..,h2,h3⟩
theorem Fz7:∀{ps:List (List Ord)} {id:Int} {ks:List Nat},findAt ps id ks=none→∀k∈ks, ∀x∈ps.getD k [],x.id≠id
 | _,_,[],_,k,hk=>by cases hk
 | ps,id,k'::ks,h,k,hk=>by
  rw[findAt]at h
  cases hf:(ps.getD k' []).findIdx? (fun o=>o.id==id)with
  | some i=>rw[hf]at h;cases h
  | none=>
   rw[hf]at h
   rcases List.mem_cons.1 hk with rfl|hk
   ·intro x hx
    simpa using List.findIdx?_eq_none_iff.1 hf x hx
   ·exact Fz7 h k hk
theorem KQ7{b:Bk}{L:List Ord}(h:Rep b L)(id:Int):
  (cancelB b id).o=(cancelR L id).o∧(cancelB b id).errno=(cancelR L id).errno∧(cancelB b id).book.last=b.last∧Rep (cancelB b id).book (cancelR L id).L:=by
 have hn8:=h.ok.n8
 unfold cancelB cancelR
 cases hf:findAt b.ps id offs with
 | none=>
  have hno:∀x∈L,x.id≠id:=by
   intro x hx
   have hx':=(JZ7 b.ps hn8).mem_iff.2 (h.perm.mem_iff.1 hx)
   obtain⟨o,ho,hxo⟩:=List.mem_flatMap.1 hx'
   exact Fz7 hf o (List.mem_of_mem_take ho) x hxo
  rw[List.findIdx?_eq_none_iff.2 (fun x hx=>by simpa using hno x hx)]
  exact⟨rfl,rfl,rfl,h⟩
 | some p=>
  obtain⟨k,i⟩:=p
  obtain⟨hkm,hil,hid⟩:=Gn7 hf
  have hk8:k<8:=by
   have:∀o∈offs,o<8:=by decide
   exact this k hkm
  have hil':i<(b.pile k).length:=hil
  have hsp:=Fv7 b hn8 k hk8
  have hrem:=HH7 (b.pile k) i hil'
  have hx:(b.pile k).getD i o0=(b.pile k)[i]:=by simp[List.getD_eq_getElem?_getD,List.getElem?_eq_getElem hil']
  have hxid:((b.pile k)[i]).id=id:=by rw[←hx];exact hid
  have hxL:(b.pile k)[i]∈L:=h.perm.mem_iff.2 (hsp.mem_iff.2 (List.mem_append_left _ (List.getElem_mem hil')))
  cases hg:L.findIdx? (fun o=>o.id==id)with
  | none=>
   have:=List.findIdx?_eq_none_iff.1 hg _ hxL
   simp[hxid]at this
  | some m=>
   obtain⟨hm,hmx,_⟩:=List.findIdx?_eq_some_iff_getElem.1 hg
   have hmid:(at' L m).id=id:=by rw[at'_get hm];simpa using hmx
   have heq:(b.pile k)[i]=at' L m:=h.byId.eq hxL (at'_mem hm) (by rw[hxid,hmid])
   dsimp only
   rw[hx,heq]
   refine⟨rfl,rfl,rfl,?_⟩
   have hperm:(L.eraseIdx m).Perm (b.ps.set k (remT (b.pile k) i)).flatten:=by
    have h1:=(GI7 L hm).trans (h.perm.trans hsp)
    have h2:(b.pile k++restK b k).Perm (at' L m::(remT (b.pile k) i++restK b k)):=by
     rw[←heq]
     exact(hrem.symm.append_right (restK b k))
    exact(h1.trans h2).cons_inv.trans (Fw7 b.ps hn8 k hk8 _).symm
   have heach:∀x∈L.eraseIdx m,MayP x∧x.id≤b.last:=fun x hx=>h.each x (List.mem_of_mem_eraseIdx hx)
   have hps:(b.ps.set k (remT (b.pile k) i)).length=8:=by simpa using hn8
   refine⟨⟨hps,?_,?_,h.ok.last0,h.ok.last1⟩,hperm,h.byId.erase m,?_,?_,heach⟩
   ·rw[BX7 _ hps,←hperm.length_eq,List.length_eraseIdx]
    have:=h.ok.few
    rw[BX7 _ hn8,←h.perm.length_eq]at this
    split <;> omega
   ·intro p hp x hx
    have:=(heach x (hperm.mem_iff.2 (List.mem_flatten.2 ⟨p,hp,hx⟩))).1
    exact⟨this.cnt0,this.cnt1⟩
   ·intro j hj
    rw[CT7 b.ps hn8 k j hk8 _ b.last b.last]
    split
    ·rename_i he
     rw[he]
     exact(h.heap k hk8).rem hil'
    ·exact h.heap j hj
   ·intro j hj x hx
    rw[CT7 b.ps hn8 k j hk8 _ b.last b.last]at hx
    split at hx
    ·rename_i he
     rw[he]
     exact h.item k hk8 x (hrem.mem_iff.1 (List.mem_cons_of_mem _ hx))
    ·exact h.item j hj x hx
structure TrOk(o x:Ord)(t:Trd):Prop where
 price:t.price=x.price
 buys:o.buy=true→t.sell=x.id∧t.bid=o.price∧x.price≤o.price
 sells:o.buy=false→t.buy=x.id∧t.bid=x.price∧o.price≤x.price
theorem Mg7{o x:Ord}(hm:meetR o x=true):TrOk o x (tradeR o x):=by
 unfold meetR at hm
 simp only[Bool.and_eq_true,decide_eq_true_eq]at hm
 obtain⟨_,h3⟩:=hm
 unfold tradeR
 cases hb:o.buy
 ·rw[hb]at h3
  simp only[Bool.false_eq_true,if_false,decide_eq_true_eq]at h3 ⊢
  exact⟨rfl,fun h=>(by rw[hb]at h;cases h),fun _=>⟨rfl,rfl,h3⟩⟩
 ·rw[hb]at h3
  simp only[if_true,decide_eq_true_eq]at h3 ⊢
  exact⟨rfl,fun _=>⟨rfl,rfl,h3⟩,fun h=>(by rw[hb]at h;cases h)⟩
theorem Go7:∀(f:Nat) (o:Ord) (L:List Ord) (ts:List Trd) (t:Trd),t∈(refLoop f o L ts).2.2→t∈ts∨∃x∈L,TrOk o x t
 | 0,o,L,ts,t,h=>.inl h
 | f+1,o,L,ts,t,h=>by
  rw[refLoop]at h
  by_cases h0:0<o.cnt
  ·rw[if_pos h0]at h
   cases hb:bestTo o L L.length with
   | none=>rw[hb]at h;exact .inl h
   | some k=>
    rw[hb]at h
    obtain⟨hk,hm,_⟩:=AQ7 hb
    rcases Go7 f _ _ _ t h with h|⟨x,hx,hok⟩
    ·rcases List.mem_append.1 h with h|h
     ·exact .inl h
     ·rw[List.mem_singleton.1 h]
      exact .inr ⟨_,at'_mem hk,Mg7 hm⟩
    ·have hx':∃z∈L,z.id=x.id∧z.price=x.price:=by
      unfold cutR at hx
      split at hx
      ·exact⟨x,List.mem_of_mem_eraseIdx hx,rfl,rfl⟩
      ·rcases List.mem_or_eq_of_mem_set hx with hx|rfl
       ·exact⟨x,hx,rfl,rfl⟩
       ·exact⟨_,at'_mem hk,rfl,rfl⟩
     obtain⟨z,hz,e1,e2⟩:=hx'
     refine .inr ⟨z,hz,⟨by rw[e2];exact hok.price,fun hy=>?_,fun hy=>?_⟩⟩
     ·have:=hok.buys hy
      rw[e1,e2];exact this
     ·have:=hok.sells hy
      rw[e1,e2];exact this
  ·rw[if_neg h0]at h;exact .inl h
theorem HN7{b:Bk}{L:List Ord}(h:Rep b L)(o:Ord){t:Trd}(ht:t∈(placeB b o).trades):∃x∈L,TrOk o x t:=by
 rw[(Fy7 h o).1]at ht
 unfold placeR at ht
 split at ht
 ·cases ht
 ·split at ht
  ·cases ht
  ·rcases Go7 _ _ _ _ _ ht with h|h
   ·cases h
   ·exact h
def pTo(L:List Ord)(id:Int):Nat→Int
 | 0=>0
 | n+1=>if(at' L n).id=id then(at' L n).price else pTo L id n
theorem NY7{b:Bk}{L l:List Ord}(h:Rep b L)(hp:l.Perm (catTo b.ps 8))(hs:l.Pairwise fun x z=>x.id≤z.id):l=L:=
 HK7 ((hp.trans (JZ7 b.ps h.ok.n8)).trans h.perm.symm) hs h.byId
theorem PC7(bb:Nat){b:Bk}{L:List Ord}(h:Rep b L)(W w:World)(Lr:List HP)(hS:St W (bookP bb b::Lr) w):
  Calls Tryz.prog 172 #[.pointer (some ⟨bb,0,none⟩)] w fun e w'=>∃a c,e=.returned (.slice a L.length c)∧St W (bookP bb b::pileR (.slice a L.length c) L::Lr) w':=by
 refine(Me7 bb b h.ok.few W w Lr hS).mono ?_
 rintro e w' ⟨v,l,rfl,hl,hsd,hS⟩
 obtain rfl:=NY7 h hl hsd
 obtain⟨a,c,rfl⟩:=hS.drop.rowVal
 exact⟨a,c,rfl,hS⟩
theorem NZ7(bb:Nat){b:Bk}{L:List Ord}(h:Rep b L)(o:Ord)(W w:World)(Lr:List HP)(hS:St W (bookP bb b::Lr) w):
  Calls Tryz.prog 169 #[.pointer (some ⟨bb,0,none⟩),.agg o.cells.toArray] w fun e w'=>∃b' ts a c,(ts=(placeR L b.last o).trades∧b'.last=(placeR L b.last o).last∧Rep b' (placeR L b.last o).L∧∀t∈ts, ∃x∈L,TrOk o x t) ∧
   e=.returned (.tuple #[.slice a ts.length c,.int .i64 (placeR L b.last o).left,.int .i64 (placeR L b.last o).errno])∧St W (bookP bb b'::tradesR (.slice a ts.length c) ts::Lr) w':=by
 obtain⟨h1,h2,h3,h4,h5⟩:=Fy7 h o
 refine(KK7 bb b o h.ok W w Lr hS).mono ?_
 rintro e w' ⟨v,rfl,hS⟩
 obtain⟨a,c,rfl⟩:=hS.drop.rowVal
 refine⟨_,_,a,c,⟨h1,h4,h5,fun t ht=>HN7 h o ht⟩,?_,hS⟩
 rw[h2,h3]
theorem Mh7(bb:Nat){b:Bk}{L:List Ord}(h:Rep b L)(id:Int)(W w:World)(Lr:List HP)(hS:St W (bookP bb b::Lr) w):
  Calls Tryz.prog 174 #[.pointer (some ⟨bb,0,none⟩),.int .i64 id] w fun e w'=>∃b',(b'.last=b.last∧Rep b' (cancelR L id).L) ∧
   e=.returned (.tuple #[.agg (cancelR L id).o.cells.toArray,.int .i64 (cancelR L id).errno])∧St W (bookP bb b'::Lr) w':=by
 obtain⟨h1,h2,h3,h4⟩:=KQ7 h id
 refine(IO7 bb b id h.ok.few W w Lr hS).mono ?_
 rintro e w' ⟨rfl,hS⟩
 exact⟨_,⟨h3,h4⟩,by rw[h1,h2],hS⟩
end Go.Proofs.YtlmhakmoioogaaaGreat
end
