/-
  The vault keeps.
-/
import Derived.Test.YtlmhakmoioogaaaGreatEconBkM11
import Derived.Laws.Bits64b
import Derived.Laws.IdiomStrings
set_option maxHeartbeats 16000000
set_option maxRecDepth 100000
set_option linter.unusedSimpArgs false
set_option linter.unusedVariables false
section
namespace Go.Proofs.YtlmhakmoioogaaaGreat
open Go.RowKit Go.Sl
def O5(k:Int):Ps->Int
 | []=>0
 | x::p=>A7 x.2 k+O5 k p
def aM4(k:Int):List Ord->Int
 | []=>0
 | x::L=>A7 (l8 x) k+aM4 k L
def bM4(k:Int)(t:Trd):Int:=(if k=t.item then t.cnt else 0)+(if k=0 then t.cnt*(t.bid-t.price)+t.cnt*t.price else 0)
def bB4(k:Int):List Trd->Int
 | []=>0
 | t::ts=>bM4 k t+bB4 k ts
def ak4(k:Int):List It->Int
 | []=>0
 | i::l=>A7 i k+ak4 k l
def I7(V:Vs)(k:Int):Int:=O5 k V.ps+aM4 k V.L
structure Kx(k:Int):Prop where
 k0:0<=k
 k3:k<=3
theorem BR7(k:Int):A7 it0 k=0:=by
 unfold A7 it0;repeat' split
 all_goals rfl
theorem Ih7(i:It){j k:Int}(hj:Kx j)(hk:Kx k)(n:Int):A7 (aX4 i j n) k=if k=j then n else A7 i k:=by
 obtain⟨j0,j3⟩:=hj;obtain⟨k0,k3⟩:=hk;have h1:j=0\/j=1\/j=2\/j=3:=by omega
 have h2:k=0\/k=1\/k=2\/k=3:=by omega
 rcases h1 with rfl|rfl|rfl|rfl <;> rcases h2 with rfl|rfl|rfl|rfl <;> rfl
theorem Dz7(a b:It)(k:Int):A7 (S7 a b) k=A7 a k+A7 b k:=by
 unfold A7 S7
 repeat' split
 all_goals rfl
theorem LP7(a b:It)(k:Int):A7 (bH4 a b) k=A7 a k-A7 b k:=by
 unfold A7 bH4
 repeat' split
 all_goals rfl
theorem UQ7{i:It}(h:isZ i=true)(k:Int):A7 i k=0:=by rw[SH7 h,BR7]
theorem BH7{p:Ps}(h:(p.map (·.1)).Nodup)(k:ByteArray)(i:It):((K7 p k i).map (·.1)).Nodup:=by
 unfold K7;split
 ·exact Fh7 h k
 ·rw[List.map_cons,List.nodup_cons];refine⟨fun hm=>?_,Fh7 h k⟩;obtain⟨x,hx,e⟩:=List.mem_map.1 hm;exact(Cs7 hx).2 e
theorem Jn7{p:Ps}(h:(p.map (·.1)).Nodup){x:ByteArray×It}(hx:x∈p):m5 p x.1=x.2:=by have:=Br7 (v:=x.2) h hx;unfold m5;rw[this];rfl
theorem MY7(x:ByteArray×It)(p:Ps)(k:ByteArray):m5 (x::p) k=if x.1=k then x.2 else m5 p k:=by
 unfold m5 m7;split
 ·rename_i h
  rw[List.find?_cons_of_pos (by simpa using h)];rfl
 ·rename_i h
  rw[List.find?_cons_of_neg (by simpa using h)]
theorem LQ7(k:Int)(who:ByteArray):∀{p:Ps},(p.map (·.1)).Nodup->O5 k (j9 p who)=O5 k p-A7 (m5 p who) k
 | [],_=>by
  show(0:Int)=0-A7 it0 k
  rw[BR7];rfl
 | x::p,h=>by
  rw[List.map_cons,List.nodup_cons]at h;have ih:=LQ7 k who h.2;rw[MY7];by_cases hx:x.1=who
  ·rw[if_pos hx]
   have e:j9 (x::p) who=p:=by
    unfold j9;rw[List.filter_cons,if_neg (by simpa using hx)];refine List.filter_eq_self.2 fun y hy=>?_
    have:y.1≠who:=fun e=>h.1 (List.mem_map.2 ⟨y,hy,e.trans hx.symm⟩)
    simpa using this
   rw[e];show O5 k p=A7 x.2 k+O5 k p-A7 x.2 k
   omega
  ·rw[if_neg hx];have e:j9 (x::p) who=x::j9 p who:=by unfold j9;rw[List.filter_cons,if_pos (by simpa using hx)]
   rw[e];show A7 x.2 k+O5 k (j9 p who)=A7 x.2 k+O5 k p-A7 (m5 p who) k
   omega
theorem Ev7{p:Ps}(h:(p.map (·.1)).Nodup)(k:Int)(who:ByteArray)(i:It):O5 k (K7 p who i)=O5 k p-A7 (m5 p who) k+A7 i k:=by
 have hd:=LQ7 k who h;unfold K7;split
 ·rename_i hz
  rw[hd,UQ7 hz];omega
 ·show A7 i k+O5 k (j9 p who)=_
  omega
structure PsK(p:Ps):Prop where
 nd:(p.map (·.1)).Nodup
 ok:N5 p
theorem PsK.pos{p:Ps}(h:PsK p)(k:Int):0<=O5 k p:=by
 have hx:∀x∈p,0<=A7 x.2 k:=fun x hx=>by rw[<-Jn7 h.nd hx];exact(Fe7 (h.ok x.1) k).1
 clear h
 induction p with
 | nil=>exact Int.le_refl _
 | cons x p ih=>
  have h1:=hx x (List.mem_cons_self ..);have h2:=ih fun y hy=>hx y (List.mem_cons_of_mem _ hy)
  show 0<=A7 x.2 k+O5 k p
  omega
theorem Ii7:x8 it0=true:=by decide
theorem PsK.le{p:Ps}(h:PsK p)(who:ByteArray)(k:Int):A7 (m5 p who) k<=O5 k p:=by have h1:=Ev7 h.nd k who it0;have h2:=PsK.pos ⟨BH7 h.nd who it0,El7 h.ok who Ii7⟩ k;rw[BR7]at h1;omega
theorem PsK.give{p:Ps}(h:PsK p)(who:ByteArray)(j:Int){n:Int}(hn:0<=n):PsK (r8 p who j n):=⟨BH7 h.nd _ _,An7 h.ok who j hn⟩
theorem Cf7{p:Ps}(h:PsK p)(who:ByteArray){j k:Int}(hj:Kx j)(hk:Kx k){n:Int}(hn:0<=n)(hb:O5 j p+n<=1152921504606846976):
  O5 k (r8 p who j n)=O5 k p+if k=j then n else 0:=by
 have hle:=h.le who j;unfold r8 az4;rw[Ev7 h.nd,Ih7 _ hj hk];have hc:aj4 (A7 (m5 p who) j+n)=A7 (m5 p who) j+n:=by unfold aj4;rw[if_neg (by omega)]
 rw[hc];split
 ·rename_i e;subst e;omega
 ·omega
theorem PsK.pay{p:Ps}(h:PsK p){t:Trd}(ht:TrB t):PsK (aL4 p t):=⟨BH7 (BH7 (BH7 h.nd _ _) _ _) _ _,LK7 h.ok ht⟩
theorem Rb7{t:Trd}(ht:TrB t)(k:Int):0<=bM4 k t:=by have h1:=Cp7 ht.cnt.1 ht.cnt.2 ht.price.1 ht.price.2;have h2:=Cp7 ht.cnt.1 ht.cnt.2 ht.bid.1 ht.bid.2;have h3:=ht.cnt.1;unfold bM4;split <;> split <;> omega
theorem Rc7{p:Ps}(h:PsK p){t:Trd}(ht:TrB t)(hb:∀k,Kx k->O5 k p+bM4 k t<=1152921504606846976){k:Int}(hk:Kx k):O5 k (aL4 p t)=O5 k p+bM4 k t:=by
 have h1:=Cp7 ht.cnt.1 ht.cnt.2 ht.price.1 ht.price.2;have h2:=Cp7 ht.cnt.1 ht.cnt.2 ht.bid.1 ht.bid.2;have h3:=ht.cnt.1;have z:Kx 0:=⟨by decide,by decide⟩
 have ji:Kx t.item:=⟨ht.item.1,ht.item.2⟩
 have g1:=h.give t.buyer t.item h3;have g2:=g1.give t.buyer 0 h2.1;have b0:=hb 0 z;have bi:=hb t.item ji;have k0:bM4 0 t=(if 0=t.item then t.cnt else 0)+(t.cnt*(t.bid-t.price)+t.cnt*t.price):=by unfold bM4;rw[if_pos (rfl:(0:Int)=0)]
 have ki:bM4 t.item t=t.cnt+(if t.item=0 then t.cnt*(t.bid-t.price)+t.cnt*t.price else 0):=by unfold bM4;rw[if_pos (rfl:t.item=t.item)]
 have bi2:O5 t.item p+t.cnt<=1152921504606846976:=by rw[ki]at bi;split at bi <;> omega
 have e1:=fun k hk=>Cf7 (k:=k) h t.buyer ji hk h3 bi2
 have e10:=e1 0 z;have b1:O5 0 (r8 p t.buyer t.item t.cnt)+t.cnt*(t.bid-t.price)<=1152921504606846976:=by rw[k0]at b0;rw[e10];omega
 have e2:=fun k hk=>Cf7 (k:=k) g1 t.buyer z hk h2.1 b1
 have e20:=e2 0 z;rw[if_pos (rfl:(0:Int)=0)]at e20;have b2:O5 0 (r8 (r8 p t.buyer t.item t.cnt) t.buyer 0 (t.cnt*(t.bid-t.price)))+t.cnt*t.price<=1152921504606846976:=by rw[k0]at b0;rw[e20,e10];omega
 unfold aL4;rw[Cf7 g2 t.seller z hk h1.1 b2,e2 k hk,e1 k hk];unfold bM4;split <;> split <;> omega
theorem LR7:∀{ts:List Trd},(∀t∈ts,TrB t)->∀k,0<=bB4 k ts
 | [],_,_=>Int.le_refl _
 | t::ts,h,k=>by
  have h1:=Rb7 (h t (List.mem_cons_self ..)) k;have h2:=LR7 (fun x hx=>h x (List.mem_cons_of_mem t hx)) k;show 0<=bM4 k t+bB4 k ts
  omega
theorem Jo7:∀(ts:List Trd) {p:Ps},PsK p->(∀t∈ts,TrB t)->(∀k,Kx k->O5 k p+bB4 k ts<=1152921504606846976)->∀{k:Int},Kx k->O5 k (ts.foldl aL4 p)=O5 k p+bB4 k ts
 | [],p,_,_,_,k,_=>by show O5 k p=O5 k p+0;omega
 | t::ts,p,h,ht,hb,k,hk=>by
  have h1:=ht t (List.mem_cons_self ..);have h2:∀x∈ts,TrB x:=fun x hx=>ht x (List.mem_cons_of_mem t hx)
  have hs:∀k,Kx k->O5 k (aL4 p t)=O5 k p+bM4 k t:=fun k hk=>Rc7 h h1 (fun j hj=>by have a:=hb j hj;have b:=LR7 h2 j;have c:bB4 j (t::ts)=bM4 j t+bB4 j ts:=rfl;omega) hk
  have hc:bB4 k (t::ts)=bM4 k t+bB4 k ts:=rfl;have ih:=Jo7 ts (h.pay h1) h2 (fun j hj=>by have a:=hb j hj;have c:bB4 j (t::ts)=bM4 j t+bB4 j ts:=rfl;rw[hs j hj];omega) hk;rw[List.foldl_cons,ih,hs k hk,hc];omega
theorem GC7{L L':List Ord}(h:L.Perm L')(k:Int):aM4 k L=aM4 k L':=by
 induction h with
 | nil=>rfl
 | cons x _ ih=>simp only[aM4,ih]
 | swap x y l=>simp only[aM4];omega
 | trans _ _ ih1 ih2=>rw[ih1,ih2]
theorem KB7(L:List Ord)(x:Ord)(k:Int):aM4 k (L++[x])=aM4 k L+A7 (l8 x) k:=by rw[GC7 (List.perm_append_singleton x L) k];simp only[aM4];omega
theorem OK7{L:List Ord}{j:Nat}(hj:j<L.length)(k:Int):aM4 k L=A7 (l8 (at' L j)) k+aM4 k (L.eraseIdx j):=by rw[<-GC7 (HX7 L hj) k];rfl
theorem Rd7{L:List Ord}{j:Nat}(hj:j<L.length)(x:Ord)(k:Int):aM4 k (L.set j x)=A7 (l8 x) k+aM4 k (L.eraseIdx j):=by rw[<-GC7 (SF7 L hj x) k];rfl
theorem Jp7{o:Ord}(hi:1<=o.item/\o.item<=3){k:Int}(hk:Kx k):A7 (l8 o) k=if o.buy=true then(if k=0 then o.cnt*o.price else 0)else if k=o.item then o.cnt else 0:=by
 unfold l8;split
 ·have h2:k=0\/k=1\/k=2\/k=3:=by have:=hk.k0;have:=hk.k3;omega
  rcases h2 with rfl|rfl|rfl|rfl <;> rfl
 ·rw[Ih7 it0 ⟨by omega,hi.2⟩ hk,BR7]
def bk4(o:Ord)(c:Int):Ord:=⟨o.id,o.who,o.buy,o.item,c,o.price⟩
theorem CK7{o:Ord}(hi:1<=o.item/\o.item<=3){k:Int}(hk:Kx k)(c:Int):A7 (l8 (bk4 o c)) k=if o.buy=true then(if k=0 then c*o.price else 0)else if k=o.item then c else 0:=
 Jp7 (o:=bk4 o c) hi hk
theorem LS7{o:Ord}(hi:1<=o.item/\o.item<=3){k:Int}(hk:Kx k)(c n:Int):A7 (l8 (bk4 o (c-n))) k=A7 (l8 (bk4 o c)) k-A7 (l8 (bk4 o n)) k:=by
 rw[CK7 hi hk,CK7 hi hk,CK7 hi hk];have:=Int.sub_mul c n o.price;by_cases hb:o.buy=true
 ·simp only[if_pos hb];by_cases h0:k=0
  ·simp only[if_pos h0];omega
  ·simp only[if_neg h0];rfl
 ·simp only[if_neg hb];by_cases h0:k=o.item
  ·simp only[if_pos h0]
  ·simp only[if_neg h0];rfl
theorem MZ7{o x:Ord}(ho:1<=o.item/\o.item<=3)(hm:K5 o x=true){k:Int}(hk:Kx k):
  A7 (l8 (bk4 x (O9 o.cnt x.cnt))) k+A7 (l8 (bk4 o (O9 o.cnt x.cnt))) k=bM4 k (L6 o x):=by
 unfold K5 at hm;simp only[jB,decide_eq_true_eq,bne_iff_ne,ne_eq]at hm;obtain⟨⟨h1,h2⟩,_⟩:=hm;have hx:1<=x.item/\x.item<=3:=by rw[<-h1];exact ho
 rw[CK7 hx hk,CK7 ho hk];unfold bM4 L6;by_cases hob:o.buy=true
 ·have hxb:¬x.buy=true:=fun h=>h2 (hob.trans h.symm)
  simp only[if_pos hob,if_neg hxb];have:=Int.mul_sub (O9 o.cnt x.cnt) o.price x.price;by_cases h0:k=0
  ·have h9:¬k=x.item:=by omega
   have h8:¬k=o.item:=by omega
   simp only[if_pos h0,if_neg h9,if_neg h8];omega
  ·rw[h1];by_cases h9:k=x.item
   ·simp only[if_neg h0,if_pos h9]
   ·simp only[if_neg h0,if_neg h9]
 ·have hxb:x.buy=true:=by
   cases hx1:x.buy with
   | true=>rfl
   | false=>exact absurd ((by simpa using hob:o.buy=false).trans hx1.symm) h2
  simp only[if_neg hob,if_pos hxb];have:=Int.mul_sub (O9 o.cnt x.cnt) x.price x.price;by_cases h0:k=0
  ·have h8:¬k=o.item:=by omega
   simp only[if_pos h0,if_neg h8];omega
  ·by_cases h9:k=o.item
   ·simp only[if_neg h0,if_pos h9];omega
   ·simp only[if_neg h0,if_neg h9]
theorem SN7{o:Ord}(hi:1<=o.item/\o.item<=3)(h:o.cnt=0){k:Int}(hk:Kx k):A7 (l8 o) k=0:=by
 rw[Jp7 hi hk,h,Int.zero_mul]
 repeat' split
 all_goals rfl
theorem OL7{L:List Ord}{j:Nat}(hj:j<L.length)(hL:∀x∈L,MayP x)(n:Int){k:Int}(hk:Kx k):aM4 k (bf4 L j ((at' L j).cnt-n))=aM4 k L-A7 (l8 (bk4 (at' L j) n)) k:=by
 have hx:=hL _ (L8 hj);have hi:1<=(at' L j).item/\(at' L j).item<=3:=⟨hx.item0,hx.item1⟩
 have hc:=LS7 hi hk (at' L j).cnt n;have e:A7 (l8 (bk4 (at' L j) (at' L j).cnt)) k=A7 (l8 (at' L j)) k:=rfl;rw[e]at hc;have hz:(at' L j).cnt-n=0->A7 (l8 (bk4 (at' L j) ((at' L j).cnt-n))) k=0:=fun h=>SN7 (o:=bk4 (at' L j) ((at' L j).cnt-n)) hi h hk
 have hs:=OK7 hj k;unfold bf4;split
 ·rename_i hz0
  have:=hz hz0;omega
 ·rw[Rd7 hj];show A7 (l8 (bk4 (at' L j) ((at' L j).cnt-n))) k+aM4 k (L.eraseIdx j)=_
  omega
theorem Jq7:∀(f:Nat) (o:Ord) (L:List Ord) (ts:List Trd),(∀x∈L,MayP x)->(1<=o.item/\o.item<=3)->0<=o.cnt->∀{k:Int},Kx k->
  0<=(w6 f o L ts).1.cnt/\(w6 f o L ts).1.item=o.item/\aM4 k (w6 f o L ts).2.1+A7 (l8 (w6 f o L ts).1) k+bB4 k (w6 f o L ts).2.2=aM4 k L+A7 (l8 o) k+bB4 k ts
 | 0,o,L,ts,_,_,h0,k,_=>⟨h0,rfl,rfl⟩
 | f+1,o,L,ts,hL,ho,h0,k,hk=>by
  rw[w6];by_cases hc:0<o.cnt
  ·rw[if_pos hc]
   cases hb:B8 o L L.length with
   | none=>exact⟨h0,rfl,rfl⟩
   | some j=>
    obtain⟨hj,hm,_⟩:=AK7 hb;have hx:=hL _ (L8 hj);have hx0:=hx.cnt0;have hmin:=Du7 hc (show 0<(at' L j).cnt by omega)
    have hL':∀x∈bf4 L j ((at' L j).cnt-O9 o.cnt (at' L j).cnt),MayP x:=by
     unfold bf4;split
     ·exact fun x hx=>hL x (List.mem_of_mem_eraseIdx hx)
     ·intro x hxm
      rcases List.mem_or_eq_of_mem_set hxm with hx'|rfl
      ·exact hL x hx'
      ·exact HY7 hx (by omega) (by omega)
    obtain⟨i1,i2,i3⟩:=Jq7 f (bk4 o (o.cnt-O9 o.cnt (at' L j).cnt)) _ (ts++[L6 o (at' L j)]) hL' ho (by show 0<=o.cnt-O9 o.cnt (at' L j).cnt;omega) hk;refine⟨i1,i2,Eq.trans i3 ?_⟩;have a1:=OL7 hj hL (O9 o.cnt (at' L j).cnt) hk;have a2:=LS7 ho hk o.cnt (O9 o.cnt (at' L j).cnt);have a3:=MZ7 ho hm hk;have e:A7 (l8 (bk4 o o.cnt)) k=A7 (l8 o) k:=rfl
    have a4:∀(l:List Trd) (t:Trd),bB4 k (l++[t])=bB4 k l+bM4 k t:=fun l t=>by
     induction l with
     | nil=>simp[bB4]
     | cons y l ih=>simp only[jK,bB4,ih];omega
    rw[a4];rw[e]at a2;omega
  ·rw[if_neg hc];exact⟨h0,rfl,rfl⟩
theorem Re7{L:List Ord}{o:Ord}(hL:∀x∈L,MayP x)(ho:1<=o.item/\o.item<=3)(h0:0<=o.cnt){k:Int}(hk:Kx k):aM4 k (cJ4 L o)+bB4 k (bg4 L o)=aM4 k L+A7 (l8 o) k:=by
 obtain⟨h1,h2,h3⟩:=Jq7 (L.length+1) o L [] hL ho h0 hk;have e:bB4 k []=0:=rfl;rw[e]at h3;unfold cJ4 bg4;split
 ·rw[KB7];omega
 ·have:=SN7 (by rw[h2];exact ho) (show(w6 (L.length+1) o L []).1.cnt=0 by omega) hk;omega
theorem FP7{L:List Ord}(hL:∀x∈L,MayP x)(k:Int):0<=aM4 k L:=by
 induction L with
 | nil=>exact Int.le_refl _
 | cons x L ih=>
  have hx:=hL x (List.mem_cons_self ..);have h1:=ih fun y hy=>hL y (List.mem_cons_of_mem x hy)
  have h2:bA4 x=true:=Ao7.2 ⟨show(1:Int)<=1 by decide,show(1:Int)<=1099511627776 by decide,hx.who0,hx.who1,hx.item0,hx.item1,hx.cnt0,hx.cnt1,hx.price0,hx.price1⟩;have h3:=(Fe7 (CR7 h2).2 k).1;show 0<=A7 (l8 x) k+aM4 k L
  omega
theorem Na7{V:Vs}{o:Ord}(hp:PsK V.ps)(hL:∀x∈V.L,MayP x)(hL2:∀x∈(E6 V o).2.2.L,MayP x)(hb:∀k,Kx k->I7 V k<=1152921504606846976){k:Int}(hk:Kx k):I7 (E6 V o).2.2 k=I7 V k:=by
 unfold E6 at hL2 ⊢;split
 ·rfl
 ·rename_i h1
  rw[if_neg h1]at hL2;have hm:=Ao7.1 (show P9 { o with id:=1 }=true by simpa[bA4]using h1);split
  ·rfl
  ·rename_i h2
   rw[if_neg h2]at hL2;split
   ·rename_i h3
    rw[if_pos h3]at hL2;have c0:1<=o.cnt:=hm.cnt0;have c1:o.cnt<=1048576:=hm.cnt1;have ho:1<=o.item/\o.item<=3:=⟨hm.item0,hm.item1⟩
    have hT:∀t∈bg4 V.L { o with id:=V.n },TrB t:=Dg7 _ _ _ _ hL ⟨show 0<=o.cnt by omega,c1,hm.item0,hm.item1,hm.price1⟩ fun t ht=>(by cases ht)
    have hh:l8 { o with id:=V.n }=l8 o:=rfl;have hr:=fun k hk=>Re7 (k:=k) (o:={ o with id:=V.n }) hL ho (show 0<=o.cnt by omega) hk
    have ht:∀k,O5 k (A8 V.ps o.who (l8 o))=O5 k V.ps-A7 (l8 o) k:=fun k=>by
     unfold A5 at h3;unfold A8;split at h3
     ·rename_i hc
      rw[if_pos hc];split at h3
      ·rename_i hs
       rw[if_pos hs,Ev7 hp.nd,LP7];omega
      ·cases h3
     ·cases h3
    have htk:PsK (A8 V.ps o.who (l8 o)):=by
     refine⟨?_,CI7 hp.ok _ _⟩;unfold A8;split
     ·split
      ·exact BH7 hp.nd _ _
      ·exact hp.nd
     ·exact hp.nd
    have hbb:∀j,Kx j->O5 j (A8 V.ps o.who (l8 o))+bB4 j (bg4 V.L { o with id:=V.n })<=1152921504606846976:=fun j hj=>by have a:=hr j hj;have b:=FP7 hL2 j;have c:=hb j hj;unfold I7 at c;rw[ht j];dsimp only at a b;rw[hh]at a;omega
    have hw:=Jo7 _ htk hT hbb hk;have a:=hr k hk;rw[hh]at a;unfold I7;dsimp only;rw[hw,ht k];omega
   ·rfl
theorem OM7{p:Ps}(hp:PsK p)(who:ByteArray){i:It}(hi:x8 i=true)(hb:∀k,Kx k->O5 k p+A7 i k<=1152921504606846976){k:Int}(hk:Kx k):O5 k (cw4 p who i)=O5 k p+A7 i k:=by
 obtain⟨a0,a1,a2,a3⟩:=Af7.1 hi;have z0:Kx 0:=⟨by decide,by decide⟩
 have z1:Kx 1:=⟨by decide,by decide⟩
 have z2:Kx 2:=⟨by decide,by decide⟩
 have z3:Kx 3:=⟨by decide,by decide⟩
 have b0:O5 0 p+i.x0<=_:=hb 0 z0;have b1:O5 1 p+i.x1<=_:=hb 1 z1;have b2:O5 2 p+i.x2<=_:=hb 2 z2;have b3:O5 3 p+i.x3<=_:=hb 3 z3;have g0:=hp.give who 0 a0.1;have g1:=g0.give who 1 a1.1;have g2:=g1.give who 2 a2.1;have e0:=fun k hk=>Cf7 (k:=k) hp who z0 hk a0.1 b0
 have e1:=fun k hk=>Cf7 (k:=k) g0 who z1 hk a1.1 (by rw[e0 1 z1,if_neg (by decide)];omega)
 have e2:=fun k hk=>Cf7 (k:=k) g1 who z2 hk a2.1 (by rw[e1 2 z2,e0 2 z2,if_neg (by decide),if_neg (by decide)];omega)
 have e3:=fun k hk=>Cf7 (k:=k) g2 who z3 hk a3.1 (by rw[e2 3 z3,e1 3 z3,e0 3 z3,if_neg (by decide),if_neg (by decide),if_neg (by decide)];omega)
 unfold cw4;rw[e3 k hk,e2 k hk,e1 k hk,e0 k hk];have h2:k=0\/k=1\/k=2\/k=3:=by have:=hk.k0;have:=hk.k3;omega
 rcases h2 with rfl|rfl|rfl|rfl
 ·show _+i.x0+0+0+0=_+i.x0;omega
 ·show _+0+i.x1+0+0=_+i.x1;omega
 ·show _+0+0+i.x2+0=_+i.x2;omega
 ·show _+0+0+0+i.x3=_+i.x3;omega
theorem Nb7{V:Vs}{who:ByteArray}{id:Int}(hp:PsK V.ps)(hL:∀x∈V.L,MayP x)(hb:∀k,Kx k->I7 V k<=1152921504606846976){k:Int}(hk:Kx k):I7 (F6 V who id).2 k=I7 V k:=by
 unfold F6;split
 ·rename_i h
  obtain⟨he,hm⟩:=Dx7 h;have hx:=hL _ hm;have h1:bA4 (A6 V.L id).o=true:=Ao7.2 ⟨show(1:Int)<=1 by decide,show(1:Int)<=1099511627776 by decide,hx.who0,hx.who1,hx.item0,hx.item1,hx.cnt0,hx.cnt1,hx.price0,hx.price1⟩
  have hs:∀k,aM4 k V.L=A7 (l8 (A6 V.L id).o) k+aM4 k (A6 V.L id).L/\∀x∈(A6 V.L id).L,MayP x:=fun k=>by
   unfold A6 at he ⊢
   cases hf:V.L.findIdx? (fun o=>o.id==id)with
   | none=>rw[hf]at he;cases he
   | some i=>
    obtain⟨hi,_⟩:=List.findIdx?_eq_some_iff_getElem.1 hf;exact⟨OK7 hi k,fun x hx=>hL x (List.mem_of_mem_eraseIdx hx)⟩
  have hw:=OM7 hp who (CR7 h1).2 (fun j hj=>by have a:=hb j hj;have b:=(hs j).1;have c:=FP7 (hs j).2 j;unfold I7 at a;omega) hk;unfold I7;dsimp only;rw[hw,(hs k).1];omega
 ·rfl
theorem Jr7{V:Vs}{k:ByteArray}{i:It}(hp:PsK V.ps)(j:Int):I7 ⟨M5 V.ps k i,V.L,V.n⟩ j=I7 V j+(if Q5 V.ps k i=0 then A7 i j else 0)/\PsK (M5 V.ps k i)/\(Q5 V.ps k i=0->x8 i=true):=by
 have hk:PsK (M5 V.ps k i):=by
  refine⟨?_,LJ7 hp.ok _ _⟩;unfold M5;split
  ·split
   ·exact BH7 hp.nd _ _
   ·exact hp.nd
  ·exact hp.nd
 refine⟨?_,hk,?_⟩
 ·unfold I7 Q5 M5;dsimp only;split
  ·rename_i hc
   cases ha:G5 [m5 V.ps k,i] it0 with
   | none=>simp
   | some s=>
    have e:s=S7 (S7 it0 (m5 V.ps k)) i:=by
     simp only[G5]at ha;split at ha
     ·split at ha
      ·cases ha;rfl
      ·cases ha
     ·cases ha
    simp only[Option.isSome_some,if_true];rw[Ev7 hp.nd,e,Dz7,Dz7,BR7];omega
  ·rw[if_neg (by decide)];omega
 ·unfold Q5;split
  ·rename_i hc
   exact fun _=>hc.2
  ·exact fun h=>(by cases h)
theorem Nc7{V:Vs}{k:ByteArray}{i:It}(hp:PsK V.ps)(j:Int):I7 ⟨A8 V.ps k i,V.L,V.n⟩ j=I7 V j-(if A5 V.ps k i=0 then A7 i j else 0)/\PsK (A8 V.ps k i)/\(A5 V.ps k i=0->x8 i=true):=by
 have hk:PsK (A8 V.ps k i):=by
  refine⟨?_,CI7 hp.ok _ _⟩;unfold A8;split
  ·split
   ·exact BH7 hp.nd _ _
   ·exact hp.nd
  ·exact hp.nd
 refine⟨?_,hk,?_⟩
 ·unfold I7 A5 A8;dsimp only;split
  ·split
   ·rw[Ev7 hp.nd,LP7,if_pos rfl];omega
   ·rw[if_neg (by decide)];omega
  ·rw[if_neg (by decide)];omega
 ·unfold A5;split
  ·rename_i hc
   exact fun _=>hc.2
  ·exact fun h=>(by cases h)
theorem GD7(k:Int):∀(a b:List It),ak4 k (a++b)=ak4 k a+ak4 k b
 | [],b=>by show ak4 k b=0+ak4 k b;omega
 | i::a,b=>by
  show A7 i k+ak4 k (a++b)=A7 i k+ak4 k a+ak4 k b
  rw[GD7 k a b];omega
theorem Js7{l l':List It}(h:l.Perm l')(k:Int):ak4 k l=ak4 k l':=by
 induction h with
 | nil=>rfl
 | cons x _ ih=>simp only[ak4,ih]
 | swap x y l=>simp only[ak4];omega
 | trans _ _ ih1 ih2=>rw[ih1,ih2]
theorem Rf7{l:List It}(h:∀i∈l,x8 i=true)(k:Int):0<=ak4 k l:=by
 induction l with
 | nil=>exact Int.le_refl _
 | cons i l ih=>
  have h1:=(Fe7 (h i (List.mem_cons_self ..)) k).1;have h2:=ih fun y hy=>h y (List.mem_cons_of_mem i hy)
  show 0<=A7 i k+ak4 k l
  omega
theorem KC7{i:It}(h:∀k,Kx k->0<=A7 i k/\A7 i k<=1152921504606846976):x8 i=true:=
 Af7.2 ⟨h 0 ⟨by decide,by decide⟩,h 1 ⟨by decide,by decide⟩,h 2 ⟨by decide,by decide⟩,h 3 ⟨by decide,by decide⟩⟩
theorem UR7{a b:It}(h:∀k,Kx k->A7 a k=A7 b k):a=b:=by obtain⟨a0,a1,a2,a3⟩:=a;obtain⟨b0,b1,b2,b3⟩:=b;have h0:a0=b0:=h 0 ⟨by decide,by decide⟩;have h1:a1=b1:=h 1 ⟨by decide,by decide⟩;have h2:a2=b2:=h 2 ⟨by decide,by decide⟩;have h3:a3=b3:=h 3 ⟨by decide,by decide⟩;rw[h0,h1,h2,h3]
theorem FQ7:∀(l:List It) {s t:It},(∀i∈l,x8 i=true)->x8 s=true->(∀k,Kx k->A7 t k=A7 s k+ak4 k l)->(∀k,Kx k->A7 t k<=1152921504606846976)->G5 l s=some t
 | [],s,t,_,_,he,_=>by rw[UR7 (a:=t) (b:=s) fun k hk=>by rw[he k hk];show A7 s k+0=_;omega];rfl
 | i::l,s,t,h,hs,he,hb=>by
  have hi:=h i (List.mem_cons_self ..);have hl:∀x∈l,x8 x=true:=fun x hx=>h x (List.mem_cons_of_mem i hx)
  have hsi:x8 (S7 s i)=true:=KC7 fun k hk=>by have a:=(Fe7 hs k).1;have b:=(Fe7 hi k).1;have c:=Rf7 hl k;have d:=he k hk;have e:=hb k hk;have f:ak4 k (i::l)=A7 i k+ak4 k l:=rfl;rw[Dz7];omega
  rw[G5,if_pos ⟨hi,hsi⟩];refine FQ7 l hl hsi (fun k hk=>?_) hb;rw[he k hk,Dz7];show _=_+ak4 k l
  have f:ak4 k (i::l)=A7 i k+ak4 k l:=rfl;omega
def co4(V:Vs):List It:=(hdL V.ps).map Hd.has++V.L.map l8
theorem KD7{p:Ps}(hn:(p.map (·.1)).Nodup)(k:Int):ak4 k ((hdL p).map Hd.has)=O5 k p:=by
 have e:(hdL p).map Hd.has=(kL p).map (m5 p):=by unfold hdL;rw[List.map_map];rfl
 have e2:(p.map (·.1)).map (m5 p)=p.map (·.2):=by rw[List.map_map];exact List.map_congr_left fun x hx=>Jn7 hn hx
 have h3:ak4 k ((kL p).map (m5 p))=ak4 k ((p.map (·.1)).map (m5 p)):=by have h4:(kL p).Perm (p.map (·.1)):=Ax7 _;exact Js7 (h4.map (m5 p)) k
 rw[e,h3,e2];clear e e2 h3 hn
 induction p with
 | nil=>rfl
 | cons x p ih=>simp only[List.map_cons,ak4,O5,ih]
theorem ON7(L:List Ord)(k:Int):ak4 k (L.map l8)=aM4 k L:=by
 induction L with
 | nil=>rfl
 | cons x L ih=>simp only[List.map_cons,ak4,aM4,ih]
def al4(V:Vs):It:=⟨I7 V 0,I7 V 1,I7 V 2,I7 V 3⟩
theorem FR7(V:Vs){k:Int}(hk:Kx k):A7 (al4 V) k=I7 V k:=by
 have h2:k=0\/k=1\/k=2\/k=3:=by have:=hk.k0;have:=hk.k3;omega
 rcases h2 with rfl|rfl|rfl|rfl <;> rfl
theorem Tz7{V:Vs}(hp:PsK V.ps)(hL:∀x∈V.L,MayP x)(hb:∀k,Kx k->I7 V k<=1152921504606846976):G5 (co4 V) it0=some (al4 V):=by
 refine FQ7 _ ?_ Ii7 (fun k hk=>?_) fun k hk=>by rw[FR7 V hk];exact hb k hk
 ·intro i hi
  rcases List.mem_append.1 hi with h|h
  ·obtain⟨x,hx,rfl⟩:=List.mem_map.1 h;unfold hdL at hx;obtain⟨y,_,rfl⟩:=List.mem_map.1 hx;exact hp.ok y
  ·obtain⟨x,hx,rfl⟩:=List.mem_map.1 h;have hx:=hL x hx;exact(CR7 (o:=x) (Ao7.2 ⟨show(1:Int)<=1 by decide,show(1:Int)<=1099511627776 by decide,hx.who0,hx.who1,hx.item0,hx.item1,hx.cnt0,hx.cnt1,hx.price0,hx.price1⟩)).2
 ·unfold co4;rw[GD7,KD7 hp.nd,ON7,BR7,FR7 V hk];unfold I7;omega
abbrev cx4(v:Value)(l:List It):HP:=row v 4 29 l.length (l.flatMap It.cells)
def TtR(W:World)(F:List HP)(m:Nat)(acc:Nat->List It)(v7 vk:Value)(w:World):Prop:=
 ∃k:Nat,vk=.I k/\k<=m/\St W (cx4 v7 (acc k)::F) w
theorem CL7{α β:Type}(f:α->β)(l:List α){k:Nat}(h:k<l.length):(l.take (k+1)).map f=(l.take k).map f++[f l[k]]:=by rw[List.take_succ_eq_append_getElem h,List.map_append];rfl
theorem DA7(l:List It)(x:It):(l++[x]).flatMap It.cells=l.flatMap It.cells++x.cells:=by simp
theorem KE7(vb mb bb:Nat)(p:Ps)(L:List Ord)(n:Int){N:Nat}(hw:PsW p N)(hN:N<=1000000000){t0 t1 t2 t3:Int}(ht:G5 (co4 ⟨p,L,n⟩) it0=some ⟨t0,t1,t2,t3⟩)(W w:World)(R:List HP)(hS:St W (B7 vb mb bb p L n R) w):
  Calls Tryz.prog 57 #[.P vb] w fun e w'=>e=.returned (.tuple #[.agg #[.I t0,.I t1,.I t2,.I t3],.bool true])/\St W (B7 vb mb bb p L n R) w':=by
 have hll:=Cd7 hS.drop.drop;have hmay:∀x∈L,MayP x:=fun x hx=>(Bn7 hS.drop.drop x hx).1
 have hlh:(hdL p).length<=1000000000:=by rw[Bl7];exact Nat.le_trans hw.len hN
 have Hmay:=jH hmay;have Ht:=jH ht;have Hw:=jH hw;clear hmay ht hw;go_enter Tryz.func57,Tryz.ntmps57;go_wp2_with(first|go_at_call 124;refine(Dy7 vb mb bb p L n Hw.out hN W _ _ (hS.s (blk vb _ _::d8 eS eP mb p::w7 bb L n::blk b0 _ _::R))).mono ?_;clear hS;rintro e w ⟨sa,sc,oa,oc,rfl,hS⟩|(with_reducible apply Al7 hS);rfl;rfl;exact zsS;clear hS;intro b0 w hS;refine frS ?_);generalize hhs:hdL p=hs at hS hlh;have Hhs:=jH hhs;clear hhs;have hS1:=hS.rowNil (k:=4) (T:=29);clear hS;have hS:=hS1;clear hS1
 go_loopw [7,22] (fun v7 v22 wr=>TtR W (B7 vb mb bb p L n (hdR (.slice sa hs.length sc) hs::j8 (.slice oa L.length oc) L::blk b0 [.I 0,.I 0,.I 0,.I 0] 29::R)) hs.length (fun k=>(hs.take k).map Hd.has) v7 v22 wr) (fun _ v22 _=>hs.length-(intOf v22).toNat)
 case atStart=>exact⟨0,rfl,Nat.zero_le _,hS⟩
 case round=>
  clear hS;obtain⟨k,rfl,hkl,hS⟩:=hrel;dsimp only at hS;by_cases hkn:k=hs.length
  ·rw[hkn,List.take_length]at hS;have hd1:decide (k<hs.length)=false:=by simp;omega
   clear hkl hkn;generalize hacc:hs.map Hd.has=acc at hS;have hal:acc.length<=1000000000:=by rw[<-hacc,jM];exact hlh
   have Hacc:=jH hacc;clear hacc;go_wp2_with(fail)
   go_loopw [7,34] (fun v7 v34 wr=>TtR W (B7 vb mb bb p L n (hdR (.slice sa hs.length sc) hs::j8 (.slice oa L.length oc) L::blk b0 [.I 0,.I 0,.I 0,.I 0] 29::R)) L.length (fun k=>acc++(L.take k).map l8) v7 v34 wr) (fun _ v34 _=>L.length-(intOf v34).toNat)
   case atStart=>exact⟨0,rfl,Nat.zero_le _,by simpa using hS⟩
   case round=>
    clear hS;obtain⟨j,rfl,hjl,hS⟩:=hrel;dsimp only at hS;by_cases hjn:j=L.length
    ·rw[hjn,List.take_length]at hS;have hd2:decide (j<L.length)=false:=by simp;omega
     have hall:G5 (acc++L.map l8) it0=some ⟨t0,t1,t2,t3⟩:=by rw[<-Hacc.out,<-Hhs.out];exact Ht.out
     have Hall:=jH hall;clear hall hjl hjn;go_wp2_with(first|go_at_call 58;refine(HU7 Hall.out _ W _ _ hS).mono ?_;clear hS;rintro e w ⟨rfl,hS⟩|(with_reducible apply Al7 hS);rfl;rfl;exact zsS;clear hS;intro bt w hS;refine frS ?_|refine zsN hS ?_;clear hS;intro w hS|refine zlN hS ?_);apply Ac7;rfl;rfl;rfl;rfl;exact hS;decide +kernel;(exact x9);kernel_rfl;exact⟨rfl,hS.s _⟩
    ·have hj1:j<L.length:=by omega
     obtain⟨⟨g,rfl⟩,_,_⟩:=St.rowAddr hS.drop.drop.drop.drop.drop (by omega);have hcells:∀{K K':List HP},Take K (j8 (.S g L.length oc) L) K'->i8 K g (j*6) (Ord.cells L[j]):=fun hu=>i8.elemM (enc:=Ord.cells) Ord.len hu hj1
     have hstep:acc++(L.take (j+1)).map l8=(acc++(L.take j).map l8)++[l8 L[j]]:=by rw[CL7 _ _ hj1,jS]
     have hmx:=Hmay.out _ (jW hj1);have hbl:(acc++(L.take j).map l8).length<=1000000100:=by rw[jA,jM,jT];omega
     have Hstep:=jH hstep;clear hstep hjn hjl;generalize acc++(L.take j).map l8=accj at hS Hstep hbl;generalize L[j]=x at hcells Hstep hmx;obtain⟨it,hit⟩:∃y,l8 x=y:=⟨_,rfl⟩
     obtain⟨oi,ou,oy,ot,oc2,op⟩:=x;obtain⟨h0,h1,h2,h3⟩:=it;have Hit:=jH hit;have Hm:=jH hmx;clear hit hmx;simp only[Ord.cells]at hcells;go_wp2_with(first|refine zlN hS ?_ (hc:=by exact hcells (by exact j5))|go_at_call 125;refine(FM7 (o:=⟨oi,ou,oy,ot,oc2,op⟩) Hm.out Hit.out W _ _ hS).mono ?_;clear hS;rintro e w ⟨rfl,hS⟩|refine zbs hS ?_;clear hS;intro bS w hS|refine zap hS ?_ (h63:=by unfold maxLen;omega) (hb:=by omega);clear hS;intro v w hS|(with_reducible apply Al7 hS);rfl;rfl;exact zsS;clear hS;intro bx w hS;refine frS ?_|refine zsN hS ?_;clear hS;intro w hS|refine zlN hS ?_);go_roundw
     case rel=>
      refine⟨j+1,rfl,hj1,?_⟩;dsimp only;rw[Hstep.out,Hit.out];unfold cx4;rw[DA7,jA,List.length_singleton];have h0:St W (row v 4 29 (accj.length+1) (accj.flatMap It.cells++It.cells ⟨h0,h1,h2,h3⟩)::_) w:=hS;exact h0.s _
     case measure=>simp[intOf];omega
  ·have hk1:k<hs.length:=by omega
   obtain⟨⟨g,rfl⟩,_,_⟩:=St.rowAddr hS.drop.drop.drop.drop (by omega);have hcells:∀{K K':List HP},Take K (hdR (.S g hs.length sc) hs) K'->i8 K g (k*5) (Hd.cells hs[k]):=fun hu=>i8.elemM (enc:=Hd.cells) Hd.len hu hk1
   have hstep:=CL7 Hd.has hs hk1;have hbl:((hs.take k).map Hd.has).length<=1000000100:=by rw[jM,jT];omega
   have Hstep:=jH hstep;clear hstep hkn hkl;generalize (hs.take k).map Hd.has=accj at hS Hstep hbl;generalize hs[k]=x at hcells Hstep;obtain⟨xw,⟨x0,x1,x2,x3⟩⟩:=x;simp only[Hd.cells,It.cells]at hcells;go_wp2_with(first|refine zlN hS ?_ (hc:=by exact hcells (by exact j5))|refine zlN hS ?_ (hc:=by exact i8.here (vs:=[.I x0,.I x1,.I x2,.I x3]) rfl)|refine zbs hS ?_;clear hS;intro bS w hS|refine zap hS ?_ (h63:=by unfold maxLen;omega) (hb:=by omega);clear hS;intro v w hS|(with_reducible apply Al7 hS);rfl;rfl;exact zsS;clear hS;intro bx w hS;refine frS ?_|refine zsN hS ?_;clear hS;intro w hS);go_roundw
   case rel=>
    refine⟨k+1,rfl,hk1,?_⟩;dsimp only;rw[Hstep.out];unfold cx4;rw[DA7,jA,List.length_singleton];have h0:St W (row v 4 29 (accj.length+1) (accj.flatMap It.cells++It.cells ⟨x0,x1,x2,x3⟩)::_) w:=hS;exact h0.s _
   case measure=>simp[intOf];omega
theorem gm4(W w:World)(R:List HP)(hS:St W R w):
  Calls Tryz.prog 114 #[] w fun e w'=>∃xb xB,e=.returned (.P xb)/\St W (xvR xb xB [] [] 1 R) w':=by
 go_enter Tryz.func114,Tryz.ntmps114;go_wp2_with(first|(fail_if_success (have:=bA));(with_reducible apply AH7 hS);rfl;rfl;rfl;rfl;clear hS;intro bA w hS;refine frS ?_|(have:=bA);(with_reducible apply AH7 hS);rfl;rfl;rfl;rfl;clear hS;intro bB w hS;refine frS ?_);go_ret;have hS1:=(hS.rowNil (k:=5) (T:=189)).rowNil (k:=6) (T:=166);have e0:hdL []=[]:=List.eq_nil_of_length_eq_zero (by rw[Bl7];rfl);have hS2:St W (j8 (.slice none 0 0) []::hdR (.slice none 0 0) []::_) _:=hS1;rw[<-e0]at hS2;have hS3:=aT4 (n:=1) (last:=0) (by decide) (hS2.s (blk bA _ _::j8 _ []::blk bB _ _::hdR _ (hdL [])::R));exact⟨bB,bA,rfl,au4 (hS3.s (blk bB _ _::hdR _ (hdL [])::xkP bA [] 1::R))⟩
theorem fR4(xb xB:Nat)(p:Ps)(L:List Ord)(n:Int){N:Nat}(hw:PsW p N)(hN:N<=1000000)(hmay:∀x∈L,MayP x)(hl32:L.length<=32)(W w:World)(R:List HP)(hS:St W (xvR xb xB p L n R) w):
  Calls Tryz.prog 139 #[.P xb] w fun e w'=>e=.returned (.tuple #[.agg (bK4 (co4 ⟨p,L,n⟩)).cells.toArray,.bool (G5 (co4 ⟨p,L,n⟩) it0).isSome])/\St W (xvR xb xB p L n R) w':=by
 have hlh:(hdL p).length<=1000000:=by rw[Bl7];exact Nat.le_trans hw.len hN
 have Hmay:=jH hmay;clear hmay hw;obtain⟨xv,hS1⟩:=bc4 hS;obtain⟨la,lc,last,hlast,hS2⟩:=bD4 (hS1.s (xkP xB L n::blk xb _ _::hdR _ (hdL p)::R));clear hS hS1;obtain⟨ha,hc,rfl⟩:=hS2.drop.drop.drop.rowVal;have hS:=hS2;clear hS2;unfold co4;go_enter Tryz.func139,Tryz.ntmps139;go_wp2_with(first|(with_reducible apply Al7 hS);rfl;rfl;exact zsS;clear hS;intro b0 w hS;refine frS ?_);have hS1:=hS.rowNil (k:=4) (T:=29);clear hS;have hS:=hS1;clear hS1
 try dsimp only
 generalize hhs:hdL p=hs at hS hlh ⊢;have Hhs:=jH hhs;clear hhs
 go_loopw [4,5] (fun v4 v5 wr=>TtR W (blk b0 [.I 0,.I 0,.I 0,.I 0] 29::blk xB [.slice la L.length lc,.I last] 244::j8 (.slice la L.length lc) L::blk xb [.slice ha hs.length hc,.P xB,.I n] 246::hdR (.slice ha hs.length hc) hs::R) hs.length (fun k=>(hs.take k).map Hd.has) v4 v5 wr) (fun _ v5 _=>hs.length-(intOf v5).toNat)
 case atStart=>exact⟨0,rfl,Nat.zero_le _,hS⟩
 case round=>
  clear hS;obtain⟨k,rfl,hkl,hS⟩:=hrel;dsimp only at hS;by_cases hkn:k=hs.length
  ·rw[hkn,List.take_length]at hS;have hd1:decide (k<hs.length)=false:=by simp;omega
   clear hkl hkn;generalize hacc:hs.map Hd.has=acc at hS ⊢;have hal:acc.length<=1000000:=by rw[<-hacc,jM];exact hlh
   have Hacc:=jH hacc;clear hacc;go_wp2_with(first|go_big_skip|refine zl1 hS ?_)
   go_loopw [4,6] (fun v4 v6 wr=>TtR W (blk b0 [.I 0,.I 0,.I 0,.I 0] 29::blk xB [.slice la L.length lc,.I last] 244::j8 (.slice la L.length lc) L::blk xb [.slice ha hs.length hc,.P xB,.I n] 246::hdR (.slice ha hs.length hc) hs::R) L.length (fun k=>acc++(L.take k).map l8) v4 v6 wr) (fun _ v6 _=>L.length-(intOf v6).toNat)
   case atStart=>exact⟨0,rfl,Nat.zero_le _,by simpa using hS⟩
   case round=>
    clear hS;obtain⟨j,rfl,hjl,hS⟩:=hrel;dsimp only at hS;by_cases hjn:j=L.length
    ·rw[hjn,List.take_length]at hS;have hd2:decide (j<L.length)=false:=by simp;omega
     clear hjl hjn;obtain⟨q,hq⟩:∃q,bK4 (acc++L.map l8)=q:=⟨_,rfl⟩
     obtain⟨s0,s1,s2,s3⟩:=q;have Hq:=jH hq;clear hq;go_wp2_with(first|go_big_skip|refine zl1 hS ?_|go_at_call 117;refine(fP4 _ _ W _ _ hS).mono ?_;clear hS;rw[Hq.out];simp only[It.cells];rintro e w ⟨rfl,hS⟩|refine zsN hS ?_;clear hS;intro w hS);apply Ac7;rfl;rfl;rfl;rfl;exact hS;decide +kernel;(exact x9);kernel_rfl;rw[show(hdL p).map Hd.has=acc by rw[Hhs.out,Hacc.out],Hq.out];have hS1:=aT4 hlast (hS.s (blk xB _ _::j8 _ L::blk xb _ _::hdR _ hs::R));rw[<-Hhs.out]at hS1;exact⟨rfl,au4 (hS1.s (blk xb _ _::hdR _ (hdL p)::xkP xB L n::R))⟩
    ·have hj1:j<L.length:=by omega
     obtain⟨⟨g,rfl⟩,_,_⟩:=St.rowAddr hS.drop.drop.drop (by omega);have hcells:∀{K K':List HP},Take K (j8 (.S g L.length lc) L) K'->i8 K g (j*6) (Ord.cells L[j]):=fun hu=>i8.elemM (enc:=Ord.cells) Ord.len hu hj1
     have hstep:acc++(L.take (j+1)).map l8=(acc++(L.take j).map l8)++[l8 L[j]]:=by rw[CL7 _ _ hj1,jS]
     have hmx:=Hmay.out _ (jW hj1);have hbl:(acc++(L.take j).map l8).length<=1000100:=by rw[jA,jM,jT];omega
     have Hstep:=jH hstep;clear hstep hjn hjl;generalize acc++(L.take j).map l8=accj at hS Hstep hbl;generalize L[j]=x at hcells Hstep hmx;obtain⟨it,hit⟩:∃y,l8 x=y:=⟨_,rfl⟩
     obtain⟨oi,ou,oy,ot,oc2,op⟩:=x;obtain⟨h0,h1,h2,h3⟩:=it;have Hit:=jH hit;have Hm:=jH hmx;clear hit hmx;simp only[Ord.cells]at hcells;go_wp2_with(first|go_big_skip|refine zlN hS ?_ (hc:=by exact hcells (by exact j5))|refine zl1 hS ?_|go_at_call 183;refine(Eu7 (o:=⟨oi,ou,oy,ot,oc2,op⟩) Hm.out Hit.out W _ _ hS).mono ?_;clear hS;rintro e w ⟨rfl,hS⟩|refine zbs hS ?_;clear hS;intro bS w hS|refine zap hS ?_ (h63:=by unfold maxLen;omega) (hb:=by omega);clear hS;intro v w hS);go_roundw
     case rel=>
      refine⟨j+1,rfl,hj1,?_⟩;dsimp only;rw[Hstep.out,Hit.out];unfold cx4;rw[DA7,jA,List.length_singleton];have h0:St W (row v 4 29 (accj.length+1) (accj.flatMap It.cells++It.cells ⟨h0,h1,h2,h3⟩)::_) w:=hS;exact h0.s _
     case measure=>simp[intOf];omega
  ·have hk1:k<hs.length:=by omega
   obtain⟨⟨g,rfl⟩,_,_⟩:=St.rowAddr hS.drop.drop.drop.drop.drop (by omega);have hitems:∀{K K':List HP},Take K (hdR (.S g hs.length hc) hs) K'->i8 K g (k*5+1) (hs[k].has.cells):=fun hu j v hj=>by have h1:=i8.elemM (enc:=Hd.cells) Hd.len hu hk1 (1+j) v (by rw[Nat.add_comm];exact hj);rwa [<-Nat.add_assoc]at h1
   have hstep:=CL7 Hd.has hs hk1;have hbl:((hs.take k).map Hd.has).length<=1000000:=by rw[jM,jT];omega
   have Hstep:=jH hstep;clear hstep hkn hkl;generalize (hs.take k).map Hd.has=accj at hS Hstep hbl;generalize hs[k]=x at hitems Hstep;obtain⟨xw,⟨x0,x1,x2,x3⟩⟩:=x;simp only[It.cells]at hitems;go_wp2_with(first|go_big_skip|refine zlN hS ?_ (hc:=by exact hitems (by exact j5))|refine zl1 hS ?_|refine zbs hS ?_;clear hS;intro bS w hS|refine zap hS ?_ (h63:=by unfold maxLen;omega) (hb:=by omega);clear hS;intro v w hS);go_roundw
   case rel=>
    refine⟨k+1,rfl,hk1,?_⟩;dsimp only;rw[Hstep.out];unfold cx4;rw[DA7,jA,List.length_singleton];have h0:St W (row v 4 29 (accj.length+1) (accj.flatMap It.cells++It.cells ⟨x0,x1,x2,x3⟩)::_) w:=hS;exact h0.s _
   case measure=>simp[intOf];omega
def if4(W:World)(Lr:List HP)(n:Nat)(v:Value)(w:World):Prop:=∃i:Nat,v=.I i/\i<=n/\St W Lr w
def aU4:Nat->Nat->List Int
 | 0,u=>[(u:Int)]
 | f+1,u=>if 128<=u then((u%128+128:Nat):Int)::aU4 f (u / 128)else[(u:Int)]
def bh4(n:Int):Nat:=if 4611686018427387904<n then 4611686018427387904 else if 0<n then n.toNat else 0
def m6(n:Int):List Int:=aU4 8 (bh4 n)
theorem BW7{f u:Nat}(h:u<128):aU4 f u=[(u:Int)]:=by
 cases f with
 | zero=>rfl
 | succ f=>rw[aU4,if_neg (by omega)]
theorem LT7:∀f u,(aU4 f u).length<=f+1
 | 0,u=>Nat.le_refl _
 | f+1,u=>by
  rw[aU4];split
  ·have:=LT7 f (u / 128);rw[jC];omega
  ·simp
theorem Ij7(n:Int):bh4 n<=4611686018427387904:=by
 unfold bh4
 repeat' split
 all_goals omega
theorem Ak7(n:Int):(m6 n).length<=9:=LT7 _ _
theorem US7:∀v:Fin 256,bits .or .u8 ((v.val:Nat):Int) 128=((v.val%128+128:Nat):Int):=by decide +kernel
theorem OO7(u:Nat):bits .or .u8 ((u:Int)%256) 128=((u%128+128:Nat):Int):=by
 have h:=US7 ⟨u%256,Nat.mod_lt _ (by decide)⟩;have e:((u:Int)%256)=((u%256:Nat):Int):=by omega
 rw[e,h];have:u%256%128=u%128:=Nat.mod_mod_of_dvd _ (by decide);simp only[this]
theorem Ik7{u:Nat}(hu:u<=4611686018427387904):bits .or .u8 (bits .and .u64 (u:Int) 127%256) 128=((u%128+128:Nat):Int):=by
 have h:=bits_and_u64_nat u 127 (by omega) (by decide);have e:u &&& 127=u%128:=Nat.and_two_pow_sub_one_eq_mod u 7;have h2:bits .and .u64 (u:Int) 127=((u%128:Nat):Int):=by rw[<-e];exact h
 rw[h2,OO7,Nat.mod_mod]
theorem Fm7{u:Nat}(h:u<=4611686018427387904):u<128^(8+1):=by
 have:(128:Nat)^(8+1)=9223372036854775808:=by decide
 omega
abbrev u8s(l:List Int):List Value:=l.map (Value.int .u8)
abbrev byR(v:Value)(l:List Int):HP:=row v 1 5 l.length (u8s l)
def NmR(W:World)(L:List HP)(t:List Int)(v3 v4:Value)(w:World):Prop:=
 ∃(f u:Nat) (d:List Int),v3=.int .u64 u/\u<128^(f+1)/\u<=4611686018427387904/\f<=8/\d.length<=8-f/\d++aU4 f u=t/\St W (byR v4 d::L) w
theorem Ct7(d:List Int)(x:Int):u8s (d++[x])=u8s d++[Value.int .u8 x]:=by unfold u8s;rw[List.map_append];rfl
theorem AN7{v:Value}{n:Nat}{l:List Int}{L:List HP}{W w:World}(hl:l.length=n)(h:St W (row v 1 5 n (u8s l)::L) w):St W (byR v l::L) w:=by unfold byR;rw[hl];exact h
theorem cX4(n:Int)(hn : -9223372036854775808<=n/\n<=9223372036854775807)(W w:World)(R:List HP)(hS:St W R w):
  Calls Tryz.prog 140 #[.I n] w fun e w'=>∃v,e=.returned v/\St W (byR v (m6 n)::R) w':=by
 obtain⟨u0,hu0⟩:∃u,bh4 n=u:=⟨_,rfl⟩
 have hul:u0<=4611686018427387904:=by rw[<-hu0];exact Ij7 n
 unfold m6;rw[hu0];by_cases h1:4611686018427387904<n
 ·have e:bh4 n=4611686018427387904:=by unfold bh4;rw[if_pos h1]
  have eu:u0=4611686018427387904:=hu0.symm.trans e;have Eu:=jH eu;clear hu0 e eu;go_enter Tryz.func140,Tryz.ntmps140;go_wp2_with(first|go_big_skip);have hS1:=hS.rowNil (k:=1) (T:=5);clear hS;have hS:=hS1;clear hS1
  go_loopw [3,4] (fun v3 v4 wr=>NmR W R (aU4 8 u0) v3 v4 wr) (fun v3 _ _=>(intOf v3).toNat)
  case atStart=>exact⟨8,u0,[],by rw[Eu.out];rfl,Fm7 hul,hul,by omega,by simp,rfl,hS⟩
  case round=>
   clear hS;obtain⟨f,u,d,rfl,hu,hu2,hf,hd,hE,hS⟩:=hrel;by_cases h128:128<=u
   ·obtain⟨f,rfl⟩:∃f',f=f'+1:=by
     cases f with
     | zero=>simp at hu;omega
     | succ f=>exact⟨f,rfl⟩
    have hu3:u / 128<128^(f+1):=Nat.div_lt_of_lt_mul (by rw[Nat.pow_succ]at hu;omega);rw[aU4,if_pos h128]at hE;have Hu3:=jH hu3;have HE:=jH hE;clear hE hu hu3;go_wp2_with(first|go_big_skip|refine zbs hS ?_;clear hS;intro bS w hS|refine zap hS ?_ (h63:=by unfold maxLen;omega) (hb:=by omega);clear hS;intro v w hS);have hb:=Ik7 hu2;have h0:St W (row v 1 5 (d.length+1) (u8s d++[Value.int .u8 (bits .or .u8 (bits .and .u64 (u:Int) 127%256) 128)])::_) w:=hS;rw[hb,<-Ct7]at h0;have h2:=AN7 (by rw[jA,List.length_singleton]) h0;go_roundw
    case rel=>exact⟨f,u / 128,d++[((u%128+128:Nat):Int)],by rw[Int.natCast_ediv];rfl,Hu3.out,by omega,by omega,by rw[jA,List.length_singleton];omega,by rw[jS];exact HE.out,h2.s _⟩
    case measure=>simp[intOf];omega
   ·have hu4:u<128:=by omega
    rw[BW7 hu4]at hE;have HE:=jH hE;clear hE hu h128;go_wp2_with(first|go_big_skip|refine zbs hS ?_;clear hS;intro bS w hS|refine zap hS ?_ (h63:=by unfold maxLen;omega) (hb:=by omega);clear hS;intro v w hS);go_ret;refine⟨v,rfl,?_⟩;have h0:St W (row v 1 5 (d.length+1) (u8s d++[Value.int .u8 (u:Int)])::_) w:=hS;rw[<-Ct7,HE.out]at h0;have h2:=AN7 (by rw[<-HE.out,jA,List.length_singleton]) h0;exact h2.s _
 ·have d1:decide (4611686018427387904<n)=false:=by simpa using h1
  by_cases h2:0<n
  ·have e:bh4 n=n.toNat:=by unfold bh4;rw[if_neg h1,if_pos h2]
   obtain⟨m,rfl⟩:∃m:Nat,n=m:=⟨n.toNat,by omega⟩
   have eu:u0=m:=hu0.symm.trans (by rw[e];simp);subst eu;clear hu0 e;go_enter Tryz.func140,Tryz.ntmps140;go_wp2_with(first|go_big_skip);have hS1:=hS.rowNil (k:=1) (T:=5);clear hS;have hS:=hS1;clear hS1
   go_loopw [3,4] (fun v3 v4 wr=>NmR W R (aU4 8 u0) v3 v4 wr) (fun v3 _ _=>(intOf v3).toNat)
   case atStart=>exact⟨8,u0,[],rfl,Fm7 hul,hul,by omega,by simp,rfl,hS⟩
   case round=>
    clear hS;obtain⟨f,u,d,rfl,hu,hu2,hf,hd,hE,hS⟩:=hrel;by_cases h128:128<=u
    ·obtain⟨f,rfl⟩:∃f',f=f'+1:=by
      cases f with
      | zero=>simp at hu;omega
      | succ f=>exact⟨f,rfl⟩
     have hu3:u / 128<128^(f+1):=Nat.div_lt_of_lt_mul (by rw[Nat.pow_succ]at hu;omega);rw[aU4,if_pos h128]at hE;have Hu3:=jH hu3;have HE:=jH hE;clear hE hu hu3;go_wp2_with(first|go_big_skip|refine zbs hS ?_;clear hS;intro bS w hS|refine zap hS ?_ (h63:=by unfold maxLen;omega) (hb:=by omega);clear hS;intro v w hS);have hb:=Ik7 hu2;have h0:St W (row v 1 5 (d.length+1) (u8s d++[Value.int .u8 (bits .or .u8 (bits .and .u64 (u:Int) 127%256) 128)])::_) w:=hS;rw[hb,<-Ct7]at h0;have h2:=AN7 (by rw[jA,List.length_singleton]) h0;go_roundw
     case rel=>exact⟨f,u / 128,d++[((u%128+128:Nat):Int)],by rw[Int.natCast_ediv];rfl,Hu3.out,by omega,by omega,by rw[jA,List.length_singleton];omega,by rw[jS];exact HE.out,h2.s _⟩
     case measure=>simp[intOf];omega
    ·have hu4:u<128:=by omega
     rw[BW7 hu4]at hE;have HE:=jH hE;clear hE hu h128;go_wp2_with(first|go_big_skip|refine zbs hS ?_;clear hS;intro bS w hS|refine zap hS ?_ (h63:=by unfold maxLen;omega) (hb:=by omega);clear hS;intro v w hS);go_ret;refine⟨v,rfl,?_⟩;have h0:St W (row v 1 5 (d.length+1) (u8s d++[Value.int .u8 (u:Int)])::_) w:=hS;rw[<-Ct7,HE.out]at h0;have h2:=AN7 (by rw[<-HE.out,jA,List.length_singleton]) h0;exact h2.s _
  ·have d2:decide (0<n)=false:=by simpa using h2
   have e:bh4 n=0:=by unfold bh4;rw[if_neg h1,if_neg h2]
   have eu:u0=0:=hu0.symm.trans e;have Eu:=jH eu;clear hu0 e eu;go_enter Tryz.func140,Tryz.ntmps140;go_wp2_with(first|go_big_skip);have hS1:=hS.rowNil (k:=1) (T:=5);clear hS;have hS:=hS1;clear hS1
   go_loopw [3,4] (fun v3 v4 wr=>NmR W R (aU4 8 u0) v3 v4 wr) (fun v3 _ _=>(intOf v3).toNat)
   case atStart=>exact⟨8,u0,[],by rw[Eu.out];rfl,Fm7 hul,hul,by omega,by simp,rfl,hS⟩
   case round=>
    clear hS;obtain⟨f,u,d,rfl,hu,hu2,hf,hd,hE,hS⟩:=hrel;by_cases h128:128<=u
    ·obtain⟨f,rfl⟩:∃f',f=f'+1:=by
      cases f with
      | zero=>simp at hu;omega
      | succ f=>exact⟨f,rfl⟩
     have hu3:u / 128<128^(f+1):=Nat.div_lt_of_lt_mul (by rw[Nat.pow_succ]at hu;omega);rw[aU4,if_pos h128]at hE;have Hu3:=jH hu3;have HE:=jH hE;clear hE hu hu3;go_wp2_with(first|go_big_skip|refine zbs hS ?_;clear hS;intro bS w hS|refine zap hS ?_ (h63:=by unfold maxLen;omega) (hb:=by omega);clear hS;intro v w hS);have hb:=Ik7 hu2;have h0:St W (row v 1 5 (d.length+1) (u8s d++[Value.int .u8 (bits .or .u8 (bits .and .u64 (u:Int) 127%256) 128)])::_) w:=hS;rw[hb,<-Ct7]at h0;have h2:=AN7 (by rw[jA,List.length_singleton]) h0;go_roundw
     case rel=>exact⟨f,u / 128,d++[((u%128+128:Nat):Int)],by rw[Int.natCast_ediv];rfl,Hu3.out,by omega,by omega,by rw[jA,List.length_singleton];omega,by rw[jS];exact HE.out,h2.s _⟩
     case measure=>simp[intOf];omega
    ·have hu4:u<128:=by omega
     rw[BW7 hu4]at hE;have HE:=jH hE;clear hE hu h128;go_wp2_with(first|go_big_skip|refine zbs hS ?_;clear hS;intro bS w hS|refine zap hS ?_ (h63:=by unfold maxLen;omega) (hb:=by omega);clear hS;intro v w hS);go_ret;refine⟨v,rfl,?_⟩;have h0:St W (row v 1 5 (d.length+1) (u8s d++[Value.int .u8 (u:Int)])::_) w:=hS;rw[<-Ct7,HE.out]at h0;have h2:=AN7 (by rw[<-HE.out,jA,List.length_singleton]) h0;exact h2.s _
end Go.Proofs.YtlmhakmoioogaaaGreat
end
section
namespace Go.Sl
open Go.RowKit
def D6(s:ByteArray):List Int:=s.data.toList.map fun b=>(b.toNat:Int)
theorem Ay7(s:ByteArray):(D6 s).length=s.size:=by unfold D6;rw[jM];rfl
def sbR(g:Nat)(s:ByteArray):HP:=fun f=>∃o:Obj,(∀w:World,w.heap[g]? = some o->∀(j:Nat) (u:Value),((D6 s).map (Value.int .u8))[j]? = some u->w.cell? ⟨g,j,none⟩=some u)/\ai4 g o f
section
variable{P:Program}{ops:Array Oper}{Q:Exit->Act->World->Prop}{a:Act}{w:World}{W:World}{L:List HP}{rest:List Oper}{o:Oper}
theorem i8.sb{g:Nat}{s:ByteArray}:i8 (sbR g s::L) g 0 ((D6 s).map (Value.int .u8)):=fun j v hj W w hS=>by obtain⟨o,hS⟩:=St.ex hS;obtain⟨h1,hS⟩:=St.and hS;rw[Nat.zero_add];exact h1 w (hS.get .head) j v hj
theorem AA7{src dst e:TypeId}{x:Operand}{s:ByteArray}(hS:St W L w)(ho:o.op=.convert src dst x)(hg:Region.wanted o (yielded ops a.tmps)=true)(hx:a.eval x=.string s)
  (hs:P.underlying src=some .string) (hd:P.underlying dst=some (.slice e)) (he:P.underlying e=some (.int .u8))
  (h:∀g c w',St W (sbR g s::L) w'->wpList P ops Q rest (a.put o.dst (.S g s.size c)) w'):wpList P ops Q (o::rest) a w:=by
 have h1:=run_bytes_of_string (P:=P) w src dst e s hs hd he;refine Aj7 hg (v:=.slice (some ⟨w.heap.size,0,none⟩) s.size (grownCap w s.size 0 e)) (w':=w.drew.alloc (.cells (bytesRow s (grownCap w s.size 0 e)) e ((bytesRow s (grownCap w s.size 0 e)).size,(bytesRow s (grownCap w s.size 0 e)).size+1))) ?_ (h _ _ _ ?_)
 ·unfold execOp;simp[ho,hx,h1]
 ·have h2:=(hS.drawn (w.drawn+1)).alloc (.cells (bytesRow s (grownCap w s.size 0 e)) e ((bytesRow s (grownCap w s.size 0 e)).size,(bytesRow s (grownCap w s.size 0 e)).size+1));refine St.mkEx _ (St.mkAnd ?_ h2);intro w' hw j u hj;rw[List.getElem?_map]at hj;unfold D6 at hj;rw[List.getElem?_map]at hj;have hw2:w'.heap[w.heap.size]? = some (.cells (bytesRow s (grownCap w s.size 0 e)) e ((bytesRow s (grownCap w s.size 0 e)).size,(bytesRow s (grownCap w s.size 0 e)).size+1)):=hw
  cases hb:s.data.toList[j]? with
  | none=>rw[hb]at hj;cases hj
  | some b=>
   rw[hb]at hj;simp only[Option.map_some,Option.some.injEq]at hj;have hb2:s.data[j]? = some b:=by rw[<-hb];simp
   have hjl:j<s.data.size:=(Array.getElem?_eq_some_iff.1 hb2).1;have h3:(bytesRow s (grownCap w s.size 0 e))[j]? = some u:=by unfold bytesRow;rw[Array.getElem?_append_left (by simpa using hjl),Array.getElem?_map,hb2,<-hj];rfl
   show w'.cell? ⟨w.heap.size,j,none⟩=some u
   simp[World.cell?,hw2,h3]
end
end Go.Sl
namespace Go.Proofs.YtlmhakmoioogaaaGreat
open Go.RowKit Go.Sl
theorem Be7(l:List Int):(u8s l).all (·.oneCell')=true:=by rw[List.all_eq_true];intro v hv;obtain⟨x,_,rfl⟩:=List.mem_map.1 hv;rfl
theorem AB7(a b:List Int):u8s (a++b)=u8s a++u8s b:=List.map_append
theorem AS7(a:List Int):(u8s a).length=a.length:=jM ..
theorem fS4(g c:Nat)(s:ByteArray)(hs:s.size<=1000000)(W w:World)(R:List HP)(hS:St W (sbR g s::R) w):
  Calls Tryz.prog 141 #[.S g s.size c] w fun e w'=>∃v,e=.returned v/\St W (byR v (m6 s.size++D6 s)::R) w':=by
 have hln:=Ak7 s.size;go_enter Tryz.func141,Tryz.ntmps141;go_wp2_with(first|go_big_skip|go_at_call 140;refine(cX4 _ ⟨by omega,by omega⟩ W _ _ hS).mono ?_;clear hS;rintro e w ⟨vn,rfl,hS⟩;(have hv:=hS.rowVal;obtain⟨na,nc,rfl⟩:=hv)|(with_reducible apply Ae7 hS);rfl;rfl;rfl;rfl;exact esS;exact rsS;rfl;decide;exact j5;exact Src.mk (i8.there i8.sb);(focus(rw[jM,Ay7,Nat.mul_one]));exact Be7 _;(focus(unfold maxLen;omega));(focus(omega));clear hS;intro v w hS;refine frS ?_);go_ret;refine⟨v,rfl,?_⟩;have h0:St W (row v 1 5 ((m6 s.size).length+s.size) (u8s (m6 s.size)++u8s (D6 s))::_) w:=hS;rw[<-AB7]at h0;have h2:=AN7 (by rw[jA,Ay7]) h0;exact h2.s _
def NsR(W:World)(L:List HP)(ns:List Int)(v3 v4:Value)(w:World):Prop:=
 ∃i:Nat,v4=.I i/\i<=ns.length/\St W (byR v3 ((ns.take i).flatMap m6)::L) w
theorem KF7(ns:List Int):(ns.flatMap m6).length<=9*ns.length:=by
 induction ns with
 | nil=>simp
 | cons n ns ih=>
  have:=Ak7 n;rw[List.flatMap_cons,jA,jC];omega
theorem gn4(ns:List Int)(b c:Nat)(hl:ns.length<=100)(hn:∀x∈ns, -9223372036854775808<=x/\x<=9223372036854775807)(W w:World)(R:List HP)(hS:St W (blk b (ns.map (Value.int .i64)) 3::R) w):
  Calls Tryz.prog 144 #[.S b ns.length c] w fun e w'=>∃v,e=.returned v/\St W (byR v (ns.flatMap m6)::R) w':=by
 have Hn:=jH hn;clear hn;go_enter Tryz.func144,Tryz.ntmps144;go_wp2_with(first|go_big_skip);have hS1:=hS.rowNil (k:=1) (T:=5);clear hS;have hS:=hS1;clear hS1
 go_loopw [3,4] (fun v3 v4 wr=>NsR W (blk b (ns.map (Value.int .i64)) 3::R) ns v3 v4 wr) (fun _ v4 _=>ns.length-(intOf v4).toNat)
 case atStart=>exact⟨0,rfl,Nat.zero_le _,hS⟩
 case round=>
  clear hS;obtain⟨i,rfl,hil,hS⟩:=hrel;by_cases hin:i=ns.length
  ·subst hin;rw[List.take_length]at hS;go_wp2_with(first|go_big_skip);go_ret;exact⟨u3,rfl,hS.s _⟩
  ·have hi1:i<ns.length:=by omega
   have hx:(ns.map (Value.int .i64))[i]? = some (.I ns[i]):=by rw[List.getElem?_map,jG hi1];rfl
   have hr:=Hn.out _ (jW hi1);have hst:(ns.take (i+1)).flatMap m6=(ns.take i).flatMap m6++m6 ns[i]:=by rw[List.take_succ_eq_append_getElem hi1,List.flatMap_append];simp
   have hle:=KF7 (ns.take i);rw[jT]at hle;generalize ns[i]=x at hx hr hst;obtain⟨r1,r2⟩:=hr;have hlx:=Ak7 x;have Hst:=jH hst;clear hst hin hil;generalize (ns.take i).flatMap m6=d at hS Hst hle;go_wp2_with(first|go_big_skip|refine zl1 hS ?_ (hc:=by exact i9.there (i9.here hx))|refine zl1 hS ?_ (hc:=by exact i9.here hx)|go_at_call 140;refine(cX4 _ ⟨by omega,by omega⟩ W _ _ hS).mono ?_;clear hS;rintro e w ⟨vn,rfl,hS⟩;(have hv:=hS.rowVal;obtain⟨na,nc,rfl⟩:=hv)|(with_reducible apply Ae7 hS);rfl;rfl;rfl;rfl;exact esS;exact rsS;rfl;decide;exact j5;exact St.src (by decide) hS;(focus(rw[AS7,Nat.mul_one]));exact Be7 _;(focus(unfold maxLen;omega));(focus(omega));clear hS;intro v w hS;refine frS ?_);go_roundw
   case rel=>
    refine⟨i+1,rfl,hi1,?_⟩;rw[Hst.out];have h0:St W (row v 1 5 (d.length+(m6 x).length) (u8s d++u8s (m6 x))::_) w:=hS;rw[<-AB7]at h0;have h2:=AN7 (by rw[jA]) h0;exact h2.s _
   case measure=>simp[intOf];omega
def C9(s:ByteArray):List Int:=m6 s.size++D6 s
theorem BS7(s:ByteArray)(h:s.size<=16):(C9 s).length<=25:=by have h1:=Ak7 s.size;unfold C9;rw[jA,Ay7];omega
theorem cy4(g c:Nat)(s:ByteArray)(hs:s.size<=1000000)(W w:World)(R:List HP)(hS:St W (sbR g s::R) w):
  Calls Tryz.prog 141 #[.S g s.size c] w fun e w'=>∃v,e=.returned v/\St W (byR v (C9 s)::R) w':=fS4 g c s hs W w R hS
def r7(ns:List Int):List Int:=ns.flatMap m6
theorem Dk7(a b c d:Int):(r7 [a,b,c,d]).length<=36:=by have h:=KF7 [a,b,c,d];simp only[jC,List.length_nil]at h;exact h
theorem cK4(ns:List Int)(b c:Nat)(hl:ns.length<=100)(hn:∀x∈ns, -9223372036854775808<=x/\x<=9223372036854775807)(W w:World)(R:List HP)(hS:St W (blk b (ns.map (Value.int .i64)) 3::R) w):
  Calls Tryz.prog 144 #[.S b ns.length c] w fun e w'=>∃v,e=.returned v/\St W (byR v (r7 ns)::R) w':=gn4 ns b c hl hn W w R hS
def T7(h:Hd):List Int:=C9 h.who++r7 [h.has.x0,h.has.x1,h.has.x2,h.has.x3]
def bJ4(b:Bool):Int:=if b=true then 1 else 0
def S5(o:Ord):List Int:=m6 o.id++C9 o.who++r7 [bJ4 o.buy,o.item,o.cnt,o.price]
def I5(p:Ps)(L:List Ord)(n:Int):List Int:=m6 (hdL p).length++(hdL p).flatMap T7++m6 L.length++L.flatMap S5++m6 n
theorem Ew7(h:Hd)(hw:h.who.size<=16):(T7 h).length<=70:=by have h1:=BS7 h.who hw;have h2:=Dk7 h.has.x0 h.has.x1 h.has.x2 h.has.x3;unfold T7;rw[jA];omega
theorem DB7(o:Ord)(hw:o.who.size<=16):(S5 o).length<=70:=by have h1:=BS7 o.who hw;have h3:=Ak7 o.id;have h2:=Dk7 (bJ4 o.buy) o.item o.cnt o.price;unfold S5;rw[jA,jA];omega
theorem Bz7{α:Type}(f:α->List Int)(xs:List α)(h:∀x∈xs,(f x).length<=70):(xs.flatMap f).length<=70*xs.length:=by
 induction xs with
 | nil=>simp
 | cons x xs ih=>
  have h1:=h x (List.mem_cons_self ..);have h2:=ih fun y hy=>h y (List.mem_cons_of_mem x hy)
  rw[List.flatMap_cons,jA,jC];omega
def CtR{α:Type}(W:World)(F:List HP)(f:α->List Int)(base:List Int)(xs:List α)(v3 v4:Value)(w:World):Prop:=
 ∃k:Nat,v4=.I k/\k<=xs.length/\St W (byR v3 (base++(xs.take k).flatMap f)::F) w
theorem Bj7{α:Type}(f:α->List Int)(base:List Int)(xs:List α){k:Nat}(h:k<xs.length):base++(xs.take (k+1)).flatMap f=base++(xs.take k).flatMap f++f xs[k]:=by rw[List.take_succ_eq_append_getElem h,List.flatMap_append,jS];simp
theorem go4(i:It)(hi:x8 i=true)(W w:World)(R:List HP)(hS:St W R w):
  Calls Tryz.prog 192 #[.agg i.cells.toArray] w fun e w'=>∃v,e=.returned v/\St W (byR v (r7 [i.x0,i.x1,i.x2,i.x3])::R) w':=by
 obtain⟨x0,x1,x2,x3⟩:=i;obtain⟨a0,a1,a2,a3⟩:=Af7.1 hi;simp only at a0 a1 a2 a3
 have hn:∀x∈[x0,x1,x2,x3], -9223372036854775808<=x/\x<=9223372036854775807:=by
  intro x hx;simp only[List.mem_cons,List.not_mem_nil,or_false]at hx
  rcases hx with rfl|rfl|rfl|rfl
  all_goals exact⟨by omega,by omega⟩
 have Hn:=jH hn;clear hn hi;simp only[It.cells];go_enter Tryz.func192,Tryz.ntmps192;go_wp2_with(first|refine zbx hS ?_;clear hS;intro b w hS|refine zl1 hS ?_|refine zbs hS ?_;clear hS;intro bS w hS|go_at_call 144;refine(cK4 [x0,x1,x2,x3] bS 4 (by simp) Hn.out W _ _ hS).mono ?_;clear hS;rintro e w ⟨vn,rfl,hS⟩);go_ret;exact⟨vn,rfl,hS.s _⟩
theorem OP7(xb xB:Nat)(ha la:Option Addr)(hc lc:Nat)(last:Int)(p:Ps)(L:List Ord)(n:Int){N:Nat}(hp:N5 p)(hw:PsW p N)(hN:N<=1000000)(hmay:∀x∈L,MayP x)(hl32:L.length<=32)(hn0:1<=n)(hn1:n<=1099511627777)(W w:World)(R:List HP)(hS:St W (blk xB [.slice la L.length lc,.I last] 244::j8 (.slice la L.length lc) L::blk xb [.slice ha (hdL p).length hc,.P xB,.I n] 246::hdR (.slice ha (hdL p).length hc) (hdL p)::R) w):
  Calls Tryz.prog 142 #[.P xb] w fun e w'=>∃v,e=.returned v/\St W (byR v (I5 p L n)::blk xB [.slice la L.length lc,.I last] 244::j8 (.slice la L.length lc) L::blk xb [.slice ha (hdL p).length hc,.P xB,.I n] 246::hdR (.slice ha (hdL p).length hc) (hdL p)::R) w':=by
 have hlh:(hdL p).length<=1000000:=by rw[Bl7];exact Nat.le_trans hw.len hN
 have hhw:∀x∈hdL p,x.who.size<=16/\x8 x.has=true:=fun x hx=>by refine⟨?_,by rw[CS7 hx];exact hp _⟩;have hk:x.who∈(hdL p).map Hd.who:=List.mem_map_of_mem hx;rw[DN7]at hk;obtain⟨y,hy,e⟩:=Hz7 hk;rw[<-e];exact Dh7 (hw.who y hy)
 have Hmay:=jH hmay;have Hhw:=jH hhw;clear hmay hw hp hhw;unfold I5;go_enter Tryz.func142,Tryz.ntmps142;go_wp2_with(first|refine zl1 hS ?_|go_at_call 140;refine(cX4 _ ⟨by omega,by omega⟩ W _ _ hS).mono ?_;clear hS;rintro e w ⟨vn,rfl,hS⟩;(have hv:=hS.rowVal;obtain⟨na,nc,rfl⟩:=hv));generalize hhs:hdL p=hs at hS hlh Hhw;have Hhs:=jH hhs;clear hhs
 go_loopw [3,4] (fun v3 v4 wr=>CtR W (blk xB [.slice la L.length lc,.I last] 244::j8 (.slice la L.length lc) L::blk xb [.slice ha hs.length hc,.P xB,.I n] 246::hdR (.slice ha hs.length hc) hs::R) T7 (m6 hs.length) hs v3 v4 wr) (fun _ v4 _=>hs.length-(intOf v4).toNat)
 case atStart=>exact⟨0,rfl,Nat.zero_le _,by simpa using hS⟩
 case round=>
  clear hS;obtain⟨k,rfl,hkl,hS⟩:=hrel;by_cases hkn:k=hs.length
  ·rw[hkn,List.take_length]at hS;have hd1:decide (k<hs.length)=false:=by simp;omega
   clear hkl hkn;generalize hacc:m6 hs.length++hs.flatMap T7=acc at hS
   have hal:acc.length<=70000100:=by
    have h1:=Bz7 T7 hs fun x hx=>Ew7 x (Hhw.out x hx).1
    have h2:=Ak7 hs.length;rw[<-hacc,jA];omega
   have Hacc:=jH hacc;clear hacc;have hln:=Ak7 L.length;go_wp2_with(first|refine zl1 hS ?_|go_at_call 140;refine(cX4 _ ⟨by omega,by omega⟩ W _ _ hS).mono ?_;clear hS;rintro e w ⟨vn,rfl,hS⟩;(have hv:=hS.rowVal;obtain⟨na,nc,rfl⟩:=hv)|(with_reducible apply Ae7 hS);rfl;rfl;rfl;rfl;exact esS;exact rsS;rfl;decide;exact j5;exact St.src (by decide) hS;(focus(rw[AS7,Nat.mul_one]));exact Be7 _;(focus(unfold maxLen;omega));(focus(omega));clear hS;intro v w hS;refine frS ?_);have h0:St W (row v 1 5 (acc.length+(m6 L.length).length) (u8s acc++u8s (m6 L.length))::_) w:=hS;rw[<-AB7]at h0;have hS:=(AN7 (by rw[jA]) h0).s (byR v (acc++m6 L.length)::blk xB _ _::j8 _ L::blk xb _ _::hdR _ hs::R);clear h0
   go_loopw [3,5] (fun v3 v5 wr=>CtR W (blk xB [.slice la L.length lc,.I last] 244::j8 (.slice la L.length lc) L::blk xb [.slice ha hs.length hc,.P xB,.I n] 246::hdR (.slice ha hs.length hc) hs::R) S5 (acc++m6 L.length) L v3 v5 wr) (fun _ v5 _=>L.length-(intOf v5).toNat)
   case atStart=>exact⟨0,rfl,Nat.zero_le _,by simpa using hS⟩
   case round=>
    clear hS;obtain⟨j,rfl,hjl,hS⟩:=hrel;by_cases hjn:j=L.length
    ·rw[hjn,List.take_length]at hS;have hd2:decide (j<L.length)=false:=by simp;omega
     clear hjl hjn;have hlo:=Bz7 S5 L fun x hx=>DB7 x (Hmay.out x hx).who1
     generalize hd:acc++m6 L.length++L.flatMap S5=d at hS;have hdl:d.length<=70010000:=by rw[<-hd,jA,jA];omega
     have Hd2:=jH hd;have hlq:=Ak7 n;clear hd;go_wp2_with(first|refine zl1 hS ?_|go_at_call 140;refine(cX4 _ ⟨by omega,by omega⟩ W _ _ hS).mono ?_;clear hS;rintro e w ⟨vn,rfl,hS⟩;(have hv:=hS.rowVal;obtain⟨na,nc,rfl⟩:=hv)|(with_reducible apply Ae7 hS);rfl;rfl;rfl;rfl;exact esS;exact rsS;rfl;decide;exact j5;exact St.src (by decide) hS;(focus(rw[AS7,Nat.mul_one]));exact Be7 _;(focus(unfold maxLen;omega));(focus(omega));clear hS;intro v w hS;refine frS ?_);go_ret;refine⟨v,rfl,?_⟩;rw[Hhs.out,Hacc.out,Hd2.out];have h0:St W (row v 1 5 (d.length+(m6 n).length) (u8s d++u8s (m6 n))::_) w:=hS;rw[<-AB7]at h0;have h2:=AN7 (by rw[jA]) h0;exact h2.s _
    ·have hj1:j<L.length:=by omega
     obtain⟨⟨g,rfl⟩,_,_⟩:=St.rowAddr hS.drop.drop (by omega);have hcells:∀{K K':List HP},Take K (j8 (.S g L.length lc) L) K'->i8 K g (j*6) (Ord.cells L[j]):=fun hu=>i8.elemM (enc:=Ord.cells) Ord.len hu hj1
     have hst:=Bj7 S5 (acc++m6 L.length) L hj1;have hmx:=Hmay.out _ (jW hj1);have hlt:=Bz7 S5 (L.take j) fun x hx=>DB7 x (Hmay.out x (List.mem_of_mem_take hx)).who1
     rw[jT]at hlt;generalize hd:acc++m6 L.length++(L.take j).flatMap S5=d at hS hst;have hdl:d.length<=70010000:=by rw[<-hd,jA,jA];omega
     generalize L[j]=x at hcells hst hmx;obtain⟨oi,ou,oy,ot,oc,op⟩:=x;have i0:1<=oi:=hmx.id0;have i1:oi<=1099511627776:=hmx.id1;have w1:ou.size<=16:=hmx.who1;have t0:1<=ot:=hmx.item0;have t1:ot<=3:=hmx.item1;have c0:1<=oc:=hmx.cnt0;have c1:oc<=1048576:=hmx.cnt1;have p0:1<=op:=hmx.price0;have p1:op<=1024:=hmx.price1;have l1:=Ak7 oi;have l4:=BS7 ou w1;have Hst:=jH hst;clear hst hmx hd hlt hjn hjl;simp only[Ord.cells]at hcells
     cases oy with
     | false=>
      have hn:∀x∈[(0:Int),ot,oc,op], -9223372036854775808<=x/\x<=9223372036854775807:=by
       intro x hx;simp only[List.mem_cons,List.not_mem_nil,or_false]at hx
       rcases hx with rfl|rfl|rfl|rfl
       all_goals exact⟨by omega,by omega⟩
      have l5:=Dk7 0 ot oc op;have Hn:=jH hn;clear hn;go_wp2_with(first|refine zl1 hS ?_|refine zlN hS ?_ (hc:=by exact hcells (by exact j5))|(with_reducible apply Al7 hS);rfl;rfl;exact zsS;clear hS;intro b6 w hS;refine frS ?_|refine zsN hS ?_;clear hS;intro w hS|go_at_call 140;refine(cX4 _ ⟨by omega,by omega⟩ W _ _ hS).mono ?_;clear hS;rintro e w ⟨vn,rfl,hS⟩;(have hv:=hS.rowVal;obtain⟨na,nc,rfl⟩:=hv)|(with_reducible apply AA7 hS);rfl;rfl;rfl;exact Tryz.underlying9;exact Tryz.underlying63;exact Tryz.underlying5;clear hS;intro g9 c9 w hS;refine frS ?_|go_at_call 141;refine(cy4 g9 c9 ou (by omega) W _ _ hS).mono ?_;clear hS;rintro e w ⟨vn,rfl,hS⟩;(have hv:=hS.rowVal;obtain⟨na,nc,rfl⟩:=hv)|refine zbs hS ?_;clear hS;intro bS w hS|go_at_call 144;refine(cK4 [0,ot,oc,op] bS 4 (by simp) Hn.out W _ _ hS).mono ?_;clear hS;rintro e w ⟨vn,rfl,hS⟩;(have hv:=hS.rowVal;obtain⟨na,nc,rfl⟩:=hv)|(with_reducible apply Ae7 hS);rfl;rfl;rfl;rfl;exact esS;exact rsS;rfl;decide;exact j5;exact St.src (by decide) hS;(focus(rw[AS7,Nat.mul_one]));exact Be7 _;(focus(unfold maxLen;omega));(focus(omega));clear hS;intro v w hS;refine frS ?_);go_roundw
      case rel=>
       refine⟨j+1,rfl,hj1,?_⟩;rw[Hst.out];unfold S5;simp only[bJ4,Bool.false_eq_true,if_true,if_false];have h0:St W (row v 1 5 (d.length+(m6 oi).length+(C9 ou).length+(r7 [0,ot,oc,op]).length) (u8s d++u8s (m6 oi)++u8s (C9 ou)++u8s (r7 [0,ot,oc,op]))::_) w:=hS;rw[<-AB7,<-AB7,<-AB7,jS d,jS d]at h0;have h2:=AN7 (by simp only[jA];omega) h0;exact h2.s _
      case measure=>simp[intOf];omega
     | true=>
      have hn:∀x∈[(1:Int),ot,oc,op], -9223372036854775808<=x/\x<=9223372036854775807:=by
       intro x hx;simp only[List.mem_cons,List.not_mem_nil,or_false]at hx
       rcases hx with rfl|rfl|rfl|rfl
       all_goals exact⟨by omega,by omega⟩
      have l5:=Dk7 1 ot oc op;have Hn:=jH hn;clear hn;go_wp2_with(first|refine zl1 hS ?_|refine zlN hS ?_ (hc:=by exact hcells (by exact j5))|(with_reducible apply Al7 hS);rfl;rfl;exact zsS;clear hS;intro b6 w hS;refine frS ?_|refine zsN hS ?_;clear hS;intro w hS|go_at_call 140;refine(cX4 _ ⟨by omega,by omega⟩ W _ _ hS).mono ?_;clear hS;rintro e w ⟨vn,rfl,hS⟩;(have hv:=hS.rowVal;obtain⟨na,nc,rfl⟩:=hv)|(with_reducible apply AA7 hS);rfl;rfl;rfl;exact Tryz.underlying9;exact Tryz.underlying63;exact Tryz.underlying5;clear hS;intro g9 c9 w hS;refine frS ?_|go_at_call 141;refine(cy4 g9 c9 ou (by omega) W _ _ hS).mono ?_;clear hS;rintro e w ⟨vn,rfl,hS⟩;(have hv:=hS.rowVal;obtain⟨na,nc,rfl⟩:=hv)|refine zbs hS ?_;clear hS;intro bS w hS|go_at_call 144;refine(cK4 [1,ot,oc,op] bS 4 (by simp) Hn.out W _ _ hS).mono ?_;clear hS;rintro e w ⟨vn,rfl,hS⟩;(have hv:=hS.rowVal;obtain⟨na,nc,rfl⟩:=hv)|(with_reducible apply Ae7 hS);rfl;rfl;rfl;rfl;exact esS;exact rsS;rfl;decide;exact j5;exact St.src (by decide) hS;(focus(rw[AS7,Nat.mul_one]));exact Be7 _;(focus(unfold maxLen;omega));(focus(omega));clear hS;intro v w hS;refine frS ?_);go_roundw
      case rel=>
       refine⟨j+1,rfl,hj1,?_⟩;rw[Hst.out];unfold S5;simp only[bJ4,Bool.false_eq_true,if_true,if_false];have h0:St W (row v 1 5 (d.length+(m6 oi).length+(C9 ou).length+(r7 [1,ot,oc,op]).length) (u8s d++u8s (m6 oi)++u8s (C9 ou)++u8s (r7 [1,ot,oc,op]))::_) w:=hS;rw[<-AB7,<-AB7,<-AB7,jS d,jS d]at h0;have h2:=AN7 (by simp only[jA];omega) h0;exact h2.s _
      case measure=>simp[intOf];omega
  ·have hk1:k<hs.length:=by omega
   obtain⟨⟨g,rfl⟩,_,_⟩:=St.rowAddr hS.drop.drop.drop.drop (by omega);have hname:∀{K K':List HP},Take K (hdR (.S g hs.length hc) hs) K'->i9 K g (k*5) (.string hs[k].who):=fun hu=>i8.elemM (enc:=Hd.cells) Hd.len hu hk1 0 _ rfl
   have hitems:∀{K K':List HP},Take K (hdR (.S g hs.length hc) hs) K'->i8 K g (k*5+1) (hs[k].has.cells):=fun hu j v hj=>by have h1:=i8.elemM (enc:=Hd.cells) Hd.len hu hk1 (1+j) v (by rw[Nat.add_comm];exact hj);rwa [<-Nat.add_assoc]at h1
   have hst:=Bj7 T7 (m6 hs.length) hs hk1;have hmx:=Hhw.out _ (jW hk1);have hlt:=Bz7 T7 (hs.take k) fun x hx=>Ew7 x (Hhw.out x (List.mem_of_mem_take hx)).1
   rw[jT]at hlt;have hlk:=Ak7 hs.length;generalize hd:m6 hs.length++(hs.take k).flatMap T7=d at hS hst;have hdl:d.length<=70000100:=by rw[<-hd,jA];omega
   generalize hs[k]=x at hname hitems hst hmx;obtain⟨xw,⟨x0,x1,x2,x3⟩⟩:=x;obtain⟨w1,hit⟩:=hmx;simp only at w1 hname;have l4:=BS7 xw w1;have l5:=Dk7 x0 x1 x2 x3;have Hst:=jH hst;have Hit:=jH hit;clear hst hit hd hlt hkn hkl;simp only[It.cells]at hitems;go_wp2_with(first|refine zl1 hS ?_ (hc:=by exact hname (by exact j5))|refine zlN hS ?_ (hc:=by exact hitems (by exact j5))|refine zl1 hS ?_|(with_reducible apply AA7 hS);rfl;rfl;rfl;exact Tryz.underlying9;exact Tryz.underlying63;exact Tryz.underlying5;clear hS;intro g9 c9 w hS;refine frS ?_|go_at_call 141;refine(cy4 g9 c9 xw (by omega) W _ _ hS).mono ?_;clear hS;rintro e w ⟨vn,rfl,hS⟩;(have hv:=hS.rowVal;obtain⟨na,nc,rfl⟩:=hv)|go_at_call 192;refine(go4 ⟨x0,x1,x2,x3⟩ Hit.out W _ _ hS).mono ?_;clear hS;rintro e w ⟨vn,rfl,hS⟩;(have hv:=hS.rowVal;obtain⟨na,nc,rfl⟩:=hv)|(with_reducible apply Ae7 hS);rfl;rfl;rfl;rfl;exact esS;exact rsS;rfl;decide;exact j5;exact St.src (by decide) hS;(focus(rw[AS7,Nat.mul_one]));exact Be7 _;(focus(unfold maxLen;omega));(focus(omega));clear hS;intro v w hS;refine frS ?_);go_roundw
   case rel=>
    refine⟨k+1,rfl,hk1,?_⟩;rw[Hst.out];unfold T7;have h0:St W (row v 1 5 (d.length+(C9 xw).length+(r7 [x0,x1,x2,x3]).length) (u8s d++u8s (C9 xw)++u8s (r7 [x0,x1,x2,x3]))::_) w:=hS;rw[<-AB7,<-AB7,jS d]at h0;have h2:=AN7 (by simp only[jA];omega) h0;exact h2.s _
   case measure=>simp[intOf];omega
end Go.Proofs.YtlmhakmoioogaaaGreat
end
