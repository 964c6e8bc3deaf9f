/-
  The vault keeps.
-/
import Derived.Test.YtienbkdjkjbelaaGreatJuTM5
import Derived.Test.YtienbkdjkjbelaaGreatJuTM20
set_option maxHeartbeats 16000000
set_option maxRecDepth 100000
set_option linter.unusedSimpArgs false
set_option linter.unusedVariables false
section
namespace Go.Proofs.YtienbkdjkjbelaaGreat
open Go.RowKit Go.Sl
def I5(k:Int):Ps->Int
 | []=>0
 | x::p=>r7 x.2 k+I5 k p
def aA4(k:Int):List Ord->Int
 | []=>0
 | x::L=>r7 (j5 x) k+aA4 k L
def bn4(k:Int)(t:Trd):Int:=(if k=t.item then t.cnt else 0)+(if k=0 then t.cnt*(t.bid-t.price)+t.cnt*t.price else 0)
def bg4(k:Int):List Trd->Int
 | []=>0
 | t::ts=>bn4 k t+bg4 k ts
def aa4(k:Int):List It->Int
 | []=>0
 | i::l=>r7 i k+aa4 k l
def F6(V:Vs)(k:Int):Int:=I5 k V.ps+aA4 k V.L
structure Kx(k:Int):Prop where
 k0:0<=k
 k3:k<=3
theorem Bs7(k:Int):r7 it0 k=0:=by
 unfold r7 it0;repeat' split
 all_goals rfl
theorem GE7(i:It){j k:Int}(hj:Kx j)(hk:Kx k)(n:Int):r7 (aE4 i j n) k=if k=j then n else r7 i k:=by
 obtain⟨j0,j3⟩:=hj;obtain⟨k0,k3⟩:=hk;have h1:j=0\/j=1\/j=2\/j=3:=by omega
 have h2:k=0\/k=1\/k=2\/k=3:=by omega
 rcases h1 with rfl|rfl|rfl|rfl <;> rcases h2 with rfl|rfl|rfl|rfl <;> rfl
theorem CO7(a b:It)(k:Int):r7 (M5 a b) k=r7 a k+r7 b k:=by
 unfold r7 M5
 repeat' split
 all_goals rfl
theorem JP7(a b:It)(k:Int):r7 (bl4 a b) k=r7 a k-r7 b k:=by
 unfold r7 bl4
 repeat' split
 all_goals rfl
theorem Rk7{i:It}(h:isZ i=true)(k:Int):r7 i k=0:=by rw[Pp7 h,Bs7]
theorem Bh7{p:Ps}(h:(p.map (·.1)).Nodup)(k:ByteArray)(i:It):((G9 p k i).map (·.1)).Nodup:=by
 unfold G9;split
 ·exact Eh7 h k
 ·rw[List.map_cons,List.nodup_cons];refine⟨fun hm=>?_,Eh7 h k⟩;obtain⟨x,hx,e⟩:=List.mem_map.1 hm;exact(CK7 hx).2 e
theorem HM7{p:Ps}(h:(p.map (·.1)).Nodup){x:ByteArray×It}(hx:x∈p):j8 p x.1=x.2:=by have:=Cr7 (v:=x.2) h hx;unfold j8;rw[this];rfl
theorem KH7(x:ByteArray×It)(p:Ps)(k:ByteArray):j8 (x::p) k=if x.1=k then x.2 else j8 p k:=by
 unfold j8 j6;split
 ·rename_i h
  rw[List.find?_cons_of_pos (by simpa using h)];rfl
 ·rename_i h
  rw[List.find?_cons_of_neg (by simpa using h)]
theorem JQ7(k:Int)(who:ByteArray):∀{p:Ps},(p.map (·.1)).Nodup->I5 k (i9 p who)=I5 k p-r7 (j8 p who) k
 | [],_=>by
  show(0:Int)=0-r7 it0 k
  rw[Bs7];rfl
 | x::p,h=>by
  rw[List.map_cons,List.nodup_cons]at h;have ih:=JQ7 k who h.2;rw[KH7];by_cases hx:x.1=who
  ·rw[if_pos hx]
   have e:i9 (x::p) who=p:=by
    unfold i9;rw[List.filter_cons,if_neg (by simpa using hx)];refine List.filter_eq_self.2 fun y hy=>?_
    have:y.1≠who:=fun e=>h.1 (List.mem_map.2 ⟨y,hy,e.trans hx.symm⟩)
    simpa using this
   rw[e];show I5 k p=r7 x.2 k+I5 k p-r7 x.2 k
   omega
  ·rw[if_neg hx];have e:i9 (x::p) who=x::i9 p who:=by unfold i9;rw[List.filter_cons,if_pos (by simpa using hx)]
   rw[e];show r7 x.2 k+I5 k (i9 p who)=r7 x.2 k+I5 k p-r7 (j8 p who) k
   omega
theorem DG7{p:Ps}(h:(p.map (·.1)).Nodup)(k:Int)(who:ByteArray)(i:It):I5 k (G9 p who i)=I5 k p-r7 (j8 p who) k+r7 i k:=by
 have hd:=JQ7 k who h;unfold G9;split
 ·rename_i hz
  rw[hd,Rk7 hz];omega
 ·show r7 i k+I5 k (i9 p who)=_
  omega
structure PsK(p:Ps):Prop where
 nd:(p.map (·.1)).Nodup
 ok:L7 p
theorem PsK.pos{p:Ps}(h:PsK p)(k:Int):0<=I5 k p:=by
 have hx:∀x∈p,0<=r7 x.2 k:=fun x hx=>by rw[<-HM7 h.nd hx];exact(Ee7 (h.ok x.1) k).1
 clear h
 induction p with
 | nil=>exact Int.le_refl _
 | cons x p ih=>
  have h1:=hx x (List.mem_cons_self ..);have h2:=ih fun y hy=>hx y (List.mem_cons_of_mem _ hy)
  show 0<=r7 x.2 k+I5 k p
  omega
theorem GF7:s6 it0=true:=by decide
theorem PsK.le{p:Ps}(h:PsK p)(who:ByteArray)(k:Int):r7 (j8 p who) k<=I5 k p:=by have h1:=DG7 h.nd k who it0;have h2:=PsK.pos ⟨Bh7 h.nd who it0,EH7 h.ok who GF7⟩ k;rw[Bs7]at h1;omega
theorem PsK.give{p:Ps}(h:PsK p)(who:ByteArray)(j:Int){n:Int}(hn:0<=n):PsK (l5 p who j n):=⟨Bh7 h.nd _ _,Ak7 h.ok who j hn⟩
theorem BH7{p:Ps}(h:PsK p)(who:ByteArray){j k:Int}(hj:Kx j)(hk:Kx k){n:Int}(hn:0<=n)(hb:I5 j p+n<=1152921504606846976):
  I5 k (l5 p who j n)=I5 k p+if k=j then n else 0:=by
 have hle:=h.le who j;unfold l5 aj4;rw[DG7 h.nd,GE7 _ hj hk];have hc:P8 (r7 (j8 p who) j+n)=r7 (j8 p who) j+n:=by unfold P8;rw[if_neg (by omega)]
 rw[hc];split
 ·rename_i e;subst e;omega
 ·omega
theorem PsK.pay{p:Ps}(h:PsK p){t:Trd}(ht:TrB t):PsK (ay4 p t):=⟨Bh7 (Bh7 (Bh7 h.nd _ _) _ _) _ _,JG7 h.ok ht⟩
theorem Ou7{t:Trd}(ht:TrB t)(k:Int):0<=bn4 k t:=by have h1:=BN7 ht.cnt.1 ht.cnt.2 ht.price.1 ht.price.2;have h2:=BN7 ht.cnt.1 ht.cnt.2 ht.bid.1 ht.bid.2;have h3:=ht.cnt.1;unfold bn4;split <;> split <;> omega
theorem Ov7{p:Ps}(h:PsK p){t:Trd}(ht:TrB t)(hb:∀k,Kx k->I5 k p+bn4 k t<=1152921504606846976){k:Int}(hk:Kx k):I5 k (ay4 p t)=I5 k p+bn4 k t:=by
 have h1:=BN7 ht.cnt.1 ht.cnt.2 ht.price.1 ht.price.2;have h2:=BN7 ht.cnt.1 ht.cnt.2 ht.bid.1 ht.bid.2;have h3:=ht.cnt.1;have z:Kx 0:=⟨by decide,by decide⟩
 have ji:Kx t.item:=⟨ht.item.1,ht.item.2⟩
 have g1:=h.give t.buyer t.item h3;have g2:=g1.give t.buyer 0 h2.1;have b0:=hb 0 z;have bi:=hb t.item ji;have k0:bn4 0 t=(if 0=t.item then t.cnt else 0)+(t.cnt*(t.bid-t.price)+t.cnt*t.price):=by unfold bn4;rw[if_pos (rfl:(0:Int)=0)]
 have ki:bn4 t.item t=t.cnt+(if t.item=0 then t.cnt*(t.bid-t.price)+t.cnt*t.price else 0):=by unfold bn4;rw[if_pos (rfl:t.item=t.item)]
 have bi2:I5 t.item p+t.cnt<=1152921504606846976:=by rw[ki]at bi;split at bi <;> omega
 have e1:=fun k hk=>BH7 (k:=k) h t.buyer ji hk h3 bi2
 have e10:=e1 0 z;have b1:I5 0 (l5 p t.buyer t.item t.cnt)+t.cnt*(t.bid-t.price)<=1152921504606846976:=by rw[k0]at b0;rw[e10];omega
 have e2:=fun k hk=>BH7 (k:=k) g1 t.buyer z hk h2.1 b1
 have e20:=e2 0 z;rw[if_pos (rfl:(0:Int)=0)]at e20;have b2:I5 0 (l5 (l5 p t.buyer t.item t.cnt) t.buyer 0 (t.cnt*(t.bid-t.price)))+t.cnt*t.price<=1152921504606846976:=by rw[k0]at b0;rw[e20,e10];omega
 unfold ay4;rw[BH7 g2 t.seller z hk h1.1 b2,e2 k hk,e1 k hk];unfold bn4;split <;> split <;> omega
theorem JR7:∀{ts:List Trd},(∀t∈ts,TrB t)->∀k,0<=bg4 k ts
 | [],_,_=>Int.le_refl _
 | t::ts,h,k=>by
  have h1:=Ou7 (h t (List.mem_cons_self ..)) k;have h2:=JR7 (fun x hx=>h x (List.mem_cons_of_mem t hx)) k;show 0<=bn4 k t+bg4 k ts
  omega
theorem HN7:∀(ts:List Trd) {p:Ps},PsK p->(∀t∈ts,TrB t)->(∀k,Kx k->I5 k p+bg4 k ts<=1152921504606846976)->∀{k:Int},Kx k->I5 k (ts.foldl ay4 p)=I5 k p+bg4 k ts
 | [],p,_,_,_,k,_=>by show I5 k p=I5 k p+0;omega
 | t::ts,p,h,ht,hb,k,hk=>by
  have h1:=ht t (List.mem_cons_self ..);have h2:∀x∈ts,TrB x:=fun x hx=>ht x (List.mem_cons_of_mem t hx)
  have hs:∀k,Kx k->I5 k (ay4 p t)=I5 k p+bn4 k t:=fun k hk=>Ov7 h h1 (fun j hj=>by have a:=hb j hj;have b:=JR7 h2 j;have c:bg4 j (t::ts)=bn4 j t+bg4 j ts:=rfl;omega) hk
  have hc:bg4 k (t::ts)=bn4 k t+bg4 k ts:=rfl;have ih:=HN7 ts (h.pay h1) h2 (fun j hj=>by have a:=hb j hj;have c:bg4 j (t::ts)=bn4 j t+bg4 j ts:=rfl;rw[hs j hj];omega) hk;rw[List.foldl_cons,ih,hs k hk,hc];omega
theorem Fz7{L L':List Ord}(h:L.Perm L')(k:Int):aA4 k L=aA4 k L':=by
 induction h with
 | nil=>rfl
 | cons x _ ih=>simp only[aA4,ih]
 | swap x y l=>simp only[aA4];omega
 | trans _ _ ih1 ih2=>rw[ih1,ih2]
theorem IO7(L:List Ord)(x:Ord)(k:Int):aA4 k (L++[x])=aA4 k L+r7 (j5 x) k:=by rw[Fz7 (List.perm_append_singleton x L) k];simp only[aA4];omega
theorem MJ7{L:List Ord}{j:Nat}(hj:j<L.length)(k:Int):aA4 k L=r7 (j5 (at' L j)) k+aA4 k (L.eraseIdx j):=by rw[<-Fz7 (Gr7 L hj) k];rfl
theorem Ow7{L:List Ord}{j:Nat}(hj:j<L.length)(x:Ord)(k:Int):aA4 k (L.set j x)=r7 (j5 x) k+aA4 k (L.eraseIdx j):=by rw[<-Fz7 (Pn7 L hj x) k];rfl
theorem HO7{o:Ord}(hi:1<=o.item/\o.item<=3){k:Int}(hk:Kx k):r7 (j5 o) k=if o.buy=true then(if k=0 then o.cnt*o.price else 0)else if k=o.item then o.cnt else 0:=by
 unfold j5;split
 ·have h2:k=0\/k=1\/k=2\/k=3:=by have:=hk.k0;have:=hk.k3;omega
  rcases h2 with rfl|rfl|rfl|rfl <;> rfl
 ·rw[GE7 it0 ⟨by omega,hi.2⟩ hk,Bs7]
def aP4(o:Ord)(c:Int):Ord:=⟨o.id,o.who,o.buy,o.item,c,o.price⟩
theorem Cc7{o:Ord}(hi:1<=o.item/\o.item<=3){k:Int}(hk:Kx k)(c:Int):r7 (j5 (aP4 o c)) k=if o.buy=true then(if k=0 then c*o.price else 0)else if k=o.item then c else 0:=
 HO7 (o:=aP4 o c) hi hk
theorem JS7{o:Ord}(hi:1<=o.item/\o.item<=3){k:Int}(hk:Kx k)(c n:Int):r7 (j5 (aP4 o (c-n))) k=r7 (j5 (aP4 o c)) k-r7 (j5 (aP4 o n)) k:=by
 rw[Cc7 hi hk,Cc7 hi hk,Cc7 hi hk];have:=Int.sub_mul c n o.price;by_cases hb:o.buy=true
 ·simp only[if_pos hb];by_cases h0:k=0
  ·simp only[if_pos h0];omega
  ·simp only[if_neg h0];rfl
 ·simp only[if_neg hb];by_cases h0:k=o.item
  ·simp only[if_pos h0]
  ·simp only[if_neg h0];rfl
theorem KI7{o x:Ord}(ho:1<=o.item/\o.item<=3)(hm:K9 o x=true){k:Int}(hk:Kx k):
  r7 (j5 (aP4 x (I6 o.cnt x.cnt))) k+r7 (j5 (aP4 o (I6 o.cnt x.cnt))) k=bn4 k (F5 o x):=by
 unfold K9 at hm;simp only[jB,decide_eq_true_eq,bne_iff_ne,ne_eq]at hm;obtain⟨⟨h1,h2⟩,_⟩:=hm;have hx:1<=x.item/\x.item<=3:=by rw[<-h1];exact ho
 rw[Cc7 hx hk,Cc7 ho hk];unfold bn4 F5;by_cases hob:o.buy=true
 ·have hxb:¬x.buy=true:=fun h=>h2 (hob.trans h.symm)
  simp only[if_pos hob,if_neg hxb];have:=Int.mul_sub (I6 o.cnt x.cnt) o.price x.price;by_cases h0:k=0
  ·have h9:¬k=x.item:=by omega
   have h8:¬k=o.item:=by omega
   simp only[if_pos h0,if_neg h9,if_neg h8];omega
  ·rw[h1];by_cases h9:k=x.item
   ·simp only[if_neg h0,if_pos h9]
   ·simp only[if_neg h0,if_neg h9]
 ·have hxb:x.buy=true:=by
   cases hx1:x.buy with
   | true=>rfl
   | false=>exact absurd ((by simpa using hob:o.buy=false).trans hx1.symm) h2
  simp only[if_neg hob,if_pos hxb];have:=Int.mul_sub (I6 o.cnt x.cnt) x.price x.price;by_cases h0:k=0
  ·have h8:¬k=o.item:=by omega
   simp only[if_pos h0,if_neg h8];omega
  ·by_cases h9:k=o.item
   ·simp only[if_neg h0,if_pos h9];omega
   ·simp only[if_neg h0,if_neg h9]
theorem Pv7{o:Ord}(hi:1<=o.item/\o.item<=3)(h:o.cnt=0){k:Int}(hk:Kx k):r7 (j5 o) k=0:=by
 rw[HO7 hi hk,h,Int.zero_mul]
 repeat' split
 all_goals rfl
theorem MK7{L:List Ord}{j:Nat}(hj:j<L.length)(hL:∀x∈L,MayP x)(n:Int){k:Int}(hk:Kx k):aA4 k (aT4 L j ((at' L j).cnt-n))=aA4 k L-r7 (j5 (aP4 (at' L j) n)) k:=by
 have hx:=hL _ (H8 hj);have hi:1<=(at' L j).item/\(at' L j).item<=3:=⟨hx.item0,hx.item1⟩
 have hc:=JS7 hi hk (at' L j).cnt n;have e:r7 (j5 (aP4 (at' L j) (at' L j).cnt)) k=r7 (j5 (at' L j)) k:=rfl;rw[e]at hc;have hz:(at' L j).cnt-n=0->r7 (j5 (aP4 (at' L j) ((at' L j).cnt-n))) k=0:=fun h=>Pv7 (o:=aP4 (at' L j) ((at' L j).cnt-n)) hi h hk
 have hs:=MJ7 hj k;unfold aT4;split
 ·rename_i hz0
  have:=hz hz0;omega
 ·rw[Ow7 hj];show r7 (j5 (aP4 (at' L j) ((at' L j).cnt-n))) k+aA4 k (L.eraseIdx j)=_
  omega
theorem HP7:∀(f:Nat) (o:Ord) (L:List Ord) (ts:List Trd),(∀x∈L,MayP x)->(1<=o.item/\o.item<=3)->0<=o.cnt->∀{k:Int},Kx k->
  0<=(m7 f o L ts).1.cnt/\(m7 f o L ts).1.item=o.item/\aA4 k (m7 f o L ts).2.1+r7 (j5 (m7 f o L ts).1) k+bg4 k (m7 f o L ts).2.2=aA4 k L+r7 (j5 o) k+bg4 k ts
 | 0,o,L,ts,_,_,h0,k,_=>⟨h0,rfl,rfl⟩
 | f+1,o,L,ts,hL,ho,h0,k,hk=>by
  rw[m7];by_cases hc:0<o.cnt
  ·rw[if_pos hc]
   cases hb:s9 o L L.length with
   | none=>exact⟨h0,rfl,rfl⟩
   | some j=>
    obtain⟨hj,hm,_⟩:=AG7 hb;have hx:=hL _ (H8 hj);have hx0:=hx.cnt0;have hmin:=CG7 hc (show 0<(at' L j).cnt by omega)
    have hL':∀x∈aT4 L j ((at' L j).cnt-I6 o.cnt (at' L j).cnt),MayP x:=by
     unfold aT4;split
     ·exact fun x hx=>hL x (List.mem_of_mem_eraseIdx hx)
     ·intro x hxm
      rcases List.mem_or_eq_of_mem_set hxm with hx'|rfl
      ·exact hL x hx'
      ·exact Eb7 hx (by omega) (by omega)
    obtain⟨i1,i2,i3⟩:=HP7 f (aP4 o (o.cnt-I6 o.cnt (at' L j).cnt)) _ (ts++[F5 o (at' L j)]) hL' ho (by show 0<=o.cnt-I6 o.cnt (at' L j).cnt;omega) hk;refine⟨i1,i2,Eq.trans i3 ?_⟩;have a1:=MK7 hj hL (I6 o.cnt (at' L j).cnt) hk;have a2:=JS7 ho hk o.cnt (I6 o.cnt (at' L j).cnt);have a3:=KI7 ho hm hk;have e:r7 (j5 (aP4 o o.cnt)) k=r7 (j5 o) k:=rfl
    have a4:∀(l:List Trd) (t:Trd),bg4 k (l++[t])=bg4 k l+bn4 k t:=fun l t=>by
     induction l with
     | nil=>simp[bg4]
     | cons y l ih=>simp only[jK,bg4,ih];omega
    rw[a4];rw[e]at a2;omega
  ·rw[if_neg hc];exact⟨h0,rfl,rfl⟩
theorem Ox7{L:List Ord}{o:Ord}(hL:∀x∈L,MayP x)(ho:1<=o.item/\o.item<=3)(h0:0<=o.cnt){k:Int}(hk:Kx k):aA4 k (bP4 L o)+bg4 k (aM4 L o)=aA4 k L+r7 (j5 o) k:=by
 obtain⟨h1,h2,h3⟩:=HP7 (L.length+1) o L [] hL ho h0 hk;have e:bg4 k []=0:=rfl;rw[e]at h3;unfold bP4 aM4;split
 ·rw[IO7];omega
 ·have:=Pv7 (by rw[h2];exact ho) (show(m7 (L.length+1) o L []).1.cnt=0 by omega) hk;omega
theorem EO7{L:List Ord}(hL:∀x∈L,MayP x)(k:Int):0<=aA4 k L:=by
 induction L with
 | nil=>exact Int.le_refl _
 | cons x L ih=>
  have hx:=hL x (List.mem_cons_self ..);have h1:=ih fun y hy=>hL y (List.mem_cons_of_mem x hy)
  have h2:aU4 x=true:=Ao7.2 ⟨show(1:Int)<=1 by decide,show(1:Int)<=1099511627776 by decide,hx.who0,hx.who1,hx.item0,hx.item1,hx.cnt0,hx.cnt1,hx.price0,hx.price1⟩;have h3:=(Ee7 (Cg7 h2).2 k).1;show 0<=r7 (j5 x) k+aA4 k L
  omega
theorem KJ7{V:Vs}{o:Ord}(hp:PsK V.ps)(hL:∀x∈V.L,MayP x)(hL2:∀x∈(x8 V o).2.2.L,MayP x)(hb:∀k,Kx k->F6 V k<=1152921504606846976){k:Int}(hk:Kx k):F6 (x8 V o).2.2 k=F6 V k:=by
 unfold x8 at hL2 ⊢;split
 ·rfl
 ·rename_i h1
  rw[if_neg h1]at hL2;have hm:=Ao7.1 (show J7 { o with id:=1 }=true by simpa[aU4]using h1);split
  ·rfl
  ·rename_i h2
   rw[if_neg h2]at hL2;split
   ·rename_i h3
    rw[if_pos h3]at hL2;have c0:1<=o.cnt:=hm.cnt0;have c1:o.cnt<=1048576:=hm.cnt1;have ho:1<=o.item/\o.item<=3:=⟨hm.item0,hm.item1⟩
    have hT:∀t∈aM4 V.L { o with id:=V.n },TrB t:=Cw7 _ _ _ _ hL ⟨show 0<=o.cnt by omega,c1,hm.item0,hm.item1,hm.price1⟩ fun t ht=>(by cases ht)
    have hh:j5 { o with id:=V.n }=j5 o:=rfl;have hr:=fun k hk=>Ox7 (k:=k) (o:={ o with id:=V.n }) hL ho (show 0<=o.cnt by omega) hk
    have ht:∀k,I5 k (r8 V.ps o.who (j5 o))=I5 k V.ps-r7 (j5 o) k:=fun k=>by
     unfold p9 at h3;unfold r8;split at h3
     ·rename_i hc
      rw[if_pos hc];split at h3
      ·rename_i hs
       rw[if_pos hs,DG7 hp.nd,JP7];omega
      ·cases h3
     ·cases h3
    have htk:PsK (r8 V.ps o.who (j5 o)):=by
     refine⟨?_,BF7 hp.ok _ _⟩;unfold r8;split
     ·split
      ·exact Bh7 hp.nd _ _
      ·exact hp.nd
     ·exact hp.nd
    have hbb:∀j,Kx j->I5 j (r8 V.ps o.who (j5 o))+bg4 j (aM4 V.L { o with id:=V.n })<=1152921504606846976:=fun j hj=>by have a:=hr j hj;have b:=EO7 hL2 j;have c:=hb j hj;unfold F6 at c;rw[ht j];dsimp only at a b;rw[hh]at a;omega
    have hw:=HN7 _ htk hT hbb hk;have a:=hr k hk;rw[hh]at a;unfold F6;dsimp only;rw[hw,ht k];omega
   ·rfl
theorem ML7{p:Ps}(hp:PsK p)(who:ByteArray){i:It}(hi:s6 i=true)(hb:∀k,Kx k->I5 k p+r7 i k<=1152921504606846976){k:Int}(hk:Kx k):I5 k (bY4 p who i)=I5 k p+r7 i k:=by
 obtain⟨a0,a1,a2,a3⟩:=Ag7.1 hi;have z0:Kx 0:=⟨by decide,by decide⟩
 have z1:Kx 1:=⟨by decide,by decide⟩
 have z2:Kx 2:=⟨by decide,by decide⟩
 have z3:Kx 3:=⟨by decide,by decide⟩
 have b0:I5 0 p+i.x0<=_:=hb 0 z0;have b1:I5 1 p+i.x1<=_:=hb 1 z1;have b2:I5 2 p+i.x2<=_:=hb 2 z2;have b3:I5 3 p+i.x3<=_:=hb 3 z3;have g0:=hp.give who 0 a0.1;have g1:=g0.give who 1 a1.1;have g2:=g1.give who 2 a2.1;have e0:=fun k hk=>BH7 (k:=k) hp who z0 hk a0.1 b0
 have e1:=fun k hk=>BH7 (k:=k) g0 who z1 hk a1.1 (by rw[e0 1 z1,if_neg (by decide)];omega)
 have e2:=fun k hk=>BH7 (k:=k) g1 who z2 hk a2.1 (by rw[e1 2 z2,e0 2 z2,if_neg (by decide),if_neg (by decide)];omega)
 have e3:=fun k hk=>BH7 (k:=k) g2 who z3 hk a3.1 (by rw[e2 3 z3,e1 3 z3,e0 3 z3,if_neg (by decide),if_neg (by decide),if_neg (by decide)];omega)
 unfold bY4;rw[e3 k hk,e2 k hk,e1 k hk,e0 k hk];have h2:k=0\/k=1\/k=2\/k=3:=by have:=hk.k0;have:=hk.k3;omega
 rcases h2 with rfl|rfl|rfl|rfl
 ·show _+i.x0+0+0+0=_+i.x0;omega
 ·show _+0+i.x1+0+0=_+i.x1;omega
 ·show _+0+0+i.x2+0=_+i.x2;omega
 ·show _+0+0+0+i.x3=_+i.x3;omega
theorem KK7{V:Vs}{who:ByteArray}{id:Int}(hp:PsK V.ps)(hL:∀x∈V.L,MayP x)(hb:∀k,Kx k->F6 V k<=1152921504606846976){k:Int}(hk:Kx k):F6 (B8 V who id).2 k=F6 V k:=by
 unfold B8;split
 ·rename_i h
  obtain⟨he,hm⟩:=CJ7 h;have hx:=hL _ hm;have h1:aU4 (m9 V.L id).o=true:=Ao7.2 ⟨show(1:Int)<=1 by decide,show(1:Int)<=1099511627776 by decide,hx.who0,hx.who1,hx.item0,hx.item1,hx.cnt0,hx.cnt1,hx.price0,hx.price1⟩
  have hs:∀k,aA4 k V.L=r7 (j5 (m9 V.L id).o) k+aA4 k (m9 V.L id).L/\∀x∈(m9 V.L id).L,MayP x:=fun k=>by
   unfold m9 at he ⊢
   cases hf:V.L.findIdx? (fun o=>o.id==id)with
   | none=>rw[hf]at he;cases he
   | some i=>
    obtain⟨hi,_⟩:=List.findIdx?_eq_some_iff_getElem.1 hf;exact⟨MJ7 hi k,fun x hx=>hL x (List.mem_of_mem_eraseIdx hx)⟩
  have hw:=ML7 hp who (Cg7 h1).2 (fun j hj=>by have a:=hb j hj;have b:=(hs j).1;have c:=EO7 (hs j).2 j;unfold F6 at a;omega) hk;unfold F6;dsimp only;rw[hw,(hs k).1];omega
 ·rfl
theorem HQ7{V:Vs}{k:ByteArray}{i:It}(hp:PsK V.ps)(j:Int):F6 ⟨F8 V.ps k i,V.L,V.n⟩ j=F6 V j+(if J8 V.ps k i=0 then r7 i j else 0)/\PsK (F8 V.ps k i)/\(J8 V.ps k i=0->s6 i=true):=by
 have hk:PsK (F8 V.ps k i):=by
  refine⟨?_,Gw7 hp.ok _ _⟩;unfold F8;split
  ·split
   ·exact Bh7 hp.nd _ _
   ·exact hp.nd
  ·exact hp.nd
 refine⟨?_,hk,?_⟩
 ·unfold F6 J8 F8;dsimp only;split
  ·rename_i hc
   cases ha:B5 [j8 V.ps k,i] it0 with
   | none=>simp
   | some s=>
    have e:s=M5 (M5 it0 (j8 V.ps k)) i:=by
     simp only[B5]at ha;split at ha
     ·split at ha
      ·cases ha;rfl
      ·cases ha
     ·cases ha
    simp only[Option.isSome_some,if_true];rw[DG7 hp.nd,e,CO7,CO7,Bs7];omega
  ·rw[if_neg (by decide)];omega
 ·unfold J8;split
  ·rename_i hc
   exact fun _=>hc.2
  ·exact fun h=>(by cases h)
theorem KL7{V:Vs}{k:ByteArray}{i:It}(hp:PsK V.ps)(j:Int):F6 ⟨r8 V.ps k i,V.L,V.n⟩ j=F6 V j-(if p9 V.ps k i=0 then r7 i j else 0)/\PsK (r8 V.ps k i)/\(p9 V.ps k i=0->s6 i=true):=by
 have hk:PsK (r8 V.ps k i):=by
  refine⟨?_,BF7 hp.ok _ _⟩;unfold r8;split
  ·split
   ·exact Bh7 hp.nd _ _
   ·exact hp.nd
  ·exact hp.nd
 refine⟨?_,hk,?_⟩
 ·unfold F6 p9 r8;dsimp only;split
  ·split
   ·rw[DG7 hp.nd,JP7,if_pos rfl];omega
   ·rw[if_neg (by decide)];omega
  ·rw[if_neg (by decide)];omega
 ·unfold p9;split
  ·rename_i hc
   exact fun _=>hc.2
  ·exact fun h=>(by cases h)
theorem FA7(k:Int):∀(a b:List It),aa4 k (a++b)=aa4 k a+aa4 k b
 | [],b=>by show aa4 k b=0+aa4 k b;omega
 | i::a,b=>by
  show r7 i k+aa4 k (a++b)=r7 i k+aa4 k a+aa4 k b
  rw[FA7 k a b];omega
theorem HR7{l l':List It}(h:l.Perm l')(k:Int):aa4 k l=aa4 k l':=by
 induction h with
 | nil=>rfl
 | cons x _ ih=>simp only[aa4,ih]
 | swap x y l=>simp only[aa4];omega
 | trans _ _ ih1 ih2=>rw[ih1,ih2]
theorem Oy7{l:List It}(h:∀i∈l,s6 i=true)(k:Int):0<=aa4 k l:=by
 induction l with
 | nil=>exact Int.le_refl _
 | cons i l ih=>
  have h1:=(Ee7 (h i (List.mem_cons_self ..)) k).1;have h2:=ih fun y hy=>h y (List.mem_cons_of_mem i hy)
  show 0<=r7 i k+aa4 k l
  omega
theorem IP7{i:It}(h:∀k,Kx k->0<=r7 i k/\r7 i k<=1152921504606846976):s6 i=true:=
 Ag7.2 ⟨h 0 ⟨by decide,by decide⟩,h 1 ⟨by decide,by decide⟩,h 2 ⟨by decide,by decide⟩,h 3 ⟨by decide,by decide⟩⟩
theorem Rl7{a b:It}(h:∀k,Kx k->r7 a k=r7 b k):a=b:=by obtain⟨a0,a1,a2,a3⟩:=a;obtain⟨b0,b1,b2,b3⟩:=b;have h0:a0=b0:=h 0 ⟨by decide,by decide⟩;have h1:a1=b1:=h 1 ⟨by decide,by decide⟩;have h2:a2=b2:=h 2 ⟨by decide,by decide⟩;have h3:a3=b3:=h 3 ⟨by decide,by decide⟩;rw[h0,h1,h2,h3]
theorem EP7:∀(l:List It) {s t:It},(∀i∈l,s6 i=true)->s6 s=true->(∀k,Kx k->r7 t k=r7 s k+aa4 k l)->(∀k,Kx k->r7 t k<=1152921504606846976)->B5 l s=some t
 | [],s,t,_,_,he,_=>by rw[Rl7 (a:=t) (b:=s) fun k hk=>by rw[he k hk];show r7 s k+0=_;omega];rfl
 | i::l,s,t,h,hs,he,hb=>by
  have hi:=h i (List.mem_cons_self ..);have hl:∀x∈l,s6 x=true:=fun x hx=>h x (List.mem_cons_of_mem i hx)
  have hsi:s6 (M5 s i)=true:=IP7 fun k hk=>by have a:=(Ee7 hs k).1;have b:=(Ee7 hi k).1;have c:=Oy7 hl k;have d:=he k hk;have e:=hb k hk;have f:aa4 k (i::l)=r7 i k+aa4 k l:=rfl;rw[CO7];omega
  rw[B5,if_pos ⟨hi,hsi⟩];refine EP7 l hl hsi (fun k hk=>?_) hb;rw[he k hk,CO7];show _=_+aa4 k l
  have f:aa4 k (i::l)=r7 i k+aa4 k l:=rfl;omega
def bQ4(V:Vs):List It:=(hdL V.ps).map Hd.has++V.L.map j5
theorem Qq7{p:Ps}(hn:(p.map (·.1)).Nodup)(k:Int):aa4 k ((hdL p).map Hd.has)=I5 k p:=by
 have e:(hdL p).map Hd.has=(kL p).map (j8 p):=by unfold hdL;rw[List.map_map];rfl
 have e2:(p.map (·.1)).map (j8 p)=p.map (·.2):=by rw[List.map_map];exact List.map_congr_left fun x hx=>HM7 hn hx
 have h3:aa4 k ((kL p).map (j8 p))=aa4 k ((p.map (·.1)).map (j8 p)):=by have h4:(kL p).Perm (p.map (·.1)):=Ax7 _;exact HR7 (h4.map (j8 p)) k
 rw[e,h3,e2];clear e e2 h3 hn
 induction p with
 | nil=>rfl
 | cons x p ih=>simp only[List.map_cons,aa4,I5,ih]
theorem MM7(L:List Ord)(k:Int):aa4 k (L.map j5)=aA4 k L:=by
 induction L with
 | nil=>rfl
 | cons x L ih=>simp only[List.map_cons,aa4,aA4,ih]
def ai4(V:Vs):It:=⟨F6 V 0,F6 V 1,F6 V 2,F6 V 3⟩
theorem EQ7(V:Vs){k:Int}(hk:Kx k):r7 (ai4 V) k=F6 V k:=by
 have h2:k=0\/k=1\/k=2\/k=3:=by have:=hk.k0;have:=hk.k3;omega
 rcases h2 with rfl|rfl|rfl|rfl <;> rfl
theorem Qr7{V:Vs}(hp:PsK V.ps)(hL:∀x∈V.L,MayP x)(hb:∀k,Kx k->F6 V k<=1152921504606846976):B5 (bQ4 V) it0=some (ai4 V):=by
 refine EP7 _ ?_ GF7 (fun k hk=>?_) fun k hk=>by rw[EQ7 V hk];exact hb k hk
 ·intro i hi
  rcases List.mem_append.1 hi with h|h
  ·obtain⟨x,hx,rfl⟩:=List.mem_map.1 h;unfold hdL at hx;obtain⟨y,_,rfl⟩:=List.mem_map.1 hx;exact hp.ok y
  ·obtain⟨x,hx,rfl⟩:=List.mem_map.1 h;have hx:=hL x hx;exact(Cg7 (o:=x) (Ao7.2 ⟨show(1:Int)<=1 by decide,show(1:Int)<=1099511627776 by decide,hx.who0,hx.who1,hx.item0,hx.item1,hx.cnt0,hx.cnt1,hx.price0,hx.price1⟩)).2
 ·unfold bQ4;rw[FA7,Qq7 hp.nd,MM7,Bs7,EQ7 V hk];unfold F6;omega
abbrev L5(v:Value)(l:List It):HP:=row v 4 34 l.length (l.flatMap It.cells)
def TtR(W:World)(F:List HP)(m:Nat)(acc:Nat->List It)(v7 vk:Value)(w:World):Prop:=
 ∃k:Nat,vk=.I k/\k<=m/\St W (L5 v7 (acc k)::F) w
theorem Cd7{α β:Type}(f:α->β)(l:List α){k:Nat}(h:k<l.length):(l.take (k+1)).map f=(l.take k).map f++[f l[k]]:=by rw[List.take_succ_eq_append_getElem h,List.map_append];rfl
theorem CP7(l:List It)(x:It):(l++[x]).flatMap It.cells=l.flatMap It.cells++x.cells:=by simp
theorem IQ7(vb mb bb:Nat)(p:Ps)(L:List Ord)(n:Int){N:Nat}(hw:PsW p N)(hN:N<=1000000000){t0 t1 t2 t3:Int}(ht:B5 (bQ4 ⟨p,L,n⟩) it0=some ⟨t0,t1,t2,t3⟩)(W w:World)(R:List HP)(hS:St W (w5 vb mb bb p L n R) w):
  Calls Tryz.prog 73 #[.P vb] w fun e w'=>e=.returned (.tuple #[.agg #[.I t0,.I t1,.I t2,.I t3],.bool true])/\St W (w5 vb mb bb p L n R) w':=by
 have hll:=Cv7 hS.drop.drop;have hmay:∀x∈L,MayP x:=fun x hx=>(Ca7 hS.drop.drop x hx).1
 have hlh:(hdL p).length<=1000000000:=by rw[CV7];exact Nat.le_trans hw.len hN
 have Hmay:=jH hmay;have Ht:=jH ht;have Hw:=jH hw;clear hmay ht hw;go_enter Tryz.func73,Tryz.ntmps73;go_wp2_with(first|go_at_call 83;refine(El7 vb mb bb p L n Hw.out hN W _ _ (hS.s (blk vb _ _::d9 eS eP mb p::x9 bb L n::blk b0 _ _::R))).mono ?_;clear hS;rintro e w ⟨sa,sc,oa,oc,rfl,hS⟩|(with_reducible apply An7 hS);rfl;rfl;exact zsS;clear hS;intro b0 w hS;refine frS ?_);generalize hhs:hdL p=hs at hS hlh;have Hhs:=jH hhs;clear hhs;have hS1:=hS.rowNil (k:=4) (T:=34);clear hS;have hS:=hS1;clear hS1
 go_loopw [7,22] (fun v7 v22 wr=>TtR W (w5 vb mb bb p L n (hdR (.slice sa hs.length sc) hs::j7 (.slice oa L.length oc) L::blk b0 [.I 0,.I 0,.I 0,.I 0] 34::R)) hs.length (fun k=>(hs.take k).map Hd.has) v7 v22 wr) (fun _ v22 _=>hs.length-(intOf v22).toNat)
 case atStart=>exact⟨0,rfl,Nat.zero_le _,hS⟩
 case round=>
  clear hS;obtain⟨k,rfl,hkl,hS⟩:=hrel;dsimp only at hS;by_cases hkn:k=hs.length
  ·rw[hkn,List.take_length]at hS;have hd1:decide (k<hs.length)=false:=by simp;omega
   clear hkl hkn;generalize hacc:hs.map Hd.has=acc at hS;have hal:acc.length<=1000000000:=by rw[<-hacc,jM];exact hlh
   have Hacc:=jH hacc;clear hacc;go_wp2_with(fail)
   go_loopw [7,34] (fun v7 v34 wr=>TtR W (w5 vb mb bb p L n (hdR (.slice sa hs.length sc) hs::j7 (.slice oa L.length oc) L::blk b0 [.I 0,.I 0,.I 0,.I 0] 34::R)) L.length (fun k=>acc++(L.take k).map j5) v7 v34 wr) (fun _ v34 _=>L.length-(intOf v34).toNat)
   case atStart=>exact⟨0,rfl,Nat.zero_le _,by simpa using hS⟩
   case round=>
    clear hS;obtain⟨j,rfl,hjl,hS⟩:=hrel;dsimp only at hS;by_cases hjn:j=L.length
    ·rw[hjn,List.take_length]at hS;have hd2:decide (j<L.length)=false:=by simp;omega
     have hall:B5 (acc++L.map j5) it0=some ⟨t0,t1,t2,t3⟩:=by rw[<-Hacc.out,<-Hhs.out];exact Ht.out
     have Hall:=jH hall;clear hall hjl hjn;go_wp2_with(first|go_at_call 32;refine(Go7 Hall.out _ W _ _ hS).mono ?_;clear hS;rintro e w ⟨rfl,hS⟩|(with_reducible apply An7 hS);rfl;rfl;exact zsS;clear hS;intro bt w hS;refine frS ?_|refine zsN hS ?_;clear hS;intro w hS|refine zlN hS ?_);apply Ac7;rfl;rfl;rfl;rfl;exact hS;decide +kernel;(exact r6);kernel_rfl;exact⟨rfl,hS.s _⟩
    ·have hj1:j<L.length:=by omega
     obtain⟨⟨g,rfl⟩,_,_⟩:=St.rowAddr hS.drop.drop.drop.drop.drop (by omega);have hcells:∀{K K':List HP},Take K (j7 (.S g L.length oc) L) K'->d8 K g (j*6) (Ord.cells L[j]):=fun hu=>d8.elemM (enc:=Ord.cells) Ord.len hu hj1
     have hstep:acc++(L.take (j+1)).map j5=(acc++(L.take j).map j5)++[j5 L[j]]:=by rw[Cd7 _ _ hj1,jS]
     have hmx:=Hmay.out _ (jW hj1);have hbl:(acc++(L.take j).map j5).length<=1000000100:=by rw[jA,jM,jT];omega
     have Hstep:=jH hstep;clear hstep hjn hjl;generalize acc++(L.take j).map j5=accj at hS Hstep hbl;generalize L[j]=x at hcells Hstep hmx;obtain⟨it,hit⟩:∃y,j5 x=y:=⟨_,rfl⟩
     obtain⟨oi,ou,oy,ot,oc2,op⟩:=x;obtain⟨h0,h1,h2,h3⟩:=it;have Hit:=jH hit;have Hm:=jH hmx;clear hit hmx;simp only[Ord.cells]at hcells;go_wp2_with(first|refine zlN hS ?_ (hc:=by exact hcells (by exact i7))|go_at_call 117;refine(EI7 (o:=⟨oi,ou,oy,ot,oc2,op⟩) Hm.out Hit.out W _ _ hS).mono ?_;clear hS;rintro e w ⟨rfl,hS⟩|refine zbs hS ?_;clear hS;intro bS w hS|refine zap hS ?_ (h63:=by unfold maxLen;omega) (hb:=by omega);clear hS;intro v w hS|(with_reducible apply An7 hS);rfl;rfl;exact zsS;clear hS;intro bx w hS;refine frS ?_|refine zsN hS ?_;clear hS;intro w hS|refine zlN hS ?_);go_roundw
     case rel=>
      refine⟨j+1,rfl,hj1,?_⟩;dsimp only;rw[Hstep.out,Hit.out];unfold L5;rw[CP7,jA,List.length_singleton];have h0:St W (row v 4 34 (accj.length+1) (accj.flatMap It.cells++It.cells ⟨h0,h1,h2,h3⟩)::_) w:=hS;exact h0.s _
     case measure=>simp[intOf];omega
  ·have hk1:k<hs.length:=by omega
   obtain⟨⟨g,rfl⟩,_,_⟩:=St.rowAddr hS.drop.drop.drop.drop (by omega);have hcells:∀{K K':List HP},Take K (hdR (.S g hs.length sc) hs) K'->d8 K g (k*5) (Hd.cells hs[k]):=fun hu=>d8.elemM (enc:=Hd.cells) Hd.len hu hk1
   have hstep:=Cd7 Hd.has hs hk1;have hbl:((hs.take k).map Hd.has).length<=1000000100:=by rw[jM,jT];omega
   have Hstep:=jH hstep;clear hstep hkn hkl;generalize (hs.take k).map Hd.has=accj at hS Hstep hbl;generalize hs[k]=x at hcells Hstep;obtain⟨xw,⟨x0,x1,x2,x3⟩⟩:=x;simp only[Hd.cells,It.cells]at hcells;go_wp2_with(first|refine zlN hS ?_ (hc:=by exact hcells (by exact i7))|refine zlN hS ?_ (hc:=by exact d8.here (vs:=[.I x0,.I x1,.I x2,.I x3]) rfl)|refine zbs hS ?_;clear hS;intro bS w hS|refine zap hS ?_ (h63:=by unfold maxLen;omega) (hb:=by omega);clear hS;intro v w hS|(with_reducible apply An7 hS);rfl;rfl;exact zsS;clear hS;intro bx w hS;refine frS ?_|refine zsN hS ?_;clear hS;intro w hS);go_roundw
   case rel=>
    refine⟨k+1,rfl,hk1,?_⟩;dsimp only;rw[Hstep.out];unfold L5;rw[CP7,jA,List.length_singleton];have h0:St W (row v 4 34 (accj.length+1) (accj.flatMap It.cells++It.cells ⟨x0,x1,x2,x3⟩)::_) w:=hS;exact h0.s _
   case measure=>simp[intOf];omega
end Go.Proofs.YtienbkdjkjbelaaGreat
end
