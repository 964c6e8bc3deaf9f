/-
  The vault keeps: orders and their end change nothing of all that there is. The plain law: no program in sight.
  The vault's Total. For every vault.
-/
import Derived.Test.YtlmhakmoioogaaaGreatEconPlaysM5
import Derived.Test.YtlmhakmoioogaaaGreatEconPlaysM21
import Derived.Test.YtlmhakmoioogaaaGreatEconPlaysM22
set_option maxHeartbeats 16000000
set_option maxRecDepth 100000
set_option linter.unusedSimpArgs false
set_option linter.unusedVariables false
section
namespace Go.Proofs.YtlmhakmoioogaaaGreat
open Go.RowKit Go.Sl
def sumW(k:Int):Ps→Int
 | []=>0
 | x::p=>getK x.2 k+sumW k p
def sumH(k:Int):List Ord→Int
 | []=>0
 | x::L=>getK (holdsF x) k+sumH k L
def payK(k:Int)(t:Trd):Int:=(if k=t.item then t.cnt else 0)+(if k=0 then t.cnt*(t.bid-t.price)+t.cnt*t.price else 0)
def sumT(k:Int):List Trd→Int
 | []=>0
 | t::ts=>payK k t+sumT k ts
def sumI(k:Int):List It→Int
 | []=>0
 | i::l=>getK i k+sumI k l
def totV(V:Vs)(k:Int):Int:=sumW k V.ps+sumH k V.L
structure Kx(k:Int):Prop where
 k0:0≤k
 k3:k≤3
theorem Bz7(k:Int):getK it0 k=0:=by
 unfold getK it0;repeat' split
 all_goals rfl
theorem GR7(i:It){j k:Int}(hj:Kx j)(hk:Kx k)(n:Int):getK (setK i j n) k=if k=j then n else getK i k:=by
 obtain⟨j0,j3⟩:=hj
 obtain⟨k0,k3⟩:=hk
 have h1:j=0∨j=1∨j=2∨j=3:=by omega
 have h2:k=0∨k=1∨k=2∨k=3:=by omega
 rcases h1 with rfl|rfl|rfl|rfl <;> rcases h2 with rfl|rfl|rfl|rfl <;> rfl
theorem CY7(a b:It)(k:Int):getK (addIt a b) k=getK a k+getK b k:=by
 unfold getK addIt
 repeat' split
 all_goals rfl
theorem Kj7(a b:It)(k:Int):getK (subIt a b) k=getK a k-getK b k:=by
 unfold getK subIt
 repeat' split
 all_goals rfl
theorem QN7{i:It}(h:isZ i=true)(k:Int):getK i k=0:=by rw[Pf7 h,Bz7]
theorem Br7{p:Ps}(h:(p.map (·.1)).Nodup)(k:ByteArray)(i:It):((layP p k i).map (·.1)).Nodup:=by
 unfold layP
 split
 ·exact Eo7 h k
 ·rw[List.map_cons,List.nodup_cons]
  refine⟨fun hm=>?_,Eo7 h k⟩
  obtain⟨x,hx,e⟩:=List.mem_map.1 hm
  exact(CW7 hx).2 e
theorem HU7{p:Ps}(h:(p.map (·.1)).Nodup){x:ByteArray×It}(hx:x∈p):purseA p x.1=x.2:=by
 have:=Bh7 (v:=x.2) h hx
 unfold purseA
 rw[this]
 rfl
theorem KZ7(x:ByteArray×It)(p:Ps)(k:ByteArray):purseA (x::p) k=if x.1=k then x.2 else purseA p k:=by
 unfold purseA getL
 split
 ·rename_i h
  rw[List.find?_cons_of_pos (by simpa using h)];rfl
 ·rename_i h
  rw[List.find?_cons_of_neg (by simpa using h)]
theorem Kk7(k:Int)(who:ByteArray):∀{p:Ps},(p.map (·.1)).Nodup→sumW k (delL p who)=sumW k p-getK (purseA p who) k
 | [],_=>by
  show(0:Int)=0-getK it0 k
  rw[Bz7];rfl
 | x::p,h=>by
  rw[List.map_cons,List.nodup_cons]at h
  have ih:=Kk7 k who h.2
  rw[KZ7]
  by_cases hx:x.1=who
  ·rw[if_pos hx]
   have e:delL (x::p) who=p:=by
    unfold delL
    rw[List.filter_cons,if_neg (by simpa using hx)]
    refine List.filter_eq_self.2 fun y hy=>?_
    have:y.1≠who:=fun e=>h.1 (List.mem_map.2 ⟨y,hy,e.trans hx.symm⟩)
    simpa using this
   rw[e]
   show sumW k p=getK x.2 k+sumW k p-getK x.2 k
   omega
  ·rw[if_neg hx]
   have e:delL (x::p) who=x::delL p who:=by
    unfold delL
    rw[List.filter_cons,if_pos (by simpa using hx)]
   rw[e]
   show getK x.2 k+sumW k (delL p who)=getK x.2 k+sumW k p-getK (purseA p who) k
   omega
theorem DL7{p:Ps}(h:(p.map (·.1)).Nodup)(k:Int)(who:ByteArray)(i:It):sumW k (layP p who i)=sumW k p-getK (purseA p who) k+getK i k:=by
 have hd:=Kk7 k who h
 unfold layP
 split
 ·rename_i hz
  rw[hd,QN7 hz]
  omega
 ·show getK i k+sumW k (delL p who)=_
  omega
structure PsK(p:Ps):Prop where
 nd:(p.map (·.1)).Nodup
 ok:PsOk p
theorem PsK.pos{p:Ps}(h:PsK p)(k:Int):0≤sumW k p:=by
 have hx:∀x∈p,0≤getK x.2 k:=fun x hx=>by
  rw[←HU7 h.nd hx]
  exact(El7 (h.ok x.1) k).1
 clear h
 induction p with
 | nil=>exact Int.le_refl _
 | cons x p ih=>
  have h1:=hx x (List.mem_cons_self ..)
  have h2:=ih fun y hy=>hx y (List.mem_cons_of_mem _ hy)
  show 0≤getK x.2 k+sumW k p
  omega
theorem GS7:isIt it0=true:=by decide
theorem PsK.le{p:Ps}(h:PsK p)(who:ByteArray)(k:Int):getK (purseA p who) k≤sumW k p:=by
 have h1:=DL7 h.nd k who it0
 have h2:=PsK.pos ⟨Br7 h.nd who it0,EO7 h.ok who GS7⟩ k
 rw[Bz7]at h1
 omega
theorem PsK.give{p:Ps}(h:PsK p)(who:ByteArray)(j:Int){n:Int}(hn:0≤n):PsK (giveP p who j n):=⟨Br7 h.nd _ _,An7 h.ok who j hn⟩
theorem BN7{p:Ps}(h:PsK p)(who:ByteArray){j k:Int}(hj:Kx j)(hk:Kx k){n:Int}(hn:0≤n)(hb:sumW j p+n≤1152921504606846976):
  sumW k (giveP p who j n)=sumW k p+if k=j then n else 0:=by
 have hle:=h.le who j
 unfold giveP giveI
 rw[DL7 h.nd,GR7 _ hj hk]
 have hc:capI (getK (purseA p who) j+n)=getK (purseA p who) j+n:=by unfold capI;rw[if_neg (by omega)]
 rw[hc]
 split
 ·rename_i e;subst e;omega
 ·omega
theorem PsK.pay{p:Ps}(h:PsK p){t:Trd}(ht:TrB t):PsK (payT p t):=⟨Br7 (Br7 (Br7 h.nd _ _) _ _) _ _,Ke7 h.ok ht⟩
theorem Og7{t:Trd}(ht:TrB t)(k:Int):0≤payK k t:=by
 have h1:=BV7 ht.cnt.1 ht.cnt.2 ht.price.1 ht.price.2
 have h2:=BV7 ht.cnt.1 ht.cnt.2 ht.bid.1 ht.bid.2
 have h3:=ht.cnt.1
 unfold payK
 split <;> split <;> omega
theorem Oh7{p:Ps}(h:PsK p){t:Trd}(ht:TrB t)(hb:∀k,Kx k→sumW k p+payK k t≤1152921504606846976){k:Int}(hk:Kx k):sumW k (payT p t)=sumW k p+payK k t:=by
 have h1:=BV7 ht.cnt.1 ht.cnt.2 ht.price.1 ht.price.2
 have h2:=BV7 ht.cnt.1 ht.cnt.2 ht.bid.1 ht.bid.2
 have h3:=ht.cnt.1
 have z:Kx 0:=⟨by decide,by decide⟩
 have ji:Kx t.item:=⟨ht.item.1,ht.item.2⟩
 have g1:=h.give t.buyer t.item h3
 have g2:=g1.give t.buyer 0 h2.1
 have b0:=hb 0 z
 have bi:=hb t.item ji
 have k0:payK 0 t=(if 0=t.item then t.cnt else 0)+(t.cnt*(t.bid-t.price)+t.cnt*t.price):=by unfold payK;rw[if_pos (rfl:(0:Int)=0)]
 have ki:payK t.item t=t.cnt+(if t.item=0 then t.cnt*(t.bid-t.price)+t.cnt*t.price else 0):=by unfold payK;rw[if_pos (rfl:t.item=t.item)]
 have bi2:sumW t.item p+t.cnt≤1152921504606846976:=by
  rw[ki]at bi
  split at bi <;> omega
 have e1:=fun k hk=>BN7 (k:=k) h t.buyer ji hk h3 bi2
 have e10:=e1 0 z
 have b1:sumW 0 (giveP p t.buyer t.item t.cnt)+t.cnt*(t.bid-t.price)≤1152921504606846976:=by
  rw[k0]at b0
  rw[e10]
  omega
 have e2:=fun k hk=>BN7 (k:=k) g1 t.buyer z hk h2.1 b1
 have e20:=e2 0 z
 rw[if_pos (rfl:(0:Int)=0)]at e20
 have b2:sumW 0 (giveP (giveP p t.buyer t.item t.cnt) t.buyer 0 (t.cnt*(t.bid-t.price)))+t.cnt*t.price≤1152921504606846976:=by
  rw[k0]at b0
  rw[e20,e10]
  omega
 unfold payT
 rw[BN7 g2 t.seller z hk h1.1 b2,e2 k hk,e1 k hk]
 unfold payK
 split <;> split <;> omega
theorem Kl7:∀{ts:List Trd},(∀t∈ts,TrB t)→∀k,0≤sumT k ts
 | [],_,_=>Int.le_refl _
 | t::ts,h,k=>by
  have h1:=Og7 (h t (List.mem_cons_self ..)) k
  have h2:=Kl7 (fun x hx=>h x (List.mem_cons_of_mem t hx)) k
  show 0≤payK k t+sumT k ts
  omega
theorem HV7:∀(ts:List Trd) {p:Ps},PsK p→(∀t∈ts,TrB t)→(∀k,Kx k→sumW k p+sumT k ts≤1152921504606846976)→∀{k:Int},Kx k→sumW k (ts.foldl payT p)=sumW k p+sumT k ts
 | [],p,_,_,_,k,_=>by show sumW k p=sumW k p+0;omega
 | t::ts,p,h,ht,hb,k,hk=>by
  have h1:=ht t (List.mem_cons_self ..)
  have h2:∀x∈ts,TrB x:=fun x hx=>ht x (List.mem_cons_of_mem t hx)
  have hs:∀k,Kx k→sumW k (payT p t)=sumW k p+payK k t:=fun k hk=>Oh7 h h1 (fun j hj=>by
   have a:=hb j hj
   have b:=Kl7 h2 j
   have c:sumT j (t::ts)=payK j t+sumT j ts:=rfl
   omega) hk
  have hc:sumT k (t::ts)=payK k t+sumT k ts:=rfl
  have ih:=HV7 ts (h.pay h1) h2 (fun j hj=>by
   have a:=hb j hj
   have c:sumT j (t::ts)=payK j t+sumT j ts:=rfl
   rw[hs j hj]
   omega) hk
  rw[List.foldl_cons,ih,hs k hk,hc]
  omega
theorem FF7{L L':List Ord}(h:L.Perm L')(k:Int):sumH k L=sumH k L':=by
 induction h with
 | nil=>rfl
 | cons x _ ih=>simp only[sumH,ih]
 | swap x y l=>simp only[sumH];omega
 | trans _ _ ih1 ih2=>rw[ih1,ih2]
theorem Jb7(L:List Ord)(x:Ord)(k:Int):sumH k (L++[x])=sumH k L+getK (holdsF x) k:=by
 rw[FF7 (List.perm_append_singleton x L) k]
 simp only[sumH]
 omega
theorem MC7{L:List Ord}{j:Nat}(hj:j<L.length)(k:Int):sumH k L=getK (holdsF (at' L j)) k+sumH k (L.eraseIdx j):=by rw[←FF7 (GI7 L hj) k];rfl
theorem Oi7{L:List Ord}{j:Nat}(hj:j<L.length)(x:Ord)(k:Int):sumH k (L.set j x)=getK (holdsF x) k+sumH k (L.eraseIdx j):=by rw[←FF7 (Pd7 L hj x) k];rfl
theorem HW7{o:Ord}(hi:1≤o.item∧o.item≤3){k:Int}(hk:Kx k):getK (holdsF o) k=if o.buy=true then(if k=0 then o.cnt*o.price else 0)else if k=o.item then o.cnt else 0:=by
 unfold holdsF
 split
 ·have h2:k=0∨k=1∨k=2∨k=3:=by have:=hk.k0;have:=hk.k3;omega
  rcases h2 with rfl|rfl|rfl|rfl <;> rfl
 ·rw[GR7 it0 ⟨by omega,hi.2⟩ hk,Bz7]
def withC(o:Ord)(c:Int):Ord:=⟨o.id,o.who,o.buy,o.item,c,o.price⟩
theorem Cp7{o:Ord}(hi:1≤o.item∧o.item≤3){k:Int}(hk:Kx k)(c:Int):getK (holdsF (withC o c)) k=if o.buy=true then(if k=0 then c*o.price else 0)else if k=o.item then c else 0:=
 HW7 (o:=withC o c) hi hk
theorem Km7{o:Ord}(hi:1≤o.item∧o.item≤3){k:Int}(hk:Kx k)(c n:Int):getK (holdsF (withC o (c-n))) k=getK (holdsF (withC o c)) k-getK (holdsF (withC o n)) k:=by
 rw[Cp7 hi hk,Cp7 hi hk,Cp7 hi hk]
 have:=Int.sub_mul c n o.price
 by_cases hb:o.buy=true
 ·simp only[if_pos hb]
  by_cases h0:k=0
  ·simp only[if_pos h0];omega
  ·simp only[if_neg h0];rfl
 ·simp only[if_neg hb]
  by_cases h0:k=o.item
  ·simp only[if_pos h0]
  ·simp only[if_neg h0];rfl
theorem La7{o x:Ord}(ho:1≤o.item∧o.item≤3)(hm:meetR o x=true){k:Int}(hk:Kx k):
  getK (holdsF (withC x (minI o.cnt x.cnt))) k+getK (holdsF (withC o (minI o.cnt x.cnt))) k=payK k (tradeR o x):=by
 unfold meetR at hm
 simp only[Bool.and_eq_true,decide_eq_true_eq,bne_iff_ne,ne_eq]at hm
 obtain⟨⟨h1,h2⟩,_⟩:=hm
 have hx:1≤x.item∧x.item≤3:=by rw[←h1];exact ho
 rw[Cp7 hx hk,Cp7 ho hk]
 unfold payK tradeR
 by_cases hob:o.buy=true
 ·have hxb:¬x.buy=true:=fun h=>h2 (hob.trans h.symm)
  simp only[if_pos hob,if_neg hxb]
  have:=Int.mul_sub (minI o.cnt x.cnt) o.price x.price
  by_cases h0:k=0
  ·have h9:¬k=x.item:=by omega
   have h8:¬k=o.item:=by omega
   simp only[if_pos h0,if_neg h9,if_neg h8];omega
  ·rw[h1]
   by_cases h9:k=x.item
   ·simp only[if_neg h0,if_pos h9]
   ·simp only[if_neg h0,if_neg h9]
 ·have hxb:x.buy=true:=by
   cases hx1:x.buy with
   | true=>rfl
   | false=>exact absurd ((by simpa using hob:o.buy=false).trans hx1.symm) h2
  simp only[if_neg hob,if_pos hxb]
  have:=Int.mul_sub (minI o.cnt x.cnt) x.price x.price
  by_cases h0:k=0
  ·have h8:¬k=o.item:=by omega
   simp only[if_pos h0,if_neg h8];omega
  ·by_cases h9:k=o.item
   ·simp only[if_neg h0,if_pos h9];omega
   ·simp only[if_neg h0,if_neg h9]
theorem Pk7{o:Ord}(hi:1≤o.item∧o.item≤3)(h:o.cnt=0){k:Int}(hk:Kx k):getK (holdsF o) k=0:=by
 rw[HW7 hi hk,h,Int.zero_mul]
 repeat' split
 all_goals rfl
theorem MD7{L:List Ord}{j:Nat}(hj:j<L.length)(hL:∀x∈L,MayP x)(n:Int){k:Int}(hk:Kx k):sumH k (cutR L j ((at' L j).cnt-n))=sumH k L-getK (holdsF (withC (at' L j) n)) k:=by
 have hx:=hL _ (at'_mem hj)
 have hi:1≤(at' L j).item∧(at' L j).item≤3:=⟨hx.item0,hx.item1⟩
 have hc:=Km7 hi hk (at' L j).cnt n
 have e:getK (holdsF (withC (at' L j) (at' L j).cnt)) k=getK (holdsF (at' L j)) k:=rfl
 rw[e]at hc
 have hz:(at' L j).cnt-n=0→getK (holdsF (withC (at' L j) ((at' L j).cnt-n))) k=0:=fun h=>Pk7 (o:=withC (at' L j) ((at' L j).cnt-n)) hi h hk
 have hs:=MC7 hj k
 unfold cutR
 split
 ·rename_i hz0
  have:=hz hz0
  omega
 ·rw[Oi7 hj]
  show getK (holdsF (withC (at' L j) ((at' L j).cnt-n))) k+sumH k (L.eraseIdx j)=_
  omega
theorem HX7:∀(f:Nat) (o:Ord) (L:List Ord) (ts:List Trd),(∀x∈L,MayP x)→(1≤o.item∧o.item≤3)→0≤o.cnt→∀{k:Int},Kx k→
  0≤(refLoop f o L ts).1.cnt∧(refLoop f o L ts).1.item=o.item∧sumH k (refLoop f o L ts).2.1+getK (holdsF (refLoop f o L ts).1) k+sumT k (refLoop f o L ts).2.2=sumH k L+getK (holdsF o) k+sumT k ts
 | 0,o,L,ts,_,_,h0,k,_=>⟨h0,rfl,rfl⟩
 | f+1,o,L,ts,hL,ho,h0,k,hk=>by
  rw[refLoop]
  by_cases hc:0<o.cnt
  ·rw[if_pos hc]
   cases hb:bestTo o L L.length with
   | none=>exact⟨h0,rfl,rfl⟩
   | some j=>
    obtain⟨hj,hm,_⟩:=AQ7 hb
    have hx:=hL _ (at'_mem hj)
    have hx0:=hx.cnt0
    have hmin:=Dz7 hc (show 0<(at' L j).cnt by omega)
    have hL':∀x∈cutR L j ((at' L j).cnt-minI o.cnt (at' L j).cnt),MayP x:=by
     unfold cutR
     split
     ·exact fun x hx=>hL x (List.mem_of_mem_eraseIdx hx)
     ·intro x hxm
      rcases List.mem_or_eq_of_mem_set hxm with hx'|rfl
      ·exact hL x hx'
      ·exact GJ7 hx (by omega) (by omega)
    obtain⟨i1,i2,i3⟩:=HX7 f (withC o (o.cnt-minI o.cnt (at' L j).cnt)) _ (ts++[tradeR o (at' L j)]) hL' ho (by show 0≤o.cnt-minI o.cnt (at' L j).cnt;omega) hk
    refine⟨i1,i2,Eq.trans i3 ?_⟩
    have a1:=MD7 hj hL (minI o.cnt (at' L j).cnt) hk
    have a2:=Km7 ho hk o.cnt (minI o.cnt (at' L j).cnt)
    have a3:=La7 ho hm hk
    have e:getK (holdsF (withC o o.cnt)) k=getK (holdsF o) k:=rfl
    have a4:∀(l:List Trd) (t:Trd),sumT k (l++[t])=sumT k l+payK k t:=fun l t=>by
     induction l with
     | nil=>simp[sumT]
     | cons y l ih=>simp only[List.cons_append,sumT,ih];omega
    rw[a4]
    rw[e]at a2
    omega
  ·rw[if_neg hc]
   exact⟨h0,rfl,rfl⟩
theorem Oj7{L:List Ord}{o:Ord}(hL:∀x∈L,MayP x)(ho:1≤o.item∧o.item≤3)(h0:0≤o.cnt){k:Int}(hk:Kx k):sumH k (runL L o)+sumT k (runT L o)=sumH k L+getK (holdsF o) k:=by
 obtain⟨h1,h2,h3⟩:=HX7 (L.length+1) o L [] hL ho h0 hk
 have e:sumT k []=0:=rfl
 rw[e]at h3
 unfold runL runT
 split
 ·rw[Jb7]
  omega
 ·have:=Pk7 (by rw[h2];exact ho) (show(refLoop (L.length+1) o L []).1.cnt=0 by omega) hk
  omega
theorem ES7{L:List Ord}(hL:∀x∈L,MayP x)(k:Int):0≤sumH k L:=by
 induction L with
 | nil=>exact Int.le_refl _
 | cons x L ih=>
  have hx:=hL x (List.mem_cons_self ..)
  have h1:=ih fun y hy=>hL y (List.mem_cons_of_mem x hy)
  have h2:may1 x=true:=Ar7.2 ⟨show(1:Int)≤1 by decide,show(1:Int)≤1099511627776 by decide,hx.who0,hx.who1,hx.item0,hx.item1,hx.cnt0,hx.cnt1,hx.price0,hx.price1⟩
  have h3:=(El7 (Cw7 h2).2 k).1
  show 0≤getK (holdsF x) k+sumH k L
  omega
theorem Lb7{V:Vs}{o:Ord}(hp:PsK V.ps)(hL:∀x∈V.L,MayP x)(hL2:∀x∈(ordV V o).2.2.L,MayP x)(hb:∀k,Kx k→totV V k≤1152921504606846976){k:Int}(hk:Kx k):totV (ordV V o).2.2 k=totV V k:=by
 unfold ordV at hL2 ⊢
 split
 ·rfl
 ·rename_i h1
  rw[if_neg h1]at hL2
  have hm:=Ar7.1 (show mayB { o with id:=1 }=true by simpa[may1]using h1)
  split
  ·rfl
  ·rename_i h2
   rw[if_neg h2]at hL2
   split
   ·rename_i h3
    rw[if_pos h3]at hL2
    have c0:1≤o.cnt:=hm.cnt0
    have c1:o.cnt≤1048576:=hm.cnt1
    have ho:1≤o.item∧o.item≤3:=⟨hm.item0,hm.item1⟩
    have hT:∀t∈runT V.L { o with id:=V.n },TrB t:=CI7 _ _ _ _ hL ⟨show 0≤o.cnt by omega,c1,hm.item0,hm.item1,hm.price1⟩ fun t ht=>(by cases ht)
    have hh:holdsF { o with id:=V.n }=holdsF o:=rfl
    have hr:=fun k hk=>Oj7 (k:=k) (o:={ o with id:=V.n }) hL ho (show 0≤o.cnt by omega) hk
    have ht:∀k,sumW k (takeP V.ps o.who (holdsF o))=sumW k V.ps-getK (holdsF o) k:=fun k=>by
     unfold takeE at h3
     unfold takeP
     split at h3
     ·rename_i hc
      rw[if_pos hc]
      split at h3
      ·rename_i hs
       rw[if_pos hs,DL7 hp.nd,Kj7]
       omega
      ·cases h3
     ·cases h3
    have htk:PsK (takeP V.ps o.who (holdsF o)):=by
     refine⟨?_,Co7 hp.ok _ _⟩
     unfold takeP
     split
     ·split
      ·exact Br7 hp.nd _ _
      ·exact hp.nd
     ·exact hp.nd
    have hbb:∀j,Kx j→sumW j (takeP V.ps o.who (holdsF o))+sumT j (runT V.L { o with id:=V.n })≤1152921504606846976:=fun j hj=>by
     have a:=hr j hj
     have b:=ES7 hL2 j
     have c:=hb j hj
     unfold totV at c
     rw[ht j]
     dsimp only at a b
     rw[hh]at a
     omega
    have hw:=HV7 _ htk hT hbb hk
    have a:=hr k hk
    rw[hh]at a
    unfold totV
    dsimp only
    rw[hw,ht k]
    omega
   ·rfl
theorem ME7{p:Ps}(hp:PsK p)(who:ByteArray){i:It}(hi:isIt i=true)(hb:∀k,Kx k→sumW k p+getK i k≤1152921504606846976){k:Int}(hk:Kx k):sumW k (backP p who i)=sumW k p+getK i k:=by
 obtain⟨a0,a1,a2,a3⟩:=Ag7.1 hi
 have z0:Kx 0:=⟨by decide,by decide⟩
 have z1:Kx 1:=⟨by decide,by decide⟩
 have z2:Kx 2:=⟨by decide,by decide⟩
 have z3:Kx 3:=⟨by decide,by decide⟩
 have b0:sumW 0 p+i.x0≤_:=hb 0 z0
 have b1:sumW 1 p+i.x1≤_:=hb 1 z1
 have b2:sumW 2 p+i.x2≤_:=hb 2 z2
 have b3:sumW 3 p+i.x3≤_:=hb 3 z3
 have g0:=hp.give who 0 a0.1
 have g1:=g0.give who 1 a1.1
 have g2:=g1.give who 2 a2.1
 have e0:=fun k hk=>BN7 (k:=k) hp who z0 hk a0.1 b0
 have e1:=fun k hk=>BN7 (k:=k) g0 who z1 hk a1.1 (by rw[e0 1 z1,if_neg (by decide)];omega)
 have e2:=fun k hk=>BN7 (k:=k) g1 who z2 hk a2.1 (by rw[e1 2 z2,e0 2 z2,if_neg (by decide),if_neg (by decide)];omega)
 have e3:=fun k hk=>BN7 (k:=k) g2 who z3 hk a3.1 (by rw[e2 3 z3,e1 3 z3,e0 3 z3,if_neg (by decide),if_neg (by decide),if_neg (by decide)];omega)
 unfold backP
 rw[e3 k hk,e2 k hk,e1 k hk,e0 k hk]
 have h2:k=0∨k=1∨k=2∨k=3:=by have:=hk.k0;have:=hk.k3;omega
 rcases h2 with rfl|rfl|rfl|rfl
 ·show _+i.x0+0+0+0=_+i.x0;omega
 ·show _+0+i.x1+0+0=_+i.x1;omega
 ·show _+0+0+i.x2+0=_+i.x2;omega
 ·show _+0+0+0+i.x3=_+i.x3;omega
theorem Lc7{V:Vs}{who:ByteArray}{id:Int}(hp:PsK V.ps)(hL:∀x∈V.L,MayP x)(hb:∀k,Kx k→totV V k≤1152921504606846976){k:Int}(hk:Kx k):totV (canV V who id).2 k=totV V k:=by
 unfold canV
 split
 ·rename_i h
  obtain⟨he,hm⟩:=CV7 h
  have hx:=hL _ hm
  have h1:may1 (cancelR V.L id).o=true:=Ar7.2 ⟨show(1:Int)≤1 by decide,show(1:Int)≤1099511627776 by decide,hx.who0,hx.who1,hx.item0,hx.item1,hx.cnt0,hx.cnt1,hx.price0,hx.price1⟩
  have hs:∀k,sumH k V.L=getK (holdsF (cancelR V.L id).o) k+sumH k (cancelR V.L id).L∧∀x∈(cancelR V.L id).L,MayP x:=fun k=>by
   unfold cancelR at he ⊢
   cases hf:V.L.findIdx? (fun o=>o.id==id)with
   | none=>rw[hf]at he;cases he
   | some i=>
    obtain⟨hi,_⟩:=List.findIdx?_eq_some_iff_getElem.1 hf
    exact⟨MC7 hi k,fun x hx=>hL x (List.mem_of_mem_eraseIdx hx)⟩
  have hw:=ME7 hp who (Cw7 h1).2 (fun j hj=>by
   have a:=hb j hj
   have b:=(hs j).1
   have c:=ES7 (hs j).2 j
   unfold totV at a
   omega) hk
  unfold totV
  dsimp only
  rw[hw,(hs k).1]
  omega
 ·rfl
theorem HY7{V:Vs}{k:ByteArray}{i:It}(hp:PsK V.ps)(j:Int):totV ⟨putP V.ps k i,V.L,V.n⟩ j=totV V j+(if putE V.ps k i=0 then getK i j else 0)∧PsK (putP V.ps k i)∧(putE V.ps k i=0→isIt i=true):=by
 have hk:PsK (putP V.ps k i):=by
  refine⟨?_,Kd7 hp.ok _ _⟩
  unfold putP
  split
  ·split
   ·exact Br7 hp.nd _ _
   ·exact hp.nd
  ·exact hp.nd
 refine⟨?_,hk,?_⟩
 ·unfold totV putE putP
  dsimp only
  split
  ·rename_i hc
   cases ha:addL [purseA V.ps k,i] it0 with
   | none=>simp
   | some s=>
    have e:s=addIt (addIt it0 (purseA V.ps k)) i:=by
     simp only[addL]at ha
     split at ha
     ·split at ha
      ·cases ha;rfl
      ·cases ha
     ·cases ha
    simp only[Option.isSome_some,if_true]
    rw[DL7 hp.nd,e,CY7,CY7,Bz7]
    omega
  ·rw[if_neg (by decide)]
   omega
 ·unfold putE
  split
  ·rename_i hc
   exact fun _=>hc.2
  ·exact fun h=>(by cases h)
theorem Ld7{V:Vs}{k:ByteArray}{i:It}(hp:PsK V.ps)(j:Int):totV ⟨takeP V.ps k i,V.L,V.n⟩ j=totV V j-(if takeE V.ps k i=0 then getK i j else 0)∧PsK (takeP V.ps k i)∧(takeE V.ps k i=0→isIt i=true):=by
 have hk:PsK (takeP V.ps k i):=by
  refine⟨?_,Co7 hp.ok _ _⟩
  unfold takeP
  split
  ·split
   ·exact Br7 hp.nd _ _
   ·exact hp.nd
  ·exact hp.nd
 refine⟨?_,hk,?_⟩
 ·unfold totV takeE takeP
  dsimp only
  split
  ·split
   ·rw[DL7 hp.nd,Kj7,if_pos rfl]
    omega
   ·rw[if_neg (by decide)]
    omega
  ·rw[if_neg (by decide)]
   omega
 ·unfold takeE
  split
  ·rename_i hc
   exact fun _=>hc.2
  ·exact fun h=>(by cases h)
theorem FG7(k:Int):∀(a b:List It),sumI k (a++b)=sumI k a+sumI k b
 | [],b=>by show sumI k b=0+sumI k b;omega
 | i::a,b=>by
  show getK i k+sumI k (a++b)=getK i k+sumI k a+sumI k b
  rw[FG7 k a b]
  omega
theorem HZ7{l l':List It}(h:l.Perm l')(k:Int):sumI k l=sumI k l':=by
 induction h with
 | nil=>rfl
 | cons x _ ih=>simp only[sumI,ih]
 | swap x y l=>simp only[sumI];omega
 | trans _ _ ih1 ih2=>rw[ih1,ih2]
theorem Ok7{l:List It}(h:∀i∈l,isIt i=true)(k:Int):0≤sumI k l:=by
 induction l with
 | nil=>exact Int.le_refl _
 | cons i l ih=>
  have h1:=(El7 (h i (List.mem_cons_self ..)) k).1
  have h2:=ih fun y hy=>h y (List.mem_cons_of_mem i hy)
  show 0≤getK i k+sumI k l
  omega
theorem Jc7{i:It}(h:∀k,Kx k→0≤getK i k∧getK i k≤1152921504606846976):isIt i=true:=
 Ag7.2 ⟨h 0 ⟨by decide,by decide⟩,h 1 ⟨by decide,by decide⟩,h 2 ⟨by decide,by decide⟩,h 3 ⟨by decide,by decide⟩⟩
theorem QO7{a b:It}(h:∀k,Kx k→getK a k=getK b k):a=b:=by
 obtain⟨a0,a1,a2,a3⟩:=a
 obtain⟨b0,b1,b2,b3⟩:=b
 have h0:a0=b0:=h 0 ⟨by decide,by decide⟩
 have h1:a1=b1:=h 1 ⟨by decide,by decide⟩
 have h2:a2=b2:=h 2 ⟨by decide,by decide⟩
 have h3:a3=b3:=h 3 ⟨by decide,by decide⟩
 rw[h0,h1,h2,h3]
theorem ET7:∀(l:List It) {s t:It},(∀i∈l,isIt i=true)→isIt s=true→(∀k,Kx k→getK t k=getK s k+sumI k l)→(∀k,Kx k→getK t k≤1152921504606846976)→addL l s=some t
 | [],s,t,_,_,he,_=>by
  rw[QO7 (a:=t) (b:=s) fun k hk=>by rw[he k hk];show getK s k+0=_;omega]
  rfl
 | i::l,s,t,h,hs,he,hb=>by
  have hi:=h i (List.mem_cons_self ..)
  have hl:∀x∈l,isIt x=true:=fun x hx=>h x (List.mem_cons_of_mem i hx)
  have hsi:isIt (addIt s i)=true:=Jc7 fun k hk=>by
   have a:=(El7 hs k).1
   have b:=(El7 hi k).1
   have c:=Ok7 hl k
   have d:=he k hk
   have e:=hb k hk
   have f:sumI k (i::l)=getK i k+sumI k l:=rfl
   rw[CY7]
   omega
  rw[addL,if_pos ⟨hi,hsi⟩]
  refine ET7 l hl hsi (fun k hk=>?_) hb
  rw[he k hk,CY7]
  show _=_+sumI k l
  have f:sumI k (i::l)=getK i k+sumI k l:=rfl
  omega
def allV(V:Vs):List It:=(hdL V.ps).map Hd.has++V.L.map holdsF
theorem PO7{p:Ps}(hn:(p.map (·.1)).Nodup)(k:Int):sumI k ((hdL p).map Hd.has)=sumW k p:=by
 have e:(hdL p).map Hd.has=(kL p).map (purseA p):=by unfold hdL;rw[List.map_map];rfl
 have e2:(p.map (·.1)).map (purseA p)=p.map (·.2):=by
  rw[List.map_map]
  exact List.map_congr_left fun x hx=>HU7 hn hx
 have h3:sumI k ((kL p).map (purseA p))=sumI k ((p.map (·.1)).map (purseA p)):=by
  have h4:(kL p).Perm (p.map (·.1)):=Au7 _
  exact HZ7 (h4.map (purseA p)) k
 rw[e,h3,e2]
 clear e e2 h3 hn
 induction p with
 | nil=>rfl
 | cons x p ih=>simp only[List.map_cons,sumI,sumW,ih]
theorem MF7(L:List Ord)(k:Int):sumI k (L.map holdsF)=sumH k L:=by
 induction L with
 | nil=>rfl
 | cons x L ih=>simp only[List.map_cons,sumI,sumH,ih]
def totI(V:Vs):It:=⟨totV V 0,totV V 1,totV V 2,totV V 3⟩
theorem EU7(V:Vs){k:Int}(hk:Kx k):getK (totI V) k=totV V k:=by
 have h2:k=0∨k=1∨k=2∨k=3:=by have:=hk.k0;have:=hk.k3;omega
 rcases h2 with rfl|rfl|rfl|rfl <;> rfl
theorem PP7{V:Vs}(hp:PsK V.ps)(hL:∀x∈V.L,MayP x)(hb:∀k,Kx k→totV V k≤1152921504606846976):addL (allV V) it0=some (totI V):=by
 refine ET7 _ ?_ GS7 (fun k hk=>?_) fun k hk=>by rw[EU7 V hk];exact hb k hk
 ·intro i hi
  rcases List.mem_append.1 hi with h|h
  ·obtain⟨x,hx,rfl⟩:=List.mem_map.1 h
   unfold hdL at hx
   obtain⟨y,_,rfl⟩:=List.mem_map.1 hx
   exact hp.ok y
  ·obtain⟨x,hx,rfl⟩:=List.mem_map.1 h
   have hx:=hL x hx
   exact(Cw7 (o:=x) (Ar7.2 ⟨show(1:Int)≤1 by decide,show(1:Int)≤1099511627776 by decide,hx.who0,hx.who1,hx.item0,hx.item1,hx.cnt0,hx.cnt1,hx.price0,hx.price1⟩)).2
 ·unfold allV
  rw[FG7,PO7 hp.nd,MF7,Bz7,EU7 V hk]
  unfold totV
  omega
abbrev itsR(v:Value)(l:List It):HP:=row v 4 29 l.length (l.flatMap It.cells)
def TtR(W:World)(F:List HP)(m:Nat)(acc:Nat→List It)(v7 vk:Value)(w:World):Prop:=
 ∃k:Nat,vk=.int .i64 k∧k≤m∧St W (itsR v7 (acc k)::F) w
theorem Cq7{α β:Type}(f:α→β)(l:List α){k:Nat}(h:k<l.length):(l.take (k+1)).map f=(l.take k).map f++[f l[k]]:=by
 rw[List.take_succ_eq_append_getElem h,List.map_append];rfl
theorem CZ7(l:List It)(x:It):(l++[x]).flatMap It.cells=l.flatMap It.cells++x.cells:=by simp
theorem Jd7(vb mb bb:Nat)(p:Ps)(L:List Ord)(n:Int){N:Nat}(hw:PsW p N)(hN:N≤1000000000){t0 t1 t2 t3:Int}(ht:addL (allV ⟨p,L,n⟩) it0=some ⟨t0,t1,t2,t3⟩)(W w:World)(R:List HP)(hS:St W (vaultL vb mb bb p L n R) w):
  Calls Tryz.prog 57 #[.pointer (some ⟨vb,0,none⟩)] w fun e w'=>e=.returned (.tuple #[.agg #[.int .i64 t0,.int .i64 t1,.int .i64 t2,.int .i64 t3],.bool true])∧St W (vaultL vb mb bb p L n R) w':=by
 have hll:=BM7 hS.drop.drop
 have hmay:∀x∈L,MayP x:=fun x hx=>(Bj7 hS.drop.drop x hx).1
 have hlh:(hdL p).length≤1000000000:=by rw[Ce7];exact Nat.le_trans hw.len hN
 have Hmay:=Lib.hid hmay
 have Ht:=Lib.hid ht
 have Hw:=Lib.hid hw
 clear hmay ht hw
 go_enter Tryz.func57,Tryz.ntmps57
 go_wp2_with(first|(go_at_call 124;refine(CX7 vb mb bb p L n Hw.out hN W _ _ (hS.s (blk vb _ _::amap eS eP mb p::bookL bb L n::blk b0 _ _::R))).mono ?_;clear hS;rintro e w ⟨sa,sc,oa,oc,rfl,hS⟩)|((with_reducible apply Aj7 hS);(with_reducible rfl);rfl;(exact zsS);clear hS;intro b0 w hS;(refine frS ?_)))
 generalize hhs:hdL p=hs at hS hlh
 have Hhs:=Lib.hid hhs
 clear hhs
 have hS1:=hS.rowNil (k:=4) (T:=29)
 clear hS
 have hS:=hS1
 clear hS1
 go_loopw [7,22] (fun v7 v22 wr=>TtR W (vaultL vb mb bb p L n (hdR (.slice sa hs.length sc) hs::pileR (.slice oa L.length oc) L::blk b0 [.int .i64 0,.int .i64 0,.int .i64 0,.int .i64 0] 29::R)) hs.length (fun k=>(hs.take k).map Hd.has) v7 v22 wr) (fun _ v22 _=>hs.length-(intOf v22).toNat)
 case atStart=>exact⟨0,rfl,Nat.zero_le _,hS⟩
 case round=>
  clear hS
  obtain⟨k,rfl,hkl,hS⟩:=hrel
  dsimp only at hS
  by_cases hkn:k=hs.length
  ·rw[hkn,List.take_length]at hS
   have hd1:decide (k<hs.length)=false:=by simp;omega
   clear hkl hkn
   generalize hacc:hs.map Hd.has=acc at hS
   have hal:acc.length≤1000000000:=by rw[←hacc,List.length_map];exact hlh
   have Hacc:=Lib.hid hacc
   clear hacc
   go_wp2_with(fail)
   go_loopw [7,34] (fun v7 v34 wr=>TtR W (vaultL vb mb bb p L n (hdR (.slice sa hs.length sc) hs::pileR (.slice oa L.length oc) L::blk b0 [.int .i64 0,.int .i64 0,.int .i64 0,.int .i64 0] 29::R)) L.length (fun k=>acc++(L.take k).map holdsF) v7 v34 wr) (fun _ v34 _=>L.length-(intOf v34).toNat)
   case atStart=>exact⟨0,rfl,Nat.zero_le _,by simpa using hS⟩
   case round=>
    clear hS
    obtain⟨j,rfl,hjl,hS⟩:=hrel
    dsimp only at hS
    by_cases hjn:j=L.length
    ·rw[hjn,List.take_length]at hS
     have hd2:decide (j<L.length)=false:=by simp;omega
     have hall:addL (acc++L.map holdsF) it0=some ⟨t0,t1,t2,t3⟩:=by
      rw[←Hacc.out,←Hhs.out]
      exact Ht.out
     have Hall:=Lib.hid hall
     clear hall hjl hjn
     go_wp2_with(first|(go_at_call 58;refine(GF7 Hall.out _ W _ _ hS).mono ?_;clear hS;rintro e w ⟨rfl,hS⟩)|((with_reducible apply Aj7 hS);(with_reducible rfl);rfl;(exact zsS);clear hS;intro bt w hS;(refine frS ?_))|(refine zsN hS ?_;clear hS;intro w hS)|(refine zlN hS ?_))
     (apply Ac7;rfl;rfl;rfl;rfl;exact hS;decide +kernel;(exact cesS);kernel_rfl)
     exact⟨rfl,hS.s _⟩
    ·have hj1:j<L.length:=by omega
     obtain⟨⟨g,rfl⟩,hcap,hcn⟩:=St.rowAddr hS.drop.drop.drop.drop.drop (by omega)
     have hcells:∀{K K':List HP},Take K (pileR (.slice (some ⟨g,0,none⟩) L.length oc) L) K'→Cells K g (j*6) (Ord.cells L[j]):=fun hu=>Cells.elemM (enc:=Ord.cells) Ord.len hu hj1
     have hstep:acc++(L.take (j+1)).map holdsF=(acc++(L.take j).map holdsF)++[holdsF L[j]]:=by rw[Cq7 _ _ hj1,List.append_assoc]
     have hmx:=Hmay.out _ (List.getElem_mem hj1)
     have hbl:(acc++(L.take j).map holdsF).length≤1000000100:=by rw[List.length_append,List.length_map,List.length_take];omega
     have Hstep:=Lib.hid hstep
     clear hstep hjn hjl
     generalize acc++(L.take j).map holdsF=accj at hS Hstep hbl
     generalize L[j]=x at hcells Hstep hmx
     obtain⟨it,hit⟩:∃y,holdsF x=y:=⟨_,rfl⟩
     obtain⟨oi,ou,oy,ot,oc2,op⟩:=x
     obtain⟨h0,h1,h2,h3⟩:=it
     have Hit:=Lib.hid hit
     have Hm:=Lib.hid hmx
     clear hit hmx
     simp only[Ord.cells]at hcells
     go_wp2_with(first|(refine zlN hS ?_ (hc:=by exact hcells (by exact takeS)))|(go_at_call 125;refine(EP7 (o:=⟨oi,ou,oy,ot,oc2,op⟩) Hm.out Hit.out W _ _ hS).mono ?_;clear hS;rintro e w ⟨rfl,hS⟩)|(refine zbs hS ?_;clear hS;intro bS w hS)|(refine zap hS ?_ (h63:=by unfold maxLen;omega) (hb:=by omega);clear hS;intro v w hS)|((with_reducible apply Aj7 hS);(with_reducible rfl);rfl;(exact zsS);clear hS;intro bx w hS;(refine frS ?_))|(refine zsN hS ?_;clear hS;intro w hS)|(refine zlN hS ?_))
     go_roundw
     case rel=>
      refine⟨j+1,rfl,hj1,?_⟩
      dsimp only
      rw[Hstep.out,Hit.out]
      unfold itsR
      rw[CZ7,List.length_append,List.length_singleton]
      have h0:St W (row v 4 29 (accj.length+1) (accj.flatMap It.cells++It.cells ⟨h0,h1,h2,h3⟩)::_) w:=hS
      exact h0.s _
     case measure=>simp[intOf];omega
  ·have hk1:k<hs.length:=by omega
   obtain⟨⟨g,rfl⟩,hcap,hcn⟩:=St.rowAddr hS.drop.drop.drop.drop (by omega)
   have hcells:∀{K K':List HP},Take K (hdR (.slice (some ⟨g,0,none⟩) hs.length sc) hs) K'→Cells K g (k*5) (Hd.cells hs[k]):=fun hu=>Cells.elemM (enc:=Hd.cells) Hd.len hu hk1
   have hstep:=Cq7 Hd.has hs hk1
   have hbl:((hs.take k).map Hd.has).length≤1000000100:=by rw[List.length_map,List.length_take];omega
   have Hstep:=Lib.hid hstep
   clear hstep hkn hkl
   generalize (hs.take k).map Hd.has=accj at hS Hstep hbl
   generalize hs[k]=x at hcells Hstep
   obtain⟨xw,⟨x0,x1,x2,x3⟩⟩:=x
   simp only[Hd.cells,It.cells]at hcells
   go_wp2_with(first|(refine zlN hS ?_ (hc:=by exact hcells (by exact takeS)))|(refine zlN hS ?_ (hc:=by exact Cells.here (vs:=[.int .i64 x0,.int .i64 x1,.int .i64 x2,.int .i64 x3]) rfl))|(refine zbs hS ?_;clear hS;intro bS w hS)|(refine zap hS ?_ (h63:=by unfold maxLen;omega) (hb:=by omega);clear hS;intro v w hS)|((with_reducible apply Aj7 hS);(with_reducible rfl);rfl;(exact zsS);clear hS;intro bx w hS;(refine frS ?_))|(refine zsN hS ?_;clear hS;intro w hS))
   go_roundw
   case rel=>
    refine⟨k+1,rfl,hk1,?_⟩
    dsimp only
    rw[Hstep.out]
    unfold itsR
    rw[CZ7,List.length_append,List.length_singleton]
    have h0:St W (row v 4 29 (accj.length+1) (accj.flatMap It.cells++It.cells ⟨x0,x1,x2,x3⟩)::_) w:=hS
    exact h0.s _
   case measure=>simp[intOf];omega
end Go.Proofs.YtlmhakmoioogaaaGreat
end
