/-
  What is said to requests in order, which was known, which answers are wrong.
-/
import Derived.Test.YtienbkdjkjbelaaGreatJuRM5
import Derived.Test.YtienbkdjkjbelaaGreatJuRM22
import Derived.Test.YtienbkdjkjbelaaGreatJuRM29
import Derived.Test.YtienbkdjkjbelaaGreatJuRM43
set_option maxHeartbeats 16000000
set_option maxRecDepth 100000
set_option linter.unusedSimpArgs false
set_option linter.unusedVariables false
section
namespace Go.Proofs.YtienbkdjkjbelaaGreat
open Go.RowKit Go.Sl
theorem Dr7{a b:ByteArray}(h:a.toList=b.toList):a=b:=by refine Dd7 ?_;rwa [Lib.toList_data,Lib.toList_data]at h
theorem Nc7(o q:Opn):o.eqB q=true↔o=q:=by
 obtain⟨a1,a2,a3,a4,a5,a6,a7,a8,a9,a10,a11,a12⟩:=o;obtain⟨b1,b2,b3,b4,b5,b6,b7,b8,b9,b10,b11,b12⟩:=q;unfold Opn.eqB;simp only[jB,decide_eq_true_eq];constructor
 ·rintro⟨rfl,rfl,rfl,h4,h5,h6,h7,rfl,rfl,rfl,rfl,rfl⟩;rw[Dr7 h4,Dr7 h5,Dr7 h6,Dr7 h7]
 ·intro h
  injection h
  subst_vars;exact⟨rfl,rfl,rfl,rfl,rfl,rfl,rfl,rfl,rfl,rfl,rfl,rfl⟩
theorem Nd7(r q:Rpl):r.eqB q=true↔r=q:=by
 obtain⟨a1,a2,⟨a3,a4,a5,a6⟩⟩:=r;obtain⟨b1,b2,⟨b3,b4,b5,b6⟩⟩:=q;unfold Rpl.eqB;simp only[jB,decide_eq_true_eq,beq_iff_eq];constructor
 ·rintro⟨rfl,rfl,rfl,rfl,rfl,rfl⟩;rfl
 ·intro h
  injection h with h1 h2 h3
  injection h3
  subst_vars;exact⟨rfl,rfl,rfl,rfl,rfl,rfl⟩
instance decOpn : DecidableEq Opn := fun o q => decidable_of_iff _ (Nc7 o q)
theorem NU7(o q:Opn):o.eqB q=decide (o=q):=by rw[Bool.eq_iff_iff,Nc7,decide_eq_true_eq]
def l9:List Opn->Ec->List Rpl
 | [],_=>[]
 | o::l,e=>(p8 e o).1::l9 l (p8 e o).2.2
theorem AE7:∀(xs:List Opn) (e:Ec),(l9 xs e).length=xs.length
 | [],_=>rfl
 | o::l,e=>by rw[l9,jC,jC,AE7 l]
theorem Hb7:∀(l m:List Opn) (e:Ec),l9 (l++m) e=l9 l e++l9 m (A8 l e)
 | [],_,_=>rfl
 | o::l,m,e=>by rw[jK,l9,l9,Hb7 l m];rfl
theorem FT7{xs:List Opn}{i:Nat}(h:i<xs.length)(e:Ec):l9 (xs.take (i+1)) e=l9 (xs.take i) e++[(p8 (A8 (xs.take i) e) xs[i]).1]:=by rw[List.take_succ_eq_append_getElem h,Hb7,l9,l9]
theorem Ds7:∀(xs:List Opn) {i:Nat} (h:i<xs.length) (e:Ec),(l9 xs e)[i]? = some (p8 (A8 (xs.take i) e) xs[i]).1
 | o::l,0,_,e=>rfl
 | o::l,i+1,h,e=>by rw[l9,List.getElem?_cons_succ,Ds7 l (Nat.lt_of_succ_lt_succ h)];rfl
def ar4(xs:List Opn)(i:Nat)(h:i<xs.length):Bool:=(p8 (A8 (xs.take i) ec0) xs[i]).2.1
def TwI(xs:List Opn)(n:Int):Prop:=(n = -1/\∀i (h:i<xs.length),ar4 xs i h=true)\/∃i:Nat,n=i/\∃h:i<xs.length,ar4 xs i h=false/\∀j (hj:j<i),ar4 xs j (by omega)=true
theorem FU7{xs:List Opn}{n m:Int}(h1:TwI xs n)(h2:TwI xs m):n=m:=by
 rcases h1 with ⟨e1,h1⟩|⟨i,e1,hi,d1,h1⟩ <;> rcases h2 with ⟨e2,h2⟩|⟨k,e2,hk,d2,h2⟩
 ·omega
 ·rw[h1 k hk]at d2;cases d2
 ·rw[h2 i hi]at d1;cases d1
 ·have:i=k:=by
   rcases Nat.lt_trichotomy i k with h|h|h
   ·rw[h2 i h]at d1;cases d1
   ·exact h
   ·rw[h1 k h]at d2;cases d2
  omega
def bO4:List Opn->List Rpl->Opn->Option Rpl
 | x::xs,r::rs,o=>if x=o then some r else bO4 xs rs o
 | _,_,_=>none
theorem La7{o:Opn}:∀{xs:List Opn} {rs:List Rpl} (j:Nat),xs[j]? = some o->(∀i,i<j->xs[i]? ≠ some o)->xs.length=rs.length->bO4 xs rs o=rs[j]?
 | [],[],_,h,_,_=>by simp at h
 | x::xs,r::rs,0,h,_,_=>by simp only[List.getElem?_cons_zero,Option.some.injEq]at h;rw[bO4,if_pos h];rfl
 | x::xs,r::rs,j+1,h,hn,hl=>by
  have h0:x≠o:=fun e=>hn 0 (by omega) (by rw[List.getElem?_cons_zero,e])
  rw[bO4,if_neg h0,La7 j (by simpa using h) (fun i hi=>by have:=hn (i+1) (by omega);simpa using this) (by simpa using hl)];simp
structure Ans where
 op:Opn
 rep:Rpl
def okA(xs:List Opn)(rs:List Rpl)(a:Ans):Bool:=match bO4 xs rs a.op with
 | some r=>r.eqB a.rep
 | none=>false
def D9(ok:Ans->Bool):List Ans->Nat->Int
 | [],_ => -1
 | a::l,n=>if ok a=true then D9 ok l (n+1)else n
theorem Cx7(ok:Ans->Bool):∀(l m:List Ans) (n:Nat),(∀a∈l,ok a=true)->D9 ok (l++m) n=D9 ok m (n+l.length)
 | [],m,n,_=>rfl
 | a::l,m,n,h=>by
  rw[jK,D9,if_pos (h a (List.mem_cons_self ..)),Cx7 ok l m (n+1) fun b hb=>h b (List.mem_cons_of_mem _ hb),jC]
  congr 1
  omega
theorem Fo7{ok:Ans->Bool}{l:List Ans}(h:∀a∈l,ok a=true)(n:Nat):D9 ok l n = -1:=by have:=Cx7 ok l [] n h;rw[List.append_nil]at this;rw[this];rfl
theorem Mz7{xs:List Opn}{i j:Nat}(hi:i<xs.length)(hj:j<i)(he:xs[j]'(by omega)=xs[i])(h1:ar4 xs j (by omega)=true)(h2:ar4 xs i hi=true):(p8 (A8 (xs.take j) ec0) (xs[j]'(by omega))).1=(p8 (A8 (xs.take i) ec0) xs[i]).1:=by
 have hm:∀{e:Ec} {o:Opn},(p8 e o).2.1=true->A7 e o=(rp0,false):=fun{e o} h=>by
  cases hp:A7 e o with
  | mk r b=>
   cases b with
   | true=>rw[BE7 hp]at h;cases h
   | false=>rw[(AT7 hp).1]
 have p1:=hm h1;have p2:=hm h2;by_cases h6:xs[i].kind=6
 ·rw[AM7 p1,AM7 p2,he];unfold doV;simp only[h6];rfl
 by_cases h7:xs[i].kind=7
 ·rw[AM7 p1,AM7 p2,he];unfold doV;simp only[h7];rfl
 exfalso
 have hl:xs.take i=xs.take (j+1)++(xs.take i).drop (j+1):=by have:=List.take_append_drop (j+1) (xs.take i);rw[List.take_take,Nat.min_eq_left (by omega)]at this;exact this.symm
 have hr:A8 (xs.take i) ec0=A8 ((xs.take i).drop (j+1)) (p8 (A8 (xs.take j) ec0) (xs[j]'(by omega))).2.2:=by
  conv=>lhs;rw[hl]
  unfold A8;rw[List.foldl_append]
  congr 1
  exact FQ7 (by omega) ec0
 have hs:bL4 (A8 (xs.take i) ec0) xs[i]:=by rw[hr,he];exact IA7 _ (My7 _ _ h6 h7)
 have:=KY7 hs h6 h7;rw[p2]at this
 cases this
theorem MA7{p:Nat->Prop}(h:∃n,p n):∃n,p n/\∀k,k<n->¬p k:=by
 obtain⟨n,hn⟩:=h
 induction n using Nat.strongRecOn with
 | ind n ih=>
  by_cases hk:∃k,k<n/\p k
  ·obtain⟨k,h1,h2⟩:=hk;exact ih k h1 h2
  ·exact⟨n,hn,fun k h1 h2=>hk ⟨k,h1,h2⟩⟩
theorem NV7{xs:List Opn}(h:∀i (hi:i<xs.length),ar4 xs i hi=true){i:Nat}(hi:i<xs.length):bO4 xs (l9 xs ec0) xs[i]=some (p8 (A8 (xs.take i) ec0) xs[i]).1:=by
 have hex:∃j,xs[j]? = some xs[i]:=⟨i,jG hi⟩
 obtain⟨j,hj,hmin⟩:∃j,xs[j]? = some xs[i]/\∀k,k<j->xs[k]? ≠ some xs[i]:=by exact MA7 hex
 have hjl:j<xs.length:=by
  rcases Nat.lt_or_ge j xs.length with h|h
  ·exact h
  ·rw[List.getElem?_eq_none h]at hj;cases hj
 have hji:j<=i:=by
  rcases Nat.lt_or_ge i j with h|h
  ·exact absurd (jG hi) (hmin i h)
  ·exact h
 rw[La7 j hj hmin (AE7 xs ec0).symm,Ds7 xs hjl];rw[jG hjl]at hj;have he:xs[j]=xs[i]:=Option.some.inj hj
 rcases Nat.lt_or_ge j i with hlt|hge
 ·rw[Mz7 hi hlt he (h j hjl) (h i hi)]
 ·obtain rfl:j=i:=by omega
  rfl
def m7(xs:List Opn):List Ans:=(xs.zip (l9 xs ec0)).map fun p=>⟨p.1,p.2⟩
theorem Cy7(xs:List Opn):(m7 xs).length=xs.length:=by unfold m7;rw[jM,List.length_zip,AE7,Nat.min_self]
theorem Lb7{xs:List Opn}{i:Nat}(h:i<xs.length):(m7 xs)[i]? = some ⟨xs[i],(p8 (A8 (xs.take i) ec0) xs[i]).1⟩:=by unfold m7;rw[List.getElem?_map,(List.getElem?_zip_eq_some (z:=(xs[i],(p8 (A8 (xs.take i) ec0) xs[i]).1))).2 ⟨jG h,Ds7 xs h ec0⟩];rfl
theorem Lc7{xs:List Opn}(h:∀i (hi:i<xs.length),ar4 xs i hi=true){i:Nat}(hi:i<xs.length)(r:Rpl):okA xs (l9 xs ec0) ⟨xs[i],r⟩=(p8 (A8 (xs.take i) ec0) xs[i]).1.eqB r:=by unfold okA;rw[NV7 h hi]
theorem Ld7{xs:List Opn}(h:∀i (hi:i<xs.length),ar4 xs i hi=true):∀a∈m7 xs,okA xs (l9 xs ec0) a=true:=fun a ha=>by
 obtain⟨i,hi⟩:=List.getElem?_of_mem ha
 have hl:i<xs.length:=by
  rcases Nat.lt_or_ge i xs.length with h|h
  ·exact h
  ·rw[List.getElem?_eq_none (by rw[Cy7];exact h)]at hi;cases hi
 rw[Lb7 hl]at hi;obtain rfl:=Option.some.inj hi;rw[Lc7 h hl,Nd7]
theorem Le7{xs:List Opn}(h:∀i (hi:i<xs.length),ar4 xs i hi=true):D9 (okA xs (l9 xs ec0)) (m7 xs) 0 = -1:=Fo7 (Ld7 h) 0
theorem Hc7{xs:List Opn}(h:∀i (hi:i<xs.length),ar4 xs i hi=true){k:Nat}(hk:k<xs.length){r:Rpl}(hr:r≠(p8 (A8 (xs.take k) ec0) xs[k]).1):D9 (okA xs (l9 xs ec0)) ((m7 xs).set k ⟨xs[k],r⟩) 0=k:=by
 have hkl:k<(m7 xs).length:=by rw[Cy7];exact hk
 rw[List.set_eq_take_append_cons_drop,if_pos hkl,Cx7 _ _ _ _ fun a ha=>Ld7 h a (List.mem_of_mem_take ha),D9,if_neg,jT,Nat.min_eq_left (Nat.le_of_lt hkl)]
 ·simp
 ·rw[Lc7 h hk];intro e;exact hr ((Nd7 _ _).1 e).symm
structure SameE(e e':Ec):Prop where
 v:e.vs.Perm e'.vs
 s:e.ss.Perm e'.ss
 t:e.ts.Perm e'.ts
 a:e.ar.Perm e'.ar
def gv4(d:Ec):List Int:=aV4 d.vs.length++(d.vs.map (·.1)).flatMap (enK d)++aV4 d.ss.length++(d.ss.map (·.1)).flatMap (enS d)++aV4 d.ts.length++d.ts.flatMap enT++aV4 d.ar.length++(d.ar.map (·.1)).flatMap enA
theorem SimE.same{d e:Ec}(h:SimE d e):SameE d e:=⟨h.v,h.s,h.t,h.a⟩
structure EnT(e:Ec)(n:Nat):Prop where
 en:EnL e n
 tt:n<=400->∀k,Kx k->bX4 e k<=n*1048576
def cQ4(m:List (Opn×Rpl))(o:Opn)(r:Rpl):List (Opn×Rpl):=if(j5 m o).isSome=true then m else(o,r)::i9 m o
def bx4:List Opn->List Rpl->List (Opn×Rpl)->List (Opn×Rpl)
 | x::xs,r::rs,m=>bx4 xs rs (cQ4 m x r)
 | _,_,m=>m
theorem MB7(m:List (Opn×Rpl))(x:Opn)(r:Rpl)(o:Opn):j5 (cQ4 m x r) o=(j5 m o).or (if x=o then some r else none):=by
 unfold cQ4;by_cases h:(j5 m x).isSome=true
 ·rw[if_pos h];by_cases hx:x=o
  ·subst hx;obtain⟨v,hv⟩:=Option.isSome_iff_exists.1 h;rw[hv];rfl
  ·rw[if_neg hx,Option.or_none]
 ·rw[if_neg h,FJ7];by_cases hx:x=o
  ·subst hx;have:j5 m x=none:=by simpa using h
   rw[if_pos rfl,if_pos rfl,this];rfl
  ·rw[if_neg hx,if_neg hx,Option.or_none]
theorem MC7(o:Opn)(xs:List Opn):∀(rs:List Rpl) (m:List (Opn×Rpl)),xs.length=rs.length->j5 (bx4 xs rs m) o=(j5 m o).or (bO4 xs rs o):=by
 induction xs with
 | nil=>
  intro rs m h
  cases rs with
  | nil=>rw[bx4,bO4,Option.or_none];all_goals(intros;contradiction)
  | cons r rs=>simp at h
 | cons x xs ih=>
  intro rs m h
  cases rs with
  | nil=>simp at h
  | cons r rs=>
   rw[bx4,ih rs _ (by simpa using h),MB7,Option.or_assoc,bO4]
   congr 1
   by_cases hx:x=o
   ·rw[if_pos hx,if_pos hx];rfl
   ·rw[if_neg hx,if_neg hx];rfl
theorem Jm7(x:Opn)(r:Rpl)(xs:List Opn):∀(rs:List Rpl) (m:List (Opn×Rpl)),xs.length=rs.length->bx4 (xs++[x]) (rs++[r]) m=cQ4 (bx4 xs rs m) x r:=by
 induction xs with
 | nil=>
  intro rs m h
  cases rs with
  | nil=>rfl
  | cons q rs=>simp at h
 | cons y xs ih=>
  intro rs m h
  cases rs with
  | nil=>simp at h
  | cons q rs=>rw[jK,jK,bx4,bx4,ih rs _ (by simpa using h)]
def by4(xs:List Opn)(i:Nat):List (Opn×Rpl):=bx4 (xs.take i) (l9 (xs.take i) ec0) []
theorem MD7{xs:List Opn}{i:Nat}(h:i<xs.length):by4 xs (i+1)=cQ4 (by4 xs i) xs[i] (p8 (A8 (xs.take i) ec0) xs[i]).1:=by unfold by4;rw[FT7 h,List.take_succ_eq_append_getElem h,Jm7 _ _ _ _ _ (AE7 _ _).symm]
theorem Lf7(xs:List Opn)(o:Opn):j5 (by4 xs xs.length) o=bO4 xs (l9 xs ec0) o:=by unfold by4;rw[List.take_length,MC7 o xs _ _ (AE7 _ _).symm];rfl
def fR4(e0:Ec)(l:List ((Int×Int)×Tns)):List It:=(l.filter fun x=>(j5 e0.ar x.1).isNone).map fun x=>r9 x.2.item x.2.cnt
def fS4(e:Ec):It:=⟨bX4 e 0,bX4 e 1,bX4 e 2,bX4 e 3⟩
def fT4(e0:Ec):List (Ec×Ec)->List It
 | []=>[]
 | x::l=>fS4 x.2::fR4 e0 x.1.ts++fT4 e0 l
theorem ME7{L:List Ord}{j:Nat}(hj:j<L.length)(hL:∀x∈L,MayP x){c:Int}(h1:0<=c)(h2:c<=(at' L j).cnt):(∀x∈aS4 L j c,MayP x)/\(aS4 L j c).length<=L.length:=by
 have hx:=hL _ (H9 hj);unfold aS4;split
 ·exact⟨fun x hx=>hL x (List.mem_of_mem_eraseIdx hx),List.length_eraseIdx_le ..⟩
 ·refine⟨fun x hxm=>?_,by rw[List.length_set];exact Nat.le_refl _⟩
  rcases List.mem_or_eq_of_mem_set hxm with hx'|rfl
  ·exact hL x hx'
  ·exact Ez7 hx (by omega) (by omega)
theorem IB7:∀(f:Nat) (o:Ord) (L:List Ord) (ts:List Trd),(∀x∈L,MayP x)->0<=o.cnt->
  (∀x∈(r6 f o L ts).2.1,MayP x)/\(r6 f o L ts).2.1.length<=L.length/\∃c:Int,(r6 f o L ts).1={ o with cnt:=c }/\c<=o.cnt
 | 0,o,L,ts,hL,h0=>⟨hL,Nat.le_refl _,o.cnt,rfl,Int.le_refl _⟩
 | f+1,o,L,ts,hL,h0=>by
  rw[r6];by_cases hc:0<o.cnt
  ·rw[if_pos hc]
   cases hb:r8 o L L.length with
   | none=>exact⟨hL,Nat.le_refl _,o.cnt,rfl,Int.le_refl _⟩
   | some j=>
    obtain⟨hj,hm,_⟩:=AC7 hb;have hx:=hL _ (H9 hj);have hx0:=hx.cnt0;have hmin:=CU7 hc (show 0<(at' L j).cnt by omega);obtain⟨g1,g2⟩:=ME7 hj hL (c:=(at' L j).cnt-K7 o.cnt (at' L j).cnt) (by omega) (by omega);obtain⟨i1,i2,c,i3,i4⟩:=IB7 f { o with cnt:=o.cnt-K7 o.cnt (at' L j).cnt } _ (ts++[E8 o (at' L j)]) g1 (show 0<=o.cnt-K7 o.cnt (at' L j).cnt by omega);have i5:c<=o.cnt-K7 o.cnt (at' L j).cnt:=i4;exact⟨i1,Nat.le_trans i2 g2,c,i3,by omega⟩
  ·rw[if_neg hc];exact⟨hL,Nat.le_refl _,o.cnt,rfl,Int.le_refl _⟩
theorem MF7{L:List Ord}{o:Ord}(hL:∀x∈L,MayP x)(ho:MayP o):(∀x∈bF4 L o,MayP x)/\(bF4 L o).length<=L.length+1:=by
 have hc0:=ho.cnt0;obtain⟨h1,h2,c,h3,h4⟩:=IB7 (L.length+1) o L [] hL (by omega);unfold bF4;split
 ·rename_i hc
  rw[h3]at hc ⊢;refine⟨fun x hx=>?_,by rw[jA,List.length_singleton];omega⟩
  rcases List.mem_append.1 hx with hx|hx
  ·exact h1 x hx
  ·rw[List.mem_singleton]at hx;subst hx;exact Ez7 ho (by simp only at hc;omega) h4
 ·exact⟨h1,by omega⟩
theorem Lg7{V:Vs}{o:Ord}(hn:1<=V.n)(hL:∀x∈V.L,MayP x)(hl:V.L.length<=32):(∀x∈(w9 V o).2.2.L,MayP x)/\(w9 V o).2.2.L.length<=32:=by
 unfold w9;split
 ·exact⟨hL,hl⟩
 split
 ·exact⟨hL,hl⟩
 split
 ·rename_i h1 h2 _
  have hm:aI4 o=true:=by simpa using h1
  have hm2:=Aq7.1 hm;have hmo:MayP { o with id:=V.n }:=⟨hn,by show V.n<=_;omega,hm2.who0,hm2.who1,hm2.item0,hm2.item1,hm2.cnt0,hm2.cnt1,hm2.price0,hm2.price1⟩
  obtain⟨g1,g2⟩:=MF7 hL hmo;exact⟨g1,by show(bF4 V.L { o with id:=V.n }).length<=32;omega⟩
 ·exact⟨hL,hl⟩
theorem Lh7{V:Vs}{who:ByteArray}{id:Int}(hL:∀x∈V.L,MayP x)(hl:V.L.length<=32):(∀x∈(A6 V who id).2.L,MayP x)/\(A6 V who id).2.L.length<=32:=by
 unfold A6;split
 ·show(∀x∈(p9 V.L id).L,MayP x)/\(p9 V.L id).L.length<=32
  unfold p9;split
  ·exact⟨hL,hl⟩
  ·exact⟨fun x hx=>hL x (List.mem_of_mem_eraseIdx hx),Nat.le_trans (List.length_eraseIdx_le ..) hl⟩
 ·exact⟨hL,hl⟩
theorem MG7{V:Vs}{o:Opn}(hn:1<=V.n)(hL:∀x∈V.L,MayP x)(hl:V.L.length<=32):(∀x∈(doV V o).2.L,MayP x)/\(doV V o).2.L.length<=32:=by
 unfold doV;split
 ·exact⟨hL,hl⟩
 split
 ·exact⟨hL,hl⟩
 split
 ·exact Lg7 hn hL hl
 split
 ·exact Lh7 hL hl
 split
 ·exact⟨hL,hl⟩
 split
 ·exact⟨hL,hl⟩
 ·exact⟨hL,hl⟩
theorem OA7{V:Vs}{i:Nat}{o:Opn}(h:VOk V.ps V.n i)(hL:∀x∈V.L,MayP x)(hl:V.L.length<=32):VOk (doV V o).2.ps (doV V o).2.n (i+1):=by
 have hput:∀it,VOk (G8 V.ps o.aw it) V.n (i+1):=fun it=>⟨Ip7 h.ok _ _,Al7 (FH7 h.w _ _) (by omega),h.n0,by have:=h.n1;omega⟩
 unfold doV;split
 ·exact hput _
 split
 ·exact⟨Ci7 h.ok _ _,Al7 (Dc7 h.w _ _) (by omega),h.n0,by have:=h.n1;show V.n<=_;omega⟩
 split
 ·have h1:=Kg7 (V:=V) (o:=aj4 o) h.ok h.n0 hL;have h2:=Km7 (V:=V) (o:=aj4 o) h.w hL hl
  have h3:(w9 V (aj4 o)).2.2.n<=V.n+1:=by
   unfold w9
   repeat' split
   all_goals dsimp only
   all_goals omega
  exact⟨h1.1,Al7 h2 (by omega),h1.2,by have:=h.n1;show(w9 V (aj4 o)).2.2.n<=_;omega⟩
 split
 ·have h1:=Kh7 (V:=V) (who:=o.aw) (id:=o.id) h.ok h.n0 hL;have h2:=Kn7 (V:=V) (who:=o.aw) (id:=o.id) h.w hL;have h3:(A6 V o.aw o.id).2.n=V.n:=by unfold A6;split <;> rfl
  exact⟨h1.1,Al7 h2 (by omega),h1.2,by have:=h.n1;show(A6 V o.aw o.id).2.n<=_;omega⟩
 split
 ·exact h.on
 split
 ·exact hput _
 ·exact h.on
theorem OB7(e:Ec)(o:Opn):(p8 e o).2.2.vs=e.vs\/(p8 e o).2.2.vs=(aK4 e o.ak (doV (atV e o.ak) o).2).vs:=by
 unfold p8;split
 ·exact .inl rfl
 ·exact .inr rfl
theorem IC7{e:Ec}{n:Nat}(hE:EOk e n)(he:cc4 e)(k:ByteArray):VOk (atV e k).ps (atV e k).n n/\(∀x∈(atV e k).L,MayP x)/\(atV e k).L.length<=32:=by
 unfold atV
 cases hg:j5 e.vs k with
 | none=>exact⟨dK4 n,fun x hx=>(by cases hx),Nat.zero_le _⟩
 | some V=>
  have h2:=Az7 hg;exact⟨hE _ h2,(he _ h2).1,(he _ h2).2⟩
theorem MH7{e:Ec}{k:ByteArray}{V:Vs}{x:ByteArray×Vs}(h:x∈(aK4 e k V).vs):x∈e.vs\/x=(k,V):=by
 have h2:x∈(if w7 V=true then i9 e.vs k else(k,V)::i9 e.vs k):=h;split at h2
 ·exact .inl (List.mem_filter.1 h2).1
 ·rcases List.mem_cons.1 h2 with h2|h2
  ·exact .inr h2
  ·exact .inl (List.mem_filter.1 h2).1
theorem MI7{e:Ec}{n:Nat}(hE:EOk e n)(he:cc4 e)(o:Opn):EOk (p8 e o).2.2 (n+1)/\cc4 (p8 e o).2.2:=by
 obtain⟨g1,g2,g3⟩:=IC7 hE he o.ak;have d1:=MG7 (o:=o) g1.n0 g2 g3;have d2:=OA7 (o:=o) g1 g2 g3
 have hx:∀x∈(p8 e o).2.2.vs,x∈e.vs\/x=(o.ak,(doV (atV e o.ak) o).2):=fun x hx=>by
  rcases OB7 e o with h|h
  ·rw[h]at hx;exact .inl hx
  ·rw[h]at hx;exact MH7 hx
 refine⟨fun x hm=>?_,fun x hm=>?_⟩
 ·rcases hx x hm with h|rfl
  ·exact(hE x h).on
  ·exact d2
 ·rcases hx x hm with h|rfl
  ·exact he x h
  ·exact d1
structure JOk(d e:Ec)(n:Nat):Prop where
 ok:GOk d e n
 each:cc4 e
theorem fU4:JOk ec0 ec0 0:=⟨fK4,fun _ h=>(by cases h)⟩
theorem JOk.app{d e:Ec}{n:Nat}(h:JOk d e n)(o:Opn):JOk (I8 d o).2.2 (p8 e o).2.2 (n+1):=by obtain⟨h1,h2⟩:=MI7 h.ok.ok h.each o;exact⟨h.ok.app o h1,h2⟩
theorem JOk.dok{d e:Ec}{n:Nat}(h:JOk d e n)(hn:n<=5000)(k:ByteArray):DOk d k n:=h.ok.dok hn h.each k
theorem DM7(xs:List Opn):∀i,i<=xs.length->JOk (bk4 (xs.take i) ec0) (A8 (xs.take i) ec0) i
 | 0,_=>by rw[List.take_zero];exact fU4
 | i+1,h=>by have:=(DM7 xs i (by omega)).app xs[i];rw[FQ7 (by omega),HJ7 (by omega)];exact this
theorem JOk.same{d e:Ec}{n:Nat}(h:JOk d e n)(o:Opn):(I8 d o).1=(p8 e o).1/\(I8 d o).2.1=(p8 e o).2.1:=by obtain⟨g1,g2,_⟩:=KQ7 h.ok.sim o;exact⟨g1,g2⟩
theorem HL7{L:List HP}(xs:List Opn)(a:Option Addr)(cap:Nat)(h63:xs.length<=9223372036854775807)(hat:∀i (h:i<xs.length), ∃b off,a=some ⟨b,off,none⟩/\∀j v,(xs[i]).cells[j]? = some v->i6 L b (off+i*12+j) v)(W w:World)(hS:St W L w):
  Calls Tryz.prog 7 #[.slice a xs.length cap] w fun e w'=>∃h:Bool,(h=false->xs.length<=150)/\e=.returned (.bool h)/\St W L w':=by
 have Hat:=jH hat
 clear hat
 go_enter Tryz.func7,Tryz.ntmps7;by_cases h150:150<xs.length
 ·have d0:((150:Nat):Int)<(xs.length:Int):=by omega
  go_wp2_with(first|go_big_skip);go_ret;exact⟨_,fun h=>(by cases h),rfl,hS⟩
 have d0:decide ((150:Int)<(xs.length:Int))=false:=by simp;omega
 go_wp2_with(first|go_big_skip)
 go_loopw [3] (fun v wr=>fA4 W L xs.length v wr) (fun v _=>xs.length-(intOf v).toNat)
 case atStart=>exact⟨0,rfl,by omega,hS⟩
 case round=>
  clear hS;obtain⟨i,rfl,hi,hS⟩:=hrel;by_cases hend:i=xs.length
  ·subst hend;have d1:decide ((xs.length:Int)<(xs.length:Int))=false:=by simp
   go_wp2_with(first|go_big_skip);go_ret;exact⟨_,fun _=>by omega,rfl,hS⟩
  have hil:i<xs.length:=by omega
  clear hend hi;obtain⟨pb,poff,rfl,hA⟩:=Hat.out i hil;have c3:=hA 3 _ rfl;have c4:=hA 4 _ rfl;have c5:=hA 5 _ rfl;have c6:=hA 6 _ rfl;clear hA;generalize xs[i]=x at c3 c4 c5 c6;obtain⟨kd,cl,sq,ak,aw,tk,tw,it,ct,pr,bu,id⟩:=x;simp only at c3 c4 c5 c6;by_cases h1:60<ak.size
  ·have d1:(60:Int)<(ak.size:Int):=by omega
   go_wp2_with(first|go_big_skip|refine zl1 hS ?_);go_ret;exact⟨_,fun h=>(by cases h),rfl,hS⟩
  have d1:decide ((60:Int)<(ak.size:Int))=false:=by simp;omega
  by_cases h2:60<aw.size
  ·have d2:(60:Int)<(aw.size:Int):=by omega
   go_wp2_with(first|go_big_skip|refine zl1 hS ?_);go_ret;exact⟨_,fun h=>(by cases h),rfl,hS⟩
  have d2:decide ((60:Int)<(aw.size:Int))=false:=by simp;omega
  by_cases h3:60<tk.size
  ·have d3:(60:Int)<(tk.size:Int):=by omega
   go_wp2_with(first|go_big_skip|refine zl1 hS ?_);go_ret;exact⟨_,fun h=>(by cases h),rfl,hS⟩
  have d3:decide ((60:Int)<(tk.size:Int))=false:=by simp;omega
  by_cases h4:60<tw.size
  ·have d4:(60:Int)<(tw.size:Int):=by omega
   go_wp2_with(first|go_big_skip|refine zl1 hS ?_);go_ret;exact⟨_,fun h=>(by cases h),rfl,hS⟩
  have d4:decide ((60:Int)<(tw.size:Int))=false:=by simp;omega
  go_wp2_with(first|go_big_skip|refine zl1 hS ?_);go_roundw
  case rel=>exact⟨i+1,rfl,hil,hS⟩
  case measure=>simp[intOf];try omega
theorem MJ7{xs:List Opn}{v:Value}{V:World}(hv:C9 Opn.cells 12 V v xs)(W w:World)(Lr:List HP)(hS:St W (Old V::Lr) w):
  Calls Tryz.prog 7 #[v] w fun e w'=>∃h:Bool,(h=false->xs.length<=150)/\e=.returned (.bool h)/\St W (Old V::Lr) w':=by
 obtain⟨a,cap,rfl,h63,hact⟩:=hv.opn;exact HL7 xs a cap h63 (fun i hi=>(hact i hi).imp fun b h=>h.imp fun off h=>⟨h.1,fun j v hj=>i6.old .head (h.2.all j v hj)⟩) W w hS
structure Evn where
 zone:Int
 index:Int
 op:Opn
def Evn.cells(e:Evn):List Value:=.I e.zone::.I e.index::e.op.cells
theorem Evn.len(e:Evn):e.cells.length=14:=rfl
def bf4:List Opn->Nat->List Evn
 | [],_=>[]
 | o::l,i=>⟨1,(i:Int)+1,o⟩::bf4 l (i+1)
def E5(xs:List Opn):List Evn:=bf4 xs 0
theorem Hd7(o:Opn):∀(l:List Opn) (i:Nat),bf4 (l++[o]) i=bf4 l i++[⟨1,((i+l.length:Nat):Int)+1,o⟩]
 | [],i=>rfl
 | x::l,i=>by
  rw[jK,bf4,Hd7 o l (i+1),bf4,jK,jC]
  congr 4
  omega
theorem He7:∀(l:List Opn) (i:Nat),(bf4 l i).length=l.length
 | [],_=>rfl
 | _::l,i=>by rw[bf4,jC,jC,He7 l]
theorem Hf7:∀(l:List Opn) (i:Nat),(bf4 l i).map (·.op)=l
 | [],_=>rfl
 | _::l,i=>by rw[bf4,List.map_cons,Hf7 l]
theorem Li7(xs:List Opn):(E5 xs).length=xs.length:=He7 xs 0
theorem AL7(xs:List Opn):(E5 xs).map (·.op)=xs:=Hf7 xs 0
theorem MK7{xs:List Opn}{i:Nat}(h:i<xs.length):E5 (xs.take (i+1))=E5 (xs.take i)++[⟨1,(i:Int)+1,xs[i]⟩]:=by unfold E5;rw[List.take_succ_eq_append_getElem h,Hd7,jT,Nat.min_eq_left (by omega),Nat.zero_add]
def evR(T:TypeId)(v:Value)(l:List Evn):HP:=row v 14 T l.length (l.flatMap Evn.cells)
theorem bz4{α:Type}{enc:α->List Value}{k:Nat}{T:TypeId}{v:Value}{acc:List α}{y:α}{news:List Value}{W w:World}{L:List HP}(h:St W (row v k T (acc.length+1) (acc.flatMap enc++news)::L) w)(hn:news=enc y):St W (row v k T (acc++[y]).length ((acc++[y]).flatMap enc)::L) w:=by subst hn;rw[jA,List.length_singleton,List.flatMap_append,List.flatMap_cons,List.flatMap_nil,List.append_nil];exact h
def ToR(W:World)(L:List HP)(xs:List Opn)(v1 v2 v3:Value)(w:World):Prop:=
 ∃i:Nat,v3=.I i/\i<=xs.length/\St W (evR 76 v1 (E5 (xs.take i))::evR 77 v2 (E5 (xs.take i))::L) w
theorem Hg7(xs:List Opn)(hlen:xs.length<=150)(v:Value)(V:World)(hv:C9 Opn.cells 12 V v xs)(W w:World)(Lr:List HP)(hS:St W (Old V::Lr) w):
  Calls Tryz.prog 8 #[v] w fun e w'=>∃va vb,e=.returned (.tuple #[va,vb])/\St W (evR 76 va (E5 xs)::evR 77 vb (E5 xs)::Old V::Lr) w':=by
 obtain⟨a,cap,rfl,h63,hact⟩:=hv.opn;have Ha:=jH hact;clear hact hv;go_enter Tryz.func8,Tryz.ntmps8;go_wp2_with(first|go_big_skip);have hS0:=(hS.rowNil (k:=14) (T:=77)).rowNil (k:=14) (T:=76);clear hS;have hS:=hS0;clear hS0
 go_loopw [4,5,6] (fun v1 v2 v3 wr=>ToR W (Old V::Lr) xs v1 v2 v3 wr) (fun _ _ v3 _=>xs.length-(intOf v3).toNat)
 case atStart=>exact⟨0,rfl,Nat.zero_le _,hS⟩
 case round=>
  clear hS;obtain⟨i,rfl,hi,hS⟩:=hrel;by_cases hil:i<xs.length
  ·have hd1:decide (i<xs.length)=true:=decide_eq_true hil;obtain⟨pb,poff,rfl,hA⟩:=Ha.out i hil;have hall:=hA.all;clear hA;have hstep:=MK7 hil;have hal:(E5 (xs.take i)).length=i:=by rw[Li7,jT];omega
   generalize E5 (xs.take i)=acc at hS hstep hal;generalize xs[i]=x at hall hstep;obtain⟨kd,cl,sq,ak,aw,tk,tw,it,ct,pr,bu,id⟩:=x;simp only[Opn.cells]at hall;have Hstep:=jH hstep;have hal1:acc.length<=i:=by omega
   have hal2:i<=acc.length:=by omega
   clear hstep hal hi;unfold evR at hS;go_wp2_with(first|go_big_skip|refine zlN hS ?_ (vs:=[.I kd,.I cl,.I sq,.string ak,.string aw,.string tk,.string tw,.I it,.I ct,.I pr,.bool bu,.I id]) (hc:=by exact d8.old (by exact bC4) hall)|(fail_if_success (have:=gA));(refine zbs hS ?_;clear hS;have gA:Nat:=0;intro bA w hS)|(have:=gA);refine zbs hS ?_;clear hS;intro bB w hS|(fail_if_success (have:=gP));(refine zap hS ?_ (h63:=by unfold maxLen;omega) (hb:=by omega);clear hS;have gP:Nat:=0;intro va w hS)|(have:=gP);refine zap hS ?_ (h63:=by unfold maxLen;omega) (hb:=by omega);clear hS;intro vb w hS);go_roundw
   case rel=>
    refine⟨i+1,rfl,hil,?_⟩;rw[Hstep.out];have h0:=hS.s (row va 14 76 (acc.length+1) (acc.flatMap Evn.cells++_)::row vb 14 77 (acc.length+1) (acc.flatMap Evn.cells++_)::Old V::Lr);have h1:=bz4 (y:=(⟨1,(i:Int)+1,⟨kd,cl,sq,ak,aw,tk,tw,it,ct,pr,bu,id⟩⟩:Evn)) h0 rfl;have h2:=bz4 (y:=(⟨1,(i:Int)+1,⟨kd,cl,sq,ak,aw,tk,tw,it,ct,pr,bu,id⟩⟩:Evn)) h1.swap rfl;exact h2.swap
   case measure=>simp[intOf];omega
  ·have hd1:decide (i<xs.length)=false:=decide_eq_false hil;have hi2:i=xs.length:=by omega
   rw[hi2,List.take_length]at hS;clear hi hil hi2;go_wp2_with(first|go_big_skip);go_ret2;exact⟨_,_,rfl,hS⟩
end Go.Proofs.YtienbkdjkjbelaaGreat
end
