/-
  The keys of an economy, sorted.
-/
import Derived.Test.YtienbkdjkjbelaaGreatJuTM5
import Derived.Test.YtienbkdjkjbelaaGreatJuTM14
import Derived.Test.YtienbkdjkjbelaaGreatJuTM20
import Derived.Test.YtienbkdjkjbelaaGreatJuTM21
import Derived.Test.YtienbkdjkjbelaaGreatJuTM28
import Derived.Test.YtienbkdjkjbelaaGreatJuTM29
import Derived.Test.YtienbkdjkjbelaaGreatJuTM41
import Derived.Test.YtienbkdjkjbelaaGreatJuTM42
set_option maxHeartbeats 16000000
set_option maxRecDepth 100000
set_option linter.unusedSimpArgs false
set_option linter.unusedVariables false
section
namespace Go.Proofs.YtienbkdjkjbelaaGreat
open Go.RowKit Go.Maps Go.Sort Go.Shelf Go.Sl
theorem KT7(mb:Option Nat)(W w:World)(L:List HP)(hS:St W L w):
  Calls Tryz.prog 79 #[.map mb] w fun e w'=>∃g,e=.returned (.func (.func 122) #[] #[.P g])/\St W (blk g [.map mb] 107::L) w':=by
 have cK:CallsIn Fence.wide 5 Tryz.prog 79 #[.map mb] w fun e w'=>e=.returned (.func (.func 122) #[] #[.pointer (some ⟨w.heap.size,0,none⟩)])/\w'=w.alloc (.cells #[.map mb] 107):=AnyZ.keys_in Tryz.keysV Fence.wide 5 trivial rfl mb w
 refine((callsIn_wide (n:=5)).1 cK).mono ?_;rintro e w' ⟨rfl,rfl⟩;exact⟨_,rfl,hS.alloc _⟩
section
variable{ν:Type}{ev:ν->Value}{W w:World}{L:List HP}{b g:Nat}
theorem HZ7{l:List (ByteArray×ν)}(hwf:∀x∈l,x.1.size<=maxLen)(hl:l.length<=1000000000)(hS:St W (blk g [.map (some b)] 107::d9 eS ev b l::L) w):
  Calls Tryz.prog 78 #[.func (.func 122) #[] #[.P g]] w fun e w'=>∃v,e=.returned v/\St W (row v 1 9 l.length ((aO4 (l.map (·.1))).map eS)::d9 eS ev b l::L) w':=by
 obtain⟨D,hD1,hD2,hD3⟩:=dP4 hS.drop hwf (by unfold maxLen;omega)
 have hseq:SeqGives Fence.wide 2 Tryz.prog 122 #[.P g] encStr (fun ss=>ss.Perm (strKeys D)) (Maps.size D) w:=
  AnyZ.keys_gives (ρ:=Tryz.keysV_ren) { Tryz.keysV with } Fence.wide _ trivial rfl (by omega) g b l.length D _ (Array.getElem?_eq_some_iff.1 (hS.get (b:=g) .head)).1 (hS.cell (b:=g) (off:=0) .head rfl) hD1
 have cS:=AnyZ.sorted_in Tryz.sortedS Fence.wide 5 trivial trivial trivial trivial rfl (by omega) (dO4 _) (enters_of Tryz.func121 (by kernel_rfl) rfl) 122 #[.P g] trivial (enters_of Tryz.func122 (by kernel_rfl) rfl) _ _ (by rw[hD2];unfold maxLen;omega) (by rw[hD2];omega) _ hseq;change CallsIn _ _ Tryz.prog 78 _ _ _ at cS;refine((callsIn_wide (n:=5)).1 cS).mono ?_;rintro e w' ⟨v,ss,rfl,hP,hrow,hnil,hb⟩;refine⟨v,rfl,?_⟩;have hp:=hP.trans hD3;have e:=JH7 (l:=l.map (·.1)) (ss:=ss) (by rw[List.map_map];exact hp);rw[e,show ss.length=l.length by rw[hp.length_eq,jM]]at hrow;exact(hS.drop).called hb hrow
end
theorem FF7{l l':List ByteArray}(h:l.Perm l'):aO4 l=aO4 l':=
 List.Perm.eq_of_pairwise (fun a b _ _ h1 h2=>EJ7 h1 h2) (AB7 l) (AB7 l') (((Ax7 l).trans h).trans (Ax7 l').symm)
theorem Ru7{x y:ByteArray}(h:ltB x y=true):leB x y=true:=DC7 h
theorem MZ7{ν:Type}{l:List (ByteArray×ν)}(h:Asc ltB l):aO4 (l.map (·.1))=l.map (·.1):=by refine List.Perm.eq_of_pairwise (fun a b _ _ h1 h2=>EJ7 h1 h2) (AB7 _) ?_ (Ax7 _);exact List.pairwise_map.2 (List.Pairwise.imp (fun h=>Ru7 h) h)
def ksE(e:Ec):List ByteArray:=aO4 (e.vs.map (·.1))
theorem Na7(e:Ec):(ksE e).length=e.vs.length:=by unfold ksE;rw[(Ax7 _).length_eq,jM]
theorem QC7{d e:Ec}(h:SimE d e):d.vs.map (·.1)=ksE e:=by unfold ksE;rw[<-MZ7 h.va,FF7 (h.v.map _)]
abbrev cd4(v:Value)(l:List ByteArray):HP:=row v 1 9 l.length (l.map eS)
theorem Nb7{eb:Nat}{e:Ec}(hk:∀x∈e.vs,x.1.size<=maxLen)(hl:e.vs.length<=1000000)(W w:World)(R:List HP)(hS:St W (ecP eb e::R) w):
  Calls Tryz.prog 37 #[.P eb] w fun x w'=>∃v,x=.returned v/\St W (cd4 v (ksE e)::ecP eb e::R) w':=by
 obtain⟨m1,m2,m3,m4,E,hp,hn,hS0⟩:=ca4 hS;have hS1:=G8 hS0;clear hS hS0;have hpk:((j9 E).map (·.1)).Perm (e.vs.map (·.1)):=by rw[AH7,<-Bw7];exact hp.map _
 have hks:aO4 ((j9 E).map (·.1))=ksE e:=FF7 hpk;have hlk:(j9 E).length=(ksE e).length:=by rw[Na7];have:=hpk.length_eq;rw[jM,jM]at this;exact this
 have hwf:∀x∈j9 E,x.1.size<=maxLen:=fun x hx=>by have h1:=hpk.mem_iff.1 (List.mem_map.2 ⟨x,hx,rfl⟩);obtain⟨y,hy,hxy⟩:=List.mem_map.1 h1;rw[<-hxy];exact hk y hy
 have hl2:(j9 E).length<=1000000000:=by rw[hlk,Na7];omega
 have Hp:=jH hp;have Hks:=jH hks;have Hlk:=jH hlk;have Hwf:=jH hwf;have Hl2:=jH hl2;clear hp hn hpk hks hlk hwf hl2 hl;have hS:=hS1;clear hS1;go_enter Tryz.func37,Tryz.ntmps37;go_wp2_with(first|go_big_skip|refine zl1 hS ?_|go_at_call 79;refine(KT7 (some m1) W _ _ hS).mono ?_;clear hS;rintro x w ⟨g,rfl,hS⟩|go_at_call 78;refine(HZ7 (g:=g) (b:=m1) (ev:=eN) (l:=j9 E) Hwf.out Hl2.out (hS.s (blk g _ _::d9 eS eN m1 (j9 E)::ebB eb m1 m2 m3 m4::l9 E::d9 eI eSs m2 e.ss::d9 eW eTn m3 e.ts::d9 eW eU m4 e.ar::R))).mono ?_;clear hS;rintro x w ⟨v,rfl,hS⟩);go_ret;rw[Hks.out,Hlk.out]at hS;have h1:=hS.s (ebB eb m1 m2 m3 m4::d9 eS eN m1 (j9 E)::l9 E::d9 eI eSs m2 e.ss::d9 eW eTn m3 e.ts::d9 eW eU m4 e.ar::cd4 v (ksE e)::R);exact⟨v,rfl,(bu4 Hp.out h1).swap⟩
end Go.Proofs.YtienbkdjkjbelaaGreat
end
section
namespace Go.Proofs.YtienbkdjkjbelaaGreat
open Go.RowKit Go.Sl
def bT4:List (ByteArray×Vs)->Nat
 | []=>0
 | x::l=>x.2.ps.length+bT4 l
theorem Ia7{l l':List (ByteArray×Vs)}(h:l.Perm l'):bT4 l=bT4 l':=by
 induction h with
 | nil=>rfl
 | cons x _ ih=>rw[bT4,bT4,ih]
 | swap x y l=>rw[bT4,bT4,bT4,bT4];omega
 | trans _ _ h1 h2=>rw[h1,h2]
theorem OL7{l:List (ByteArray×Vs)}(hn:(l.map (·.1)).Nodup)(u:ByteArray):bT4 l=((j6 l u).getD vs0).ps.length+bT4 (i9 l u):=by
 cases hg:j6 l u with
 | none=>rw[By7 (Bz7 hg)];show _=0+_;omega
 | some V=>rw[Ia7 (Bq7 hn hg)];rfl
theorem OM7{p:Ps}{N:Nat}(h:PsW p N):PsW p p.length:=⟨h.nd,h.nz,h.who,Nat.le_refl _⟩
theorem Nc7{V:Vs}{i:Nat}{o:Opn}(h:VOk V.ps V.n i)(hL:∀x∈V.L,MayP x)(hl:V.L.length<=32):(doV V o).2.ps.length<=V.ps.length+100:=by
 have hw:=OM7 h.w;unfold doV;split
 ·have:=(Gx7 hw o.aw (p8 o.item o.cnt)).len;show(F8 V.ps o.aw (p8 o.item o.cnt)).length<=_
  omega
 split
 ·have:=(Dv7 hw o.aw (p8 o.item o.cnt)).len;show(r8 V.ps o.aw (p8 o.item o.cnt)).length<=_
  omega
 split
 ·exact(Mh7 (o:=P6 o) hw hL hl).len
 split
 ·exact(Mi7 (who:=o.aw) (id:=o.id) hw hL).len
 split
 ·show V.ps.length<=_
  omega
 split
 ·have:=(Gx7 hw o.aw (p8 o.item o.cnt)).len;show(F8 V.ps o.aw (p8 o.item o.cnt)).length<=_
  omega
 ·show V.ps.length<=_
  omega
structure EnL(e:Ec)(n:Nat):Prop where
 en:EnOk e n
 nd:(e.vs.map (·.1)).Nodup
 ln:bT4 e.vs<=100*n
theorem gf4:EnL ec0 0:=⟨ge4,List.nodup_nil,Nat.le_refl _⟩
theorem Nd7{e:Ec}(hn:(e.vs.map (·.1)).Nodup)(k:ByteArray)(V:Vs):((bf4 e k V).vs.map (·.1)).Nodup:=by
 show((if A5 V=true then i9 e.vs k else(k,V)::i9 e.vs k).map (·.1)).Nodup
 have h1:((i9 e.vs k).map (·.1)).Nodup:=hn.sublist (List.filter_sublist.map _);split
 ·exact h1
 ·rw[List.map_cons,List.nodup_cons];refine⟨fun h=>?_,h1⟩;obtain⟨x,hx,hk⟩:=List.mem_map.1 h;have:=(List.mem_filter.1 hx).2;simp only[ne_eq,decide_not,Bool.not_eq_eq_eq_not,Bool.not_true,decide_eq_false_iff_not]at this;exact this hk
theorem EnL.app{e:Ec}{n:Nat}(h:EnL e n)(he:bm4 e)(o:Opn)(hok:EOk (B6 e o).2.2 (n+1)):EnL (B6 e o).2.2 (n+1):=by
 refine⟨h.en.app o hok,?_,?_⟩
 ·cases hp:G7 e o with
  | mk r b=>
  cases b with
  | true=>rw[CM7 hp];exact h.nd
  | false=>
   obtain⟨rfl,hm⟩:=Br7 hp;rw[CN7 hp];exact Nd7 h.nd _ _
 ·cases hp:G7 e o with
  | mk r b=>
  cases b with
  | true=>rw[CM7 hp];have:=h.ln;show bT4 e.vs<=_;omega
  | false=>
   obtain⟨rfl,hm⟩:=Br7 hp;rw[CN7 hp];show bT4 (if A5 (doV (atV e o.ak) o).2=true then i9 e.vs o.ak else(o.ak,(doV (atV e o.ak) o).2)::i9 e.vs o.ak)<=_
   have h1:=OL7 h.nd o.ak;have h2:=h.ln
   have h3:(doV (atV e o.ak) o).2.ps.length<=(atV e o.ak).ps.length+100:=by
    unfold atV
    cases hg:j6 e.vs o.ak with
    | none=>exact Nc7 (i:=0) (V:=vs0) fu4 (fun x hx=>(by cases hx)) (Nat.zero_le _)
    | some V=>
     have hm:=AE7 hg;exact Nc7 (h.en.ok _ hm) (he _ hm).1 (he _ hm).2
   unfold atV at h3 ⊢;split
   ·omega
   ·show(doV ((j6 e.vs o.ak).getD vs0) o).2.ps.length+bT4 (i9 e.vs o.ak)<=_
    omega
def enK(e:Ec)(k:ByteArray):List Int:=cA4 (dd4 k)++cA4 (gc4 (atV e k).ps (atV e k).L (atV e k).n)
abbrev sbV(g:Nat)(s:ByteArray)(c:Nat):Value:=.S g s.size c
def enS(e:Ec)(c:Int):List Int:=bL4 [c,((j6 e.ss c).getD (0,rp0)).1]++cA4 (rpB ((j6 e.ss c).getD (0,rp0)).2)
def enT(x:(Int×Int)×Tns):List Int:=bL4 [x.2.client,x.2.seq]++(cA4 (dd4 x.2.ak)++(cA4 (dd4 x.2.aw)++(cA4 (dd4 x.2.tk)++cA4 (dd4 x.2.tw))))++bL4 [x.2.item,x.2.cnt]
def enA(k:Int×Int):List Int:=bL4 [k.1,k.2]
def gY4(e:Ec)(d:List Int):Prop:=∃(T:List ((Int×Int)×Tns)) (A:List (Int×Int)),T.Perm e.ts/\Asc ltW T/\A.Perm (e.ar.map (·.1))/\A.Pairwise (fun x y=>ltW x y=true) /\
 d=aW4 e.vs.length++(ksE e).flatMap (enK e)++aW4 e.ss.length++(gJ4 (e.ss.map (·.1))).flatMap (enS e)++aW4 e.ts.length++T.flatMap enT++aW4 e.ar.length++A.flatMap enA
structure VkOk(V:Vs):Prop where
 ok:L7 V.ps
 w:PsW V.ps 60000
 n0:1<=V.n
 n1:V.n<=1099511627777
structure EncOk(e:Ec):Prop where
 nd:(e.vs.map (·.1)).Nodup
 vk:∀x∈e.vs,x.1.size<=16
 ok:∀x∈e.vs,VkOk x.2
 sw:∀x∈e.ss,de4 (x.1,x.2.1)
 sr:∀x∈e.ss,RpOk x.2.2
 tw:∀x∈e.ts,TnOk x.2/\x.1=(x.2.client,x.2.seq)
 aw:∀x∈e.ar,de4 x.1
 lv:e.vs.length<=10000
 ls:e.ss.length<=10000
 lt:e.ts.length<=10000
 la:e.ar.length<=10000
 lk:((ksE e).flatMap (enK e)).length<=6000000
abbrev zrR(v:Value)(l:List Int):HP:=row v 1 3 l.length (l.map eZ)
abbrev waR(v:Value)(l:List (Int×Int)):HP:=row v 2 127 l.length (l.flatMap whC)
def gZ4(e:Ec)(o:Opn):Prop:=w6 o=false\/∃q r,j6 e.ss o.client=some (q,r)/\o.seq<=q
theorem DQ7{a b:ByteArray}(h:a.toList=b.toList):a=b:=by refine Dw7 ?_;rwa [Lib.toList_data,Lib.toList_data]at h
theorem PB7(o q:Opn):o.eqB q=true↔o=q:=by
 obtain⟨a1,a2,a3,a4,a5,a6,a7,a8,a9,a10,a11,a12⟩:=o;obtain⟨b1,b2,b3,b4,b5,b6,b7,b8,b9,b10,b11,b12⟩:=q;unfold Opn.eqB;simp only[jB,decide_eq_true_eq];constructor
 ·rintro⟨rfl,rfl,rfl,h4,h5,h6,h7,rfl,rfl,rfl,rfl,rfl⟩;rw[DQ7 h4,DQ7 h5,DQ7 h6,DQ7 h7]
 ·intro h
  injection h
  subst_vars;exact⟨rfl,rfl,rfl,rfl,rfl,rfl,rfl,rfl,rfl,rfl,rfl,rfl⟩
instance decOpn : DecidableEq Opn := fun o q => decidable_of_iff _ (PB7 o q)
theorem QD7(o q:Opn):o.eqB q=decide (o=q):=by rw[Bool.eq_iff_iff,PB7,decide_eq_true_eq]
def B7:List Opn->Ec->List Rpl
 | [],_=>[]
 | o::l,e=>(B6 e o).1::B7 l (B6 e o).2.2
theorem Bj7:∀(xs:List Opn) (e:Ec),(B7 xs e).length=xs.length
 | [],_=>rfl
 | o::l,e=>by rw[B7,jC,jC,Bj7 l]
theorem Ib7:∀(l m:List Opn) (e:Ec),B7 (l++m) e=B7 l e++B7 m (l6 l e)
 | [],_,_=>rfl
 | o::l,m,e=>by rw[jK,B7,B7,Ib7 l m];rfl
theorem JY7{xs:List Opn}{i:Nat}(h:i<xs.length)(e:Ec):B7 (xs.take (i+1)) e=B7 (xs.take i) e++[(B6 (l6 (xs.take i) e) xs[i]).1]:=by rw[List.take_succ_eq_append_getElem h,Ib7,B7,B7]
theorem JZ7:∀(xs:List Opn) {i:Nat} (h:i<xs.length) (e:Ec),(B7 xs e)[i]? = some (B6 (l6 (xs.take i) e) xs[i]).1
 | o::l,0,_,e=>rfl
 | o::l,i+1,h,e=>by rw[B7,List.getElem?_cons_succ,JZ7 l (Nat.lt_of_succ_lt_succ h)];rfl
def cF4(xs:List Opn)(i:Nat)(h:i<xs.length):Bool:=(B6 (l6 (xs.take i) ec0) xs[i]).2.1
def TwI(xs:List Opn)(n:Int):Prop:=(n = -1/\∀i (h:i<xs.length),cF4 xs i h=true)\/∃i:Nat,n=i/\∃h:i<xs.length,cF4 xs i h=false/\∀j (hj:j<i),cF4 xs j (by omega)=true
theorem ON7{xs:List Opn}{n m:Int}(h1:TwI xs n)(h2:TwI xs m):n=m:=by
 rcases h1 with ⟨e1,h1⟩|⟨i,e1,hi,d1,h1⟩ <;> rcases h2 with ⟨e2,h2⟩|⟨k,e2,hk,d2,h2⟩
 ·omega
 ·rw[h1 k hk]at d2;cases d2
 ·rw[h2 i hi]at d1;cases d1
 ·have:i=k:=by
   rcases Nat.lt_trichotomy i k with h|h|h
   ·rw[h2 i h]at d1;cases d1
   ·exact h
   ·rw[h1 k h]at d2;cases d2
  omega
def df4:List Opn->List Rpl->Opn->Option Rpl
 | x::xs,r::rs,o=>if x=o then some r else df4 xs rs o
 | _,_,_=>none
structure Ans where
 op:Opn
 rep:Rpl
def okA(xs:List Opn)(rs:List Rpl)(a:Ans):Bool:=match df4 xs rs a.op with
 | some r=>r.eqB a.rep
 | none=>false
def L6(ok:Ans->Bool):List Ans->Nat->Int
 | [],_ => -1
 | a::l,n=>if ok a=true then L6 ok l (n+1)else n
theorem Eq7(ok:Ans->Bool):∀(l m:List Ans) (n:Nat),(∀a∈l,ok a=true)->L6 ok (l++m) n=L6 ok m (n+l.length)
 | [],m,n,_=>rfl
 | a::l,m,n,h=>by
  rw[jK,L6,if_pos (h a (List.mem_cons_self ..)),Eq7 ok l m (n+1) fun b hb=>h b (List.mem_cons_of_mem _ hb),jC]
  congr 1
  omega
theorem KU7{ok:Ans->Bool}{l:List Ans}(h:∀a∈l,ok a=true)(n:Nat):L6 ok l n = -1:=by have:=Eq7 ok l [] n h;rw[List.append_nil]at this;rw[this];rfl
def hf4(xs:List Opn):List Ans:=(xs.zip (B7 xs ec0)).map fun p=>⟨p.1,p.2⟩
structure SameE(e e':Ec):Prop where
 v:e.vs.Perm e'.vs
 s:e.ss.Perm e'.ss
 t:e.ts.Perm e'.ts
 a:e.ar.Perm e'.ar
theorem OO7{e e':Ec}{n:Nat}(h:EnL e n)(s:SameE e e'):EnL e' n:=
 ⟨⟨fun x hx=>h.en.ok x (s.v.mem_iff.2 hx),fun x hx=>h.en.vk x (s.v.mem_iff.2 hx),fun x hx=>h.en.sw x (s.s.mem_iff.2 hx),fun x hx=>h.en.sr x (s.s.mem_iff.2 hx),fun x hx=>h.en.tw x (s.t.mem_iff.2 hx),fun x hx=>h.en.aw x (s.a.mem_iff.2 hx),
  by rw[<-s.v.length_eq];exact h.en.lv,by rw[<-s.s.length_eq];exact h.en.ls,by rw[<-s.t.length_eq];exact h.en.lt,by rw[<-s.a.length_eq];exact h.en.la⟩,(s.v.map _).nodup_iff.1 h.nd,by rw[<-Ia7 s.v];exact h.ln⟩
def hg4(d:Ec):List Int:=aW4 d.vs.length++(d.vs.map (·.1)).flatMap (enK d)++aW4 d.ss.length++(d.ss.map (·.1)).flatMap (enS d)++aW4 d.ts.length++d.ts.flatMap enT++aW4 d.ar.length++(d.ar.map (·.1)).flatMap enA
theorem SimE.same{d e:Ec}(h:SimE d e):SameE d e:=⟨h.v,h.s,h.t,h.a⟩
theorem Rv7{d e:Ec}(h:SimE d e):ksE e=d.vs.map (·.1):=(QC7 h).symm
theorem QE7{d e:Ec}{n:Nat}(h:EnL e n)(s:SimE d e):EnL d n:=OO7 h ⟨s.v.symm,s.s.symm,s.t.symm,s.a.symm⟩
theorem OP7{d e:Ec}(h:bm4 e)(s:SimE d e):bm4 d:=fun x hx=>h x (s.v.mem_iff.1 hx)
structure EnT(e:Ec)(n:Nat):Prop where
 en:EnL e n
 tt:n<=400->∀k,Kx k->K6 e k<=n*1048576
theorem gN4:EnT ec0 0:=⟨gf4,fun _ _ _=>Int.le_refl _⟩
theorem OQ7:fZ4 EnT:=fun e n o h he he2 hok=>by refine⟨h.en.app he o hok,fun hn k hk=>?_⟩;have h1:=QA7 h.en.nd h.en.en.ok he he2 (fun j hj=>by have:=h.tt (by omega) j hj;omega) (o:=o) hk;have h2:=Rs7 (e:=e) (o:=o) (B6 e o).1 k;have h3:=h.tt (by omega) k hk;rw[h1];omega
def dE4(m:List (Opn×Rpl))(o:Opn)(r:Rpl):List (Opn×Rpl):=if(j6 m o).isSome=true then m else(o,r)::i9 m o
def ce4:List Opn->List Rpl->List (Opn×Rpl)->List (Opn×Rpl)
 | x::xs,r::rs,m=>ce4 xs rs (dE4 m x r)
 | _,_,m=>m
theorem OR7(m:List (Opn×Rpl))(x:Opn)(r:Rpl)(o:Opn):j6 (dE4 m x r) o=(j6 m o).or (if x=o then some r else none):=by
 unfold dE4;by_cases h:(j6 m x).isSome=true
 ·rw[if_pos h];by_cases hx:x=o
  ·subst hx;obtain⟨v,hv⟩:=Option.isSome_iff_exists.1 h;rw[hv];rfl
  ·rw[if_neg hx,Option.or_none]
 ·rw[if_neg h,JI7];by_cases hx:x=o
  ·subst hx;have:j6 m x=none:=by simpa using h
   rw[if_pos rfl,if_pos rfl,this];rfl
  ·rw[if_neg hx,if_neg hx,Option.or_none]
theorem OS7(o:Opn)(xs:List Opn):∀(rs:List Rpl) (m:List (Opn×Rpl)),xs.length=rs.length->j6 (ce4 xs rs m) o=(j6 m o).or (df4 xs rs o):=by
 induction xs with
 | nil=>
  intro rs m h
  cases rs with
  | nil=>rw[ce4,df4,Option.or_none];all_goals(intros;contradiction)
  | cons r rs=>simp at h
 | cons x xs ih=>
  intro rs m h
  cases rs with
  | nil=>simp at h
  | cons r rs=>
   rw[ce4,ih rs _ (by simpa using h),OR7,Option.or_assoc,df4]
   congr 1
   by_cases hx:x=o
   ·rw[if_pos hx,if_pos hx];rfl
   ·rw[if_neg hx,if_neg hx];rfl
theorem KV7(x:Opn)(r:Rpl)(xs:List Opn):∀(rs:List Rpl) (m:List (Opn×Rpl)),xs.length=rs.length->ce4 (xs++[x]) (rs++[r]) m=dE4 (ce4 xs rs m) x r:=by
 induction xs with
 | nil=>
  intro rs m h
  cases rs with
  | nil=>rfl
  | cons q rs=>simp at h
 | cons y xs ih=>
  intro rs m h
  cases rs with
  | nil=>simp at h
  | cons q rs=>rw[jK,jK,ce4,ce4,ih rs _ (by simpa using h)]
def cf4(xs:List Opn)(i:Nat):List (Opn×Rpl):=ce4 (xs.take i) (B7 (xs.take i) ec0) []
theorem OT7{xs:List Opn}{i:Nat}(h:i<xs.length):cf4 xs (i+1)=dE4 (cf4 xs i) xs[i] (B6 (l6 (xs.take i) ec0) xs[i]).1:=by unfold cf4;rw[JY7 h,List.take_succ_eq_append_getElem h,KV7 _ _ _ _ _ (Bj7 _ _).symm]
theorem Ne7(xs:List Opn)(o:Opn):j6 (cf4 xs xs.length) o=df4 xs (B7 xs ec0) o:=by unfold cf4;rw[List.take_length,OS7 o xs _ _ (Bj7 _ _).symm];rfl
def ap4(e0:Ec)(l:List ((Int×Int)×Tns)):List It:=(l.filter fun x=>(j6 e0.ar x.1).isNone).map fun x=>p8 x.2.item x.2.cnt
def dF4(e:Ec):It:=⟨K6 e 0,K6 e 1,K6 e 2,K6 e 3⟩
def dg4(e0:Ec):List (Ec×Ec)->List It
 | []=>[]
 | x::l=>dF4 x.2::ap4 e0 x.1.ts++dg4 e0 l
theorem Ka7(e0:Ec):∀l m:List (Ec×Ec),dg4 e0 (l++m)=dg4 e0 l++dg4 e0 m
 | [],_=>rfl
 | x::l,m=>by rw[jK,dg4,dg4,Ka7 e0 l m];simp
theorem Nf7(e0:Ec)(l:List ((Int×Int)×Tns))(x:(Int×Int)×Tns):ap4 e0 (l++[x])=ap4 e0 l++(if(j6 e0.ar x.1).isNone=true then[p8 x.2.item x.2.cnt]else[]):=by
 unfold ap4;rw[List.filter_append,List.map_append]
 congr 1
 by_cases h:(j6 e0.ar x.1).isNone=true
 ·rw[if_pos h,List.filter_cons,if_pos h];rfl
 ·rw[if_neg h,List.filter_cons,if_neg h];rfl
theorem Ng7(e0:Ec){l:List ((Int×Int)×Tns)}{i:Nat}(h:i<l.length):ap4 e0 (l.take (i+1))=ap4 e0 (l.take i)++(if(j6 e0.ar l[i].1).isNone=true then[p8 l[i].2.item l[i].2.cnt]else[]):=by rw[List.take_succ_eq_append_getElem h,Nf7]
theorem ES7(e0:Ec)(l:List ((Int×Int)×Tns)):(ap4 e0 l).length<=l.length:=by unfold ap4;rw[jM];exact List.length_filter_le _ _
theorem OU7{L:List Ord}{j:Nat}(hj:j<L.length)(hL:∀x∈L,MayP x){c:Int}(h1:0<=c)(h2:c<=(at' L j).cnt):(∀x∈aT4 L j c,MayP x)/\(aT4 L j c).length<=L.length:=by
 have hx:=hL _ (H8 hj);unfold aT4;split
 ·exact⟨fun x hx=>hL x (List.mem_of_mem_eraseIdx hx),List.length_eraseIdx_le ..⟩
 ·refine⟨fun x hxm=>?_,by rw[List.length_set];exact Nat.le_refl _⟩
  rcases List.mem_or_eq_of_mem_set hxm with hx'|rfl
  ·exact hL x hx'
  ·exact Eb7 hx (by omega) (by omega)
theorem Kb7:∀(f:Nat) (o:Ord) (L:List Ord) (ts:List Trd),(∀x∈L,MayP x)->0<=o.cnt->
  (∀x∈(m7 f o L ts).2.1,MayP x)/\(m7 f o L ts).2.1.length<=L.length/\∃c:Int,(m7 f o L ts).1={ o with cnt:=c }/\c<=o.cnt
 | 0,o,L,ts,hL,h0=>⟨hL,Nat.le_refl _,o.cnt,rfl,Int.le_refl _⟩
 | f+1,o,L,ts,hL,h0=>by
  rw[m7];by_cases hc:0<o.cnt
  ·rw[if_pos hc]
   cases hb:s9 o L L.length with
   | none=>exact⟨hL,Nat.le_refl _,o.cnt,rfl,Int.le_refl _⟩
   | some j=>
    obtain⟨hj,hm,_⟩:=AG7 hb;have hx:=hL _ (H8 hj);have hx0:=hx.cnt0;have hmin:=CG7 hc (show 0<(at' L j).cnt by omega);obtain⟨g1,g2⟩:=OU7 hj hL (c:=(at' L j).cnt-I6 o.cnt (at' L j).cnt) (by omega) (by omega);obtain⟨i1,i2,c,i3,i4⟩:=Kb7 f { o with cnt:=o.cnt-I6 o.cnt (at' L j).cnt } _ (ts++[F5 o (at' L j)]) g1 (show 0<=o.cnt-I6 o.cnt (at' L j).cnt by omega);have i5:c<=o.cnt-I6 o.cnt (at' L j).cnt:=i4;exact⟨i1,Nat.le_trans i2 g2,c,i3,by omega⟩
  ·rw[if_neg hc];exact⟨hL,Nat.le_refl _,o.cnt,rfl,Int.le_refl _⟩
theorem OV7{L:List Ord}{o:Ord}(hL:∀x∈L,MayP x)(ho:MayP o):(∀x∈bP4 L o,MayP x)/\(bP4 L o).length<=L.length+1:=by
 have hc0:=ho.cnt0;obtain⟨h1,h2,c,h3,h4⟩:=Kb7 (L.length+1) o L [] hL (by omega);unfold bP4;split
 ·rename_i hc
  rw[h3]at hc ⊢;refine⟨fun x hx=>?_,by rw[jA,List.length_singleton];omega⟩
  rcases List.mem_append.1 hx with hx|hx
  ·exact h1 x hx
  ·rw[List.mem_singleton]at hx;subst hx;exact Eb7 ho (by simp only at hc;omega) h4
 ·exact⟨h1,by omega⟩
theorem Nh7{V:Vs}{o:Ord}(hn:1<=V.n)(hL:∀x∈V.L,MayP x)(hl:V.L.length<=32):(∀x∈(x8 V o).2.2.L,MayP x)/\(x8 V o).2.2.L.length<=32:=by
 unfold x8;split
 ·exact⟨hL,hl⟩
 split
 ·exact⟨hL,hl⟩
 split
 ·rename_i h1 h2 _
  have hm:aU4 o=true:=by simpa using h1
  have hm2:=Ao7.1 hm;have hmo:MayP { o with id:=V.n }:=⟨hn,by show V.n<=_;omega,hm2.who0,hm2.who1,hm2.item0,hm2.item1,hm2.cnt0,hm2.cnt1,hm2.price0,hm2.price1⟩
  obtain⟨g1,g2⟩:=OV7 hL hmo;exact⟨g1,by show(bP4 V.L { o with id:=V.n }).length<=32;omega⟩
 ·exact⟨hL,hl⟩
theorem Ni7{V:Vs}{who:ByteArray}{id:Int}(hL:∀x∈V.L,MayP x)(hl:V.L.length<=32):(∀x∈(B8 V who id).2.L,MayP x)/\(B8 V who id).2.L.length<=32:=by
 unfold B8;split
 ·show(∀x∈(m9 V.L id).L,MayP x)/\(m9 V.L id).L.length<=32
  unfold m9;split
  ·exact⟨hL,hl⟩
  ·exact⟨fun x hx=>hL x (List.mem_of_mem_eraseIdx hx),Nat.le_trans (List.length_eraseIdx_le ..) hl⟩
 ·exact⟨hL,hl⟩
theorem OW7{V:Vs}{o:Opn}(hn:1<=V.n)(hL:∀x∈V.L,MayP x)(hl:V.L.length<=32):(∀x∈(doV V o).2.L,MayP x)/\(doV V o).2.L.length<=32:=by
 unfold doV;split
 ·exact⟨hL,hl⟩
 split
 ·exact⟨hL,hl⟩
 split
 ·exact Nh7 hn hL hl
 split
 ·exact Ni7 hL hl
 split
 ·exact⟨hL,hl⟩
 split
 ·exact⟨hL,hl⟩
 ·exact⟨hL,hl⟩
theorem Rw7{V:Vs}{i:Nat}{o:Opn}(h:VOk V.ps V.n i)(hL:∀x∈V.L,MayP x)(hl:V.L.length<=32):VOk (doV V o).2.ps (doV V o).2.n (i+1):=by
 have hput:∀it,VOk (F8 V.ps o.aw it) V.n (i+1):=fun it=>⟨Gw7 h.ok _ _,Al7 (Gx7 h.w _ _) (by omega),h.n0,by have:=h.n1;omega⟩
 unfold doV;split
 ·exact hput _
 split
 ·exact⟨BF7 h.ok _ _,Al7 (Dv7 h.w _ _) (by omega),h.n0,by have:=h.n1;show V.n<=_;omega⟩
 split
 ·have h1:=Mb7 (V:=V) (o:=P6 o) h.ok h.n0 hL;have h2:=Mh7 (V:=V) (o:=P6 o) h.w hL hl
  have h3:(x8 V (P6 o)).2.2.n<=V.n+1:=by
   unfold x8
   repeat' split
   all_goals dsimp only
   all_goals omega
  exact⟨h1.1,Al7 h2 (by omega),h1.2,by have:=h.n1;show(x8 V (P6 o)).2.2.n<=_;omega⟩
 split
 ·have h1:=Mc7 (V:=V) (who:=o.aw) (id:=o.id) h.ok h.n0 hL;have h2:=Mi7 (V:=V) (who:=o.aw) (id:=o.id) h.w hL;have h3:(B8 V o.aw o.id).2.n=V.n:=by unfold B8;split <;> rfl
  exact⟨h1.1,Al7 h2 (by omega),h1.2,by have:=h.n1;show(B8 V o.aw o.id).2.n<=_;omega⟩
 split
 ·exact h.on
 split
 ·exact hput _
 ·exact h.on
theorem Rx7(e:Ec)(o:Opn):(B6 e o).2.2.vs=e.vs\/(B6 e o).2.2.vs=(bf4 e o.ak (doV (atV e o.ak) o).2).vs:=by
 unfold B6;split
 ·exact .inl rfl
 ·exact .inr rfl
theorem OX7{e:Ec}{n:Nat}(hE:EOk e n)(he:bm4 e)(k:ByteArray):VOk (atV e k).ps (atV e k).n n/\(∀x∈(atV e k).L,MayP x)/\(atV e k).L.length<=32:=by
 unfold atV
 cases hg:j6 e.vs k with
 | none=>exact⟨eI4 n,fun x hx=>(by cases hx),Nat.zero_le _⟩
 | some V=>
  have h2:=AE7 hg;exact⟨hE _ h2,(he _ h2).1,(he _ h2).2⟩
theorem OY7{e:Ec}{k:ByteArray}{V:Vs}{x:ByteArray×Vs}(h:x∈(bf4 e k V).vs):x∈e.vs\/x=(k,V):=by
 have h2:x∈(if A5 V=true then i9 e.vs k else(k,V)::i9 e.vs k):=h;split at h2
 ·exact .inl (List.mem_filter.1 h2).1
 ·rcases List.mem_cons.1 h2 with h2|h2
  ·exact .inr h2
  ·exact .inl (List.mem_filter.1 h2).1
theorem GJ7{e:Ec}{n:Nat}(hE:EOk e n)(he:bm4 e)(o:Opn):EOk (B6 e o).2.2 (n+1)/\bm4 (B6 e o).2.2:=by
 obtain⟨g1,g2,g3⟩:=OX7 hE he o.ak;have d1:=OW7 (o:=o) g1.n0 g2 g3;have d2:=Rw7 (o:=o) g1 g2 g3
 have hx:∀x∈(B6 e o).2.2.vs,x∈e.vs\/x=(o.ak,(doV (atV e o.ak) o).2):=fun x hx=>by
  rcases Rx7 e o with h|h
  ·rw[h]at hx;exact .inl hx
  ·rw[h]at hx;exact OY7 hx
 refine⟨fun x hm=>?_,fun x hm=>?_⟩
 ·rcases hx x hm with h|rfl
  ·exact(hE x h).on
  ·exact d2
 ·rcases hx x hm with h|rfl
  ·exact he x h
  ·exact d1
structure JOk(d e:Ec)(n:Nat):Prop where
 ok:GOk d e n
 each:bm4 e
theorem gO4:JOk ec0 ec0 0:=⟨gF4,fun _ h=>(by cases h)⟩
theorem JOk.app{d e:Ec}{n:Nat}(h:JOk d e n)(o:Opn):JOk (M7 d o).2.2 (B6 e o).2.2 (n+1):=by obtain⟨h1,h2⟩:=GJ7 h.ok.ok h.each o;exact⟨h.ok.app o h1,h2⟩
theorem JOk.dok{d e:Ec}{n:Nat}(h:JOk d e n)(hn:n<=5000)(k:ByteArray):DOk d k n:=h.ok.dok hn h.each k
theorem CZ7(xs:List Opn):∀i,i<=xs.length->JOk (D6 (xs.take i) ec0) (l6 (xs.take i) ec0) i
 | 0,_=>by rw[List.take_zero];exact gO4
 | i+1,h=>by have:=(CZ7 xs i (by omega)).app xs[i];rw[Ep7 (by omega),MW7 (by omega)];exact this
theorem Nj7(xs:List Opn):∀i,i<=xs.length->EnL (l6 (xs.take i) ec0) i
 | 0,_=>by rw[List.take_zero];exact gf4
 | i+1,h=>by have h1:=CZ7 xs i (by omega);have h2:=(Nj7 xs i (by omega)).app h1.each xs[i] (GJ7 h1.ok.ok h1.each xs[i]).1;rw[Ep7 (by omega)];exact h2
theorem CA7(xs:List Opn):JOk (D6 xs ec0) (l6 xs ec0) xs.length:=by have:=CZ7 xs xs.length (Nat.le_refl _);rwa [List.take_length]at this
theorem FG7(xs:List Opn):EnL (l6 xs ec0) xs.length:=by have:=Nj7 xs xs.length (Nat.le_refl _);rwa [List.take_length]at this
theorem JOk.same{d e:Ec}{n:Nat}(h:JOk d e n)(o:Opn):(M7 d o).1=(B6 e o).1/\(M7 d o).2.1=(B6 e o).2.1:=by obtain⟨g1,g2,_⟩:=MS7 h.ok.sim o;exact⟨g1,g2⟩
theorem IV7{L:List HP}(xs:List Opn)(a:Option Addr)(cap:Nat)(h63:xs.length<=9223372036854775807)(hat:∀i (h:i<xs.length), ∃b off,a=some ⟨b,off,none⟩/\∀j v,(xs[i]).cells[j]? = some v->i6 L b (off+i*12+j) v)(W w:World)(hS:St W L w):
  Calls Tryz.prog 7 #[.slice a xs.length cap] w fun e w'=>∃h:Bool,(h=false->xs.length<=150)/\e=.returned (.bool h)/\St W L w':=by
 have Hat:=jH hat
 clear hat
 go_enter Tryz.func7,Tryz.ntmps7;by_cases h150:150<xs.length
 ·have d0:((150:Nat):Int)<(xs.length:Int):=by omega
  go_wp2_with(first|go_big_skip);go_ret;exact⟨_,fun h=>(by cases h),rfl,hS⟩
 have d0:decide ((150:Int)<(xs.length:Int))=false:=by simp;omega
 go_wp2_with(first|go_big_skip)
 go_loopw [3] (fun v wr=>fH4 W L xs.length v wr) (fun v _=>xs.length-(intOf v).toNat)
 case atStart=>exact⟨0,rfl,by omega,hS⟩
 case round=>
  clear hS;obtain⟨i,rfl,hi,hS⟩:=hrel;by_cases hend:i=xs.length
  ·subst hend;have d1:decide ((xs.length:Int)<(xs.length:Int))=false:=by simp
   go_wp2_with(first|go_big_skip);go_ret;exact⟨_,fun _=>by omega,rfl,hS⟩
  have hil:i<xs.length:=by omega
  clear hend hi;obtain⟨pb,poff,rfl,hA⟩:=Hat.out i hil;have c3:=hA 3 _ rfl;have c4:=hA 4 _ rfl;have c5:=hA 5 _ rfl;have c6:=hA 6 _ rfl;clear hA;generalize xs[i]=x at c3 c4 c5 c6;obtain⟨kd,cl,sq,ak,aw,tk,tw,it,ct,pr,bu,id⟩:=x;simp only at c3 c4 c5 c6;by_cases h1:60<ak.size
  ·have d1:(60:Int)<(ak.size:Int):=by omega
   go_wp2_with(first|go_big_skip|refine zl1 hS ?_);go_ret;exact⟨_,fun h=>(by cases h),rfl,hS⟩
  have d1:decide ((60:Int)<(ak.size:Int))=false:=by simp;omega
  by_cases h2:60<aw.size
  ·have d2:(60:Int)<(aw.size:Int):=by omega
   go_wp2_with(first|go_big_skip|refine zl1 hS ?_);go_ret;exact⟨_,fun h=>(by cases h),rfl,hS⟩
  have d2:decide ((60:Int)<(aw.size:Int))=false:=by simp;omega
  by_cases h3:60<tk.size
  ·have d3:(60:Int)<(tk.size:Int):=by omega
   go_wp2_with(first|go_big_skip|refine zl1 hS ?_);go_ret;exact⟨_,fun h=>(by cases h),rfl,hS⟩
  have d3:decide ((60:Int)<(tk.size:Int))=false:=by simp;omega
  by_cases h4:60<tw.size
  ·have d4:(60:Int)<(tw.size:Int):=by omega
   go_wp2_with(first|go_big_skip|refine zl1 hS ?_);go_ret;exact⟨_,fun h=>(by cases h),rfl,hS⟩
  have d4:decide ((60:Int)<(tw.size:Int))=false:=by simp;omega
  go_wp2_with(first|go_big_skip|refine zl1 hS ?_);go_roundw
  case rel=>exact⟨i+1,rfl,hil,hS⟩
  case measure=>simp[intOf];try omega
theorem OZ7{xs:List Opn}{v:Value}{V:World}(hv:C8 Opn.cells 12 V v xs)(W w:World)(Lr:List HP)(hS:St W (Old V::Lr) w):
  Calls Tryz.prog 7 #[v] w fun e w'=>∃h:Bool,(h=false->xs.length<=150)/\e=.returned (.bool h)/\St W (Old V::Lr) w':=by
 obtain⟨a,cap,rfl,h63,hact⟩:=hv.opn;exact IV7 xs a cap h63 (fun i hi=>(hact i hi).imp fun b h=>h.imp fun off h=>⟨h.1,fun j v hj=>i6.old .head (h.2.all j v hj)⟩) W w hS
structure Evn where
 zone:Int
 index:Int
 op:Opn
def Evn.cells(e:Evn):List Value:=.I e.zone::.I e.index::e.op.cells
theorem Evn.len(e:Evn):e.cells.length=14:=rfl
def bM4:List Opn->Nat->List Evn
 | [],_=>[]
 | o::l,i=>⟨1,(i:Int)+1,o⟩::bM4 l (i+1)
def aD4(xs:List Opn):List Evn:=bM4 xs 0
theorem Ic7(o:Opn):∀(l:List Opn) (i:Nat),bM4 (l++[o]) i=bM4 l i++[⟨1,((i+l.length:Nat):Int)+1,o⟩]
 | [],i=>rfl
 | x::l,i=>by
  rw[jK,bM4,Ic7 o l (i+1),bM4,jK,jC]
  congr 4
  omega
theorem Id7:∀(l:List Opn) (i:Nat),(bM4 l i).length=l.length
 | [],_=>rfl
 | _::l,i=>by rw[bM4,jC,jC,Id7 l]
theorem Ie7:∀(l:List Opn) (i:Nat),(bM4 l i).map (·.op)=l
 | [],_=>rfl
 | _::l,i=>by rw[bM4,List.map_cons,Ie7 l]
theorem Nk7(xs:List Opn):(aD4 xs).length=xs.length:=Id7 xs 0
theorem FH7(xs:List Opn):(aD4 xs).map (·.op)=xs:=Ie7 xs 0
theorem Pa7{xs:List Opn}{i:Nat}(h:i<xs.length):aD4 (xs.take (i+1))=aD4 (xs.take i)++[⟨1,(i:Int)+1,xs[i]⟩]:=by unfold aD4;rw[List.take_succ_eq_append_getElem h,Ic7,jT,Nat.min_eq_left (by omega),Nat.zero_add]
def evR(T:TypeId)(v:Value)(l:List Evn):HP:=row v 14 T l.length (l.flatMap Evn.cells)
theorem aG4{α:Type}{enc:α->List Value}{k:Nat}{T:TypeId}{v:Value}{acc:List α}{y:α}{news:List Value}{W w:World}{L:List HP}(h:St W (row v k T (acc.length+1) (acc.flatMap enc++news)::L) w)(hn:news=enc y):St W (row v k T (acc++[y]).length ((acc++[y]).flatMap enc)::L) w:=by subst hn;rw[jA,List.length_singleton,List.flatMap_append,List.flatMap_cons,List.flatMap_nil,List.append_nil];exact h
def ToR(W:World)(L:List HP)(xs:List Opn)(v1 v2 v3:Value)(w:World):Prop:=
 ∃i:Nat,v3=.I i/\i<=xs.length/\St W (evR 76 v1 (aD4 (xs.take i))::evR 77 v2 (aD4 (xs.take i))::L) w
theorem Nl7(xs:List Opn)(hlen:xs.length<=150)(v:Value)(V:World)(hv:C8 Opn.cells 12 V v xs)(W w:World)(Lr:List HP)(hS:St W (Old V::Lr) w):
  Calls Tryz.prog 8 #[v] w fun e w'=>∃va vb,e=.returned (.tuple #[va,vb])/\St W (evR 76 va (aD4 xs)::evR 77 vb (aD4 xs)::Old V::Lr) w':=by
 obtain⟨a,cap,rfl,h63,hact⟩:=hv.opn;have Ha:=jH hact;clear hact hv;go_enter Tryz.func8,Tryz.ntmps8;go_wp2_with(first|go_big_skip);have hS0:=(hS.rowNil (k:=14) (T:=77)).rowNil (k:=14) (T:=76);clear hS;have hS:=hS0;clear hS0
 go_loopw [4,5,6] (fun v1 v2 v3 wr=>ToR W (Old V::Lr) xs v1 v2 v3 wr) (fun _ _ v3 _=>xs.length-(intOf v3).toNat)
 case atStart=>exact⟨0,rfl,Nat.zero_le _,hS⟩
 case round=>
  clear hS;obtain⟨i,rfl,hi,hS⟩:=hrel;by_cases hil:i<xs.length
  ·have hd1:decide (i<xs.length)=true:=decide_eq_true hil;obtain⟨pb,poff,rfl,hA⟩:=Ha.out i hil;have hall:=hA.all;clear hA;have hstep:=Pa7 hil;have hal:(aD4 (xs.take i)).length=i:=by rw[Nk7,jT];omega
   generalize aD4 (xs.take i)=acc at hS hstep hal;generalize xs[i]=x at hall hstep;obtain⟨kd,cl,sq,ak,aw,tk,tw,it,ct,pr,bu,id⟩:=x;simp only[Opn.cells]at hall;have Hstep:=jH hstep;have hal1:acc.length<=i:=by omega
   have hal2:i<=acc.length:=by omega
   clear hstep hal hi;unfold evR at hS;go_wp2_with(first|go_big_skip|refine zlN hS ?_ (vs:=[.I kd,.I cl,.I sq,.string ak,.string aw,.string tk,.string tw,.I it,.I ct,.I pr,.bool bu,.I id]) (hc:=by exact d8.old (by exact aR4) hall)|(fail_if_success (have:=gA));(refine zbs hS ?_;clear hS;have gA:Nat:=0;intro bA w hS)|(have:=gA);refine zbs hS ?_;clear hS;intro bB w hS|(fail_if_success (have:=gP));(refine zap hS ?_ (h63:=by unfold maxLen;omega) (hb:=by omega);clear hS;have gP:Nat:=0;intro va w hS)|(have:=gP);refine zap hS ?_ (h63:=by unfold maxLen;omega) (hb:=by omega);clear hS;intro vb w hS);go_roundw
   case rel=>
    refine⟨i+1,rfl,hil,?_⟩;rw[Hstep.out];have h0:=hS.s (row va 14 76 (acc.length+1) (acc.flatMap Evn.cells++_)::row vb 14 77 (acc.length+1) (acc.flatMap Evn.cells++_)::Old V::Lr);have h1:=aG4 (y:=(⟨1,(i:Int)+1,⟨kd,cl,sq,ak,aw,tk,tw,it,ct,pr,bu,id⟩⟩:Evn)) h0 rfl;have h2:=aG4 (y:=(⟨1,(i:Int)+1,⟨kd,cl,sq,ak,aw,tk,tw,it,ct,pr,bu,id⟩⟩:Evn)) h1.swap rfl;exact h2.swap
   case measure=>simp[intOf];omega
  ·have hd1:decide (i<xs.length)=false:=decide_eq_false hil;have hi2:i=xs.length:=by omega
   rw[hi2,List.take_length]at hS;clear hi hil hi2;go_wp2_with(first|go_big_skip);go_ret2;exact⟨_,_,rfl,hS⟩
end Go.Proofs.YtienbkdjkjbelaaGreat
end
