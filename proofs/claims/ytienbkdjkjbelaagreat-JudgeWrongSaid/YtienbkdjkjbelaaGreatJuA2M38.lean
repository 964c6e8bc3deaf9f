/-
  slices.Sorted(maps.Keys(m)) of maps by numbers.
-/
import Derived.Test.YtienbkdjkjbelaaGreatJuA2M5
import Derived.Test.YtienbkdjkjbelaaGreatJuA2M13
import Derived.Test.YtienbkdjkjbelaaGreatJuA2M19
import Derived.Test.YtienbkdjkjbelaaGreatJuA2M22
import Derived.Test.YtienbkdjkjbelaaGreatJuA2M27
import Derived.Test.YtienbkdjkjbelaaGreatJuA2M31
import Derived.Test.YtienbkdjkjbelaaGreatJuA2M37
import Derived.Laws.Bits64b
import Derived.Laws.IdiomStrings
import Derived.Lib.SliceRun
import Derived.Test.YtienbkdjkjbelaaGreatProg
import Derived.Shelf.SlIter.Nil
import Derived.Shelf.SlIterI.Nil
import Derived.Shelf.SortM.Plain
import Derived.Shelf.SortM.SortNone
import Derived.Ground.GgzProg
import Derived.Ground.SlgmProg
set_option maxHeartbeats 16000000
set_option maxRecDepth 100000
set_option linter.unusedSimpArgs false
set_option linter.unusedVariables false
section
namespace Go.Proofs.YtienbkdjkjbelaaGreat
open Go.Shelf Go.RowKit Go.Lib Go.Sort Go.Sl
abbrev eZ(z:Int):Value:=.I z
def KzR{ν:Type}(W:World)(ev:ν->Value)(X:List Int->HP)(r b:Nat)(l:List (Int×ν))(L:List HP)(w:World):Prop:=
 ∃(ss:List Int) (todo:List (Int×ν)),(ss++todo.map (·.1)).Perm (l.map (·.1))/\St W (itR eZ ev r b l todo::X ss::L) w
def apZ(bB:Nat)(ss:List Int):HP:=fun f=>∃v,sep (blk bB [v] 115) (row v 1 3 ss.length (ss.map eZ)) f
def fS4(l:List Int):List Int:=l.mergeSort fun x y=>decide (x<=y)
end Go.Proofs.YtienbkdjkjbelaaGreat
end
section
namespace Go.Proofs.YtienbkdjkjbelaaGreat
open Go.RowKit Go.Sl
def dA4:Nat->Nat->List Int
 | 0,u=>[(u:Int)]
 | f+1,u=>if 128<=u then((u%128+128:Nat):Int)::dA4 f (u / 128)else[(u:Int)]
def fT4(n:Int):Nat:=if 4611686018427387904<n then 4611686018427387904 else if 0<n then n.toNat else 0
def aZ4(n:Int):List Int:=dA4 8 (fT4 n)
abbrev u8s(l:List Int):List Value:=l.map (Value.int .u8)
abbrev byR(v:Value)(l:List Int):HP:=row v 1 5 l.length (u8s l)
def NmR(W:World)(L:List HP)(t:List Int)(v3 v4:Value)(w:World):Prop:=
 ∃(f u:Nat) (d:List Int),v3=.int .u64 u/\u<128^(f+1)/\u<=4611686018427387904/\f<=8/\d.length<=8-f/\d++dA4 f u=t/\St W (byR v4 d::L) w
end Go.Proofs.YtienbkdjkjbelaaGreat
end
section
namespace Go.Sl
open Go.RowKit
def cy4(s:ByteArray):List Int:=s.data.toList.map fun b=>(b.toNat:Int)
def sbR(g:Nat)(s:ByteArray):HP:=fun f=>∃o:Obj,(∀w:World,w.heap[g]? = some o->∀(j:Nat) (u:Value),((cy4 s).map (Value.int .u8))[j]? = some u->w.cell? ⟨g,j,none⟩=some u)/\aP4 g o f
section
variable{P:Program}{ops:Array Oper}{Q:Exit->Act->World->Prop}{a:Act}{w:World}{W:World}{L:List HP}{rest:List Oper}{o:Oper}
theorem d8.sb{g:Nat}{s:ByteArray}:d8 (sbR g s::L) g 0 ((cy4 s).map (Value.int .u8)):=fun j v hj W w hS=>by obtain⟨o,hS⟩:=St.ex hS;obtain⟨h1,hS⟩:=St.and hS;rw[Nat.zero_add];exact h1 w (hS.get .head) j v hj
end
end Go.Sl
namespace Go.Proofs.YtienbkdjkjbelaaGreat
open Go.RowKit Go.Sl
def NsR(W:World)(L:List HP)(ns:List Int)(v3 v4:Value)(w:World):Prop:=
 ∃i:Nat,v4=.I i/\i<=ns.length/\St W (byR v3 ((ns.take i).flatMap aZ4)::L) w
def em4(s:ByteArray):List Int:=aZ4 s.size++cy4 s
def bM4(ns:List Int):List Int:=ns.flatMap aZ4
def fU4(h:Hd):List Int:=em4 h.who++bM4 [h.has.x0,h.has.x1,h.has.x2,h.has.x3]
def fk4(b:Bool):Int:=if b=true then 1 else 0
def fV4(o:Ord):List Int:=aZ4 o.id++em4 o.who++bM4 [fk4 o.buy,o.item,o.cnt,o.price]
def fW4(p:Ps)(L:List Ord)(n:Int):List Int:=aZ4 (hdL p).length++(hdL p).flatMap fU4++aZ4 L.length++L.flatMap fV4++aZ4 n
def CtR{α:Type}(W:World)(F:List HP)(f:α->List Int)(base:List Int)(xs:List α)(v3 v4:Value)(w:World):Prop:=
 ∃k:Nat,v4=.I k/\k<=xs.length/\St W (byR v3 (base++(xs.take k).flatMap f)::F) w
def wrR(wb:Nat)(d:List Int):HP:=fun f=>∃v:Value,sats [blk wb [v] 105,byR v d] f
section
variable{W w:World}{wb:Nat}{d:List Int}{R:List HP}
end
def WnR(W:World)(L:List HP)(wb:Nat)(d:List Int)(ns:List Int)(v:Value)(w:World):Prop:=
 ∃i:Nat,v=.I i/\i<=ns.length/\St W (wrR wb (d++(ns.take i).flatMap aZ4)::L) w
def WuR(W:World)(L:List HP)(wb:Nat)(t:List Int)(v:Value)(w:World):Prop:=
 ∃(f u:Nat) (d:List Int),v=.int .u64 u/\u<128^(f+1)/\u<=4611686018427387904/\d.length<=100000000+(8-f)/\f<=8/\d++dA4 f u=t/\St W (wrR wb d::L) w
end Go.Proofs.YtienbkdjkjbelaaGreat
end
section
namespace Go.Sl
open Go.RowKit
section
variable{P:Program}{ops:Array Oper}{Q:Exit->Act->World->Prop}{a:Act}{w:World}{rest:List Oper}{o:Oper}
end
end Go.Sl
namespace Go.Proofs.YtienbkdjkjbelaaGreat
open Go.RowKit Go.Sl
def WbR(W:World)(F:List Int->List HP)(d:List Int)(s:ByteArray)(v:Value)(w:World):Prop:=
 (v=.I 0/\St W (F d) w)\/(v=.I 1/\St W (F (d++em4 s)) w)
def CwR{α:Type}(W:World)(F:List HP)(wb:Nat)(f:α->List Int)(base:List Int)(xs:List α)(v:Value)(w:World):Prop:=
 ∃k:Nat,v=.I k/\k<=xs.length/\St W (wrR wb (base++(xs.take k).flatMap f)::F) w
abbrev Rb:=Option Addr×Nat×List Int
abbrev rbV(x:Rb):Value:=.slice x.1 x.2.2.length x.2.1
def cz4(r:List Int):List Int:=aZ4 r.length++r
def fl4(rs:List Rb):List Int:=rs.flatMap fun x=>cz4 x.2.2
def gz4(W:World)(R:List HP)(wb:Nat)(d:List Int)(rs:List Rb)(v:Value)(w:World):Prop:=
 ∃k:Nat,v=.I k/\k<=rs.length/\St W (wrR wb (d++fl4 (rs.take k))::R) w
structure RpOk(r:Rpl):Prop where
 e0:0<=r.err
 e1:r.err<=19
 i0:0<=r.id
 i1:r.id<=1099511627776
 has:s9 r.has=true
def rpB(r:Rpl):List Int:=bM4 [r.err,r.id]++bM4 [r.has.x0,r.has.x1,r.has.x2,r.has.x3]
def cR4(x:Int×Int):Prop:=(1<=x.1/\x.1<=1048576)/\1<=x.2/\x.2<=1099511627776
structure TnOk(t:Tns):Prop where
 w:cR4 (t.client,t.seq)
 ak:t.ak.size<=16
 aw:t.aw.size<=16
 tk:t.tk.size<=16
 tw:t.tw.size<=16
 i0:0<=t.item
 i1:t.item<4
 c0:1<=t.cnt
 c1:t.cnt<=1048576
structure EnOk(e:Ec)(n:Nat):Prop where
 ok:EOk e n
 vk:∀x∈e.vs,x.1.size<=16
 sw:∀x∈e.ss,cR4 (x.1,x.2.1)
 sr:∀x∈e.ss,RpOk x.2.2
 tw:∀x∈e.ts,TnOk x.2/\x.1=(x.2.client,x.2.seq)
 aw:∀x∈e.ar,cR4 x.1
 lv:e.vs.length<=n
 ls:e.ss.length<=n
 lt:e.ts.length<=n
 la:e.ar.length<=n
theorem EnOk.on{e:Ec}{n:Nat}(h:EnOk e n):EnOk e (n+1):=⟨fun x hx=>(h.ok x hx).on,h.vk,h.sw,h.sr,h.tw,h.aw,Nat.le_succ_of_le h.lv,Nat.le_succ_of_le h.ls,Nat.le_succ_of_le h.lt,Nat.le_succ_of_le h.la⟩
theorem dR4:RpOk rp0:=⟨by decide,by decide,by decide,by decide,rfl⟩
theorem z00:(0:Int)<=0:=by decide
theorem z19:(0:Int)<=19:=by decide
theorem z40:(0:Int)<=1099511627776:=by decide
theorem OR7{V:Vs}{o:Opn}(hp:K5 V.ps)(hn:1<=V.n):RpOk (doV V o).1:=by
 unfold doV;split
 ·have:J8 V.ps o.aw (r9 o.item o.cnt)=0\/J8 V.ps o.aw (r9 o.item o.cnt)=6\/J8 V.ps o.aw (r9 o.item o.cnt)=1:=by
   unfold J8
   repeat' split
   all_goals simp
  exact⟨by show 0<=J8 V.ps o.aw (r9 o.item o.cnt);omega,by show J8 V.ps o.aw (r9 o.item o.cnt)<=19;omega,z00,z40,rfl⟩
 split
 ·have:p8 V.ps o.aw (r9 o.item o.cnt)=0\/p8 V.ps o.aw (r9 o.item o.cnt)=14\/p8 V.ps o.aw (r9 o.item o.cnt)=1:=by
   unfold p8
   repeat' split
   all_goals simp
  exact⟨by show 0<=p8 V.ps o.aw (r9 o.item o.cnt);omega,by show p8 V.ps o.aw (r9 o.item o.cnt)<=19;omega,z00,z40,rfl⟩
 split
 ·have:((x8 V (al4 o)).2.1=0\/(x8 V (al4 o)).2.1=1\/(x8 V (al4 o)).2.1=6\/(x8 V (al4 o)).2.1=14)/\0<=(x8 V (al4 o)).1/\(x8 V (al4 o)).1<=1099511627776:=by
   unfold x8;split
   ·simp
   ·split
    ·simp
    ·rename_i h
     split
     ·refine⟨.inl rfl,by show 0<=V.n;omega,by show V.n<=1099511627776;omega⟩
     ·simp
  obtain⟨h1,h2,h3⟩:=this;exact⟨by show 0<=(x8 V (al4 o)).2.1;omega,by show(x8 V (al4 o)).2.1<=19;omega,h2,h3,rfl⟩
 split
 ·have:(A8 V o.aw o.id).1=0\/(A8 V o.aw o.id).1=7:=by
   unfold A8;split
   ·exact .inl rfl
   ·exact .inr rfl
  exact⟨by show 0<=(A8 V o.aw o.id).1;omega,by show(A8 V o.aw o.id).1<=19;omega,z00,z40,rfl⟩
 split
 ·exact⟨z00,z19,z00,z40,hp _⟩
 split
 ·exact dR4
 ·exact dR4
theorem IM7{u:ByteArray}(h:A6 u=true):u.size<=16:=Ky7 h
theorem Hi7{o:Opn}(hm:t7 o=true):cR4 (o.client,o.seq)/\o.ak.size<=16/\o.aw.size<=16:=by unfold t7 D9 ah4 at hm;simp only[jB,decide_eq_true_eq]at hm;obtain⟨⟨h1,h2,h3,h4,h5,h6⟩,_⟩:=hm;exact⟨⟨⟨h1,h2⟩,h3,h4⟩,IM7 h5,IM7 h6⟩
theorem HV7{o:Opn}(hm:t7 o=true)(hk:o.kind=2):TnOk (cs4 o):=by obtain⟨h1,h2,h3⟩:=Hi7 hm;have hc:=OQ7 hm (.inr (.inl hk));unfold t7 G7 at hm;rw[if_neg (by omega),if_pos hk]at hm;unfold K6 ah4 at hm;simp only[jB,decide_eq_true_eq]at hm;obtain⟨_,⟨h4,h5⟩,_⟩:=hm;exact⟨h1,h2,h3,IM7 h4,IM7 h5,hc.1.1,by have:=hc.1.2;show o.item<4;omega,hc.2.1,hc.2.2.1⟩
theorem FY7{κ ν:Type}[DecidableEq κ](l:List (κ×ν))(k:κ):(i9 l k).length<=l.length:=List.length_filter_le _ _
theorem CI7{κ ν:Type}[DecidableEq κ]{l:List (κ×ν)}{k:κ}{x:κ×ν}(h:x∈i9 l k):x∈l:=(List.mem_filter.1 h).1
theorem EnOk.app{e:Ec}{n:Nat}(h:EnOk e n)(o:Opn)(hok:EOk (m7 e o).2.2 (n+1)):EnOk (m7 e o).2.2 (n+1):=by
 cases hp:B5 e o with
 | mk r b=>
 cases b with
 | true=>
  rw[BX7 hp];exact h.on
 | false=>
  obtain⟨rfl,hm⟩:=Ba7 hp;rw[AT7 hp]at hok ⊢;dsimp only at hok ⊢;obtain⟨hw,hak,haw⟩:=Hi7 hm
  have hV:K5 (atV e o.ak).ps/\1<=(atV e o.ak).n:=by
   unfold atV
   cases hg:j5 e.vs o.ak with
   | none=>exact⟨FL7,by decide⟩
   | some V=>exact⟨(h.ok _ (AA7 hg)).ok,(h.ok _ (AA7 hg)).n0⟩
  have hrp:=OR7 (o:=o) hV.1 hV.2;have hlv:=h.lv;have hls:=h.ls;have hlt:=h.lt;have hla:=h.la;refine⟨hok,?_,?_,?_,?_,?_,?_,?_,?_,?_⟩
  ·intro x hx;have hx2:x∈(if w8 (doV (atV e o.ak) o).2=true then i9 e.vs o.ak else(o.ak,(doV (atV e o.ak) o).2)::i9 e.vs o.ak):=hx;split at hx2
   ·exact h.vk x (CI7 hx2)
   ·rcases List.mem_cons.1 hx2 with rfl|hx2
    ·exact hak
    ·exact h.vk x (CI7 hx2)
  ·intro x hx;have hx2:x∈doS e o (doV (atV e o.ak) o).1:=hx;unfold doS at hx2;split at hx2
   ·exact h.sw x hx2
   ·rcases List.mem_cons.1 hx2 with rfl|hx2
    ·exact hw
    ·exact h.sw x (CI7 hx2)
  ·intro x hx;have hx2:x∈doS e o (doV (atV e o.ak) o).1:=hx;unfold doS at hx2;split at hx2
   ·exact h.sr x hx2
   ·rcases List.mem_cons.1 hx2 with rfl|hx2
    ·exact hrp
    ·exact h.sr x (CI7 hx2)
  ·intro x hx;have hx2:x∈doT e o (doV (atV e o.ak) o).1:=hx;unfold doT at hx2;split at hx2
   ·rename_i h2
    rcases List.mem_cons.1 hx2 with rfl|hx2
    ·exact⟨HV7 hm h2.1,rfl⟩
    ·exact h.tw x (CI7 hx2)
   ·split at hx2
    ·exact h.tw x (CI7 hx2)
    ·exact h.tw x hx2
  ·intro x hx;have hx2:x∈doA e o:=hx;unfold doA at hx2;split at hx2
   ·rcases List.mem_cons.1 hx2 with rfl|hx2
    ·exact hw
    ·exact h.aw x (CI7 hx2)
   ·exact h.aw x hx2
  ·show(if w8 (doV (atV e o.ak) o).2=true then i9 e.vs o.ak else(o.ak,(doV (atV e o.ak) o).2)::i9 e.vs o.ak).length<=n+1
   have:=FY7 e.vs o.ak;split
   ·omega
   ·rw[jC];omega
  ·show(doS e o (doV (atV e o.ak) o).1).length<=n+1
   have:=FY7 e.ss o.client;unfold doS;split
   ·omega
   ·rw[jC];omega
  ·show(doT e o (doV (atV e o.ak) o).1).length<=n+1
   have:=FY7 e.ts (o.client,o.seq);unfold doT;split
   ·rw[jC];omega
   ·split <;> omega
  ·show(doA e o).length<=n+1
   have:=FY7 e.ar (o.client,o.seq);unfold doA;split
   ·rw[jC];omega
   ·omega
end Go.Proofs.YtienbkdjkjbelaaGreat
end
section
namespace Go.Proofs.YtienbkdjkjbelaaGreat
open Go.Shelf
def Tryz.keysV_ren:Go.Shelf.Ren:=⟨fun|7=>79|10=>122|n=>n,fun|23=>107|26=>9|3=>114|28=>158|0=>0|27=>157|33=>191|4=>4|n=>n,fun|n=>n⟩
end Go.Proofs.YtienbkdjkjbelaaGreat
end
section
namespace Go.Proofs.YtienbkdjkjbelaaGreat
open Go.RowKit Go.Maps Go.Sort Go.Shelf Go.Sl
section
variable{ν:Type}{ev:ν->Value}{W w:World}{L:List HP}{b g:Nat}
end
def ksE(e:Ec):List ByteArray:=bu4 (e.vs.map (·.1))
abbrev gA4(v:Value)(l:List ByteArray):HP:=row v 1 9 l.length (l.map eS)
end Go.Proofs.YtienbkdjkjbelaaGreat
end
section
namespace Go.Proofs.YtienbkdjkjbelaaGreat
open Go.RowKit Go.Sl
def bo4:List (ByteArray×Vs)->Nat
 | []=>0
 | x::l=>x.2.ps.length+bo4 l
theorem Lh7{l l':List (ByteArray×Vs)}(h:l.Perm l'):bo4 l=bo4 l':=by
 induction h with
 | nil=>rfl
 | cons x _ ih=>rw[bo4,bo4,ih]
 | swap x y l=>rw[bo4,bo4,bo4,bo4];omega
 | trans _ _ h1 h2=>rw[h1,h2]
theorem MS7{l:List (ByteArray×Vs)}(hn:(l.map (·.1)).Nodup)(u:ByteArray):bo4 l=((j5 l u).getD vs0).ps.length+bo4 (i9 l u):=by
 cases hg:j5 l u with
 | none=>rw[BH7 (BN7 hg)];show _=0+_;omega
 | some V=>rw[Lh7 (BV7 hn hg)];rfl
theorem MT7{p:Ps}{N:Nat}(h:PsW p N):PsW p p.length:=⟨h.nd,h.nz,h.who,Nat.le_refl _⟩
theorem Li7{V:Vs}{i:Nat}{o:Opn}(h:VOk V.ps V.n i)(hL:∀x∈V.L,MayP x)(hl:V.L.length<=32):(doV V o).2.ps.length<=V.ps.length+100:=by
 have hw:=MT7 h.w;unfold doV;split
 ·have:=(FO7 hw o.aw (r9 o.item o.cnt)).len;show(G8 V.ps o.aw (r9 o.item o.cnt)).length<=_
  omega
 split
 ·have:=(Dd7 hw o.aw (r9 o.item o.cnt)).len;show(s5 V.ps o.aw (r9 o.item o.cnt)).length<=_
  omega
 split
 ·exact(Kz7 (o:=al4 o) hw hL hl).len
 split
 ·exact(KA7 (who:=o.aw) (id:=o.id) hw hL).len
 split
 ·show V.ps.length<=_
  omega
 split
 ·have:=(FO7 hw o.aw (r9 o.item o.cnt)).len;show(G8 V.ps o.aw (r9 o.item o.cnt)).length<=_
  omega
 ·show V.ps.length<=_
  omega
structure EnL(e:Ec)(n:Nat):Prop where
 en:EnOk e n
 nd:(e.vs.map (·.1)).Nodup
 ln:bo4 e.vs<=100*n
theorem Lj7{e:Ec}(hn:(e.vs.map (·.1)).Nodup)(k:ByteArray)(V:Vs):((aO4 e k V).vs.map (·.1)).Nodup:=by
 show((if w8 V=true then i9 e.vs k else(k,V)::i9 e.vs k).map (·.1)).Nodup
 have h1:((i9 e.vs k).map (·.1)).Nodup:=hn.sublist (List.filter_sublist.map _);split
 ·exact h1
 ·rw[List.map_cons,List.nodup_cons];refine⟨fun h=>?_,h1⟩;obtain⟨x,hx,hk⟩:=List.mem_map.1 h;have:=(List.mem_filter.1 hx).2;simp only[ne_eq,decide_not,Bool.not_eq_eq_eq_not,Bool.not_true,decide_eq_false_iff_not]at this;exact this hk
theorem EnL.app{e:Ec}{n:Nat}(h:EnL e n)(he:cx4 e)(o:Opn)(hok:EOk (m7 e o).2.2 (n+1)):EnL (m7 e o).2.2 (n+1):=by
 refine⟨h.en.app o hok,?_,?_⟩
 ·cases hp:B5 e o with
  | mk r b=>
  cases b with
  | true=>rw[BX7 hp];exact h.nd
  | false=>
   obtain⟨rfl,hm⟩:=Ba7 hp;rw[AT7 hp];exact Lj7 h.nd _ _
 ·cases hp:B5 e o with
  | mk r b=>
  cases b with
  | true=>rw[BX7 hp];have:=h.ln;show bo4 e.vs<=_;omega
  | false=>
   obtain⟨rfl,hm⟩:=Ba7 hp;rw[AT7 hp];show bo4 (if w8 (doV (atV e o.ak) o).2=true then i9 e.vs o.ak else(o.ak,(doV (atV e o.ak) o).2)::i9 e.vs o.ak)<=_
   have h1:=MS7 h.nd o.ak;have h2:=h.ln
   have h3:(doV (atV e o.ak) o).2.ps.length<=(atV e o.ak).ps.length+100:=by
    unfold atV
    cases hg:j5 e.vs o.ak with
    | none=>exact Li7 (i:=0) (V:=vs0) eC4 (fun x hx=>(by cases hx)) (Nat.zero_le _)
    | some V=>
     have hm:=AA7 hg;exact Li7 (h.en.ok _ hm) (he _ hm).1 (he _ hm).2
   unfold atV at h3 ⊢;split
   ·omega
   ·show(doV ((j5 e.vs o.ak).getD vs0) o).2.ps.length+bo4 (i9 e.vs o.ak)<=_
    omega
def enK(e:Ec)(k:ByteArray):List Int:=cz4 (cy4 k)++cz4 (fW4 (atV e k).ps (atV e k).L (atV e k).n)
abbrev sbV(g:Nat)(s:ByteArray)(c:Nat):Value:=.S g s.size c
def enS(e:Ec)(c:Int):List Int:=bM4 [c,((j5 e.ss c).getD (0,rp0)).1]++cz4 (rpB ((j5 e.ss c).getD (0,rp0)).2)
def enT(x:(Int×Int)×Tns):List Int:=bM4 [x.2.client,x.2.seq]++(cz4 (cy4 x.2.ak)++(cz4 (cy4 x.2.aw)++(cz4 (cy4 x.2.tk)++cz4 (cy4 x.2.tw))))++bM4 [x.2.item,x.2.cnt]
def enA(k:Int×Int):List Int:=bM4 [k.1,k.2]
def gq4(e:Ec)(d:List Int):Prop:=∃(T:List ((Int×Int)×Tns)) (A:List (Int×Int)),T.Perm e.ts/\Asc ltW T/\A.Perm (e.ar.map (·.1))/\A.Pairwise (fun x y=>ltW x y=true) /\
 d=aZ4 e.vs.length++(ksE e).flatMap (enK e)++aZ4 e.ss.length++(fS4 (e.ss.map (·.1))).flatMap (enS e)++aZ4 e.ts.length++T.flatMap enT++aZ4 e.ar.length++A.flatMap enA
structure VkOk(V:Vs):Prop where
 ok:K5 V.ps
 w:PsW V.ps 60000
 n0:1<=V.n
 n1:V.n<=1099511627777
structure EncOk(e:Ec):Prop where
 nd:(e.vs.map (·.1)).Nodup
 vk:∀x∈e.vs,x.1.size<=16
 ok:∀x∈e.vs,VkOk x.2
 sw:∀x∈e.ss,cR4 (x.1,x.2.1)
 sr:∀x∈e.ss,RpOk x.2.2
 tw:∀x∈e.ts,TnOk x.2/\x.1=(x.2.client,x.2.seq)
 aw:∀x∈e.ar,cR4 x.1
 lv:e.vs.length<=10000
 ls:e.ss.length<=10000
 lt:e.ts.length<=10000
 la:e.ar.length<=10000
 lk:((ksE e).flatMap (enK e)).length<=6000000
abbrev zrR(v:Value)(l:List Int):HP:=row v 1 3 l.length (l.map eZ)
abbrev waR(v:Value)(l:List (Int×Int)):HP:=row v 2 127 l.length (l.flatMap whC)
def bN4(e:Ec)(o:Opn):Prop:=t7 o=false\/∃q r,j5 e.ss o.client=some (q,r)/\o.seq<=q
theorem Lk7{e:Ec}{o:Opn}(h:bN4 e o)(h6:o.kind≠6)(h7:o.kind≠7):(B5 e o).2=true:=by
 unfold B5
 rcases h with h|⟨q,r,h,hq⟩
 ·rw[if_pos h]
 ·split
  ·rfl
  ·first|rw[if_neg h6,if_neg h7,h]|rw[h]
   simp only;by_cases h1:o.seq<q
   ·rw[if_pos h1]
   ·rw[if_neg h1,if_pos (by omega)]
theorem Ll7{e:Ec}{o:Opn}(h:(B5 e o).2=true)(h6:o.kind≠6)(h7:o.kind≠7):bN4 e o:=by
 unfold B5 at h;split at h
 ·rename_i hm
  exact .inl hm
 ·try rw[if_neg h6,if_neg h7]at h
  cases hg:j5 e.ss o.client with
  | none=>rw[hg]at h;cases h
  | some x=>
   obtain⟨q,r⟩:=x;rw[hg]at h;simp only at h;refine .inr ⟨q,r,hg,?_⟩;by_cases h1:o.seq<q
   ·omega
   ·rw[if_neg h1]at h;by_cases h2:o.seq=q
    ·omega
    ·rw[if_neg h2]at h;cases h
theorem FZ7(e:Ec)(o:Opn)(r:Rpl)(c:Int):j5 (doS e o r) c=if o.kind=6\/o.kind=7 then j5 e.ss c else if o.client=c then some (o.seq,r)else j5 e.ss c:=by
 unfold doS;split
 ·rfl
 ·rw[FQ7]
theorem MU7(e:Ec)(o:Opn)(h6:o.kind≠6)(h7:o.kind≠7):bN4 (m7 e o).2.2 o:=by
 cases hp:B5 e o with
 | mk r b=>
 cases b with
 | true=>
  rw[BX7 hp];exact Ll7 (by rw[hp]) h6 h7
 | false=>
  obtain⟨rfl,hm⟩:=Ba7 hp;rw[AT7 hp];refine .inr ⟨o.seq,(doV (atV e o.ak) o).1,?_,Int.le_refl _⟩;show j5 (doS e o _) o.client=_
  rw[FZ7,if_neg (by omega),if_pos rfl]
theorem Om7{e:Ec}{o:Opn}(h:bN4 e o)(p:Opn):bN4 (m7 e p).2.2 o:=by
 cases hp:B5 e p with
 | mk r b=>
 cases b with
 | true=>rw[BX7 hp];exact h
 | false=>
  obtain⟨rfl,hm⟩:=Ba7 hp;rw[AT7 hp]
  rcases h with h|⟨q,r,hg,hq⟩
  ·exact .inl h
  ·by_cases hk:p.kind=6\/p.kind=7
   ·refine .inr ⟨q,r,?_,hq⟩;show j5 (doS e p _) o.client=_
    rw[FZ7,if_pos hk,hg]
   ·by_cases hc:p.client=o.client
    ·refine .inr ⟨p.seq,(doV (atV e p.ak) p).1,?_,?_⟩
     ·show j5 (doS e p _) o.client=_
      rw[FZ7,if_neg hk,if_pos hc]
     ·unfold B5 at hp;rw[if_neg (by rw[hm];exact Bool.noConfusion),if_neg (by omega),if_neg (by omega),hc,hg]at hp;simp only at hp;by_cases h1:p.seq<q
      ·rw[if_pos h1]at hp;cases hp
      ·omega
    ·refine .inr ⟨q,r,?_,hq⟩;show j5 (doS e p _) o.client=_
     rw[FZ7,if_neg hk,if_neg hc,hg]
theorem IN7:∀(l:List Opn) {e:Ec} {o:Opn},bN4 e o->bN4 (A5 l e) o
 | [],_,_,h=>h
 | p::l,e,o,h=>IN7 l (Om7 h p)
theorem fm4(n:Int):bits .and .i64 n 65535=n%65536:=by
 have h7:(BitVec.ofInt 64 65535).toNat=2^16-1:=by decide
 have key:(BitVec.ofInt 64 n &&& BitVec.ofInt 64 65535).toNat=(n%((2^64:Nat):Int)).toNat%2^16:=by rw[BitVec.toNat_and,BitVec.toNat_ofInt,h7,Nat.and_two_pow_sub_one_eq_mod]
 show IntKind.i64.wrap ((BitVec.ofInt 64 n &&& BitVec.ofInt 64 65535).toNat:Nat)=n%65536
 rw[key,IntKind.wrap_i64];omega
theorem Ds7{a b:ByteArray}(h:a.toList=b.toList):a=b:=by refine De7 ?_;rwa [Lib.toList_data,Lib.toList_data]at h
theorem Nw7(o q:Opn):o.eqB q=true↔o=q:=by
 obtain⟨a1,a2,a3,a4,a5,a6,a7,a8,a9,a10,a11,a12⟩:=o;obtain⟨b1,b2,b3,b4,b5,b6,b7,b8,b9,b10,b11,b12⟩:=q;unfold Opn.eqB;simp only[jB,decide_eq_true_eq];constructor
 ·rintro⟨rfl,rfl,rfl,h4,h5,h6,h7,rfl,rfl,rfl,rfl,rfl⟩;rw[Ds7 h4,Ds7 h5,Ds7 h6,Ds7 h7]
 ·intro h
  injection h
  subst_vars;exact⟨rfl,rfl,rfl,rfl,rfl,rfl,rfl,rfl,rfl,rfl,rfl,rfl⟩
theorem Nx7(r q:Rpl):r.eqB q=true↔r=q:=by
 obtain⟨a1,a2,⟨a3,a4,a5,a6⟩⟩:=r;obtain⟨b1,b2,⟨b3,b4,b5,b6⟩⟩:=q;unfold Rpl.eqB;simp only[jB,decide_eq_true_eq,beq_iff_eq];constructor
 ·rintro⟨rfl,rfl,rfl,rfl,rfl,rfl⟩;rfl
 ·intro h
  injection h with h1 h2 h3
  injection h3
  subst_vars;exact⟨rfl,rfl,rfl,rfl,rfl,rfl⟩
instance decOpn : DecidableEq Opn := fun o q => decidable_of_iff _ (Nw7 o q)
theorem Lm7(o q:Opn):o.eqB q=decide (o=q):=by rw[Bool.eq_iff_iff,Nw7,decide_eq_true_eq]
def k8:List Opn->Ec->List Rpl
 | [],_=>[]
 | o::l,e=>(m7 e o).1::k8 l (m7 e o).2.2
theorem As7:∀(xs:List Opn) (e:Ec),(k8 xs e).length=xs.length
 | [],_=>rfl
 | o::l,e=>by rw[k8,jC,jC,As7 l]
theorem Hj7:∀(l m:List Opn) (e:Ec),k8 (l++m) e=k8 l e++k8 m (A5 l e)
 | [],_,_=>rfl
 | o::l,m,e=>by rw[jK,k8,k8,Hj7 l m];rfl
theorem Ga7{xs:List Opn}{i:Nat}(h:i<xs.length)(e:Ec):k8 (xs.take (i+1)) e=k8 (xs.take i) e++[(m7 (A5 (xs.take i) e) xs[i]).1]:=by rw[List.take_succ_eq_append_getElem h,Hj7,k8,k8]
theorem Ca7:∀(xs:List Opn) {i:Nat} (h:i<xs.length) (e:Ec),(k8 xs e)[i]? = some (m7 (A5 (xs.take i) e) xs[i]).1
 | o::l,0,_,e=>rfl
 | o::l,i+1,h,e=>by rw[k8,List.getElem?_cons_succ,Ca7 l (Nat.lt_of_succ_lt_succ h)];rfl
def at4(xs:List Opn)(i:Nat)(h:i<xs.length):Bool:=(m7 (A5 (xs.take i) ec0) xs[i]).2.1
def TwI(xs:List Opn)(n:Int):Prop:=(n = -1/\∀i (h:i<xs.length),at4 xs i h=true)\/∃i:Nat,n=i/\∃h:i<xs.length,at4 xs i h=false/\∀j (hj:j<i),at4 xs j (by omega)=true
theorem Gb7{xs:List Opn}{n m:Int}(h1:TwI xs n)(h2:TwI xs m):n=m:=by
 rcases h1 with ⟨e1,h1⟩|⟨i,e1,hi,d1,h1⟩ <;> rcases h2 with ⟨e2,h2⟩|⟨k,e2,hk,d2,h2⟩
 ·omega
 ·rw[h1 k hk]at d2;cases d2
 ·rw[h2 i hi]at d1;cases d1
 ·have:i=k:=by
   rcases Nat.lt_trichotomy i k with h|h|h
   ·rw[h2 i h]at d1;cases d1
   ·exact h
   ·rw[h1 k h]at d2;cases d2
  omega
def bz4:List Opn->List Rpl->Opn->Option Rpl
 | x::xs,r::rs,o=>if x=o then some r else bz4 xs rs o
 | _,_,_=>none
theorem Hk7{o:Opn}:∀{xs:List Opn} {rs:List Rpl},xs.length=rs.length->(∀x∈xs,x≠o)->bz4 xs rs o=none
 | [],[],_,_=>rfl
 | x::xs,r::rs,h,hn=>by rw[bz4,if_neg (hn x (List.mem_cons_self ..)),Hk7 (by simpa using h) fun y hy=>hn y (List.mem_cons_of_mem _ hy)]
theorem HW7{o:Opn}:∀{xs:List Opn} {rs:List Rpl} (j:Nat),xs[j]? = some o->(∀i,i<j->xs[i]? ≠ some o)->xs.length=rs.length->bz4 xs rs o=rs[j]?
 | [],[],_,h,_,_=>by simp at h
 | x::xs,r::rs,0,h,_,_=>by simp only[List.getElem?_cons_zero,Option.some.injEq]at h;rw[bz4,if_pos h];rfl
 | x::xs,r::rs,j+1,h,hn,hl=>by
  have h0:x≠o:=fun e=>hn 0 (by omega) (by rw[List.getElem?_cons_zero,e])
  rw[bz4,if_neg h0,HW7 j (by simpa using h) (fun i hi=>by have:=hn (i+1) (by omega);simpa using this) (by simpa using hl)];simp
structure Ans where
 op:Opn
 rep:Rpl
def okA(xs:List Opn)(rs:List Rpl)(a:Ans):Bool:=match bz4 xs rs a.op with
 | some r=>r.eqB a.rep
 | none=>false
def C9(ok:Ans->Bool):List Ans->Nat->Int
 | [],_ => -1
 | a::l,n=>if ok a=true then C9 ok l (n+1)else n
theorem Cz7(ok:Ans->Bool):∀(l m:List Ans) (n:Nat),(∀a∈l,ok a=true)->C9 ok (l++m) n=C9 ok m (n+l.length)
 | [],m,n,_=>rfl
 | a::l,m,n,h=>by
  rw[jK,C9,if_pos (h a (List.mem_cons_self ..)),Cz7 ok l m (n+1) fun b hb=>h b (List.mem_cons_of_mem _ hb),jC]
  congr 1
  omega
theorem Fv7{ok:Ans->Bool}{l:List Ans}(h:∀a∈l,ok a=true)(n:Nat):C9 ok l n = -1:=by have:=Cz7 ok l [] n h;rw[List.append_nil]at this;rw[this];rfl
theorem MV7{xs:List Opn}{i j:Nat}(hi:i<xs.length)(hj:j<i)(he:xs[j]'(by omega)=xs[i])(h1:at4 xs j (by omega)=true)(h2:at4 xs i hi=true):(m7 (A5 (xs.take j) ec0) (xs[j]'(by omega))).1=(m7 (A5 (xs.take i) ec0) xs[i]).1:=by
 have hm:∀{e:Ec} {o:Opn},(m7 e o).2.1=true->B5 e o=(rp0,false):=fun{e o} h=>by
  cases hp:B5 e o with
  | mk r b=>
   cases b with
   | true=>rw[BX7 hp]at h;cases h
   | false=>rw[(Ba7 hp).1]
 have p1:=hm h1;have p2:=hm h2;by_cases h6:xs[i].kind=6
 ·rw[AT7 p1,AT7 p2,he];unfold doV;simp only[h6];rfl
 by_cases h7:xs[i].kind=7
 ·rw[AT7 p1,AT7 p2,he];unfold doV;simp only[h7];rfl
 exfalso
 have hl:xs.take i=xs.take (j+1)++(xs.take i).drop (j+1):=by have:=List.take_append_drop (j+1) (xs.take i);rw[List.take_take,Nat.min_eq_left (by omega)]at this;exact this.symm
 have hr:A5 (xs.take i) ec0=A5 ((xs.take i).drop (j+1)) (m7 (A5 (xs.take j) ec0) (xs[j]'(by omega))).2.2:=by
  conv=>lhs;rw[hl]
  unfold A5;rw[List.foldl_append]
  congr 1
  exact FX7 (by omega) ec0
 have hs:bN4 (A5 (xs.take i) ec0) xs[i]:=by rw[hr,he];exact IN7 _ (MU7 _ _ h6 h7)
 have:=Lk7 hs h6 h7;rw[p2]at this
 cases this
theorem MW7{p:Nat->Prop}(h:∃n,p n):∃n,p n/\∀k,k<n->¬p k:=by
 obtain⟨n,hn⟩:=h
 induction n using Nat.strongRecOn with
 | ind n ih=>
  by_cases hk:∃k,k<n/\p k
  ·obtain⟨k,h1,h2⟩:=hk;exact ih k h1 h2
  ·exact⟨n,hn,fun k h1 h2=>hk ⟨k,h1,h2⟩⟩
theorem On7{xs:List Opn}(h:∀i (hi:i<xs.length),at4 xs i hi=true){i:Nat}(hi:i<xs.length):bz4 xs (k8 xs ec0) xs[i]=some (m7 (A5 (xs.take i) ec0) xs[i]).1:=by
 have hex:∃j,xs[j]? = some xs[i]:=⟨i,jG hi⟩
 obtain⟨j,hj,hmin⟩:∃j,xs[j]? = some xs[i]/\∀k,k<j->xs[k]? ≠ some xs[i]:=by exact MW7 hex
 have hjl:j<xs.length:=by
  rcases Nat.lt_or_ge j xs.length with h|h
  ·exact h
  ·rw[List.getElem?_eq_none h]at hj;cases hj
 have hji:j<=i:=by
  rcases Nat.lt_or_ge i j with h|h
  ·exact absurd (jG hi) (hmin i h)
  ·exact h
 rw[HW7 j hj hmin (As7 xs ec0).symm,Ca7 xs hjl];rw[jG hjl]at hj;have he:xs[j]=xs[i]:=Option.some.inj hj
 rcases Nat.lt_or_ge j i with hlt|hge
 ·rw[MV7 hi hlt he (h j hjl) (h i hi)]
 ·obtain rfl:j=i:=by omega
  rfl
def m9(xs:List Opn):List Ans:=(xs.zip (k8 xs ec0)).map fun p=>⟨p.1,p.2⟩
theorem CA7(xs:List Opn):(m9 xs).length=xs.length:=by unfold m9;rw[jM,List.length_zip,As7,Nat.min_self]
theorem Ln7{xs:List Opn}{i:Nat}(h:i<xs.length):(m9 xs)[i]? = some ⟨xs[i],(m7 (A5 (xs.take i) ec0) xs[i]).1⟩:=by unfold m9;rw[List.getElem?_map,(List.getElem?_zip_eq_some (z:=(xs[i],(m7 (A5 (xs.take i) ec0) xs[i]).1))).2 ⟨jG h,Ca7 xs h ec0⟩];rfl
theorem Lo7{xs:List Opn}(h:∀i (hi:i<xs.length),at4 xs i hi=true){i:Nat}(hi:i<xs.length)(r:Rpl):okA xs (k8 xs ec0) ⟨xs[i],r⟩=(m7 (A5 (xs.take i) ec0) xs[i]).1.eqB r:=by unfold okA;rw[On7 h hi]
theorem Lp7{xs:List Opn}(h:∀i (hi:i<xs.length),at4 xs i hi=true):∀a∈m9 xs,okA xs (k8 xs ec0) a=true:=fun a ha=>by
 obtain⟨i,hi⟩:=List.getElem?_of_mem ha
 have hl:i<xs.length:=by
  rcases Nat.lt_or_ge i xs.length with h|h
  ·exact h
  ·rw[List.getElem?_eq_none (by rw[CA7];exact h)]at hi;cases hi
 rw[Ln7 hl]at hi;obtain rfl:=Option.some.inj hi;rw[Lo7 h hl,Nx7]
theorem Lq7{xs:List Opn}(h:∀i (hi:i<xs.length),at4 xs i hi=true):C9 (okA xs (k8 xs ec0)) (m9 xs) 0 = -1:=Fv7 (Lp7 h) 0
theorem Hl7{xs:List Opn}(h:∀i (hi:i<xs.length),at4 xs i hi=true){k:Nat}(hk:k<xs.length){r:Rpl}(hr:r≠(m7 (A5 (xs.take k) ec0) xs[k]).1):C9 (okA xs (k8 xs ec0)) ((m9 xs).set k ⟨xs[k],r⟩) 0=k:=by
 have hkl:k<(m9 xs).length:=by rw[CA7];exact hk
 rw[List.set_eq_take_append_cons_drop,if_pos hkl,Cz7 _ _ _ _ fun a ha=>Lp7 h a (List.mem_of_mem_take ha),C9,if_neg,jT,Nat.min_eq_left (Nat.le_of_lt hkl)]
 ·simp
 ·rw[Lo7 h hk];intro e;exact hr ((Nx7 _ _).1 e).symm
structure SameE(e e':Ec):Prop where
 v:e.vs.Perm e'.vs
 s:e.ss.Perm e'.ss
 t:e.ts.Perm e'.ts
 a:e.ar.Perm e'.ar
def gB4(d:Ec):List Int:=aZ4 d.vs.length++(d.vs.map (·.1)).flatMap (enK d)++aZ4 d.ss.length++(d.ss.map (·.1)).flatMap (enS d)++aZ4 d.ts.length++d.ts.flatMap enT++aZ4 d.ar.length++(d.ar.map (·.1)).flatMap enA
theorem SimE.same{d e:Ec}(h:SimE d e):SameE d e:=⟨h.v,h.s,h.t,h.a⟩
structure EnT(e:Ec)(n:Nat):Prop where
 en:EnL e n
 tt:n<=400->∀k,Kx k->bZ4 e k<=n*1048576
def cS4(m:List (Opn×Rpl))(o:Opn)(r:Rpl):List (Opn×Rpl):=if(j5 m o).isSome=true then m else(o,r)::i9 m o
def bA4:List Opn->List Rpl->List (Opn×Rpl)->List (Opn×Rpl)
 | x::xs,r::rs,m=>bA4 xs rs (cS4 m x r)
 | _,_,m=>m
theorem MX7(m:List (Opn×Rpl))(x:Opn)(r:Rpl)(o:Opn):j5 (cS4 m x r) o=(j5 m o).or (if x=o then some r else none):=by
 unfold cS4;by_cases h:(j5 m x).isSome=true
 ·rw[if_pos h];by_cases hx:x=o
  ·subst hx;obtain⟨v,hv⟩:=Option.isSome_iff_exists.1 h;rw[hv];rfl
  ·rw[if_neg hx,Option.or_none]
 ·rw[if_neg h,FQ7];by_cases hx:x=o
  ·subst hx;have:j5 m x=none:=by simpa using h
   rw[if_pos rfl,if_pos rfl,this];rfl
  ·rw[if_neg hx,if_neg hx,Option.or_none]
theorem MY7(o:Opn)(xs:List Opn):∀(rs:List Rpl) (m:List (Opn×Rpl)),xs.length=rs.length->j5 (bA4 xs rs m) o=(j5 m o).or (bz4 xs rs o):=by
 induction xs with
 | nil=>
  intro rs m h
  cases rs with
  | nil=>rw[bA4,bz4,Option.or_none];all_goals(intros;contradiction)
  | cons r rs=>simp at h
 | cons x xs ih=>
  intro rs m h
  cases rs with
  | nil=>simp at h
  | cons r rs=>
   rw[bA4,ih rs _ (by simpa using h),MX7,Option.or_assoc,bz4]
   congr 1
   by_cases hx:x=o
   ·rw[if_pos hx,if_pos hx];rfl
   ·rw[if_neg hx,if_neg hx];rfl
theorem Jz7(x:Opn)(r:Rpl)(xs:List Opn):∀(rs:List Rpl) (m:List (Opn×Rpl)),xs.length=rs.length->bA4 (xs++[x]) (rs++[r]) m=cS4 (bA4 xs rs m) x r:=by
 induction xs with
 | nil=>
  intro rs m h
  cases rs with
  | nil=>rfl
  | cons q rs=>simp at h
 | cons y xs ih=>
  intro rs m h
  cases rs with
  | nil=>simp at h
  | cons q rs=>rw[jK,jK,bA4,bA4,ih rs _ (by simpa using h)]
def bB4(xs:List Opn)(i:Nat):List (Opn×Rpl):=bA4 (xs.take i) (k8 (xs.take i) ec0) []
theorem MZ7{xs:List Opn}{i:Nat}(h:i<xs.length):bB4 xs (i+1)=cS4 (bB4 xs i) xs[i] (m7 (A5 (xs.take i) ec0) xs[i]).1:=by unfold bB4;rw[Ga7 h,List.take_succ_eq_append_getElem h,Jz7 _ _ _ _ _ (As7 _ _).symm]
theorem Lr7(xs:List Opn)(o:Opn):j5 (bB4 xs xs.length) o=bz4 xs (k8 xs ec0) o:=by unfold bB4;rw[List.take_length,MY7 o xs _ _ (As7 _ _).symm];rfl
def fX4(e0:Ec)(l:List ((Int×Int)×Tns)):List It:=(l.filter fun x=>(j5 e0.ar x.1).isNone).map fun x=>r9 x.2.item x.2.cnt
def fY4(e:Ec):It:=⟨bZ4 e 0,bZ4 e 1,bZ4 e 2,bZ4 e 3⟩
def fZ4(e0:Ec):List (Ec×Ec)->List It
 | []=>[]
 | x::l=>fY4 x.2::fX4 e0 x.1.ts++fZ4 e0 l
end Go.Proofs.YtienbkdjkjbelaaGreat
end
