/-
  Requests go on in both economies, and both say the same.
-/
import Derived.Test.YtienbkdjkjbelaaGreatJuRM5
import Derived.Test.YtienbkdjkjbelaaGreatJuRM15
import Derived.Test.YtienbkdjkjbelaaGreatJuRM21
import Derived.Test.YtienbkdjkjbelaaGreatJuRM25
import Derived.Test.YtienbkdjkjbelaaGreatJuRM29
import Derived.Test.YtienbkdjkjbelaaGreatJuRM34
import Derived.Test.YtienbkdjkjbelaaGreatJuRM41
import Derived.Test.YtienbkdjkjbelaaGreatJuRM42
import Derived.Test.YtienbkdjkjbelaaGreatProg
import Derived.Shelf.Sort.Plain
import Derived.Ground.NamesProg
import Derived.Laws.Bits64b
import Derived.Laws.IdiomStrings
import Derived.Lib.SliceRun
import Derived.Shelf.SlIter.Nil
import Derived.Shelf.SlIterI.Nil
import Derived.Shelf.SortM.Plain
import Derived.Shelf.SortM.SortNone
import Derived.Ground.GgzProg
import Derived.Ground.SlgmProg
set_option maxHeartbeats 16000000
set_option maxRecDepth 100000
set_option linter.unusedSimpArgs false
set_option linter.unusedVariables false
section
namespace Go.Proofs.YtienbkdjkjbelaaGreat
open Go.RowKit Go.Sl
def bk4(l:List Opn)(d:Ec):Ec:=l.foldl (fun d o=>(I8 d o).2.2) d
theorem FQ7{xs:List Opn}{i:Nat}(h:i<xs.length)(e:Ec):A8 (xs.take (i+1)) e=(p8 (A8 (xs.take i) e) xs[i]).2.2:=by unfold A8;rw[List.take_succ_eq_append_getElem h,List.foldl_append];rfl
theorem HJ7{xs:List Opn}{i:Nat}(h:i<xs.length)(d:Ec):bk4 (xs.take (i+1)) d=(I8 (bk4 (xs.take i) d) xs[i]).2.2:=by unfold bk4;rw[List.take_succ_eq_append_getElem h,List.foldl_append];rfl
def gj4(I:Ec->Nat->Prop):Prop:=∀(e:Ec) (n:Nat) (o:Opn),I e n->(∀x∈e.vs,(∀o∈x.2.L,MayP o)/\x.2.L.length<=32)->(∀x∈(p8 e o).2.2.vs,(∀o∈x.2.L,MayP o)/\x.2.L.length<=32)->EOk (p8 e o).2.2 (n+1)->I (p8 e o).2.2 (n+1)
def GoR(I:Ec->Nat->Prop)(W:World)(Lr:List HP)(eb xb:Nat)(xs:List Opn)(d e:Ec)(n:Nat)(v:Value)(w:World):Prop:=
 ∃i:Nat,v=.I i/\i<=xs.length/\GOk (bk4 (xs.take i) d) (A8 (xs.take i) e) (n+i)/\I (A8 (xs.take i) e) (n+i)/\St W (ecP eb (A8 (xs.take i) e)::aG4 xb (bk4 (xs.take i) d)::Lr) w
section
variable{W w:World}{L R:List HP}{eb xb:Nat}{d e:Ec}{i:Nat}{k u:ByteArray}{x0 x1 x2 x3 cl sq:Int}{b:Bool}
end
theorem EN7{xb:Nat}{d d2:Ec}{i:Nat}(hi:i<=5000){kd cl sq:Int}{ak aw tk tw:ByteArray}{it ct pr:Int}{bu:Bool}{id:Int}(hd0:DOk d ak i){r0 r1 r2 r3 r4 r5:Int}{b:Bool}(h:I8 d ⟨kd,cl,sq,ak,aw,tk,tw,it,ct,pr,bu,id⟩=(⟨r0,r1,⟨r2,r3,r4,r5⟩⟩,b,d2))(W w:World)(R:List HP)(hS:St W (aG4 xb d::R) w):
  Calls Tryz.prog 25 #[.P xb,oV kd cl sq ak aw tk tw it ct pr bu id] w fun x w'=>x=.returned (.tuple #[rV r0 r1 r2 r3 r4 r5,.bool b])/\St W (aG4 xb d2::R) w':=by
 have h1:=Mu7 hi (kd:=kd) (cl:=cl) (sq:=sq) (aw:=aw) (tk:=tk) (tw:=tw) (it:=it) (ct:=ct) (pr:=pr) (bu:=bu) (id:=id) hd0 W w R hS;rw[h]at h1;exact h1
theorem EO7{eb:Nat}{e e2:Ec}{i:Nat}(hE:EOk e i)(hi:i<=1000000){kd cl sq:Int}{ak aw tk tw:ByteArray}{it ct pr:Int}{bu:Bool}{id:Int}{r0 r1 r2 r3 r4 r5:Int}{b:Bool}(h:p8 e ⟨kd,cl,sq,ak,aw,tk,tw,it,ct,pr,bu,id⟩=(⟨r0,r1,⟨r2,r3,r4,r5⟩⟩,b,e2))(W w:World)(R:List HP)(hS:St W (ecP eb e::R) w):
  Calls Tryz.prog 27 #[.P eb,oV kd cl sq ak aw tk tw it ct pr bu id] w fun x w'=>EOk e2 (i+1)/\x=.returned (.tuple #[rV r0 r1 r2 r3 r4 r5,.bool b])/\St W (ecP eb e2::R) w':=Mi7 hE hi h W w R hS
def TeR(W:World)(R:List HP)(E:Ev)(m1 r:Nat)(v4:Value)(w:World):Prop:=
 ∃done todo:List (ByteArray×Nat),(done++todo).Perm (j9 E)/\St W (eN4 v4 (done.map fun y=>fI4 (vAt E y.1))::itR eS eN r m1 (j9 E) todo::m6 E::R) w
def dL4(k:Int):List (ByteArray×Vs)->Int
 | []=>0
 | x::l=>dh4 x.2 k+dL4 k l
def bX4(e:Ec)(k:Int):Int:=dL4 k e.vs
def cc4(e:Ec):Prop:=∀x∈e.vs,(∀o∈x.2.L,MayP o)/\x.2.L.length<=32
def gs4(o:Opn)(r:Rpl)(b:Bool)(k:Int):Int:=
 if b=true/\r.err=0 then(if o.kind=1\/o.kind=6 then(if k=o.item then o.cnt else 0)else if o.kind=2 then -(if k=o.item then o.cnt else 0)else 0)else 0
section
variable{e:Ec}{o:Opn}{n:Nat}
theorem Oz7(hm:t6 o=true)(h:o.kind=1\/o.kind=2\/o.kind=6):Kx o.item/\1<=o.cnt/\o.cnt<=1048576/\x9 o.aw=true:=by
 unfold t6 D7 af4 at hm;simp only[jB]at hm;obtain⟨⟨_,_,_,_,_,hw⟩,hk⟩:=hm
 have hc:E9 o=true:=by
  unfold G7 at hk
  rcases h with h|h|h
  ·rw[if_pos h]at hk;unfold r7 at hk;simp only[jB]at hk;exact hk.1
  ·rw[if_neg (by omega),if_pos h]at hk;unfold K6 at hk;simp only[jB]at hk;exact hk.2.1
  ·rw[if_neg (by omega),if_neg (by omega),if_neg (by omega),if_neg (by omega),if_neg (by omega),if_pos h]at hk;unfold r7 at hk;simp only[jB]at hk;exact hk.1
 obtain⟨h0,h4,c0,c1⟩:=Cj7 hc;exact⟨⟨h0,by omega⟩,c0,c1,hw⟩
end
theorem fe4{W w:World}{R:List HP}{xb:Nat}(h:St W (xeB xb (.slice none 0 0) (.slice none 0 0) (.slice none 0 0) (.slice none 0 0)::R) w):St W (aG4 xb ec0::R) w:=by have h1:=h.rowNil (k:=2) (T:=144);have h2:=h1.rowNil (k:=8) (T:=97);have h3:=h2.rowNil (k:=8) (T:=141);have h4:St W (sats []::_) w:=St.shutS [] h3;have h5:=h4.rowNil (k:=2) (T:=137);have h6:St W (xrP (.slice none 0 0) []::C6 []::xsP (.slice none 0 0) []::xtP (.slice none 0 0) []::xmP (.slice none 0 0) []::xeB xb (.slice none 0 0) (.slice none 0 0) (.slice none 0 0) (.slice none 0 0)::R) w:=h5;exact cl4 (D:=[]) (d:=ec0) rfl (h6.s _)
abbrev fL4(b:Nat)(s0 s1 s2 s3:Int):HP:=blk b [.I s0,.I s1,.I s2,.I s3] 33
def TlR(W:World)(Lr:List HP)(eb xb sb:Nat)(xs:List Opn)(v:Value)(w:World):Prop:=
 ∃i:Nat,v=.I i/\i<=xs.length/\GOk (bk4 (xs.take i) ec0) (A8 (xs.take i) ec0) i/\(∀k,Kx k->bX4 (A8 (xs.take i) ec0) k<=i*1048576) /\
  St W (ecP eb (A8 (xs.take i) ec0)::aG4 xb (bk4 (xs.take i) ec0)::fL4 sb (bX4 (A8 (xs.take i) ec0) 0) (bX4 (A8 (xs.take i) ec0) 1) (bX4 (A8 (xs.take i) ec0) 2) (bX4 (A8 (xs.take i) ec0) 3)::Lr) w
end Go.Proofs.YtienbkdjkjbelaaGreat
end
section
namespace Go.Proofs.YtienbkdjkjbelaaGreat
open Go.Shelf
def Tryz.sortInts_ren:Go.Shelf.Ren:=⟨fun|189=>85|125=>127|257=>126|128=>171|129=>172|294=>162|295=>163|296=>164|297=>165|298=>166|299=>167|216=>168|300=>169|301=>170|328=>207|329=>208|330=>209|331=>210|332=>211|215=>130|343=>230|n=>n,fun|28=>115|3=>3|46=>163|0=>0|51=>265|53=>162|4=>4|183=>259|182=>258|131=>188|5=>5|9=>9|218=>296|222=>300|228=>317|229=>196|n=>n,fun|n=>n⟩
end Go.Proofs.YtienbkdjkjbelaaGreat
end
section
namespace Go.Proofs.YtienbkdjkjbelaaGreat
open Go.Shelf Go.RowKit Go.Lib Go.Sort Go.Sl
abbrev eZ(z:Int):Value:=.I z
def KzR{ν:Type}(W:World)(ev:ν->Value)(X:List Int->HP)(r b:Nat)(l:List (Int×ν))(L:List HP)(w:World):Prop:=
 ∃(ss:List Int) (todo:List (Int×ν)),(ss++todo.map (·.1)).Perm (l.map (·.1))/\St W (itR eZ ev r b l todo::X ss::L) w
def apZ(bB:Nat)(ss:List Int):HP:=fun f=>∃v,sep (blk bB [v] 115) (row v 1 3 ss.length (ss.map eZ)) f
def fM4(l:List Int):List Int:=l.mergeSort fun x y=>decide (x<=y)
end Go.Proofs.YtienbkdjkjbelaaGreat
end
section
namespace Go.Proofs.YtienbkdjkjbelaaGreat
open Go.RowKit Go.Sl
def dw4:Nat->Nat->List Int
 | 0,u=>[(u:Int)]
 | f+1,u=>if 128<=u then((u%128+128:Nat):Int)::dw4 f (u / 128)else[(u:Int)]
def fN4(n:Int):Nat:=if 4611686018427387904<n then 4611686018427387904 else if 0<n then n.toNat else 0
def aV4(n:Int):List Int:=dw4 8 (fN4 n)
abbrev u8s(l:List Int):List Value:=l.map (Value.int .u8)
abbrev byR(v:Value)(l:List Int):HP:=row v 1 5 l.length (u8s l)
def NmR(W:World)(L:List HP)(t:List Int)(v3 v4:Value)(w:World):Prop:=
 ∃(f u:Nat) (d:List Int),v3=.int .u64 u/\u<128^(f+1)/\u<=4611686018427387904/\f<=8/\d.length<=8-f/\d++dw4 f u=t/\St W (byR v4 d::L) w
end Go.Proofs.YtienbkdjkjbelaaGreat
end
section
namespace Go.Sl
open Go.RowKit
def cw4(s:ByteArray):List Int:=s.data.toList.map fun b=>(b.toNat:Int)
def sbR(g:Nat)(s:ByteArray):HP:=fun f=>∃o:Obj,(∀w:World,w.heap[g]? = some o->∀(j:Nat) (u:Value),((cw4 s).map (Value.int .u8))[j]? = some u->w.cell? ⟨g,j,none⟩=some u)/\aL4 g o f
section
variable{P:Program}{ops:Array Oper}{Q:Exit->Act->World->Prop}{a:Act}{w:World}{W:World}{L:List HP}{rest:List Oper}{o:Oper}
theorem d8.sb{g:Nat}{s:ByteArray}:d8 (sbR g s::L) g 0 ((cw4 s).map (Value.int .u8)):=fun j v hj W w hS=>by obtain⟨o,hS⟩:=St.ex hS;obtain⟨h1,hS⟩:=St.and hS;rw[Nat.zero_add];exact h1 w (hS.get .head) j v hj
end
end Go.Sl
namespace Go.Proofs.YtienbkdjkjbelaaGreat
open Go.RowKit Go.Sl
def NsR(W:World)(L:List HP)(ns:List Int)(v3 v4:Value)(w:World):Prop:=
 ∃i:Nat,v4=.I i/\i<=ns.length/\St W (byR v3 ((ns.take i).flatMap aV4)::L) w
def eh4(s:ByteArray):List Int:=aV4 s.size++cw4 s
def bK4(ns:List Int):List Int:=ns.flatMap aV4
def fO4(h:Hd):List Int:=eh4 h.who++bK4 [h.has.x0,h.has.x1,h.has.x2,h.has.x3]
def ff4(b:Bool):Int:=if b=true then 1 else 0
def fP4(o:Ord):List Int:=aV4 o.id++eh4 o.who++bK4 [ff4 o.buy,o.item,o.cnt,o.price]
def fQ4(p:Ps)(L:List Ord)(n:Int):List Int:=aV4 (hdL p).length++(hdL p).flatMap fO4++aV4 L.length++L.flatMap fP4++aV4 n
def CtR{α:Type}(W:World)(F:List HP)(f:α->List Int)(base:List Int)(xs:List α)(v3 v4:Value)(w:World):Prop:=
 ∃k:Nat,v4=.I k/\k<=xs.length/\St W (byR v3 (base++(xs.take k).flatMap f)::F) w
def wrR(wb:Nat)(d:List Int):HP:=fun f=>∃v:Value,sats [blk wb [v] 105,byR v d] f
section
variable{W w:World}{wb:Nat}{d:List Int}{R:List HP}
end
def WnR(W:World)(L:List HP)(wb:Nat)(d:List Int)(ns:List Int)(v:Value)(w:World):Prop:=
 ∃i:Nat,v=.I i/\i<=ns.length/\St W (wrR wb (d++(ns.take i).flatMap aV4)::L) w
def WuR(W:World)(L:List HP)(wb:Nat)(t:List Int)(v:Value)(w:World):Prop:=
 ∃(f u:Nat) (d:List Int),v=.int .u64 u/\u<128^(f+1)/\u<=4611686018427387904/\d.length<=100000000+(8-f)/\f<=8/\d++dw4 f u=t/\St W (wrR wb d::L) w
end Go.Proofs.YtienbkdjkjbelaaGreat
end
section
namespace Go.Sl
open Go.RowKit
section
variable{P:Program}{ops:Array Oper}{Q:Exit->Act->World->Prop}{a:Act}{w:World}{rest:List Oper}{o:Oper}
end
end Go.Sl
namespace Go.Proofs.YtienbkdjkjbelaaGreat
open Go.RowKit Go.Sl
def WbR(W:World)(F:List Int->List HP)(d:List Int)(s:ByteArray)(v:Value)(w:World):Prop:=
 (v=.I 0/\St W (F d) w)\/(v=.I 1/\St W (F (d++eh4 s)) w)
def CwR{α:Type}(W:World)(F:List HP)(wb:Nat)(f:α->List Int)(base:List Int)(xs:List α)(v:Value)(w:World):Prop:=
 ∃k:Nat,v=.I k/\k<=xs.length/\St W (wrR wb (base++(xs.take k).flatMap f)::F) w
abbrev Rb:=Option Addr×Nat×List Int
abbrev rbV(x:Rb):Value:=.slice x.1 x.2.2.length x.2.1
def cx4(r:List Int):List Int:=aV4 r.length++r
def fg4(rs:List Rb):List Int:=rs.flatMap fun x=>cx4 x.2.2
def gt4(W:World)(R:List HP)(wb:Nat)(d:List Int)(rs:List Rb)(v:Value)(w:World):Prop:=
 ∃k:Nat,v=.I k/\k<=rs.length/\St W (wrR wb (d++fg4 (rs.take k))::R) w
structure RpOk(r:Rpl):Prop where
 e0:0<=r.err
 e1:r.err<=19
 i0:0<=r.id
 i1:r.id<=1099511627776
 has:s8 r.has=true
def rpB(r:Rpl):List Int:=bK4 [r.err,r.id]++bK4 [r.has.x0,r.has.x1,r.has.x2,r.has.x3]
def cP4(x:Int×Int):Prop:=(1<=x.1/\x.1<=1048576)/\1<=x.2/\x.2<=1099511627776
structure TnOk(t:Tns):Prop where
 w:cP4 (t.client,t.seq)
 ak:t.ak.size<=16
 aw:t.aw.size<=16
 tk:t.tk.size<=16
 tw:t.tw.size<=16
 i0:0<=t.item
 i1:t.item<4
 c0:1<=t.cnt
 c1:t.cnt<=1048576
structure EnOk(e:Ec)(n:Nat):Prop where
 ok:EOk e n
 vk:∀x∈e.vs,x.1.size<=16
 sw:∀x∈e.ss,cP4 (x.1,x.2.1)
 sr:∀x∈e.ss,RpOk x.2.2
 tw:∀x∈e.ts,TnOk x.2/\x.1=(x.2.client,x.2.seq)
 aw:∀x∈e.ar,cP4 x.1
 lv:e.vs.length<=n
 ls:e.ss.length<=n
 lt:e.ts.length<=n
 la:e.ar.length<=n
theorem EnOk.on{e:Ec}{n:Nat}(h:EnOk e n):EnOk e (n+1):=⟨fun x hx=>(h.ok x hx).on,h.vk,h.sw,h.sr,h.tw,h.aw,Nat.le_succ_of_le h.lv,Nat.le_succ_of_le h.ls,Nat.le_succ_of_le h.lt,Nat.le_succ_of_le h.la⟩
theorem dM4:RpOk rp0:=⟨by decide,by decide,by decide,by decide,rfl⟩
theorem z00:(0:Int)<=0:=by decide
theorem z19:(0:Int)<=19:=by decide
theorem z40:(0:Int)<=1099511627776:=by decide
theorem Nb7{V:Vs}{o:Opn}(hp:K5 V.ps)(hn:1<=V.n):RpOk (doV V o).1:=by
 unfold doV;split
 ·have:J8 V.ps o.aw (r9 o.item o.cnt)=0\/J8 V.ps o.aw (r9 o.item o.cnt)=6\/J8 V.ps o.aw (r9 o.item o.cnt)=1:=by
   unfold J8
   repeat' split
   all_goals simp
  exact⟨by show 0<=J8 V.ps o.aw (r9 o.item o.cnt);omega,by show J8 V.ps o.aw (r9 o.item o.cnt)<=19;omega,z00,z40,rfl⟩
 split
 ·have:m9 V.ps o.aw (r9 o.item o.cnt)=0\/m9 V.ps o.aw (r9 o.item o.cnt)=14\/m9 V.ps o.aw (r9 o.item o.cnt)=1:=by
   unfold m9
   repeat' split
   all_goals simp
  exact⟨by show 0<=m9 V.ps o.aw (r9 o.item o.cnt);omega,by show m9 V.ps o.aw (r9 o.item o.cnt)<=19;omega,z00,z40,rfl⟩
 split
 ·have:((w9 V (aj4 o)).2.1=0\/(w9 V (aj4 o)).2.1=1\/(w9 V (aj4 o)).2.1=6\/(w9 V (aj4 o)).2.1=14)/\0<=(w9 V (aj4 o)).1/\(w9 V (aj4 o)).1<=1099511627776:=by
   unfold w9;split
   ·simp
   ·split
    ·simp
    ·rename_i h
     split
     ·refine⟨.inl rfl,by show 0<=V.n;omega,by show V.n<=1099511627776;omega⟩
     ·simp
  obtain⟨h1,h2,h3⟩:=this;exact⟨by show 0<=(w9 V (aj4 o)).2.1;omega,by show(w9 V (aj4 o)).2.1<=19;omega,h2,h3,rfl⟩
 split
 ·have:(A6 V o.aw o.id).1=0\/(A6 V o.aw o.id).1=7:=by
   unfold A6;split
   ·exact .inl rfl
   ·exact .inr rfl
  exact⟨by show 0<=(A6 V o.aw o.id).1;omega,by show(A6 V o.aw o.id).1<=19;omega,z00,z40,rfl⟩
 split
 ·exact⟨z00,z19,z00,z40,hp _⟩
 split
 ·exact dM4
 ·exact dM4
theorem Iz7{u:ByteArray}(h:x9 u=true):u.size<=16:=Kl7 h
theorem Ha7{o:Opn}(hm:t6 o=true):cP4 (o.client,o.seq)/\o.ak.size<=16/\o.aw.size<=16:=by unfold t6 D7 af4 at hm;simp only[jB,decide_eq_true_eq]at hm;obtain⟨⟨h1,h2,h3,h4,h5,h6⟩,_⟩:=hm;exact⟨⟨⟨h1,h2⟩,h3,h4⟩,Iz7 h5,Iz7 h6⟩
theorem HK7{o:Opn}(hm:t6 o=true)(hk:o.kind=2):TnOk (cr4 o):=by obtain⟨h1,h2,h3⟩:=Ha7 hm;have hc:=Oz7 hm (.inr (.inl hk));unfold t6 G7 at hm;rw[if_neg (by omega),if_pos hk]at hm;unfold K6 af4 at hm;simp only[jB,decide_eq_true_eq]at hm;obtain⟨_,⟨h4,h5⟩,_⟩:=hm;exact⟨h1,h2,h3,Iz7 h4,Iz7 h5,hc.1.1,by have:=hc.1.2;show o.item<4;omega,hc.2.1,hc.2.2.1⟩
theorem FR7{κ ν:Type}[DecidableEq κ](l:List (κ×ν))(k:κ):(i9 l k).length<=l.length:=List.length_filter_le _ _
theorem CG7{κ ν:Type}[DecidableEq κ]{l:List (κ×ν)}{k:κ}{x:κ×ν}(h:x∈i9 l k):x∈l:=(List.mem_filter.1 h).1
theorem EnOk.app{e:Ec}{n:Nat}(h:EnOk e n)(o:Opn)(hok:EOk (p8 e o).2.2 (n+1)):EnOk (p8 e o).2.2 (n+1):=by
 cases hp:A7 e o with
 | mk r b=>
 cases b with
 | true=>
  rw[BE7 hp];exact h.on
 | false=>
  obtain⟨rfl,hm⟩:=AT7 hp;rw[AM7 hp]at hok ⊢;dsimp only at hok ⊢;obtain⟨hw,hak,haw⟩:=Ha7 hm
  have hV:K5 (atV e o.ak).ps/\1<=(atV e o.ak).n:=by
   unfold atV
   cases hg:j5 e.vs o.ak with
   | none=>exact⟨FE7,by decide⟩
   | some V=>exact⟨(h.ok _ (Az7 hg)).ok,(h.ok _ (Az7 hg)).n0⟩
  have hrp:=Nb7 (o:=o) hV.1 hV.2;have hlv:=h.lv;have hls:=h.ls;have hlt:=h.lt;have hla:=h.la;refine⟨hok,?_,?_,?_,?_,?_,?_,?_,?_,?_⟩
  ·intro x hx;have hx2:x∈(if w7 (doV (atV e o.ak) o).2=true then i9 e.vs o.ak else(o.ak,(doV (atV e o.ak) o).2)::i9 e.vs o.ak):=hx;split at hx2
   ·exact h.vk x (CG7 hx2)
   ·rcases List.mem_cons.1 hx2 with rfl|hx2
    ·exact hak
    ·exact h.vk x (CG7 hx2)
  ·intro x hx;have hx2:x∈doS e o (doV (atV e o.ak) o).1:=hx;unfold doS at hx2;split at hx2
   ·exact h.sw x hx2
   ·rcases List.mem_cons.1 hx2 with rfl|hx2
    ·exact hw
    ·exact h.sw x (CG7 hx2)
  ·intro x hx;have hx2:x∈doS e o (doV (atV e o.ak) o).1:=hx;unfold doS at hx2;split at hx2
   ·exact h.sr x hx2
   ·rcases List.mem_cons.1 hx2 with rfl|hx2
    ·exact hrp
    ·exact h.sr x (CG7 hx2)
  ·intro x hx;have hx2:x∈doT e o (doV (atV e o.ak) o).1:=hx;unfold doT at hx2;split at hx2
   ·rename_i h2
    rcases List.mem_cons.1 hx2 with rfl|hx2
    ·exact⟨HK7 hm h2.1,rfl⟩
    ·exact h.tw x (CG7 hx2)
   ·split at hx2
    ·exact h.tw x (CG7 hx2)
    ·exact h.tw x hx2
  ·intro x hx;have hx2:x∈doA e o:=hx;unfold doA at hx2;split at hx2
   ·rcases List.mem_cons.1 hx2 with rfl|hx2
    ·exact hw
    ·exact h.aw x (CG7 hx2)
   ·exact h.aw x hx2
  ·show(if w7 (doV (atV e o.ak) o).2=true then i9 e.vs o.ak else(o.ak,(doV (atV e o.ak) o).2)::i9 e.vs o.ak).length<=n+1
   have:=FR7 e.vs o.ak;split
   ·omega
   ·rw[jC];omega
  ·show(doS e o (doV (atV e o.ak) o).1).length<=n+1
   have:=FR7 e.ss o.client;unfold doS;split
   ·omega
   ·rw[jC];omega
  ·show(doT e o (doV (atV e o.ak) o).1).length<=n+1
   have:=FR7 e.ts (o.client,o.seq);unfold doT;split
   ·rw[jC];omega
   ·split <;> omega
  ·show(doA e o).length<=n+1
   have:=FR7 e.ar (o.client,o.seq);unfold doA;split
   ·rw[jC];omega
   ·omega
end Go.Proofs.YtienbkdjkjbelaaGreat
end
section
namespace Go.Proofs.YtienbkdjkjbelaaGreat
open Go.Shelf
def Tryz.keysV_ren:Go.Shelf.Ren:=⟨fun|7=>79|10=>122|n=>n,fun|23=>107|26=>9|3=>114|28=>158|0=>0|27=>157|33=>191|4=>4|n=>n,fun|n=>n⟩
end Go.Proofs.YtienbkdjkjbelaaGreat
end
section
namespace Go.Proofs.YtienbkdjkjbelaaGreat
open Go.RowKit Go.Maps Go.Sort Go.Shelf Go.Sl
section
variable{ν:Type}{ev:ν->Value}{W w:World}{L:List HP}{b g:Nat}
end
def ksE(e:Ec):List ByteArray:=br4 (e.vs.map (·.1))
abbrev gu4(v:Value)(l:List ByteArray):HP:=row v 1 9 l.length (l.map eS)
end Go.Proofs.YtienbkdjkjbelaaGreat
end
section
namespace Go.Proofs.YtienbkdjkjbelaaGreat
open Go.RowKit Go.Sl
def bl4:List (ByteArray×Vs)->Nat
 | []=>0
 | x::l=>x.2.ps.length+bl4 l
theorem KV7{l l':List (ByteArray×Vs)}(h:l.Perm l'):bl4 l=bl4 l':=by
 induction h with
 | nil=>rfl
 | cons x _ ih=>rw[bl4,bl4,ih]
 | swap x y l=>rw[bl4,bl4,bl4,bl4];omega
 | trans _ _ h1 h2=>rw[h1,h2]
theorem Mw7{l:List (ByteArray×Vs)}(hn:(l.map (·.1)).Nodup)(u:ByteArray):bl4 l=((j5 l u).getD vs0).ps.length+bl4 (i9 l u):=by
 cases hg:j5 l u with
 | none=>rw[BI7 (BO7 hg)];show _=0+_;omega
 | some V=>rw[KV7 (BV7 hn hg)];rfl
theorem Mx7{p:Ps}{N:Nat}(h:PsW p N):PsW p p.length:=⟨h.nd,h.nz,h.who,Nat.le_refl _⟩
theorem KW7{V:Vs}{i:Nat}{o:Opn}(h:VOk V.ps V.n i)(hL:∀x∈V.L,MayP x)(hl:V.L.length<=32):(doV V o).2.ps.length<=V.ps.length+100:=by
 have hw:=Mx7 h.w;unfold doV;split
 ·have:=(FH7 hw o.aw (r9 o.item o.cnt)).len;show(G8 V.ps o.aw (r9 o.item o.cnt)).length<=_
  omega
 split
 ·have:=(Dc7 hw o.aw (r9 o.item o.cnt)).len;show(s5 V.ps o.aw (r9 o.item o.cnt)).length<=_
  omega
 split
 ·exact(Km7 (o:=aj4 o) hw hL hl).len
 split
 ·exact(Kn7 (who:=o.aw) (id:=o.id) hw hL).len
 split
 ·show V.ps.length<=_
  omega
 split
 ·have:=(FH7 hw o.aw (r9 o.item o.cnt)).len;show(G8 V.ps o.aw (r9 o.item o.cnt)).length<=_
  omega
 ·show V.ps.length<=_
  omega
structure EnL(e:Ec)(n:Nat):Prop where
 en:EnOk e n
 nd:(e.vs.map (·.1)).Nodup
 ln:bl4 e.vs<=100*n
theorem KX7{e:Ec}(hn:(e.vs.map (·.1)).Nodup)(k:ByteArray)(V:Vs):((aK4 e k V).vs.map (·.1)).Nodup:=by
 show((if w7 V=true then i9 e.vs k else(k,V)::i9 e.vs k).map (·.1)).Nodup
 have h1:((i9 e.vs k).map (·.1)).Nodup:=hn.sublist (List.filter_sublist.map _);split
 ·exact h1
 ·rw[List.map_cons,List.nodup_cons];refine⟨fun h=>?_,h1⟩;obtain⟨x,hx,hk⟩:=List.mem_map.1 h;have:=(List.mem_filter.1 hx).2;simp only[ne_eq,decide_not,Bool.not_eq_eq_eq_not,Bool.not_true,decide_eq_false_iff_not]at this;exact this hk
theorem EnL.app{e:Ec}{n:Nat}(h:EnL e n)(he:cc4 e)(o:Opn)(hok:EOk (p8 e o).2.2 (n+1)):EnL (p8 e o).2.2 (n+1):=by
 refine⟨h.en.app o hok,?_,?_⟩
 ·cases hp:A7 e o with
  | mk r b=>
  cases b with
  | true=>rw[BE7 hp];exact h.nd
  | false=>
   obtain⟨rfl,hm⟩:=AT7 hp;rw[AM7 hp];exact KX7 h.nd _ _
 ·cases hp:A7 e o with
  | mk r b=>
  cases b with
  | true=>rw[BE7 hp];have:=h.ln;show bl4 e.vs<=_;omega
  | false=>
   obtain⟨rfl,hm⟩:=AT7 hp;rw[AM7 hp];show bl4 (if w7 (doV (atV e o.ak) o).2=true then i9 e.vs o.ak else(o.ak,(doV (atV e o.ak) o).2)::i9 e.vs o.ak)<=_
   have h1:=Mw7 h.nd o.ak;have h2:=h.ln
   have h3:(doV (atV e o.ak) o).2.ps.length<=(atV e o.ak).ps.length+100:=by
    unfold atV
    cases hg:j5 e.vs o.ak with
    | none=>exact KW7 (i:=0) (V:=vs0) ex4 (fun x hx=>(by cases hx)) (Nat.zero_le _)
    | some V=>
     have hm:=Az7 hg;exact KW7 (h.en.ok _ hm) (he _ hm).1 (he _ hm).2
   unfold atV at h3 ⊢;split
   ·omega
   ·show(doV ((j5 e.vs o.ak).getD vs0) o).2.ps.length+bl4 (i9 e.vs o.ak)<=_
    omega
def enK(e:Ec)(k:ByteArray):List Int:=cx4 (cw4 k)++cx4 (fQ4 (atV e k).ps (atV e k).L (atV e k).n)
abbrev sbV(g:Nat)(s:ByteArray)(c:Nat):Value:=.S g s.size c
def enS(e:Ec)(c:Int):List Int:=bK4 [c,((j5 e.ss c).getD (0,rp0)).1]++cx4 (rpB ((j5 e.ss c).getD (0,rp0)).2)
def enT(x:(Int×Int)×Tns):List Int:=bK4 [x.2.client,x.2.seq]++(cx4 (cw4 x.2.ak)++(cx4 (cw4 x.2.aw)++(cx4 (cw4 x.2.tk)++cx4 (cw4 x.2.tw))))++bK4 [x.2.item,x.2.cnt]
def enA(k:Int×Int):List Int:=bK4 [k.1,k.2]
def gk4(e:Ec)(d:List Int):Prop:=∃(T:List ((Int×Int)×Tns)) (A:List (Int×Int)),T.Perm e.ts/\Asc ltW T/\A.Perm (e.ar.map (·.1))/\A.Pairwise (fun x y=>ltW x y=true) /\
 d=aV4 e.vs.length++(ksE e).flatMap (enK e)++aV4 e.ss.length++(fM4 (e.ss.map (·.1))).flatMap (enS e)++aV4 e.ts.length++T.flatMap enT++aV4 e.ar.length++A.flatMap enA
structure VkOk(V:Vs):Prop where
 ok:K5 V.ps
 w:PsW V.ps 60000
 n0:1<=V.n
 n1:V.n<=1099511627777
structure EncOk(e:Ec):Prop where
 nd:(e.vs.map (·.1)).Nodup
 vk:∀x∈e.vs,x.1.size<=16
 ok:∀x∈e.vs,VkOk x.2
 sw:∀x∈e.ss,cP4 (x.1,x.2.1)
 sr:∀x∈e.ss,RpOk x.2.2
 tw:∀x∈e.ts,TnOk x.2/\x.1=(x.2.client,x.2.seq)
 aw:∀x∈e.ar,cP4 x.1
 lv:e.vs.length<=10000
 ls:e.ss.length<=10000
 lt:e.ts.length<=10000
 la:e.ar.length<=10000
 lk:((ksE e).flatMap (enK e)).length<=6000000
abbrev zrR(v:Value)(l:List Int):HP:=row v 1 3 l.length (l.map eZ)
abbrev waR(v:Value)(l:List (Int×Int)):HP:=row v 2 127 l.length (l.flatMap whC)
def bL4(e:Ec)(o:Opn):Prop:=t6 o=false\/∃q r,j5 e.ss o.client=some (q,r)/\o.seq<=q
theorem KY7{e:Ec}{o:Opn}(h:bL4 e o)(h6:o.kind≠6)(h7:o.kind≠7):(A7 e o).2=true:=by
 unfold A7
 rcases h with h|⟨q,r,h,hq⟩
 ·rw[if_pos h]
 ·split
  ·rfl
  ·first|rw[if_neg h6,if_neg h7,h]|rw[h]
   simp only;by_cases h1:o.seq<q
   ·rw[if_pos h1]
   ·rw[if_neg h1,if_pos (by omega)]
theorem KZ7{e:Ec}{o:Opn}(h:(A7 e o).2=true)(h6:o.kind≠6)(h7:o.kind≠7):bL4 e o:=by
 unfold A7 at h;split at h
 ·rename_i hm
  exact .inl hm
 ·try rw[if_neg h6,if_neg h7]at h
  cases hg:j5 e.ss o.client with
  | none=>rw[hg]at h;cases h
  | some x=>
   obtain⟨q,r⟩:=x;rw[hg]at h;simp only at h;refine .inr ⟨q,r,hg,?_⟩;by_cases h1:o.seq<q
   ·omega
   ·rw[if_neg h1]at h;by_cases h2:o.seq=q
    ·omega
    ·rw[if_neg h2]at h;cases h
theorem FS7(e:Ec)(o:Opn)(r:Rpl)(c:Int):j5 (doS e o r) c=if o.kind=6\/o.kind=7 then j5 e.ss c else if o.client=c then some (o.seq,r)else j5 e.ss c:=by
 unfold doS;split
 ·rfl
 ·rw[FJ7]
theorem My7(e:Ec)(o:Opn)(h6:o.kind≠6)(h7:o.kind≠7):bL4 (p8 e o).2.2 o:=by
 cases hp:A7 e o with
 | mk r b=>
 cases b with
 | true=>
  rw[BE7 hp];exact KZ7 (by rw[hp]) h6 h7
 | false=>
  obtain⟨rfl,hm⟩:=AT7 hp;rw[AM7 hp];refine .inr ⟨o.seq,(doV (atV e o.ak) o).1,?_,Int.le_refl _⟩;show j5 (doS e o _) o.client=_
  rw[FS7,if_neg (by omega),if_pos rfl]
theorem NT7{e:Ec}{o:Opn}(h:bL4 e o)(p:Opn):bL4 (p8 e p).2.2 o:=by
 cases hp:A7 e p with
 | mk r b=>
 cases b with
 | true=>rw[BE7 hp];exact h
 | false=>
  obtain⟨rfl,hm⟩:=AT7 hp;rw[AM7 hp]
  rcases h with h|⟨q,r,hg,hq⟩
  ·exact .inl h
  ·by_cases hk:p.kind=6\/p.kind=7
   ·refine .inr ⟨q,r,?_,hq⟩;show j5 (doS e p _) o.client=_
    rw[FS7,if_pos hk,hg]
   ·by_cases hc:p.client=o.client
    ·refine .inr ⟨p.seq,(doV (atV e p.ak) p).1,?_,?_⟩
     ·show j5 (doS e p _) o.client=_
      rw[FS7,if_neg hk,if_pos hc]
     ·unfold A7 at hp;rw[if_neg (by rw[hm];exact Bool.noConfusion),if_neg (by omega),if_neg (by omega),hc,hg]at hp;simp only at hp;by_cases h1:p.seq<q
      ·rw[if_pos h1]at hp;cases hp
      ·omega
    ·refine .inr ⟨q,r,?_,hq⟩;show j5 (doS e p _) o.client=_
     rw[FS7,if_neg hk,if_neg hc,hg]
theorem IA7:∀(l:List Opn) {e:Ec} {o:Opn},bL4 e o->bL4 (A8 l e) o
 | [],_,_,h=>h
 | p::l,e,o,h=>IA7 l (NT7 h p)
theorem fh4(n:Int):bits .and .i64 n 65535=n%65536:=by
 have h7:(BitVec.ofInt 64 65535).toNat=2^16-1:=by decide
 have key:(BitVec.ofInt 64 n &&& BitVec.ofInt 64 65535).toNat=(n%((2^64:Nat):Int)).toNat%2^16:=by rw[BitVec.toNat_and,BitVec.toNat_ofInt,h7,Nat.and_two_pow_sub_one_eq_mod]
 show IntKind.i64.wrap ((BitVec.ofInt 64 n &&& BitVec.ofInt 64 65535).toNat:Nat)=n%65536
 rw[key,IntKind.wrap_i64];omega
end Go.Proofs.YtienbkdjkjbelaaGreat
end
