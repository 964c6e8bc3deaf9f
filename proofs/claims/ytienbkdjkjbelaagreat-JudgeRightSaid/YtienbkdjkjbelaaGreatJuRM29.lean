/-
  Apply, At, New over an economy as one resource.
-/
import Derived.Test.YtienbkdjkjbelaaGreatJuRM5
import Derived.Test.YtienbkdjkjbelaaGreatJuRM8
import Derived.Test.YtienbkdjkjbelaaGreatJuRM15
import Derived.Test.YtienbkdjkjbelaaGreatJuRM18
import Derived.Test.YtienbkdjkjbelaaGreatJuRM22
import Derived.Test.YtienbkdjkjbelaaGreatJuRM23
import Derived.Test.YtienbkdjkjbelaaGreatJuRM28
import Derived.Shelf.SlIter.Nil
import Derived.Test.YtienbkdjkjbelaaGreatProg
import Derived.Shelf.SlSortCmp.WholeK
import Derived.Shelf.SlicesG.Cmp
import Derived.Shelf.Small.Bits
import Derived.Ground.SlsfProg
import Derived.Ground.SlgcProg
import Derived.Ground.NamesProg
set_option maxHeartbeats 16000000
set_option maxRecDepth 100000
set_option linter.unusedSimpArgs false
set_option linter.unusedVariables false
section
namespace Go.Proofs.YtienbkdjkjbelaaGreat
open Go.RowKit Go.Sl
def EOk(e:Ec)(i:Nat):Prop:=∀x∈e.vs,VOk x.2.ps x.2.n i
theorem fz4(i:Nat):EOk ec0 i:=fun _ h=>(by cases h)
theorem Os7{E:Ev}{e:Ec}{i:Nat}(h:EOk e i)(hp:(j8 E).Perm e.vs):F9 E i:=fun x hx=>h (x.1,x.2.2) (hp.mem_iff.1 (List.mem_map.2 ⟨x,hx,rfl⟩))
theorem Ot7{E:Ev}{e:Ec}{i:Nat}(h:F9 E i)(hp:(j8 E).Perm e.vs):EOk e i:=fun y hy=>by obtain⟨x,hx,rfl⟩:=List.mem_map.1 (hp.mem_iff.2 hy);exact h x hx
theorem AT7{e:Ec}{o:Opn}{r:Rpl}(h:A7 e o=(r,false)):r=rp0/\t6 o=true:=by
 unfold A7 at h;split at h
 ·cases h
 ·rename_i hm
  refine⟨?_,by simpa using hm⟩;split at h
  ·exact(congrArg Prod.fst h).symm
  ·split at h
   ·exact(congrArg Prod.fst h).symm
   ·split at h
    ·exact(congrArg Prod.fst h).symm
    ·split at h
     ·cases h
     ·split at h
      ·cases h
      ·exact(congrArg Prod.fst h).symm
theorem BE7{e:Ec}{o:Opn}{r:Rpl}(h:A7 e o=(r,true)):p8 e o=(r,false,e):=by unfold p8;rw[h];rfl
theorem AM7{e:Ec}{o:Opn}(h:A7 e o=(rp0,false)):p8 e o=((doV (atV e o.ak) o).1,true,⟨(aK4 e o.ak (doV (atV e o.ak) o).2).vs,doS e o (doV (atV e o.ak) o).1,doT e o (doV (atV e o.ak) o).1,doA e o⟩):=by unfold p8;rw[h];rfl
theorem Cj7{o:Opn}(h:E9 o=true):0<=o.item/\o.item<4/\1<=o.cnt/\o.cnt<=1048576:=by unfold E9 at h;simpa using h
section
variable{W w:World}{R:List HP}{eb m1 m2 m3 m4:Nat}{E:Ev}{i:Nat}{e:Ec}
theorem BF7{vs:List (ByteArray×Vs)}{ss:List (Int×(Int×Rpl))}{ts:List ((Int×Int)×Tns)}{ar:List ((Int×Int)×Unit)}(hok:F9 E i)(hp:(j8 E).Perm vs)(hS:St W (ecR eb m1 m2 m3 m4 E ss ts ar R) w):EOk ⟨vs,ss,ts,ar⟩ i/\St W (ecP eb ⟨vs,ss,ts,ar⟩::R) w:=
 ⟨Ot7 (e:=⟨vs,ss,ts,ar⟩) hok hp,cA4 (e:=⟨vs,ss,ts,ar⟩) hp (I5 hS)⟩
theorem dr4(h:St W (ecP eb e::R) w):∃m1 m2 m3 m4 E,(j8 E).Perm e.vs/\(E.map (·.1)).Nodup/\St W (ecR eb m1 m2 m3 m4 E e.ss e.ts e.ar R) w:=by obtain⟨m1,m2,m3,m4,E,hp,h⟩:=dZ4 h;exact⟨m1,m2,m3,m4,E,hp,by rw[<-AD7];exact H6 h.drop,C5 h⟩
theorem Ky7(hn:(E.map (·.1)).Nodup)(hp:(j8 E).Perm e.vs)(k:ByteArray):atV e k=vAt E k:=by unfold atV vAt;rw[Oq7 hn hp]
end
theorem Mh7{eb:Nat}{e:Ec}{i:Nat}(hE:EOk e i)(hi:i<=1000000)(kd cl sq:Int)(ak aw tk tw:ByteArray)(it ct pr:Int)(bu:Bool)(id:Int)(W w:World)(R:List HP)(hS:St W (ecP eb e::R) w):
  Calls Tryz.prog 27 #[.P eb,oV kd cl sq ak aw tk tw it ct pr bu id] w fun x w'=>EOk (p8 e ⟨kd,cl,sq,ak,aw,tk,tw,it,ct,pr,bu,id⟩).2.2 (i+1) /\
   x=.returned (.tuple #[rV (p8 e ⟨kd,cl,sq,ak,aw,tk,tw,it,ct,pr,bu,id⟩).1.err (p8 e ⟨kd,cl,sq,ak,aw,tk,tw,it,ct,pr,bu,id⟩).1.id (p8 e ⟨kd,cl,sq,ak,aw,tk,tw,it,ct,pr,bu,id⟩).1.has.x0 (p8 e ⟨kd,cl,sq,ak,aw,tk,tw,it,ct,pr,bu,id⟩).1.has.x1 (p8 e ⟨kd,cl,sq,ak,aw,tk,tw,it,ct,pr,bu,id⟩).1.has.x2 (p8 e ⟨kd,cl,sq,ak,aw,tk,tw,it,ct,pr,bu,id⟩).1.has.x3,.bool (p8 e ⟨kd,cl,sq,ak,aw,tk,tw,it,ct,pr,bu,id⟩).2.1]) /\
   St W (ecP eb (p8 e ⟨kd,cl,sq,ak,aw,tk,tw,it,ct,pr,bu,id⟩).2.2::R) w':=by
 obtain⟨m1,m2,m3,m4,E,hp,hn,hS⟩:=dr4 hS;have hEv:=Os7 hE hp;have hV:=Ky7 hn hp ak;have hnv:(e.vs.map (·.1)).Nodup:=by rw[<-Cu7]at hn;exact(hp.map (·.1)).nodup_iff.1 hn
 cases hpk:A7 e ⟨kd,cl,sq,ak,aw,tk,tw,it,ct,pr,bu,id⟩with
 | mk r k=>
 cases k with
 | true=>
  rw[BE7 hpk];refine(NH7 (vs:=e.vs) kd cl sq ak aw tk tw it ct pr bu id e.ss e.ts e.ar W w R hpk hS).mono ?_;rintro x w' ⟨rfl,hS⟩;exact⟨fun x hx=>(hE x hx).on,rfl,cA4 hp (I5 hS)⟩
 | false=>
  obtain⟨rfl,hm⟩:=AT7 hpk;have hap:=AM7 hpk;dsimp only at hap;rw[hV]at hap;have hm2:G7 ⟨kd,cl,sq,ak,aw,tk,tw,it,ct,pr,bu,id⟩=true:=by unfold t6 at hm;exact(jB _ _▸hm).2
  have hk:kd=1\/kd=2\/kd=3\/kd=4\/kd=5\/kd=6\/kd=7:=by
   unfold G7 at hm2;dsimp only at hm2
   repeat' split at hm2
   all_goals first|omega|cases hm2
  have hs:∀V,(aZ4 ((ak,V)::i9 e.vs ak) ak).Perm (aK4 e ak V).vs:=fun V=>by rw[Mg7]
  have hsame:(aZ4 e.vs ak).Perm (aK4 e ak (vAt E ak)).vs:=by rw[<-hV];exact Kw7 e ak hnv
  rcases hk with rfl|rfl|rfl|rfl|rfl|rfl|rfl
  ·have hm3:r7 ⟨1,cl,sq,ak,aw,tk,tw,it,ct,pr,bu,id⟩=true:=hm2;have hc:E9 ⟨1,cl,sq,ak,aw,tk,tw,it,ct,pr,bu,id⟩=true:=by unfold r7 at hm3;exact(jB _ _▸hm3).1
   obtain⟨h0,h4,c0,c1⟩:=Cj7 hc;refine(ft4 (vs:=e.vs) cl sq ak aw tk tw it ct pr bu id e.ss e.ts e.ar W w R hpk hEv hi hp h0 h4 c0 c1 rfl rfl hS).mono ?_;rintro x w' ⟨E',h1,h2,rfl,hS⟩;rw[hap];obtain⟨h3,h5⟩:=BF7 h1 (h2.trans (hs _)) hS;exact⟨h3,rfl,h5⟩
  ·have hm3:K6 ⟨2,cl,sq,ak,aw,tk,tw,it,ct,pr,bu,id⟩=true:=hm2;have hc:E9 ⟨2,cl,sq,ak,aw,tk,tw,it,ct,pr,bu,id⟩=true:=by unfold K6 at hm3;exact(jB _ _▸(jB _ _▸hm3).2).1
   obtain⟨h0,h4,c0,c1⟩:=Cj7 hc;by_cases hr:m9 (vAt E ak).ps aw (r9 it ct)=0
   ·have hd:doT e ⟨2,cl,sq,ak,aw,tk,tw,it,ct,pr,bu,id⟩ (doV (vAt E ak) ⟨2,cl,sq,ak,aw,tk,tw,it,ct,pr,bu,id⟩).1=((cl,sq),⟨cl,sq,ak,aw,tk,tw,it,ct⟩)::i9 e.ts (cl,sq):=if_pos ⟨rfl,hr⟩
    have hv:(doV (vAt E ak) ⟨2,cl,sq,ak,aw,tk,tw,it,ct,pr,bu,id⟩).1=rp0:=by
     show(⟨m9 (vAt E ak).ps aw (r9 it ct),0,it0⟩:Rpl)=rp0
     rw[hr]
    rw[hd,hv]at hap;refine(eI4 (vs:=e.vs) cl sq ak aw tk tw it ct pr bu id e.ss e.ts e.ar W w R hpk hEv hi hp h0 h4 c0 c1 hr rfl hS).mono ?_;rintro x w' ⟨E',h1,h2,rfl,hS⟩;rw[hap];obtain⟨h3,h5⟩:=BF7 h1 (h2.trans (hs _)) hS;exact⟨h3,rfl,h5⟩
   ·have hd:doT e ⟨2,cl,sq,ak,aw,tk,tw,it,ct,pr,bu,id⟩ (doV (vAt E ak) ⟨2,cl,sq,ak,aw,tk,tw,it,ct,pr,bu,id⟩).1=e.ts:=(if_neg (fun h=>hr h.2)).trans (if_neg (by show ¬((2:Int)=7);decide));rw[hd]at hap;refine(eH4 (vs:=e.vs) cl sq ak aw tk tw it ct pr bu id e.ss e.ts e.ar W w R hpk hEv hi hp h0 h4 c0 c1 rfl (by simpa using hr) rfl hS).mono ?_;rintro x w' ⟨E',h1,h2,rfl,hS⟩;rw[hap];obtain⟨h3,h5⟩:=BF7 h1 (h2.trans (hs _)) hS;exact⟨h3,rfl,h5⟩
  ·skip
   refine(fu4 (vs:=e.vs) cl sq ak aw tk tw it ct pr bu id e.ss e.ts e.ar W w R hpk hEv hi hp rfl rfl rfl hS).mono ?_;rintro x w' ⟨E',h1,h2,rfl,hS⟩;rw[hap];obtain⟨h3,h5⟩:=BF7 h1 (h2.trans (hs _)) hS;exact⟨h3,rfl,h5⟩
  ·skip
   refine(fv4 (vs:=e.vs) cl sq ak aw tk tw it ct pr bu id e.ss e.ts e.ar W w R hpk hEv hi hp rfl rfl hS).mono ?_;rintro x w' ⟨E',h1,h2,rfl,hS⟩;rw[hap];obtain⟨h3,h5⟩:=BF7 h1 (h2.trans (hs _)) hS;exact⟨h3,rfl,h5⟩
  ·skip
   refine(fw4 (vs:=e.vs) cl sq ak aw tk tw it ct pr bu id e.ss e.ts e.ar W w R hpk hEv hi hp rfl hS).mono ?_;rintro x w' ⟨E',h1,h2,rfl,hS⟩;rw[hap];obtain⟨h3,h5⟩:=BF7 h1 (h2.trans hsame) hS;exact⟨h3,rfl,h5⟩
  ·have hm3:r7 ⟨6,cl,sq,ak,aw,tk,tw,it,ct,pr,bu,id⟩=true:=hm2;have hc:E9 ⟨6,cl,sq,ak,aw,tk,tw,it,ct,pr,bu,id⟩=true:=by unfold r7 at hm3;exact(jB _ _▸hm3).1
   obtain⟨h0,h4,c0,c1⟩:=Cj7 hc;refine(fx4 (vs:=e.vs) cl sq ak aw tk tw it ct pr bu id e.ss e.ts e.ar W w R hpk hEv hi hp h0 h4 c0 c1 rfl hS).mono ?_;rintro x w' ⟨E',h1,h2,rfl,hS⟩;rw[hap];obtain⟨h3,h5⟩:=BF7 h1 (h2.trans (hs _)) hS;exact⟨h3,rfl,h5⟩
  ·skip
   refine(fy4 (vs:=e.vs) cl sq ak aw tk tw it ct pr bu id e.ss e.ts e.ar W w R hpk hEv hi hp hS).mono ?_;rintro x w' ⟨E',h1,h2,rfl,hS⟩;rw[hap];obtain⟨h3,h5⟩:=BF7 h1 (h2.trans hsame) hS;exact⟨h3,rfl,h5⟩
theorem Mi7{eb:Nat}{e e2:Ec}{i:Nat}{r:Rpl}{b:Bool}(hE:EOk e i)(hi:i<=1000000){kd cl sq:Int}{ak aw tk tw:ByteArray}{it ct pr:Int}{bu:Bool}{id:Int}(h:p8 e ⟨kd,cl,sq,ak,aw,tk,tw,it,ct,pr,bu,id⟩=(r,b,e2))(W w:World)(R:List HP)(hS:St W (ecP eb e::R) w):
  Calls Tryz.prog 27 #[.P eb,oV kd cl sq ak aw tk tw it ct pr bu id] w fun x w'=>EOk e2 (i+1)/\x=.returned (.tuple #[rV r.err r.id r.has.x0 r.has.x1 r.has.x2 r.has.x3,.bool b])/\St W (ecP eb e2::R) w':=by
 have h1:=Mh7 hE hi kd cl sq ak aw tk tw it ct pr bu id W w R hS;rw[h]at h1;exact h1
abbrev kA:ByteArray:=⟨#[97]⟩
abbrev kX:ByteArray:=⟨#[120]⟩
abbrev kB:ByteArray:=⟨#[98]⟩
abbrev kY:ByteArray:=⟨#[121]⟩
abbrev kN:ByteArray:=⟨#[]⟩
abbrev gm4(last:Int):Opn:=⟨1,7,last,kA,kX,kN,kN,0,3,0,false,0⟩
abbrev gn4(now:Int):Opn:=⟨5,7,now,kA,kX,kN,kN,0,0,0,false,0⟩
abbrev go4(last:Int):Ec:=⟨[(kA,⟨[(kX,⟨3,0,0,0⟩)],[],1⟩)],[(7,(last,rp0))],[],[]⟩
abbrev knO:Opn:=⟨1,1,1,kA,kX,kN,kN,0,5,0,false,0⟩
abbrev kn1:Ec:=⟨[(kA,⟨[(kX,⟨5,0,0,0⟩)],[],1⟩)],[(1,(1,rp0))],[],[]⟩
theorem MW7:p8 ec0 knO=(rp0,true,kn1):=by kernel_rfl
def fA4(W:World)(L:List HP)(n:Nat)(v:Value)(w:World):Prop:=∃i:Nat,v=.I i/\i<=n/\St W L w
theorem It7{r0 r1 r2 r3 r4 r5 q0 q1 q2 q3 q4 q5:Int}{b:Bool}(h:Rpl.eqB ⟨r0,r1,⟨r2,r3,r4,r5⟩⟩ ⟨q0,q1,⟨q2,q3,q4,q5⟩⟩=b)(w:World):(Op.equalIn 10000 36 (rV r0 r1 r2 r3 r4 r5) (rV q0 q1 q2 q3 q4 q5)).run Tryz.prog w=.ok b w:=h▸ey4 ⟨r0,r1,⟨r2,r3,r4,r5⟩⟩ ⟨q0,q1,⟨q2,q3,q4,q5⟩⟩ w
theorem Mj7{L:List HP}{S S':Nat->Bool}{h:M9}(hs:∀b,S' b=true->S b=true)(h1:sats L (l6 S h)):sats L (l6 S' h):=by
 refine By7 (S:=S) ?_
 have:l6 S (l6 S' h)=l6 S h:=by
  funext b
  simp only[l6]
  cases hb:S' b with
  | false=>rfl
  | true=>rw[hs b hb];rfl
 rw[this];exact h1
theorem St.rebase{W w w':World}{L A:List HP}(h:St W L w)(h1:St w (A++[Old w]) w'):St W (A++L) w':=by
 refine⟨h1.os.trans h.os,h1.tape.trans h.tape,h1.output.trans h.output,?_⟩;have h2:sats (Old w::A) (fun b=>w'.heap[b]?):=Bp7 (List.perm_append_comm (l₁:=A) (l₂:=[Old w])) h1.sat
 obtain⟨S,hO,hA⟩:=h2;refine Bp7 (List.perm_append_comm (l₁:=L) (l₂:=A)) ?_
 have hin:B6 (fun b=>S b&&decide (b<w.heap.size)) (fun b=>w'.heap[b]?)=fun b=>w.heap[b]? := by
  funext b
  simp only[B6];by_cases hb:b<w.heap.size
  ·have:=hO b hb;simp only[B6]at this;rw[decide_eq_true hb,Bool.and_true];exact this
  ·rw[decide_eq_false hb,Bool.and_false];show none=_
   rw[Array.getElem?_eq_none (by omega)]
 have hA2:sats A (l6 (fun b=>S b&&decide (b<w.heap.size)) (fun b=>w'.heap[b]?)):=Mj7 (fun b hb=>by rw[jB]at hb;exact hb.1) hA;have h3:sats ([sats L]++A) (fun b=>w'.heap[b]?):=⟨_,by rw[hin];exact h.sat,hA2⟩
 exact Bp7 (List.perm_append_comm (l₁:=A) (l₂:=L)) (CM7.2 (Bp7 (List.perm_append_comm (l₁:=[sats L]) (l₂:=A)) h3))
theorem St.sliceV{α:Type}{enc:α->List Value}{k:Nat}(henc:∀x,(enc x).length=k){W w:World}{L:List HP}{v:Value}{T:TypeId}{xs:List α}(h:St W (row v k T xs.length (xs.flatMap enc)::L) w):C9 enc k w v xs:=by
 rcases h.rowOpen with ⟨rfl,h0,_⟩|⟨g,cap,junk,rfl,hn1,hm1,_,_,hS⟩
 ·exact⟨none,0,by rw[h0],by omega,fun i hi=>absurd hi (by omega)⟩
 ·refine⟨some ⟨g,0,none⟩,cap,rfl,by unfold maxLen at hm1;omega,fun i hi=>⟨g,0,rfl,fun j u hj=>?_⟩⟩;have hl:j<k:=by have:=(List.getElem?_eq_some_iff.1 hj).1;rwa [henc]at this
  rw[Nat.zero_add];exact hS.cell .head (by rw[AY7 henc xs junk i hi j hl];exact hj)
theorem C9.old{α:Type}{enc:α->List Value}{k:Nat}{V W w:World}{L:List HP}{v:Value}{xs:List α}(h:C9 enc k V v xs)(hS:St W L w)(hm:Mem (Old V) L):C9 enc k w v xs:=by obtain⟨a,cap,e,h1,h2⟩:=h;refine⟨a,cap,e,h1,fun i hi=>?_⟩;obtain⟨b,off,ea,hc⟩:=h2 i hi;exact⟨b,off,ea,fun j u hj=>hS.oldCell hm (hc j u hj)⟩
section
variable{P:Program}{ops:Array Oper}{Q:Exit->Act->World->Prop}{a:Act}{w:World}{rest:List Oper}{o:Oper}
end
def bu4{α:Type}(enc:α->List Value)(k:Nat)(w:World)(v:Value)(xss:List (List α)):Prop:=
 ∃ps:List (Value×List α),xss=ps.map (·.2)/\C9 (fun p:Value×List α=>[p.1]) 1 w v ps/\∀p∈ps,C9 enc k w p.1 p.2
theorem bu4.old{α:Type}{enc:α->List Value}{k:Nat}{V W w:World}{L:List HP}{v:Value}{xss:List (List α)}(h:bu4 enc k V v xss)(hS:St W L w)(hm:Mem (Old V) L):bu4 enc k w v xss:=by obtain⟨ps,e,h1,h2⟩:=h;exact⟨ps,e,h1.old hS hm,fun p hp=>(h2 p hp).old hS hm⟩
abbrev sM(n:Int):Opn:=⟨1,1,1,kA,kX,kN,kN,0,n,0,false,0⟩
abbrev sS(c:Int):Opn:=⟨2,1,2,kA,kX,kB,kY,0,c,0,false,0⟩
abbrev sA(c:Int):Opn:=⟨6,1,2,kB,kY,kN,kN,0,c,0,false,0⟩
abbrev sD:Opn:=⟨7,1,2,kA,kX,kN,kN,0,0,0,false,0⟩
section
variable{n c:Int}
abbrev s1(n:Int):Ec:=⟨[(kA,⟨[(kX,⟨n,0,0,0⟩)],[],1⟩)],[(1,(1,rp0))],[],[]⟩
abbrev s2n(n:Int):Ec:=⟨[(kA,⟨[(kX,⟨n,0,0,0⟩)],[],1⟩)],[(1,(2,⟨14,0,it0⟩))],[],[]⟩
abbrev qS(n c:Int):Ps:=E7 [(kX,⟨n,0,0,0⟩)] kX ⟨n-c,0,0,0⟩
abbrev s2(n c:Int):Ec:=⟨(aK4 (s1 n) kA ⟨qS n c,[],1⟩).vs,[(1,(2,rp0))],[((1,2),cr4 (sS c))],[]⟩
abbrev s3(n c:Int):Ec:=⟨(aK4 (s2 n c) kB ⟨[(kY,⟨c,0,0,0⟩)],[],1⟩).vs,[(1,(2,rp0))],[((1,2),cr4 (sS c))],[((1,2),())]⟩
abbrev s4(n c:Int):Ec:=⟨(aK4 (s3 n c) kA (atV (s3 n c) kA)).vs,[(1,(2,rp0))],[],[((1,2),())]⟩
end
end Go.Proofs.YtienbkdjkjbelaaGreat
end
section
namespace Go.Sl
open Go.RowKit
section
variable{κ ν:Type}{F:Fence}{n:Nat}{P:Program}{W w:World}{L R:List HP}{ops:Array Oper}{rest:List Oper}{o:Oper}{a:Act}{Q:Exit->Act->World->Prop}{ek:κ->Value}{ev:ν->Value}{b r:Nat}{l todo:List (κ×ν)}{t K E:TypeId}
end
def eJ4{κ:Type}(P:Program)(ek:κ->Value)(N:Nat)(l:Nat)(W:World)(X:List κ->HP):Prop:=
 ∀(m:Nat) (pre:List κ) (x:κ) (L:List HP) (w:World),pre.length<N->St W (X pre::L) w->YieldAt Fence.wide m P l #[ek x] w fun e w'=>e=.returned (.bool true)/\St W (X (pre++[x])::L) w'
def gf4{κ:Type}(P:Program)(ek:κ->Value)(N:Nat)(gf:Nat)(lb:Array Value)(S:List κ->Prop)(W:World)(R:List HP):Prop:=
 ∀(l m:Nat) (X:List κ->HP) (w:World),eJ4 P ek N l W X->St W (X []::R) w->
  CallsIn Fence.wide m P gf (#[.func (.yield l) #[] #[]]++lb) w fun e w'=>(∃v,e=.returned v)/\∃ss,S ss/\St W (X ss::R) w'
def gg4(fn:FuncId)(tmps:Array Value)(ps:Array Tmp)(assign body:Code)(D:Nat)(st:LoopState)(pe:Option Code):Loop:={ state:=st,pending:=pe,fn,tmps,params:=ps,assign,body,defers:=D }
def gh4(rc:LoopState->Option Code->Loop)(l D:Nat)(I:HP):HP:=sep I (sep (aL4 l (.loop (rc .ready none))) (aL4 D (.deferred (some []))))
section
variable{κ:Type}{n:Nat}{P:Program}{W w:World}{L R:List HP}{a:Act}{Q:Exit->Act->World->Prop}{ek:κ->Value}
end
end Go.Sl
end
section
namespace Go.Sl
section
variable{κ ν:Type}
structure Ordr(lt:κ->κ->Bool):Prop where
 irr:∀a,lt a a=false
 tr:∀a b c,lt a b=true->lt b c=true->lt a c=true
 tri:∀a b,lt a b=false->a≠b->lt b a=true
def Asc(lt:κ->κ->Bool)(l:List (κ×ν)):Prop:=l.Pairwise fun x y=>lt x.1 y.1=true
def plI(lt:κ->κ->Bool):List (κ×ν)->κ->Nat
 | [],_=>0
 | x::l,k=>if lt x.1 k=true then plI lt l k+1 else 0
def plB[DecidableEq κ](lt:κ->κ->Bool):List (κ×ν)->κ->Bool
 | [],_=>false
 | x::l,k=>if lt x.1 k=true then plB lt l k else decide (x.1=k)
def plS[DecidableEq κ](lt:κ->κ->Bool)(l:List (κ×ν))(k:κ)(v:ν):List (κ×ν):=l.take (plI lt l k)++(k,v)::l.drop (if plB lt l k=true then plI lt l k+1 else plI lt l k)
theorem GT7(lt:κ->κ->Bool)(k:κ):∀l:List (κ×ν),plI lt l k<=l.length
 | []=>Nat.le_refl _
 | x::l=>by have:=GT7 lt k l;rw[plI,jC];split <;> omega
theorem Kz7[DecidableEq κ](lt:κ->κ->Bool)(k:κ):∀l:List (κ×ν),plB lt l k=true->∃h:plI lt l k<l.length,l[plI lt l k].1=k
 | [],h=>by cases h
 | x::l,h=>by
  rw[plB]at h;by_cases hx:lt x.1 k=true
  ·rw[if_pos hx]at h;obtain⟨h1,h2⟩:=Kz7 lt k l h;have e:plI lt (x::l) k=plI lt l k+1:=by rw[plI,if_pos hx]
   refine⟨by rw[e,jC];omega,?_⟩;simp only[e,List.getElem_cons_succ];exact h2
  ·rw[if_neg hx]at h;have e:plI lt (x::l) k=0:=by rw[plI,if_neg hx]
   refine⟨by rw[e,jC];omega,?_⟩;simp only[e,List.getElem_cons_zero];simpa using h
variable{lt:κ->κ->Bool}{l:List (κ×ν)}{k:κ}{v:ν}
theorem Bv7(ho:Ordr lt)(h:Asc lt l):(l.map (·.1)).Nodup:=by
 unfold Asc at h;refine List.pairwise_map.2 (h.imp fun{a b} hab e=>?_);rw[e,ho.irr]at hab
 cases hab
theorem KA7[DecidableEq κ](ho:Ordr lt)(h:Asc lt l):plB lt l k=(j5 l k).isSome:=by
 induction l with
 | nil=>rfl
 | cons x l ih=>
  unfold Asc at h;rw[List.pairwise_cons]at h;obtain⟨h1,h2⟩:=h;have e:j5 (x::l) k=if x.1=k then some x.2 else j5 l k:=by unfold j5;rw[List.find?_cons];by_cases hk:x.1=k <;> simp[hk]
  rw[plB,e];by_cases hx:lt x.1 k=true
  ·have hne:x.1≠k:=fun e=>by rw[e,ho.irr]at hx;cases hx
   rw[if_pos hx,if_neg hne];exact ih h2
  ·rw[if_neg hx];by_cases hk:x.1=k
   ·rw[if_pos hk];simp[hk]
   ·rw[if_neg hk];have h3:lt k x.1=true:=ho.tri _ _ (by simpa using hx) hk
    have h4:j5 l k=none:=by
     unfold j5;rw[Option.map_eq_none_iff,List.find?_eq_none];intro y hy;simp only[decide_eq_true_eq];intro e;have h5:=ho.tr _ _ _ h3 (h1 y hy);rw[e,ho.irr]at h5
     cases h5
    rw[h4];simp[hk]
theorem EG7[DecidableEq κ](ho:Ordr lt):∀(l:List (κ×ν)) (k:κ),Asc lt l->(∀x∈l.take (plI lt l k),lt x.1 k=true)/\(∀y∈l.drop (if plB lt l k=true then plI lt l k+1 else plI lt l k),lt k y.1=true)
 | [],k,_=>⟨fun x hx=>(by simp at hx),fun y hy=>(by simp[plI,plB]at hy)⟩
 | z::l,k,h=>by
  unfold Asc at h;rw[List.pairwise_cons]at h;obtain⟨h1,h2⟩:=h;rw[plI,plB];by_cases hx:lt z.1 k=true
  ·rw[if_pos hx,if_pos hx];obtain⟨i1,i2⟩:=EG7 ho l k h2;refine⟨?_,?_⟩
   ·intro x hx2;rw[List.take_succ_cons]at hx2
    rcases List.mem_cons.1 hx2 with rfl|hx2
    ·exact hx
    ·exact i1 x hx2
   ·intro y hy;refine i2 y ?_;split at hy
    ·rename_i h3
     rw[if_pos h3];simpa using hy
    ·rename_i h3
     rw[if_neg h3];simpa using hy
  ·rw[if_neg hx,if_neg hx];refine⟨fun x hx2=>(by simp at hx2),?_⟩;intro y hy;by_cases hk:z.1=k
   ·rw[if_pos (by simp[hk])]at hy;rw[<-hk];exact h1 y (by simpa using hy)
   ·rw[if_neg (by simp[hk])]at hy;have h3:lt k z.1=true:=ho.tri _ _ (by simpa using hx) hk;rcases List.mem_cons.1 (by simpa using hy)with rfl|hy
    ·exact h3
    ·exact ho.tr _ _ _ h3 (h1 y hy)
theorem FK7[DecidableEq κ](ho:Ordr lt)(h:Asc lt l):Asc lt (plS lt l k v):=by
 obtain⟨h1,h2⟩:=EG7 ho l k h;unfold Asc at h ⊢;unfold plS;rw[List.pairwise_append,List.pairwise_cons];refine⟨h.sublist (List.take_sublist _ _),⟨h2,h.sublist (List.drop_sublist _ _)⟩,?_⟩;intro x hx y hy
 rcases List.mem_cons.1 hy with rfl|hy
 ·exact h1 x hx
 ·exact ho.tr _ _ _ (h1 x hx) (h2 y hy)
theorem Dg7[DecidableEq κ](ho:Ordr lt)(h:Asc lt l):(plS lt l k v).Perm ((k,v)::i9 l k):=by
 obtain⟨h1,h2⟩:=EG7 ho l k h
 have e:i9 l k=l.take (plI lt l k)++l.drop (if plB lt l k=true then plI lt l k+1 else plI lt l k):=by
  have hl:l=l.take (plI lt l k)++l.drop (plI lt l k):=(List.take_append_drop _ _).symm;have hd:∀(t:List (κ×ν)),(∀x∈t,x.1≠k)->i9 t k=t:=fun t ht=>BI7 ht
  have ha:∀(s t:List (κ×ν)),i9 (s++t) k=i9 s k++i9 t k:=fun s t=>by unfold i9;rw[List.filter_append]
  have ht1:i9 (l.take (plI lt l k)) k=l.take (plI lt l k):=hd _ fun x hx e=>by
   have:=h1 x hx;rw[e,ho.irr]at this
   cases this
  have ht2:∀y∈l.drop (if plB lt l k=true then plI lt l k+1 else plI lt l k),y.1≠k:=fun y hy e=>by
   have:=h2 y hy;rw[e,ho.irr]at this
   cases this
  by_cases hb:plB lt l k=true
  ·obtain⟨h3,h4⟩:=Kz7 lt k l hb;rw[if_pos hb]at ht2 ⊢
   conv=>lhs;rw[hl]
   rw[ha,ht1]
   congr 1
   rw[List.drop_eq_getElem_cons h3];have:i9 (l[plI lt l k]::l.drop (plI lt l k+1)) k=i9 (l.drop (plI lt l k+1)) k:=by unfold i9;rw[List.filter_cons,if_neg (by simp[h4])]
   rw[this,hd _ ht2]
  ·rw[if_neg hb]at ht2 ⊢
   conv=>lhs;rw[hl]
   rw[ha,ht1,hd _ ht2]
 rw[e];unfold plS;exact List.perm_middle
end
theorem Eg7:Ordr (fun a b:Int=>decide (a<b)):=⟨fun a=>by simp,fun a b c h1 h2=>by simp at *;omega,fun a b h1 h2=>by simp at *;omega⟩
abbrev ltW(a b:Int×Int):Bool:=decide (a.1<b.1\/(a.1=b.1/\a.2<b.2))
theorem AP7:Ordr ltW:=⟨fun a=>by simp[ltW],fun a b c h1 h2=>by simp[ltW]at *;omega,fun a b h1 h2=>by obtain⟨a1,a2⟩:=a;obtain⟨b1,b2⟩:=b;simp only[ltW,ne_eq,Prod.mk.injEq,decide_eq_false_iff_not,decide_eq_true_eq]at *;omega⟩
end Go.Sl
end
section
namespace Go.Proofs.YtienbkdjkjbelaaGreat
open Go.RowKit Go.Sl
abbrev eWh(x:Int×Int):Value:=.agg #[.I x.1,.I x.2]
def whC(x:Int×Int):List Value:=[.I x.1,.I x.2]
def KyR{ν:Type}(W:World)(ev:ν->Value)(X:List (Int×Int)->HP)(r b:Nat)(l:List ((Int×Int)×ν))(L:List HP)(w:World):Prop:=
 ∃(ss:List (Int×Int)) (todo:List ((Int×Int)×ν)),(ss++todo.map (·.1)).Perm (l.map (·.1))/\St W (itR eWh ev r b l todo::X ss::L) w
def apI(bB:Nat)(ss:List (Int×Int)):HP:=fun f=>∃v,sep (blk bB [v] 124) (row v 2 127 ss.length (ss.flatMap whC)) f
end Go.Proofs.YtienbkdjkjbelaaGreat
end
section
namespace Go.Proofs.YtienbkdjkjbelaaGreat
open Go.Shelf
def Tryz.sortWh_ren:Go.Shelf.Ren:=⟨fun|6=>89|15=>127|14=>129|28=>171|29=>172|20=>173|21=>174|22=>175|23=>176|24=>177|25=>178|26=>179|27=>180|46=>212|47=>208|48=>209|49=>213|50=>214|57=>231|n=>n,fun|22=>124|24=>127|25=>131|3=>3|39=>163|0=>0|53=>265|55=>162|4=>4|46=>259|45=>258|50=>188|5=>5|9=>9|66=>296|70=>300|76=>317|77=>196|n=>n,fun|n=>n⟩
def Tryz.cmpIntW_ren:Go.Shelf.Ren:=⟨fun|5=>92|7=>130|n=>n,fun|22=>3|3=>3|4=>4|n=>n,fun|n=>n⟩
def Tryz.bitsLenW_ren:Go.Shelf.Ren:=⟨fun|125=>127|128=>171|129=>172|n=>n,fun|46=>163|3=>3|51=>265|53=>162|4=>4|5=>5|9=>9|n=>n,fun|n=>n⟩
end Go.Proofs.YtienbkdjkjbelaaGreat
end
section
namespace Go.Sl
open Go.RowKit Go.Sort
section
variable{P:Program}{ops:Array Oper}{w1:World}
variable{Q:Act->Prop}{a:Act}{o:Oper}{rest:List Oper}
end
end Go.Sl
namespace Go.Proofs.YtienbkdjkjbelaaGreat
open Go.Shelf Go.RowKit Go.Lib Go.Sort Go.Sl
instance : Inhabited (Int × Int) := ⟨(0,0)⟩
def gp4(x y:Int×Int):Int:=if Lib.compareInt x.1 y.1≠0 then Lib.compareInt x.1 y.1 else Lib.compareInt x.2 y.2
end Go.Proofs.YtienbkdjkjbelaaGreat
end
section
namespace Go.Proofs.YtienbkdjkjbelaaGreat
open Go.RowKit Go.Sl
abbrev tn0:Tns:=⟨0,0,⟨#[]⟩,⟨#[]⟩,⟨#[]⟩,⟨#[]⟩,0,0⟩
def tnC(x:(Int×Int)×Tns):List Value:=x.2.cells
theorem AX7(x:(Int×Int)×Tns):(tnC x).length=8:=rfl
theorem CE7:∀l:List ((Int×Int)×Tns),(l.flatMap tnC).all (·.oneCell')=true
 | []=>rfl
 | x::l=>by rw[List.flatMap_cons,List.all_append,CE7 l];rfl
def TrR(W:World)(F:List HP)(T:List ((Int×Int)×Tns))(v3 v15:Value)(w:World):Prop:=
 ∃k:Nat,v15=.I k/\k<=T.length/\St W (row v3 8 97 k ((T.take k).flatMap tnC)::F) w
end Go.Proofs.YtienbkdjkjbelaaGreat
end
