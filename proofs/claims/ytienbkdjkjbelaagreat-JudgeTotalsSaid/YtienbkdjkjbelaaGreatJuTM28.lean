/-
  Apply, At, New over an economy as one resource.
-/
import Derived.Test.YtienbkdjkjbelaaGreatJuTM5
import Derived.Test.YtienbkdjkjbelaaGreatJuTM7
import Derived.Test.YtienbkdjkjbelaaGreatJuTM17
import Derived.Test.YtienbkdjkjbelaaGreatJuTM21
import Derived.Test.YtienbkdjkjbelaaGreatJuTM27
import Derived.Shelf.SlIter.Nil
set_option maxHeartbeats 16000000
set_option maxRecDepth 100000
set_option linter.unusedSimpArgs false
set_option linter.unusedVariables false
section
namespace Go.Proofs.YtienbkdjkjbelaaGreat
open Go.RowKit Go.Sl
def EOk(e:Ec)(i:Nat):Prop:=∀x∈e.vs,VOk x.2.ps x.2.n i
theorem fG4(i:Nat):EOk ec0 i:=fun _ h=>(by cases h)
theorem Rh7{E:Ev}{e:Ec}{i:Nat}(h:EOk e i)(hp:(k9 E).Perm e.vs):I8 E i:=fun x hx=>h (x.1,x.2.2) (hp.mem_iff.1 (List.mem_map.2 ⟨x,hx,rfl⟩))
theorem Ri7{E:Ev}{e:Ec}{i:Nat}(h:I8 E i)(hp:(k9 E).Perm e.vs):EOk e i:=fun y hy=>by obtain⟨x,hx,rfl⟩:=List.mem_map.1 (hp.mem_iff.2 hy);exact h x hx
theorem Br7{e:Ec}{o:Opn}{r:Rpl}(h:G7 e o=(r,false)):r=rp0/\w6 o=true:=by
 unfold G7 at h;split at h
 ·cases h
 ·rename_i hm
  refine⟨?_,by simpa using hm⟩;split at h
  ·exact(congrArg Prod.fst h).symm
  ·split at h
   ·exact(congrArg Prod.fst h).symm
   ·split at h
    ·exact(congrArg Prod.fst h).symm
    ·split at h
     ·cases h
     ·split at h
      ·cases h
      ·exact(congrArg Prod.fst h).symm
theorem CM7{e:Ec}{o:Opn}{r:Rpl}(h:G7 e o=(r,true)):B6 e o=(r,false,e):=by unfold B6;rw[h];rfl
theorem CN7{e:Ec}{o:Opn}(h:G7 e o=(rp0,false)):B6 e o=((doV (atV e o.ak) o).1,true,⟨(bf4 e o.ak (doV (atV e o.ak) o).2).vs,doS e o (doV (atV e o.ak) o).1,doT e o (doV (atV e o.ak) o).1,doA e o⟩):=by unfold B6;rw[h];rfl
theorem Cx7{o:Opn}(h:H5 o=true):0<=o.item/\o.item<4/\1<=o.cnt/\o.cnt<=1048576:=by unfold H5 at h;simpa using h
section
variable{W w:World}{R:List HP}{eb m1 m2 m3 m4:Nat}{E:Ev}{i:Nat}{e:Ec}
theorem BR7{vs:List (ByteArray×Vs)}{ss:List (Int×(Int×Rpl))}{ts:List ((Int×Int)×Tns)}{ar:List ((Int×Int)×Unit)}(hok:I8 E i)(hp:(k9 E).Perm vs)(hS:St W (ecR eb m1 m2 m3 m4 E ss ts ar R) w):EOk ⟨vs,ss,ts,ar⟩ i/\St W (ecP eb ⟨vs,ss,ts,ar⟩::R) w:=
 ⟨Ri7 (e:=⟨vs,ss,ts,ar⟩) hok hp,bu4 (e:=⟨vs,ss,ts,ar⟩) hp (G8 hS)⟩
theorem ca4(h:St W (ecP eb e::R) w):∃m1 m2 m3 m4 E,(k9 E).Perm e.vs/\(E.map (·.1)).Nodup/\St W (ecR eb m1 m2 m3 m4 E e.ss e.ts e.ar R) w:=by obtain⟨m1,m2,m3,m4,E,hp,h⟩:=eW4 h;exact⟨m1,m2,m3,m4,E,hp,by rw[<-AH7];exact H7 h.drop,E7 h⟩
theorem Mt7(hn:(E.map (·.1)).Nodup)(hp:(k9 E).Perm e.vs)(k:ByteArray):atV e k=vAt E k:=by unfold atV vAt;rw[Rf7 hn hp]
end
theorem On7{eb:Nat}{e:Ec}{i:Nat}(hE:EOk e i)(hi:i<=1000000)(kd cl sq:Int)(ak aw tk tw:ByteArray)(it ct pr:Int)(bu:Bool)(id:Int)(W w:World)(R:List HP)(hS:St W (ecP eb e::R) w):
  Calls Tryz.prog 27 #[.P eb,oV kd cl sq ak aw tk tw it ct pr bu id] w fun x w'=>EOk (B6 e ⟨kd,cl,sq,ak,aw,tk,tw,it,ct,pr,bu,id⟩).2.2 (i+1) /\
   x=.returned (.tuple #[rV (B6 e ⟨kd,cl,sq,ak,aw,tk,tw,it,ct,pr,bu,id⟩).1.err (B6 e ⟨kd,cl,sq,ak,aw,tk,tw,it,ct,pr,bu,id⟩).1.id (B6 e ⟨kd,cl,sq,ak,aw,tk,tw,it,ct,pr,bu,id⟩).1.has.x0 (B6 e ⟨kd,cl,sq,ak,aw,tk,tw,it,ct,pr,bu,id⟩).1.has.x1 (B6 e ⟨kd,cl,sq,ak,aw,tk,tw,it,ct,pr,bu,id⟩).1.has.x2 (B6 e ⟨kd,cl,sq,ak,aw,tk,tw,it,ct,pr,bu,id⟩).1.has.x3,.bool (B6 e ⟨kd,cl,sq,ak,aw,tk,tw,it,ct,pr,bu,id⟩).2.1]) /\
   St W (ecP eb (B6 e ⟨kd,cl,sq,ak,aw,tk,tw,it,ct,pr,bu,id⟩).2.2::R) w':=by
 obtain⟨m1,m2,m3,m4,E,hp,hn,hS⟩:=ca4 hS;have hEv:=Rh7 hE hp;have hV:=Mt7 hn hp ak;have hnv:(e.vs.map (·.1)).Nodup:=by rw[<-Bw7]at hn;exact(hp.map (·.1)).nodup_iff.1 hn
 cases hpk:G7 e ⟨kd,cl,sq,ak,aw,tk,tw,it,ct,pr,bu,id⟩with
 | mk r k=>
 cases k with
 | true=>
  rw[CM7 hpk];refine(Qi7 (vs:=e.vs) kd cl sq ak aw tk tw it ct pr bu id e.ss e.ts e.ar W w R hpk hS).mono ?_;rintro x w' ⟨rfl,hS⟩;exact⟨fun x hx=>(hE x hx).on,rfl,bu4 hp (G8 hS)⟩
 | false=>
  obtain⟨rfl,hm⟩:=Br7 hpk;have hap:=CN7 hpk;dsimp only at hap;rw[hV]at hap;have hm2:J6 ⟨kd,cl,sq,ak,aw,tk,tw,it,ct,pr,bu,id⟩=true:=by unfold w6 at hm;exact(jB _ _▸hm).2
  have hk:kd=1\/kd=2\/kd=3\/kd=4\/kd=5\/kd=6\/kd=7:=by
   unfold J6 at hm2;dsimp only at hm2
   repeat' split at hm2
   all_goals first|omega|cases hm2
  have hs:∀V,(bF4 ((ak,V)::i9 e.vs ak) ak).Perm (bf4 e ak V).vs:=fun V=>by rw[Om7]
  have hsame:(bF4 e.vs ak).Perm (bf4 e ak (vAt E ak)).vs:=by rw[<-hV];exact Mr7 e ak hnv
  rcases hk with rfl|rfl|rfl|rfl|rfl|rfl|rfl
  ·have hm3:s7 ⟨1,cl,sq,ak,aw,tk,tw,it,ct,pr,bu,id⟩=true:=hm2;have hc:H5 ⟨1,cl,sq,ak,aw,tk,tw,it,ct,pr,bu,id⟩=true:=by unfold s7 at hm3;exact(jB _ _▸hm3).1
   obtain⟨h0,h4,c0,c1⟩:=Cx7 hc;refine(gt4 (vs:=e.vs) cl sq ak aw tk tw it ct pr bu id e.ss e.ts e.ar W w R hpk hEv hi hp h0 h4 c0 c1 rfl rfl hS).mono ?_;rintro x w' ⟨E',h1,h2,rfl,hS⟩;rw[hap];obtain⟨h3,h5⟩:=BR7 h1 (h2.trans (hs _)) hS;exact⟨h3,rfl,h5⟩
  ·have hm3:M6 ⟨2,cl,sq,ak,aw,tk,tw,it,ct,pr,bu,id⟩=true:=hm2;have hc:H5 ⟨2,cl,sq,ak,aw,tk,tw,it,ct,pr,bu,id⟩=true:=by unfold M6 at hm3;exact(jB _ _▸(jB _ _▸hm3).2).1
   obtain⟨h0,h4,c0,c1⟩:=Cx7 hc;by_cases hr:p9 (vAt E ak).ps aw (p8 it ct)=0
   ·have hd:doT e ⟨2,cl,sq,ak,aw,tk,tw,it,ct,pr,bu,id⟩ (doV (vAt E ak) ⟨2,cl,sq,ak,aw,tk,tw,it,ct,pr,bu,id⟩).1=((cl,sq),⟨cl,sq,ak,aw,tk,tw,it,ct⟩)::i9 e.ts (cl,sq):=if_pos ⟨rfl,hr⟩
    have hv:(doV (vAt E ak) ⟨2,cl,sq,ak,aw,tk,tw,it,ct,pr,bu,id⟩).1=rp0:=by
     show(⟨p9 (vAt E ak).ps aw (p8 it ct),0,it0⟩:Rpl)=rp0
     rw[hr]
    rw[hd,hv]at hap;refine(fF4 (vs:=e.vs) cl sq ak aw tk tw it ct pr bu id e.ss e.ts e.ar W w R hpk hEv hi hp h0 h4 c0 c1 hr rfl hS).mono ?_;rintro x w' ⟨E',h1,h2,rfl,hS⟩;rw[hap];obtain⟨h3,h5⟩:=BR7 h1 (h2.trans (hs _)) hS;exact⟨h3,rfl,h5⟩
   ·have hd:doT e ⟨2,cl,sq,ak,aw,tk,tw,it,ct,pr,bu,id⟩ (doV (vAt E ak) ⟨2,cl,sq,ak,aw,tk,tw,it,ct,pr,bu,id⟩).1=e.ts:=(if_neg (fun h=>hr h.2)).trans (if_neg (by show ¬((2:Int)=7);decide));rw[hd]at hap;refine(fE4 (vs:=e.vs) cl sq ak aw tk tw it ct pr bu id e.ss e.ts e.ar W w R hpk hEv hi hp h0 h4 c0 c1 rfl (by simpa using hr) rfl hS).mono ?_;rintro x w' ⟨E',h1,h2,rfl,hS⟩;rw[hap];obtain⟨h3,h5⟩:=BR7 h1 (h2.trans (hs _)) hS;exact⟨h3,rfl,h5⟩
  ·skip
   refine(gu4 (vs:=e.vs) cl sq ak aw tk tw it ct pr bu id e.ss e.ts e.ar W w R hpk hEv hi hp rfl rfl rfl hS).mono ?_;rintro x w' ⟨E',h1,h2,rfl,hS⟩;rw[hap];obtain⟨h3,h5⟩:=BR7 h1 (h2.trans (hs _)) hS;exact⟨h3,rfl,h5⟩
  ·skip
   refine(gv4 (vs:=e.vs) cl sq ak aw tk tw it ct pr bu id e.ss e.ts e.ar W w R hpk hEv hi hp rfl rfl hS).mono ?_;rintro x w' ⟨E',h1,h2,rfl,hS⟩;rw[hap];obtain⟨h3,h5⟩:=BR7 h1 (h2.trans (hs _)) hS;exact⟨h3,rfl,h5⟩
  ·skip
   refine(gw4 (vs:=e.vs) cl sq ak aw tk tw it ct pr bu id e.ss e.ts e.ar W w R hpk hEv hi hp rfl hS).mono ?_;rintro x w' ⟨E',h1,h2,rfl,hS⟩;rw[hap];obtain⟨h3,h5⟩:=BR7 h1 (h2.trans hsame) hS;exact⟨h3,rfl,h5⟩
  ·have hm3:s7 ⟨6,cl,sq,ak,aw,tk,tw,it,ct,pr,bu,id⟩=true:=hm2;have hc:H5 ⟨6,cl,sq,ak,aw,tk,tw,it,ct,pr,bu,id⟩=true:=by unfold s7 at hm3;exact(jB _ _▸hm3).1
   obtain⟨h0,h4,c0,c1⟩:=Cx7 hc;refine(gx4 (vs:=e.vs) cl sq ak aw tk tw it ct pr bu id e.ss e.ts e.ar W w R hpk hEv hi hp h0 h4 c0 c1 rfl hS).mono ?_;rintro x w' ⟨E',h1,h2,rfl,hS⟩;rw[hap];obtain⟨h3,h5⟩:=BR7 h1 (h2.trans (hs _)) hS;exact⟨h3,rfl,h5⟩
  ·skip
   refine(gy4 (vs:=e.vs) cl sq ak aw tk tw it ct pr bu id e.ss e.ts e.ar W w R hpk hEv hi hp hS).mono ?_;rintro x w' ⟨E',h1,h2,rfl,hS⟩;rw[hap];obtain⟨h3,h5⟩:=BR7 h1 (h2.trans hsame) hS;exact⟨h3,rfl,h5⟩
theorem Oo7{eb:Nat}{e e2:Ec}{i:Nat}{r:Rpl}{b:Bool}(hE:EOk e i)(hi:i<=1000000){kd cl sq:Int}{ak aw tk tw:ByteArray}{it ct pr:Int}{bu:Bool}{id:Int}(h:B6 e ⟨kd,cl,sq,ak,aw,tk,tw,it,ct,pr,bu,id⟩=(r,b,e2))(W w:World)(R:List HP)(hS:St W (ecP eb e::R) w):
  Calls Tryz.prog 27 #[.P eb,oV kd cl sq ak aw tk tw it ct pr bu id] w fun x w'=>EOk e2 (i+1)/\x=.returned (.tuple #[rV r.err r.id r.has.x0 r.has.x1 r.has.x2 r.has.x3,.bool b])/\St W (ecP eb e2::R) w':=by
 have h1:=On7 hE hi kd cl sq ak aw tk tw it ct pr bu id W w R hS;rw[h]at h1;exact h1
abbrev kA:ByteArray:=⟨#[97]⟩
abbrev kX:ByteArray:=⟨#[120]⟩
abbrev kB:ByteArray:=⟨#[98]⟩
abbrev kY:ByteArray:=⟨#[121]⟩
abbrev kN:ByteArray:=⟨#[]⟩
abbrev ha4(last:Int):Opn:=⟨1,7,last,kA,kX,kN,kN,0,3,0,false,0⟩
abbrev hb4(now:Int):Opn:=⟨5,7,now,kA,kX,kN,kN,0,0,0,false,0⟩
abbrev hc4(last:Int):Ec:=⟨[(kA,⟨[(kX,⟨3,0,0,0⟩)],[],1⟩)],[(7,(last,rp0))],[],[]⟩
abbrev knO:Opn:=⟨1,1,1,kA,kX,kN,kN,0,5,0,false,0⟩
abbrev kn1:Ec:=⟨[(kA,⟨[(kX,⟨5,0,0,0⟩)],[],1⟩)],[(1,(1,rp0))],[],[]⟩
theorem Ps7:B6 ec0 knO=(rp0,true,kn1):=by kernel_rfl
def fH4(W:World)(L:List HP)(n:Nat)(v:Value)(w:World):Prop:=∃i:Nat,v=.I i/\i<=n/\St W L w
theorem JL7{r0 r1 r2 r3 r4 r5 q0 q1 q2 q3 q4 q5:Int}{b:Bool}(h:Rpl.eqB ⟨r0,r1,⟨r2,r3,r4,r5⟩⟩ ⟨q0,q1,⟨q2,q3,q4,q5⟩⟩=b)(w:World):(Op.equalIn 10000 36 (rV r0 r1 r2 r3 r4 r5) (rV q0 q1 q2 q3 q4 q5)).run Tryz.prog w=.ok b w:=h▸fv4 ⟨r0,r1,⟨r2,r3,r4,r5⟩⟩ ⟨q0,q1,⟨q2,q3,q4,q5⟩⟩ w
theorem Op7{L:List HP}{S S':Nat->Bool}{h:O8}(hs:∀b,S' b=true->S b=true)(h1:sats L (l8 S h)):sats L (l8 S' h):=by
 refine BK7 (S:=S) ?_
 have:l8 S (l8 S' h)=l8 S h:=by
  funext b
  simp only[l8]
  cases hb:S' b with
  | false=>rfl
  | true=>rw[hs b hb];rfl
 rw[this];exact h1
theorem St.rebase{W w w':World}{L A:List HP}(h:St W L w)(h1:St w (A++[Old w]) w'):St W (A++L) w':=by
 refine⟨h1.os.trans h.os,h1.tape.trans h.tape,h1.output.trans h.output,?_⟩;have h2:sats (Old w::A) (fun b=>w'.heap[b]?):=AQ7 (List.perm_append_comm (l₁:=A) (l₂:=[Old w])) h1.sat
 obtain⟨S,hO,hA⟩:=h2;refine AQ7 (List.perm_append_comm (l₁:=L) (l₂:=A)) ?_
 have hin:D7 (fun b=>S b&&decide (b<w.heap.size)) (fun b=>w'.heap[b]?)=fun b=>w.heap[b]? := by
  funext b
  simp only[D7];by_cases hb:b<w.heap.size
  ·have:=hO b hb;simp only[D7]at this;rw[decide_eq_true hb,Bool.and_true];exact this
  ·rw[decide_eq_false hb,Bool.and_false];show none=_
   rw[Array.getElem?_eq_none (by omega)]
 have hA2:sats A (l8 (fun b=>S b&&decide (b<w.heap.size)) (fun b=>w'.heap[b]?)):=Op7 (fun b hb=>by rw[jB]at hb;exact hb.1) hA;have h3:sats ([sats L]++A) (fun b=>w'.heap[b]?):=⟨_,by rw[hin];exact h.sat,hA2⟩
 exact AQ7 (List.perm_append_comm (l₁:=A) (l₂:=L)) (Dg7.2 (AQ7 (List.perm_append_comm (l₁:=[sats L]) (l₂:=A)) h3))
theorem St.sliceV{α:Type}{enc:α->List Value}{k:Nat}(henc:∀x,(enc x).length=k){W w:World}{L:List HP}{v:Value}{T:TypeId}{xs:List α}(h:St W (row v k T xs.length (xs.flatMap enc)::L) w):C8 enc k w v xs:=by
 rcases h.rowOpen with ⟨rfl,h0,_⟩|⟨g,cap,junk,rfl,hn1,hm1,_,_,hS⟩
 ·exact⟨none,0,by rw[h0],by omega,fun i hi=>absurd hi (by omega)⟩
 ·refine⟨some ⟨g,0,none⟩,cap,rfl,by unfold maxLen at hm1;omega,fun i hi=>⟨g,0,rfl,fun j u hj=>?_⟩⟩;have hl:j<k:=by have:=(List.getElem?_eq_some_iff.1 hj).1;rwa [henc]at this
  rw[Nat.zero_add];exact hS.cell .head (by rw[AS7 henc xs junk i hi j hl];exact hj)
theorem C8.old{α:Type}{enc:α->List Value}{k:Nat}{V W w:World}{L:List HP}{v:Value}{xs:List α}(h:C8 enc k V v xs)(hS:St W L w)(hm:Mem (Old V) L):C8 enc k w v xs:=by obtain⟨a,cap,e,h1,h2⟩:=h;refine⟨a,cap,e,h1,fun i hi=>?_⟩;obtain⟨b,off,ea,hc⟩:=h2 i hi;exact⟨b,off,ea,fun j u hj=>hS.oldCell hm (hc j u hj)⟩
section
variable{P:Program}{ops:Array Oper}{Q:Exit->Act->World->Prop}{a:Act}{w:World}{rest:List Oper}{o:Oper}
end
def at4{α:Type}(enc:α->List Value)(k:Nat)(w:World)(v:Value)(xss:List (List α)):Prop:=
 ∃ps:List (Value×List α),xss=ps.map (·.2)/\C8 (fun p:Value×List α=>[p.1]) 1 w v ps/\∀p∈ps,C8 enc k w p.1 p.2
theorem at4.old{α:Type}{enc:α->List Value}{k:Nat}{V W w:World}{L:List HP}{v:Value}{xss:List (List α)}(h:at4 enc k V v xss)(hS:St W L w)(hm:Mem (Old V) L):at4 enc k w v xss:=by obtain⟨ps,e,h1,h2⟩:=h;exact⟨ps,e,h1.old hS hm,fun p hp=>(h2 p hp).old hS hm⟩
abbrev sM(n:Int):Opn:=⟨1,1,1,kA,kX,kN,kN,0,n,0,false,0⟩
abbrev sS(c:Int):Opn:=⟨2,1,2,kA,kX,kB,kY,0,c,0,false,0⟩
abbrev sA(c:Int):Opn:=⟨6,1,2,kB,kY,kN,kN,0,c,0,false,0⟩
abbrev sD:Opn:=⟨7,1,2,kA,kX,kN,kN,0,0,0,false,0⟩
section
variable{n c:Int}
abbrev s1(n:Int):Ec:=⟨[(kA,⟨[(kX,⟨n,0,0,0⟩)],[],1⟩)],[(1,(1,rp0))],[],[]⟩
abbrev s2n(n:Int):Ec:=⟨[(kA,⟨[(kX,⟨n,0,0,0⟩)],[],1⟩)],[(1,(2,⟨14,0,it0⟩))],[],[]⟩
abbrev qS(n c:Int):Ps:=G9 [(kX,⟨n,0,0,0⟩)] kX ⟨n-c,0,0,0⟩
abbrev s2(n c:Int):Ec:=⟨(bf4 (s1 n) kA ⟨qS n c,[],1⟩).vs,[(1,(2,rp0))],[((1,2),cW4 (sS c))],[]⟩
abbrev s3(n c:Int):Ec:=⟨(bf4 (s2 n c) kB ⟨[(kY,⟨c,0,0,0⟩)],[],1⟩).vs,[(1,(2,rp0))],[((1,2),cW4 (sS c))],[((1,2),())]⟩
abbrev s4(n c:Int):Ec:=⟨(bf4 (s3 n c) kA (atV (s3 n c) kA)).vs,[(1,(2,rp0))],[],[((1,2),())]⟩
end
theorem HG7{eb:Nat}{e:Ec}(cl sq:Int){b:Bool}(hb:(j6 e.ar (cl,sq)).isSome=b)(W w:World)(R:List HP)(hS:St W (ecP eb e::R) w):
  Calls Tryz.prog 30 #[.P eb,.I cl,.I sq] w fun x w'=>x=.returned (.bool b)/\St W (ecP eb e::R) w':=by
 obtain⟨m1,m2,m3,m4,E,hp,hn,hS⟩:=ca4 hS;have hS1:=G8 hS;clear hS;have hS:=hS1;clear hS1;have Hp:=jH hp;clear hp hn
 cases hg:j6 e.ar (cl,sq)with
 | none=>
  rw[hg]at hb;obtain rfl:false=b:=hb;go_enter Tryz.func30,Tryz.ntmps30;go_wp2_with(first|go_big_skip|refine zl1 hS ?_|(with_reducible apply Fc7 (ek:=eW) (ev:=eU) (k:=(cl,sq)) hS);rfl;rfl;rfl;rfl;exact i7;exact mAr;exact kW;exact zA;exact hg;refine frS ?_);go_ret;exact⟨rfl,bu4 Hp.out (hS.s _)⟩
 | some u=>
  rw[hg]at hb;obtain rfl:true=b:=hb;go_enter Tryz.func30,Tryz.ntmps30;go_wp2_with(first|go_big_skip|refine zl1 hS ?_|(with_reducible apply Dn7 (ek:=eW) (ev:=eU) (k:=(cl,sq)) hS);rfl;rfl;rfl;rfl;exact i7;exact mAr;exact kW;exact zA;exact hg;refine frS ?_);go_ret;exact⟨rfl,bu4 Hp.out (hS.s _)⟩
end Go.Proofs.YtienbkdjkjbelaaGreat
end
section
namespace Go.Sl
open Go.RowKit
section
variable{κ ν:Type}{F:Fence}{n:Nat}{P:Program}{W w:World}{L R:List HP}{ops:Array Oper}{rest:List Oper}{o:Oper}{a:Act}{Q:Exit->Act->World->Prop}{ek:κ->Value}{ev:ν->Value}{b r:Nat}{l todo:List (κ×ν)}{t K E:TypeId}
theorem KD7(hS:St W L w){x:Operand}(hg:o.guard=none)(hop:o.op=Op.range t x)(hx:a.eval x=.map (some b))(ht:E8 P t=some (K,E))(hu:Take L (d9 ek ev b l) R)
  (h:∀r w',St W (itR ek ev r b l l::R) w'->wpListIn F n P ops Q rest (a.put o.dst (.P r)) w'):wpListIn F n P ops Q (o::rest) a w:=by
 obtain⟨r,w',hr,hS'⟩:=FT7 (P:=P) (hS.take hu) ht;refine wpListIn_plain hg fun K' hK'=>?_
 unfold Oper.wpIn;refine⟨?_,?_⟩
 ·simp[Oper.about,hop]
 ·rw[Oper.semAt_plain F _ _ (by rw[hop];intro c hc';cases hc')];simp[execOp,hop,hx,hr,Result.andThen];exact hK' _ _ (h r w' hS')
theorem Mu7(hS:St W (itR ek ev r b l todo::L) w){x:Operand}(hg:o.guard=none)(hop:o.op=Op.next x false)(hx:a.eval x=.P r)
  (h0:todo=[]->wpListIn F n P ops Q rest (a.put o.dst (.tuple #[.bool false])) w)
  (h1:∀y todo' w',todo.Perm (y::todo')->y∈l->St W (itR ek ev r b l todo'::L) w'->(Instr.entry (.P r)).run P w'=.ok (.tuple #[ek y.1,ev y.2]) w'->wpListIn F n P ops Q rest (a.put o.dst (.tuple #[.bool true,ek y.1,ev y.2])) w'):
  wpListIn F n P ops Q (o::rest) a w:=by
 refine wpListIn_plain hg fun K' hK'=>?_
 unfold Oper.wpIn;refine⟨by simp[Oper.about,hop],?_⟩;rw[Oper.semAt_plain F _ _ (by rw[hop];intro c hc';cases hc')]
 rcases Hc7 (P:=P) (ty:=o.type) hS with ⟨h2,hr⟩|⟨y,todo',hp,hy,w',hr,hS'⟩
 ·simp[execOp,hop,hx,hr,Result.andThen];exact hK' _ _ (h0 h2)
 ·simp[execOp,hop,hx,hr,Result.andThen];exact hK' _ _ (h1 y todo' w' hp hy (eA4 hS') (FU7 hS'))
theorem KE7{s x:Operand}{e:TypeId}{z:Value}{k bytes:Nat}{v xv:Value}{m1 m:Nat}{cs news:List Value}(hS:St W L w)(hg:o.guard=none)(hop:o.op=.call { callee:=.builtin .append,args:=#[s,x],argTypes:=#[t,t] })
  (hs:a.eval s=v) (hx:a.eval x=xv) (ht:s5 P t=some e) (hi:A8 P e=some (some z,k,bytes)) (hz:z.cells.size=k) (hk:0<k) (hu:Take L (row v k e m1 cs) R) (hsrc:cG4 w xv m news) (hl:news.length=m*k) (h1:news.all (·.oneCell')=true) (h63:m1+m<=maxLen)
  (hb:(m1+m)*bytes<=140737488355328)
  (h:∀v' w',St W (row v' k e (m1+m) (cs++news)::R) w'->wpListIn F n P ops Q rest (a.put o.dst v') w'):wpListIn F n P ops Q (o::rest) a w:=by
 refine wpListIn_plain hg fun K' hK'=>?_
 unfold Oper.wpIn;obtain⟨v',w',hr,hS'⟩:=CB7 (P:=P) (ty:=o.type) ht hi hz hk rfl hS hu hsrc hl h1 h63 hb;refine⟨by simp[Oper.about,hop,resolve,Target.leads,Sem.run_pure],?_⟩;rw[Oper.semAt_plain F _ _ (by rw[hop];intro c hc';cases hc')];simp[execOp,hop,resolve,invoke,builtin,hs,hx,hr,Result.andThen];exact hK' _ _ (h v' w' hS')
theorem Fu7(hF:∀f,F.fn f)(hg:o.guard=none)(hpl:∀c,o.op ≠ .defer c){v:Value}{w':World}(hr:(execOp a.eval o).run P w=.ok (.value v) w')(h:wpListIn F n P ops Q rest (a.put o.dst v) w'):wpListIn F n P ops Q (o::rest) a w:=by
 refine wpListIn_plain hg fun K' hK'=>?_
 unfold Oper.wpIn;refine⟨fun f _=>hF f,?_⟩;rw[Oper.semAt_plain F _ _ hpl,hr];exact hK' _ _ h
theorem Oq7(hF:∀f,F.fn f)(hg:o.guard=none)(hpl:∀c,o.op ≠ .defer c){w':World}(hr:(execOp a.eval o).run P w=.ok .skip w')(h:wpListIn F n P ops Q rest (a.put o.dst undef) w'):wpListIn F n P ops Q (o::rest) a w:=by
 refine wpListIn_plain hg fun K' hK'=>?_
 unfold Oper.wpIn;refine⟨fun f _=>hF f,?_⟩;rw[Oper.semAt_plain F _ _ hpl,hr];exact hK' _ _ h
theorem II7(hF:∀f,F.fn f){x:Operand}{b off:Nat}{v:Value}(hS:St W L w)(ho:o.op=.load t x)(hg:o.guard=none)(hx:a.eval x=.pointer (some ⟨b,off,none⟩))(ht:K7 P t=some false)(hc:i6 L b off v)(h:wpListIn F n P ops Q rest (a.put o.dst v) w):wpListIn F n P ops Q (o::rest) a w:=
 Fu7 hF hg (fun c hc'=>by rw[ho]at hc';cases hc') (Dc7 hS ho hx ht hc) h
theorem Mv7(hF:∀f,F.fn f){x:Operand}{b off:Nat}{vs:List Value}(hS:St W L w)(ho:o.op=.load t x)(hg:o.guard=none)(hx:a.eval x=.pointer (some ⟨b,off,none⟩))(ht:K7 P t=some true)(hn:E5 P t=some vs.length)(hc:d8 L b off vs)(h:wpListIn F n P ops Q rest (a.put o.dst (.agg vs.toArray)) w):wpListIn F n P ops Q (o::rest) a w:=
 Fu7 hF hg (fun c hc'=>by rw[ho]at hc';cases hc') (EA7 hS ho hx ht hn hc) h
theorem HH7(hF:∀f,F.fn f){l:List Value}(hS:St W L w)(ho:o.op=.alloc t)(hg:o.guard=none)(hz:m6 P t=some l)(h:∀b w',St W (blk b l t::L) w'->wpListIn F n P ops Q rest (a.put o.dst (.P b)) w'):wpListIn F n P ops Q (o::rest) a w:=by obtain⟨b,w',hr,hS'⟩:=DU7 (P:=P) (a:=a) hS ho hz;exact Fu7 hF hg (fun c hc'=>by rw[ho]at hc';cases hc') hr (h b w' hS')
theorem Qj7(hF:∀f,F.fn f){x:Operand}{v:Value}{l:List Value}(hS:St W L w)(ho:o.op=.box t x)(hg:o.guard=none)(hx:a.eval x=v)(hv:v.cells=l.toArray)(h:∀b w',St W (blk b l t::L) w'->wpListIn F n P ops Q rest (a.put o.dst (.P b)) w'):wpListIn F n P ops Q (o::rest) a w:=by obtain⟨b,w',hr,hS'⟩:=Jg7 (P:=P) (a:=a) hS ho hx hv;exact Fu7 hF hg (fun c hc'=>by rw[ho]at hc';cases hc') hr (h b w' hS')
theorem Pt7(hF:∀f,F.fn f){L':List HP}{x y:Operand}{b off:Nat}{l vs l':List Value}{T:TypeId}{v:Value}(hS:St W L w)(ho:o.op=.store t x y)(hg:o.guard=none)(hx:a.eval x=.pointer (some ⟨b,off,none⟩))(hy:a.eval y=v)(hv:v.cells.toList=vs)
  (hn:E5 P t=some vs.length) (h1:vs.all (·.oneCell')=true) (hu:Upd L (blk b l T) (blk b l' T) L') (hl:off+vs.length<=l.length) (he:B9 l off vs=l') (h:∀w',St W L' w'->wpListIn F n P ops Q rest (a.put o.dst undef) w'):wpListIn F n P ops Q (o::rest) a w:=by
 obtain⟨w',hr,hS'⟩:=DT7 (P:=P) (a:=a) hS ho hx hy hv hn h1 hu hl he;exact Oq7 hF hg (fun c hc'=>by rw[ho]at hc';cases hc') hr (h w' hS')
theorem Mw7(hF:∀f,F.fn f){L':List HP}{x y:Operand}{b off:Nat}{l vs l':List Value}{T:TypeId}(hS:St W L w)(ho:o.op=.store t x y)(hg:o.guard=none)(hx:a.eval x=.pointer (some ⟨b,off,none⟩))(hy:a.eval y=.agg vs.toArray)
  (hn:E5 P t=some vs.length) (h1:vs.all (·.oneCell')=true) (hu:Upd L (blk b l T) (blk b l' T) L') (hl:off+vs.length<=l.length) (he:B9 l off vs=l') (h:∀w',St W L' w'->wpListIn F n P ops Q rest (a.put o.dst undef) w'):wpListIn F n P ops Q (o::rest) a w:=
 Pt7 hF hS ho hg hx hy (by simp[Value.cells]) hn h1 hu hl he h
theorem Qk7(hF:∀f,F.fn f){L':List HP}{x y:Operand}{b off:Nat}{l l':List Value}{T:TypeId}{v:Value}(hS:St W L w)(ho:o.op=.store t x y)(hg:o.guard=none)(hx:a.eval x=.pointer (some ⟨b,off,none⟩))(hy:a.eval y=v)
  (hn:E5 P t=some 1) (hv:v.cells.toList=[v]) (h1:v.oneCell'=true) (hu:Upd L (blk b l T) (blk b l' T) L') (hl:off<l.length) (he:l.set off v=l') (h:∀w',St W L' w'->wpListIn F n P ops Q rest (a.put o.dst undef) w'):wpListIn F n P ops Q (o::rest) a w:=
 Pt7 hF hS ho hg hx hy hv hn (by simp[h1]) hu (by simp;omega) (by simpa[B9]using he) h
theorem Rj7(hF:∀f,F.fn f){e n1:TypeId}{z:Value}{k bytes:Nat}{xs:Array (Nat×Operand)}{parts:List (Nat×Value)}{l:List Value}(hS:St W L w)(ho:o.op=.buildSlice t n1 xs)(hg:o.guard=none)(hx:(xs.map fun(i,x)=>(i,a.eval x))=parts.toArray)
  (ht:s5 P t=some e) (hi:A8 P e=some (some z,k,bytes)) (hz:z.cells.size=k) (hn:decide (n1*k<=16777216)=true) (hp:ar4 k n1 parts=true) (hl:aX4 k (O9 z n1) parts=l)
  (h:∀b w',St W (blk b l e::L) w'->wpListIn F n P ops Q rest (a.put o.dst (.S b n1 n1)) w'):wpListIn F n P ops Q (o::rest) a w:=by
 obtain⟨b,w',hr,hS'⟩:=EW7 (P:=P) (a:=a) hS ho hx ht hi hz hn hp hl;exact Fu7 hF hg (fun c hc'=>by rw[ho]at hc';cases hc') hr (h b w' hS')
end
theorem St.putObj{W w:World}{L:List HP}{b:Nat}{o:Obj}(o':Obj)(h:St W (ac4 b o::L) w):St W (ac4 b o'::L) (w.putObj b o'):=by
 have hg:=h.get (b:=b) .head;refine h.putO .head rfl rfl rfl fun k=>?_
 by_cases hk:k=b
 ·subst hk;rw[if_pos rfl];exact World.putObj_heap_same (Array.getElem?_eq_some_iff.1 hg).1
 ·rw[if_neg hk];exact World.putObj_heap_other hk
def ds4{κ:Type}(P:Program)(ek:κ->Value)(N:Nat)(l:Nat)(W:World)(X:List κ->HP):Prop:=
 ∀(m:Nat) (pre:List κ) (x:κ) (L:List HP) (w:World),pre.length<N->St W (X pre::L) w->YieldAt Fence.wide m P l #[ek x] w fun e w'=>e=.returned (.bool true)/\St W (X (pre++[x])::L) w'
def cZ4{κ:Type}(P:Program)(ek:κ->Value)(N:Nat)(gf:Nat)(lb:Array Value)(S:List κ->Prop)(W:World)(R:List HP):Prop:=
 ∀(l m:Nat) (X:List κ->HP) (w:World),ds4 P ek N l W X->St W (X []::R) w->
  CallsIn Fence.wide m P gf (#[.func (.yield l) #[] #[]]++lb) w fun e w'=>(∃v,e=.returned v)/\∃ss,S ss/\St W (X ss::R) w'
theorem Mx7{κ:Type}{n:Nat}{P:Program}{W w:World}{L R:List HP}{ops:Array Oper}{rest:List Oper}{o:Oper}{a:Act}{Q:Exit->Act->World->Prop}{ek:κ->Value}{x y:Operand}{ats:Array TypeId}{lp N:Nat}{k:κ}{pre:List κ}{X:List κ->HP}
  (hY:ds4 P ek N lp W X) (hS:St W L w) (hop:o.op=.call { callee:=.value x,args:=#[y],argTypes:=ats }) (hg:o.guard=none) (hx:a.eval x=.func (.yield lp) #[] #[]) (hy:a.eval y=ek k) (hlt:pre.length<N) (hu:Take L (X pre) R)
  (h:∀w',St W (X (pre++[k])::R) w'->wpListIn Fence.wide n P ops Q rest (a.put o.dst (.bool true)) w'):wpListIn Fence.wide n P ops Q (o::rest) a w:=by
 obtain⟨fn,tmps,assign,body,hy2,hR⟩:=hY (n-1) pre k R w hlt (hS.take hu);refine wpListIn_plain hg fun K' hK'=>?_
 unfold Oper.wpIn;refine⟨fun f _=>trivial,?_⟩;rw[Oper.semAt_plain Fence.wide _ _ (by rw[hop];intro c hc';cases hc')]
 have e:(execOp a.eval o).run P w=.ok (.round lp fn tmps assign body) w:=by
  have ha:(#[y]:Array Operand).map a.eval=#[ek k]:=by simp[hy]
  unfold execOp;simp only[hop,resolve,Sem.run_bind,hx,Deferred.ofValue,ha,Sem.run_pure,Result.andThen_ok];simp[invoke,hy2]
 rw[e,Oper.uponIn_round];refine⟨(fun h=>by cases h),hR.mono ?_⟩;rintro e w3 ⟨rfl,h5⟩;exact hK' _ _ (h w3 h5)
def bw4(fn:FuncId)(tmps:Array Value)(ps:Array Tmp)(assign body:Code)(D:Nat)(st:LoopState)(pe:Option Code):Loop:={ state:=st,pending:=pe,fn,tmps,params:=ps,assign,body,defers:=D }
def dt4(rc:LoopState->Option Code->Loop)(l D:Nat)(I:HP):HP:=sep I (sep (ac4 l (.loop (rc .ready none))) (ac4 D (.deferred (some []))))
section
variable{κ:Type}{n:Nat}{P:Program}{W w:World}{L R:List HP}{a:Act}{Q:Exit->Act->World->Prop}{ek:κ->Value}
theorem da4{rc:LoopState->Option Code->Loop}{l D:Nat}{I:HP}(h:St W (dt4 rc l D I::L) w):St W (I::ac4 l (.loop (rc .ready none))::ac4 D (.deferred (some []))::L) w:=
 (St.split (St.split h).swap).s _
theorem db4{rc:LoopState->Option Code->Loop}{l D:Nat}{I:HP}(h:St W (I::ac4 l (.loop (rc .ready none))::ac4 D (.deferred (some []))::L) w):St W (dt4 rc l D I::L) w:=
 St.join ((St.join (h.s (ac4 l (.loop (rc .ready none))::ac4 D (.deferred (some []))::I::L))).swap)
theorem eZ4{g:Operand}{p1:Tmp}{assign body:Code}{gf:Nat}{lb:Array Value}(hg:a.eval g=.func (.func gf) #[] lb)(eg:∀args w,(callFunc gf args).run P w=.ok (.enter gf args) w)
  {S:List κ->Prop} {N:Nat} {I:List κ->HP} (hseq:cZ4 P ek N gf lb S W R) (hS:St W (I []::R) w)
  (hround:∀(l m:Nat) (pre:List κ) (x:κ) (L:List HP) (w:World),pre.length<N->St W (I pre::L) w->assign.wpIn (Fence.wide.inRound l) m P (Exit.then (fun a1 w1=>∃J:HP,St W (J::L) w1/\∀(L2:List HP) (w2:World),St W (J::L2) w2->
   body.wpIn (Fence.wide.inRound l) m P (fun e _ w'=>e=.normal/\St W (I (pre++[x])::L2) w') a1 w2) (fun _ _ _=>False)) { tmps:=a.tmps.setIfInBounds p1 (ek x),defers:=[] } w)
  (hdone:∀(D:Nat) (ss:List κ) (w:World),S ss->St W (I ss::ac4 D (.deferred (some []))::R) w->Q .normal { a with defers:={ target:=.collected D,args:=#[] }::a.defers } w):
  (Code.rangeFunc g #[p1] assign body).wpIn Fence.wide n P Q a w:=by
 refine wpIn_rangeFunc ?_;intro fn hfn;have h1:=(hS.alloc (.deferred (some []))).alloc (.loop (bw4 fn a.tmps #[p1] assign body w.heap.size .ready none));rw[World.size_alloc]at h1;generalize hW1:(w.alloc (.deferred (some []))).alloc (.loop (bw4 fn a.tmps #[p1] assign body w.heap.size .ready none))=w1 at h1
 refine⟨w.heap.size+1,[{ target:=.collected w.heap.size,args:=#[] }],w1, { target:=.fn (.func gf) lb,args:=#[.func (.yield (w.heap.size+1)) #[] #[]] },w1,gf,
  #[.func (.yield (w.heap.size + 1)) #[] #[]] ++ lb,w1,?_,?_,?_,?_,(fun h => by cases h),?_⟩
 ·rw[<-hW1];exact run_enterLoop_outer _ _ _ _ _
 ·simp only[resolve,hg];simp[go_sem]
 ·intro f' hf';trivial
 ·simp[invoke,go_sem,eg]
 ·have hT:ds4 P ek N (w.heap.size+1) W (fun ss=>dt4 (bw4 fn a.tmps #[p1] assign body w.heap.size) (w.heap.size+1) w.heap.size (I ss)):=by
   intro m pre x L' w2 hlt hS2;have h2:=da4 hS2;have hl:=h2.get (b:=w.heap.size+1) (.tail .head);refine⟨_,_,_,_,run_yield (P:=P) (args:=#[ek x]) hl rfl,roundIn_of_wpIn trivial ?_⟩;have et:((bw4 fn a.tmps #[p1] assign body w.heap.size .ready none).params.zip #[ek x]).foldl (fun tmps (t,a)=>tmps.setIfInBounds t a) (bw4 fn a.tmps #[p1] assign body w.heap.size .ready none).tmps=a.tmps.setIfInBounds p1 (ek x):=by simp[bw4]
   rw[et];refine wpIn_mono (hround _ _ pre x _ w2 hlt h2) ?_;intro e a1 w1 hq
   cases e with
   | normal=>
    obtain⟨J,hJ,hb⟩:=hq;have hl1:=hJ.get (b:=w.heap.size+1) (.tail .head);refine⟨_,run_beginRound (P:=P) hl1 rfl,?_⟩;have h4:St W (J::ac4 (w.heap.size+1) (.loop (bw4 fn a.tmps #[p1] assign body w.heap.size .busy none))::ac4 w.heap.size (.deferred (some []))::L') _:=((hJ.swap).putObj (.loop (bw4 fn a.tmps #[p1] assign body w.heap.size .busy none))).swap;refine wpIn_mono (hb _ _ h4) ?_;rintro e a3 w3 ⟨rfl,h5⟩;have hl5:=h5.get (b:=w.heap.size+1) (.tail .head);refine⟨_,_,run_endRound (P:=P) none hl5,rfl,?_⟩;exact db4 ((h5.swap).putObj (.loop (bw4 fn a.tmps #[p1] assign body w.heap.size .ready none))).swap
   | _=>exact hq
  refine(hseq (w.heap.size+1) _ (fun ss=>dt4 (bw4 fn a.tmps #[p1] assign body w.heap.size) (w.heap.size+1) w.heap.size (I ss)) w1 hT (db4 (h1.s _))).mono ?_;rintro e w3 ⟨⟨v,rfl⟩,ss,hs,h2⟩;have h3:=da4 h2;have hl:=h3.get (b:=w.heap.size+1) (.tail .head);refine⟨none,_,run_endLoop (P:=P) hl (by simp[bw4]),?_⟩;exact hdone _ ss _ hs (((h3.swap).putObj _).drop)
end
end Go.Sl
end
section
namespace Go.Sl
section
variable{κ ν:Type}
structure Ordr(lt:κ->κ->Bool):Prop where
 irr:∀a,lt a a=false
 tr:∀a b c,lt a b=true->lt b c=true->lt a c=true
 tri:∀a b,lt a b=false->a≠b->lt b a=true
def Asc(lt:κ->κ->Bool)(l:List (κ×ν)):Prop:=l.Pairwise fun x y=>lt x.1 y.1=true
def plI(lt:κ->κ->Bool):List (κ×ν)->κ->Nat
 | [],_=>0
 | x::l,k=>if lt x.1 k=true then plI lt l k+1 else 0
def plB[DecidableEq κ](lt:κ->κ->Bool):List (κ×ν)->κ->Bool
 | [],_=>false
 | x::l,k=>if lt x.1 k=true then plB lt l k else decide (x.1=k)
def plS[DecidableEq κ](lt:κ->κ->Bool)(l:List (κ×ν))(k:κ)(v:ν):List (κ×ν):=l.take (plI lt l k)++(k,v)::l.drop (if plB lt l k=true then plI lt l k+1 else plI lt l k)
theorem HI7(lt:κ->κ->Bool)(k:κ):∀l:List (κ×ν),plI lt l k<=l.length
 | []=>Nat.le_refl _
 | x::l=>by have:=HI7 lt k l;rw[plI,jC];split <;> omega
theorem My7[DecidableEq κ](lt:κ->κ->Bool)(k:κ):∀l:List (κ×ν),plB lt l k=true->∃h:plI lt l k<l.length,l[plI lt l k].1=k
 | [],h=>by cases h
 | x::l,h=>by
  rw[plB]at h;by_cases hx:lt x.1 k=true
  ·rw[if_pos hx]at h;obtain⟨h1,h2⟩:=My7 lt k l h;have e:plI lt (x::l) k=plI lt l k+1:=by rw[plI,if_pos hx]
   refine⟨by rw[e,jC];omega,?_⟩;simp only[e,List.getElem_cons_succ];exact h2
  ·rw[if_neg hx]at h;have e:plI lt (x::l) k=0:=by rw[plI,if_neg hx]
   refine⟨by rw[e,jC];omega,?_⟩;simp only[e,List.getElem_cons_zero];simpa using h
variable{lt:κ->κ->Bool}{l:List (κ×ν)}{k:κ}{v:ν}
theorem BG7(ho:Ordr lt)(h:Asc lt l):(l.map (·.1)).Nodup:=by
 unfold Asc at h;refine List.pairwise_map.2 (h.imp fun{a b} hab e=>?_);rw[e,ho.irr]at hab
 cases hab
theorem Mz7[DecidableEq κ](ho:Ordr lt)(h:Asc lt l):plB lt l k=(j6 l k).isSome:=by
 induction l with
 | nil=>rfl
 | cons x l ih=>
  unfold Asc at h;rw[List.pairwise_cons]at h;obtain⟨h1,h2⟩:=h;have e:j6 (x::l) k=if x.1=k then some x.2 else j6 l k:=by unfold j6;rw[List.find?_cons];by_cases hk:x.1=k <;> simp[hk]
  rw[plB,e];by_cases hx:lt x.1 k=true
  ·have hne:x.1≠k:=fun e=>by rw[e,ho.irr]at hx;cases hx
   rw[if_pos hx,if_neg hne];exact ih h2
  ·rw[if_neg hx];by_cases hk:x.1=k
   ·rw[if_pos hk];simp[hk]
   ·rw[if_neg hk];have h3:lt k x.1=true:=ho.tri _ _ (by simpa using hx) hk
    have h4:j6 l k=none:=by
     unfold j6;rw[Option.map_eq_none_iff,List.find?_eq_none];intro y hy;simp only[decide_eq_true_eq];intro e;have h5:=ho.tr _ _ _ h3 (h1 y hy);rw[e,ho.irr]at h5
     cases h5
    rw[h4];simp[hk]
theorem Ql7(ho:Ordr lt){l':List (κ×ν)}(h:Asc lt l)(h':Asc lt l')(hp:l.Perm l'):l=l':=by
 unfold Asc at h h'
 exact List.Perm.eq_of_pairwise (fun a b _ _ h1 h2=>by
  have:=ho.tr _ _ _ h1 h2;rw[ho.irr]at this
  cases this) h h' hp
theorem Fv7[DecidableEq κ](ho:Ordr lt):∀(l:List (κ×ν)) (k:κ),Asc lt l->(∀x∈l.take (plI lt l k),lt x.1 k=true)/\(∀y∈l.drop (if plB lt l k=true then plI lt l k+1 else plI lt l k),lt k y.1=true)
 | [],k,_=>⟨fun x hx=>(by simp at hx),fun y hy=>(by simp[plI,plB]at hy)⟩
 | z::l,k,h=>by
  unfold Asc at h;rw[List.pairwise_cons]at h;obtain⟨h1,h2⟩:=h;rw[plI,plB];by_cases hx:lt z.1 k=true
  ·rw[if_pos hx,if_pos hx];obtain⟨i1,i2⟩:=Fv7 ho l k h2;refine⟨?_,?_⟩
   ·intro x hx2;rw[List.take_succ_cons]at hx2
    rcases List.mem_cons.1 hx2 with rfl|hx2
    ·exact hx
    ·exact i1 x hx2
   ·intro y hy;refine i2 y ?_;split at hy
    ·rename_i h3
     rw[if_pos h3];simpa using hy
    ·rename_i h3
     rw[if_neg h3];simpa using hy
  ·rw[if_neg hx,if_neg hx];refine⟨fun x hx2=>(by simp at hx2),?_⟩;intro y hy;by_cases hk:z.1=k
   ·rw[if_pos (by simp[hk])]at hy;rw[<-hk];exact h1 y (by simpa using hy)
   ·rw[if_neg (by simp[hk])]at hy;have h3:lt k z.1=true:=ho.tri _ _ (by simpa using hx) hk;rcases List.mem_cons.1 (by simpa using hy)with rfl|hy
    ·exact h3
    ·exact ho.tr _ _ _ h3 (h1 y hy)
theorem GA7[DecidableEq κ](ho:Ordr lt)(h:Asc lt l):Asc lt (plS lt l k v):=by
 obtain⟨h1,h2⟩:=Fv7 ho l k h;unfold Asc at h ⊢;unfold plS;rw[List.pairwise_append,List.pairwise_cons];refine⟨h.sublist (List.take_sublist _ _),⟨h2,h.sublist (List.drop_sublist _ _)⟩,?_⟩;intro x hx y hy
 rcases List.mem_cons.1 hy with rfl|hy
 ·exact h1 x hx
 ·exact ho.tr _ _ _ (h1 x hx) (h2 y hy)
theorem Dz7[DecidableEq κ](ho:Ordr lt)(h:Asc lt l):(plS lt l k v).Perm ((k,v)::i9 l k):=by
 obtain⟨h1,h2⟩:=Fv7 ho l k h
 have e:i9 l k=l.take (plI lt l k)++l.drop (if plB lt l k=true then plI lt l k+1 else plI lt l k):=by
  have hl:l=l.take (plI lt l k)++l.drop (plI lt l k):=(List.take_append_drop _ _).symm;have hd:∀(t:List (κ×ν)),(∀x∈t,x.1≠k)->i9 t k=t:=fun t ht=>By7 ht
  have ha:∀(s t:List (κ×ν)),i9 (s++t) k=i9 s k++i9 t k:=fun s t=>by unfold i9;rw[List.filter_append]
  have ht1:i9 (l.take (plI lt l k)) k=l.take (plI lt l k):=hd _ fun x hx e=>by
   have:=h1 x hx;rw[e,ho.irr]at this
   cases this
  have ht2:∀y∈l.drop (if plB lt l k=true then plI lt l k+1 else plI lt l k),y.1≠k:=fun y hy e=>by
   have:=h2 y hy;rw[e,ho.irr]at this
   cases this
  by_cases hb:plB lt l k=true
  ·obtain⟨h3,h4⟩:=My7 lt k l hb;rw[if_pos hb]at ht2 ⊢
   conv=>lhs;rw[hl]
   rw[ha,ht1]
   congr 1
   rw[List.drop_eq_getElem_cons h3];have:i9 (l[plI lt l k]::l.drop (plI lt l k+1)) k=i9 (l.drop (plI lt l k+1)) k:=by unfold i9;rw[List.filter_cons,if_neg (by simp[h4])]
   rw[this,hd _ ht2]
  ·rw[if_neg hb]at ht2 ⊢
   conv=>lhs;rw[hl]
   rw[ha,ht1,hd _ ht2]
 rw[e];unfold plS;exact List.perm_middle
end
theorem EM7:Ordr (fun a b:Int=>decide (a<b)):=⟨fun a=>by simp,fun a b c h1 h2=>by simp at *;omega,fun a b h1 h2=>by simp at *;omega⟩
abbrev ltW(a b:Int×Int):Bool:=decide (a.1<b.1\/(a.1=b.1/\a.2<b.2))
theorem AA7:Ordr ltW:=⟨fun a=>by simp[ltW],fun a b c h1 h2=>by simp[ltW]at *;omega,fun a b h1 h2=>by obtain⟨a1,a2⟩:=a;obtain⟨b1,b2⟩:=b;simp only[ltW,ne_eq,Prod.mk.injEq,decide_eq_false_iff_not,decide_eq_true_eq]at *;omega⟩
end Go.Sl
end
