/-
  Apply, At, New over an economy as one resource. For every economy, every request.
  A client's requests at one purse: a mint, a look; a mint, what is sent, that it arrived, that it is done. The plain law.
  Requests that come in: one, a slice of them. For every request.
  EconOld: the walk; requests that are more than is looked at; a mint twice. For every request.
  A mint, what is sent, that it arrived, that it is done: what each request leaves. The plain law of EconSends.
  Has something arrived? For every economy.
-/
import Derived.Test.YtlmhakmoioogaaaGreatEconPlaysM5
import Derived.Test.YtlmhakmoioogaaaGreatEconPlaysM18
import Derived.Test.YtlmhakmoioogaaaGreatEconPlaysM29
import Derived.Test.YtlmhakmoioogaaaGreatEconPlaysM36
import Derived.Test.YtlmhakmoioogaaaGreatRows
import Derived.Lib.SmallJoins
import Derived.ChangeArms
import Derived.ProofKit
set_option maxHeartbeats 16000000
set_option maxRecDepth 100000
set_option linter.unusedSimpArgs false
set_option linter.unusedVariables false
section
namespace Go.Proofs.YtlmhakmoioogaaaGreat
open Go.RowKit Go.Sl
def EOk(e:Ec)(i:Nat):Prop:=∀x∈e.vs,VOk x.2.ps x.2.n i
theorem eOk0(i:Nat):EOk ec0 i:=fun _ h=>(by cases h)
theorem QU7{E:Ev}{e:Ec}{i:Nat}(h:EOk e i)(hp:(stripE E).Perm e.vs):EvOk E i:=fun x hx=>h (x.1,x.2.2) (hp.mem_iff.1 (List.mem_map.2 ⟨x,hx,rfl⟩))
theorem QV7{E:Ev}{e:Ec}{i:Nat}(h:EvOk E i)(hp:(stripE E).Perm e.vs):EOk e i:=fun y hy=>by
 obtain⟨x,hx,rfl⟩:=List.mem_map.1 (hp.mem_iff.2 hy)
 exact h x hx
theorem BB7{e:Ec}{o:Opn}{r:Rpl}(h:peekE e o=(r,false)):r=rp0∧mayO o=true:=by
 unfold peekE at h
 split at h
 ·cases h
 ·rename_i hm
  refine⟨?_,by simpa using hm⟩
  split at h
  ·exact(congrArg Prod.fst h).symm
  ·split at h
   ·exact(congrArg Prod.fst h).symm
   ·split at h
    ·exact(congrArg Prod.fst h).symm
    ·split at h
     ·cases h
     ·split at h
      ·cases h
      ·exact(congrArg Prod.fst h).symm
theorem Db7{e:Ec}{o:Opn}{r:Rpl}(h:peekE e o=(r,true)):appE e o=(r,false,e):=by
 unfold appE
 rw[h]
 rfl
theorem Dc7{e:Ec}{o:Opn}(h:peekE e o=(rp0,false)):appE e o=((doV (atV e o.ak) o).1,true,⟨(setV e o.ak (doV (atV e o.ak) o).2).vs,doS e o (doV (atV e o.ak) o).1,doT e o (doV (atV e o.ak) o).1,doA e o⟩):=by
 unfold appE
 rw[h]
 rfl
theorem CL7{o:Opn}(h:cntB o=true):0≤o.item∧o.item<4∧1≤o.cnt∧o.cnt≤1048576:=by
 unfold cntB at h
 simpa using h
section
variable{W w:World}{R:List HP}{eb m1 m2 m3 m4:Nat}{E:Ev}{i:Nat}{e:Ec}
theorem Ca7{vs:List (ByteArray×Vs)}{ss:List (Int×(Int×Rpl))}{ts:List ((Int×Int)×Tns)}{ar:List ((Int×Int)×Unit)}(hok:EvOk E i)(hp:(stripE E).Perm vs)(hS:St W (ecR eb m1 m2 m3 m4 E ss ts ar R) w):EOk ⟨vs,ss,ts,ar⟩ i∧St W (ecP eb ⟨vs,ss,ts,ar⟩::R) w:=
 ⟨QV7 (e:=⟨vs,ss,ts,ar⟩) hok hp,ecShut (e:=⟨vs,ss,ts,ar⟩) hp (evOpen hS)⟩
theorem ecOpenR(h:St W (ecP eb e::R) w):∃m1 m2 m3 m4 E,(stripE E).Perm e.vs∧(E.map (·.1)).Nodup∧St W (ecR eb m1 m2 m3 m4 E e.ss e.ts e.ar R) w:=by
 obtain⟨m1,m2,m3,m4,E,hp,h⟩:=ecOpen h
 exact⟨m1,m2,m3,m4,E,hp,by rw[←AM7];exact amapKeys h.drop,evShut h⟩
theorem GW7(hn:(E.map (·.1)).Nodup)(hp:(stripE E).Perm e.vs)(k:ByteArray):atV e k=vAt E k:=by
 unfold atV vAt
 rw[QS7 hn hp]
end
theorem Ks7{eb:Nat}{e:Ec}(k u:ByteArray){x0 x1 x2 x3:Int}(hx:purseA (atV e k).ps u=⟨x0,x1,x2,x3⟩)(W w:World)(R:List HP)(hS:St W (ecP eb e::R) w):
  Calls Tryz.prog 18 #[.pointer (some ⟨eb,0,none⟩),.agg #[.string k,.string u]] w fun x w'=>x=.returned (.agg #[.int .i64 x0,.int .i64 x1,.int .i64 x2,.int .i64 x3])∧St W (ecP eb e::R) w':=by
 obtain⟨m1,m2,m3,m4,E,hp,hn,hS⟩:=ecOpenR hS
 rw[GW7 hn hp]at hx
 refine(Kr7 k u hx W w _ hS).mono ?_
 rintro x w' ⟨rfl,hS⟩
 exact⟨rfl,ecShut hp (evOpen hS)⟩
theorem Ot7{eb:Nat}{e:Ec}{i:Nat}(hE:EOk e i)(hi:i≤1000000)(kd cl sq:Int)(ak aw tk tw:ByteArray)(it ct pr:Int)(bu:Bool)(id:Int)(W w:World)(R:List HP)(hS:St W (ecP eb e::R) w):
  Calls Tryz.prog 16 #[.pointer (some ⟨eb,0,none⟩),oV kd cl sq ak aw tk tw it ct pr bu id] w fun x w'=>EOk (appE e ⟨kd,cl,sq,ak,aw,tk,tw,it,ct,pr,bu,id⟩).2.2 (i+1) ∧
   x=.returned (.tuple #[rV (appE e ⟨kd,cl,sq,ak,aw,tk,tw,it,ct,pr,bu,id⟩).1.err (appE e ⟨kd,cl,sq,ak,aw,tk,tw,it,ct,pr,bu,id⟩).1.id (appE e ⟨kd,cl,sq,ak,aw,tk,tw,it,ct,pr,bu,id⟩).1.has.x0 (appE e ⟨kd,cl,sq,ak,aw,tk,tw,it,ct,pr,bu,id⟩).1.has.x1 (appE e ⟨kd,cl,sq,ak,aw,tk,tw,it,ct,pr,bu,id⟩).1.has.x2 (appE e ⟨kd,cl,sq,ak,aw,tk,tw,it,ct,pr,bu,id⟩).1.has.x3,.bool (appE e ⟨kd,cl,sq,ak,aw,tk,tw,it,ct,pr,bu,id⟩).2.1]) ∧
   St W (ecP eb (appE e ⟨kd,cl,sq,ak,aw,tk,tw,it,ct,pr,bu,id⟩).2.2::R) w':=by
 obtain⟨m1,m2,m3,m4,E,hp,hn,hS⟩:=ecOpenR hS
 have hEv:=QU7 hE hp
 have hV:=GW7 hn hp ak
 have hnv:(e.vs.map (·.1)).Nodup:=by
  rw[←Bk7]at hn
  exact(hp.map (·.1)).nodup_iff.1 hn
 cases hpk:peekE e ⟨kd,cl,sq,ak,aw,tk,tw,it,ct,pr,bu,id⟩with
 | mk r k=>
 cases k with
 | true=>
  rw[Db7 hpk]
  refine(Qe7 (vs:=e.vs) kd cl sq ak aw tk tw it ct pr bu id e.ss e.ts e.ar W w R hpk hS).mono ?_
  rintro x w' ⟨rfl,hS⟩
  exact⟨fun x hx=>(hE x hx).on,rfl,ecShut hp (evOpen hS)⟩
 | false=>
  obtain⟨rfl,hm⟩:=BB7 hpk
  have hap:=Dc7 hpk
  dsimp only at hap
  rw[hV]at hap
  have hm2:kindB ⟨kd,cl,sq,ak,aw,tk,tw,it,ct,pr,bu,id⟩=true:=by
   unfold mayO at hm
   exact(Bool.and_eq_true _ _▸hm).2
  have hk:kd=1∨kd=2∨kd=3∨kd=4∨kd=5∨kd=6∨kd=7:=by
   unfold kindB at hm2
   dsimp only at hm2
   repeat' split at hm2
   all_goals first|omega|cases hm2
  have hs:∀V,(tidV ((ak,V)::delL e.vs ak) ak).Perm (setV e ak V).vs:=fun V=>by rw[Os7]
  have hsame:(tidV e.vs ak).Perm (setV e ak (vAt E ak)).vs:=by rw[←hV];exact MR7 e ak hnv
  rcases hk with rfl|rfl|rfl|rfl|rfl|rfl|rfl
  ·have hm3:countsB ⟨1,cl,sq,ak,aw,tk,tw,it,ct,pr,bu,id⟩=true:=hm2
   have hc:cntB ⟨1,cl,sq,ak,aw,tk,tw,it,ct,pr,bu,id⟩=true:=by unfold countsB at hm3;exact(Bool.and_eq_true _ _▸hm3).1
   obtain⟨h0,h4,c0,c1⟩:=CL7 hc
   refine(app1 (vs:=e.vs) cl sq ak aw tk tw it ct pr bu id e.ss e.ts e.ar W w R hpk hEv hi hp h0 h4 c0 c1 rfl rfl hS).mono ?_
   rintro x w' ⟨E',h1,h2,rfl,hS⟩
   rw[hap]
   obtain⟨h3,h5⟩:=Ca7 h1 (h2.trans (hs _)) hS
   exact⟨h3,rfl,h5⟩
  ·have hm3:sendsB ⟨2,cl,sq,ak,aw,tk,tw,it,ct,pr,bu,id⟩=true:=hm2
   have hc:cntB ⟨2,cl,sq,ak,aw,tk,tw,it,ct,pr,bu,id⟩=true:=by unfold sendsB at hm3;exact(Bool.and_eq_true _ _▸(Bool.and_eq_true _ _▸hm3).2).1
   obtain⟨h0,h4,c0,c1⟩:=CL7 hc
   by_cases hr:takeE (vAt E ak).ps aw (oneI it ct)=0
   ·have hd:doT e ⟨2,cl,sq,ak,aw,tk,tw,it,ct,pr,bu,id⟩ (doV (vAt E ak) ⟨2,cl,sq,ak,aw,tk,tw,it,ct,pr,bu,id⟩).1=((cl,sq),⟨cl,sq,ak,aw,tk,tw,it,ct⟩)::delL e.ts (cl,sq):=if_pos ⟨rfl,hr⟩
    have hv:(doV (vAt E ak) ⟨2,cl,sq,ak,aw,tk,tw,it,ct,pr,bu,id⟩).1=rp0:=by
     show(⟨takeE (vAt E ak).ps aw (oneI it ct),0,it0⟩:Rpl)=rp0
     rw[hr]
    rw[hd,hv]at hap
    refine(app2y (vs:=e.vs) cl sq ak aw tk tw it ct pr bu id e.ss e.ts e.ar W w R hpk hEv hi hp h0 h4 c0 c1 hr rfl hS).mono ?_
    rintro x w' ⟨E',h1,h2,rfl,hS⟩
    rw[hap]
    obtain⟨h3,h5⟩:=Ca7 h1 (h2.trans (hs _)) hS
    exact⟨h3,rfl,h5⟩
   ·have hd:doT e ⟨2,cl,sq,ak,aw,tk,tw,it,ct,pr,bu,id⟩ (doV (vAt E ak) ⟨2,cl,sq,ak,aw,tk,tw,it,ct,pr,bu,id⟩).1=e.ts:=(if_neg (fun h=>hr h.2)).trans (if_neg (by show ¬((2:Int)=7);decide))
    rw[hd]at hap
    refine(app2n (vs:=e.vs) cl sq ak aw tk tw it ct pr bu id e.ss e.ts e.ar W w R hpk hEv hi hp h0 h4 c0 c1 rfl (by simpa using hr) rfl hS).mono ?_
    rintro x w' ⟨E',h1,h2,rfl,hS⟩
    rw[hap]
    obtain⟨h3,h5⟩:=Ca7 h1 (h2.trans (hs _)) hS
    exact⟨h3,rfl,h5⟩
  ·skip
   refine(app3 (vs:=e.vs) cl sq ak aw tk tw it ct pr bu id e.ss e.ts e.ar W w R hpk hEv hi hp rfl rfl rfl hS).mono ?_
   rintro x w' ⟨E',h1,h2,rfl,hS⟩
   rw[hap]
   obtain⟨h3,h5⟩:=Ca7 h1 (h2.trans (hs _)) hS
   exact⟨h3,rfl,h5⟩
  ·skip
   refine(app4 (vs:=e.vs) cl sq ak aw tk tw it ct pr bu id e.ss e.ts e.ar W w R hpk hEv hi hp rfl rfl hS).mono ?_
   rintro x w' ⟨E',h1,h2,rfl,hS⟩
   rw[hap]
   obtain⟨h3,h5⟩:=Ca7 h1 (h2.trans (hs _)) hS
   exact⟨h3,rfl,h5⟩
  ·skip
   refine(app5 (vs:=e.vs) cl sq ak aw tk tw it ct pr bu id e.ss e.ts e.ar W w R hpk hEv hi hp rfl hS).mono ?_
   rintro x w' ⟨E',h1,h2,rfl,hS⟩
   rw[hap]
   obtain⟨h3,h5⟩:=Ca7 h1 (h2.trans hsame) hS
   exact⟨h3,rfl,h5⟩
  ·have hm3:countsB ⟨6,cl,sq,ak,aw,tk,tw,it,ct,pr,bu,id⟩=true:=hm2
   have hc:cntB ⟨6,cl,sq,ak,aw,tk,tw,it,ct,pr,bu,id⟩=true:=by unfold countsB at hm3;exact(Bool.and_eq_true _ _▸hm3).1
   obtain⟨h0,h4,c0,c1⟩:=CL7 hc
   refine(app6 (vs:=e.vs) cl sq ak aw tk tw it ct pr bu id e.ss e.ts e.ar W w R hpk hEv hi hp h0 h4 c0 c1 rfl hS).mono ?_
   rintro x w' ⟨E',h1,h2,rfl,hS⟩
   rw[hap]
   obtain⟨h3,h5⟩:=Ca7 h1 (h2.trans (hs _)) hS
   exact⟨h3,rfl,h5⟩
  ·skip
   refine(app7 (vs:=e.vs) cl sq ak aw tk tw it ct pr bu id e.ss e.ts e.ar W w R hpk hEv hi hp hS).mono ?_
   rintro x w' ⟨E',h1,h2,rfl,hS⟩
   rw[hap]
   obtain⟨h3,h5⟩:=Ca7 h1 (h2.trans hsame) hS
   exact⟨h3,rfl,h5⟩
theorem GX7{eb:Nat}{e e2:Ec}{i:Nat}{r:Rpl}{b:Bool}(hE:EOk e i)(hi:i≤1000000){kd cl sq:Int}{ak aw tk tw:ByteArray}{it ct pr:Int}{bu:Bool}{id:Int}(h:appE e ⟨kd,cl,sq,ak,aw,tk,tw,it,ct,pr,bu,id⟩=(r,b,e2))(W w:World)(R:List HP)(hS:St W (ecP eb e::R) w):
  Calls Tryz.prog 16 #[.pointer (some ⟨eb,0,none⟩),oV kd cl sq ak aw tk tw it ct pr bu id] w fun x w'=>EOk e2 (i+1)∧x=.returned (.tuple #[rV r.err r.id r.has.x0 r.has.x1 r.has.x2 r.has.x3,.bool b])∧St W (ecP eb e2::R) w':=by
 have h1:=Ot7 hE hi kd cl sq ak aw tk tw it ct pr bu id W w R hS
 rw[h]at h1
 exact h1
abbrev kA:ByteArray:=⟨#[97]⟩
abbrev kX:ByteArray:=⟨#[120]⟩
abbrev kB:ByteArray:=⟨#[98]⟩
abbrev kY:ByteArray:=⟨#[121]⟩
abbrev kN:ByteArray:=⟨#[]⟩
abbrev oldM(last:Int):Opn:=⟨1,7,last,kA,kX,kN,kN,0,3,0,false,0⟩
abbrev oldL(now:Int):Opn:=⟨5,7,now,kA,kX,kN,kN,0,0,0,false,0⟩
abbrev old1(last:Int):Ec:=⟨[(kA,⟨[(kX,⟨3,0,0,0⟩)],[],1⟩)],[(7,(last,rp0))],[],[]⟩
abbrev knO:Opn:=⟨1,1,1,kA,kX,kN,kN,0,5,0,false,0⟩
abbrev kn1:Ec:=⟨[(kA,⟨[(kX,⟨5,0,0,0⟩)],[],1⟩)],[(1,(1,rp0))],[],[]⟩
theorem QW7:appE ec0 knO=(rp0,true,kn1):=by kernel_rfl
theorem Ou7:appE kn1 knO=(rp0,false,kn1):=by kernel_rfl
theorem kn_at:purseA (atV kn1 kA).ps kX=⟨5,0,0,0⟩:=by kernel_rfl
end Go.Proofs.YtlmhakmoioogaaaGreat
end
section
namespace Go.Proofs.YtlmhakmoioogaaaGreat
open Go.Joins Go.ChangeShapes Go.WideShapes Go.RowKit Go.Deep Go.Sl
theorem FK7{H:Type}{enc:TypeId×Value→H}{w:World}{base:Nat}{spare:Nat→Bool}{held:Bool}{n:Nat}{cs:List Value}{y:DataW H×List MemPlace}
  (h:DataW.trod enc Tryz.prog w base spare held n 26 cs=some y):∃k u:ByteArray,cs=[.string k,.string u]:=by
 obtain⟨xs,n',rfl,hx,hlen,hxl,hg⟩:=DataW.trod_struct Tryz.underlying26 h
 have hlen':cs.length=2:=hlen.trans (by kernel_rfl)
 match cs,hlen' with
 | [c0,c1],_=>
  match xs,hxl with
  | [y0,y1],_=>
   have g0:=hg 0 _ rfl
   have g1:=hg 1 _ rfl
   obtain⟨k,e0,_⟩:=DataW.trod_string Tryz.underlying9 (show DataW.trod enc Tryz.prog w base spare held n' 9 [c0]=some y0 from g0)
   obtain⟨u,e1,_⟩:=DataW.trod_string Tryz.underlying9 (show DataW.trod enc Tryz.prog w base spare held n' 9 [c1]=some y1 from g1)
   simp only[List.cons.injEq,and_true]at e0 e1
   subst e0 e1
   exact⟨k,u,rfl⟩
theorem MT7{H:Type}{enc:TypeId×Value→H}{w:World}{base:Nat}{spare:Nat→Bool}{held:Bool}{n:Nat}{cs:List Value}{y:DataW H×List MemPlace}
  (h:DataW.trod enc Tryz.prog w base spare held n 35 cs=some y):∃o:Opn,cs=o.cells:=by
 obtain⟨xs,n',rfl,hx,hlen,hxl,hg⟩:=DataW.trod_struct Tryz.underlying35 h
 have hlen':cs.length=12:=hlen.trans (by kernel_rfl)
 match cs,hlen' with
 | [c0,c1,c2,c3,c4,c5,c6,c7,c8,c9,c10,c11],_=>
  match xs,hxl with
  | [y0,y1,y2,y3,y4,y5,y6,y7,y8,y9],_=>
   have g0:=hg 0 _ rfl
   have g1:=hg 1 _ rfl
   have g2:=hg 2 _ rfl
   have g3:=hg 3 _ rfl
   have g4:=hg 4 _ rfl
   have g5:=hg 5 _ rfl
   have g6:=hg 6 _ rfl
   have g7:=hg 7 _ rfl
   have g8:=hg 8 _ rfl
   have g9:=hg 9 _ rfl
   obtain⟨z0,e0,_⟩:=DataW.trod_int Tryz.underlying3 (show DataW.trod enc Tryz.prog w base spare held n' 3 [c0]=some y0 from g0)
   obtain⟨z1,e1,_⟩:=DataW.trod_int Tryz.underlying3 (show DataW.trod enc Tryz.prog w base spare held n' 3 [c1]=some y1 from g1)
   obtain⟨z2,e2,_⟩:=DataW.trod_int Tryz.underlying3 (show DataW.trod enc Tryz.prog w base spare held n' 3 [c2]=some y2 from g2)
   obtain⟨ak,aw,e3⟩:=FK7 (show DataW.trod enc Tryz.prog w base spare held n' 26 [c3,c4]=some y3 from g3)
   obtain⟨tk,tw,e4⟩:=FK7 (show DataW.trod enc Tryz.prog w base spare held n' 26 [c5,c6]=some y4 from g4)
   obtain⟨z5,e5,_⟩:=DataW.trod_int Tryz.underlying3 (show DataW.trod enc Tryz.prog w base spare held n' 3 [c7]=some y5 from g5)
   obtain⟨z6,e6,_⟩:=DataW.trod_int Tryz.underlying3 (show DataW.trod enc Tryz.prog w base spare held n' 3 [c8]=some y6 from g6)
   obtain⟨z7,e7,_⟩:=DataW.trod_int Tryz.underlying3 (show DataW.trod enc Tryz.prog w base spare held n' 3 [c9]=some y7 from g7)
   obtain⟨z8,e8,_⟩:=DataW.trod_bool Tryz.underlying4 (show DataW.trod enc Tryz.prog w base spare held n' 4 [c10]=some y8 from g8)
   obtain⟨z9,e9,_⟩:=DataW.trod_int Tryz.underlying3 (show DataW.trod enc Tryz.prog w base spare held n' 3 [c11]=some y9 from g9)
   simp only[List.cons.injEq,and_true]at e0 e1 e2 e3 e4 e5 e6 e7 e8 e9
   obtain⟨e3,e3'⟩:=e3
   obtain⟨e4,e4'⟩:=e4
   subst e0 e1 e2 e3 e3' e4 e4' e5 e6 e7 e8 e9
   exact⟨⟨z0,z1,z2,ak,aw,tk,tw,z5,z6,z7,z8,z9⟩,rfl⟩
theorem open_opns{H:Type}{enc:TypeId×Value→H}{w:World}{base:Nat}{spare:Nat→Bool}{held:Bool}{r:Reach}{b0:Nat}{v:Value}{d:DataW H}{p:List MemPlace}
  (hv:Value.okWide Tryz.prog w r b0 43 v) (h:DataW.Trod enc Tryz.prog w base spare held 43 v d p):∃xs,SliceV Opn.cells 12 w v xs:=
 IR7 Opn.cells ⟨0,0,0,⟨#[]⟩,⟨#[]⟩,⟨#[]⟩,⟨#[]⟩,0,0,0,false,0⟩ Opn.len (by decide) Tryz.underlying43 (by kernel_rfl) (fun _ _ _ _ h => MT7 h) hv h
structure OpnAt(V:World)(b off:Nat)(x:Opn):Prop where
 kind:V.cell? ⟨b,off,none⟩=some (.int .i64 x.kind)
 client:V.cell? ⟨b,off+1,none⟩=some (.int .i64 x.client)
 seq:V.cell? ⟨b,off+2,none⟩=some (.int .i64 x.seq)
 ak:V.cell? ⟨b,off+3,none⟩=some (.string x.ak)
 aw:V.cell? ⟨b,off+4,none⟩=some (.string x.aw)
 tk:V.cell? ⟨b,off+5,none⟩=some (.string x.tk)
 tw:V.cell? ⟨b,off+6,none⟩=some (.string x.tw)
 all:∀(j:Nat) (v:Value),x.cells[j]? = some v→V.cell? ⟨b,off+j,none⟩=some v
theorem SliceV.opn{V:World}{v:Value}{xs:List Opn}(h:SliceV Opn.cells 12 V v xs):∃a cap,v=.slice a xs.length cap∧xs.length≤9223372036854775807∧∀i (h:i<xs.length), ∃b off,a=some ⟨b,off,none⟩∧OpnAt V b (off+i*12) xs[i]:=by
 obtain⟨a,cap,hv,h63,hc⟩:=h
 refine⟨a,cap,hv,h63,fun i hi=>?_⟩
 obtain⟨b,off,ha,hj⟩:=hc i hi
 exact⟨b,off,ha,hj 0 _ rfl,hj 1 _ rfl,hj 2 _ rfl,hj 3 _ rfl,hj 4 _ rfl,hj 5 _ rfl,hj 6 _ rfl,fun j v hv=>hj j v hv⟩
end Go.Proofs.YtlmhakmoioogaaaGreat
end
section
namespace Go.Proofs.YtlmhakmoioogaaaGreat
open Go.RowKit Go.Sl
def HopR(W:World)(L:List HP)(n:Nat)(v:Value)(w:World):Prop:=∃i:Nat,v=.int .i64 i∧i≤n∧St W L w
theorem GY7{L:List HP}(xs:List Opn)(a:Option Addr)(cap:Nat)(h63:xs.length≤9223372036854775807)(hat:∀i (h:i<xs.length), ∃b off,a=some ⟨b,off,none⟩∧∀j v,(xs[i]).cells[j]? = some v→Cell L b (off+i*12+j) v)(W w:World)(hS:St W L w):
  Calls Tryz.prog 20 #[.slice a xs.length cap] w fun e w'=>∃h:Bool,(h=false→xs.length≤150)∧e=.returned (.bool h)∧St W L w':=by
 have Hat:=Lib.hid hat
 clear hat
 go_enter Tryz.func20,Tryz.ntmps20
 by_cases h150:150<xs.length
 ·have d0:((150:Nat):Int)<(xs.length:Int):=by omega
  go_wp2_with(fail)
  go_ret
  exact⟨_,fun h=>(by cases h),rfl,hS⟩
 have d0:decide ((150:Int)<(xs.length:Int))=false:=by simp;omega
 go_wp2_with(fail)
 go_loopw [3] (fun v wr=>HopR W L xs.length v wr) (fun v _=>xs.length-(intOf v).toNat)
 case atStart=>exact⟨0,rfl,by omega,hS⟩
 case round=>
  clear hS
  obtain⟨i,rfl,hi,hS⟩:=hrel
  by_cases hend:i=xs.length
  ·subst hend
   have d1:decide ((xs.length:Int)<(xs.length:Int))=false:=by simp
   go_wp2_with(fail)
   go_ret
   exact⟨_,fun _=>by omega,rfl,hS⟩
  have hil:i<xs.length:=by omega
  clear hend hi
  obtain⟨pb,poff,rfl,hA⟩:=Hat.out i hil
  have c3:=hA 3 _ rfl
  have c4:=hA 4 _ rfl
  have c5:=hA 5 _ rfl
  have c6:=hA 6 _ rfl
  clear hA
  generalize xs[i]=x at c3 c4 c5 c6
  obtain⟨kd,cl,sq,ak,aw,tk,tw,it,ct,pr,bu,id⟩:=x
  simp only at c3 c4 c5 c6
  by_cases h1:60<ak.size
  ·have d1:(60:Int)<(ak.size:Int):=by omega
   go_wp2_with(first|(refine zl1 hS ?_))
   go_ret
   exact⟨_,fun h=>(by cases h),rfl,hS⟩
  have d1:decide ((60:Int)<(ak.size:Int))=false:=by simp;omega
  by_cases h2:60<aw.size
  ·have d2:(60:Int)<(aw.size:Int):=by omega
   go_wp2_with(first|(refine zl1 hS ?_))
   go_ret
   exact⟨_,fun h=>(by cases h),rfl,hS⟩
  have d2:decide ((60:Int)<(aw.size:Int))=false:=by simp;omega
  by_cases h3:60<tk.size
  ·have d3:(60:Int)<(tk.size:Int):=by omega
   go_wp2_with(first|(refine zl1 hS ?_))
   go_ret
   exact⟨_,fun h=>(by cases h),rfl,hS⟩
  have d3:decide ((60:Int)<(tk.size:Int))=false:=by simp;omega
  by_cases h4:60<tw.size
  ·have d4:(60:Int)<(tw.size:Int):=by omega
   go_wp2_with(first|(refine zl1 hS ?_))
   go_ret
   exact⟨_,fun h=>(by cases h),rfl,hS⟩
  have d4:decide ((60:Int)<(tw.size:Int))=false:=by simp;omega
  go_wp2_with(first|(refine zl1 hS ?_))
  go_roundw
  case rel=>exact⟨i+1,rfl,hil,hS⟩
  case measure=>simp[intOf];try omega
theorem GZ7{r0 r1 r2 r3 r4 r5 q0 q1 q2 q3 q4 q5:Int}{b:Bool}(h:Rpl.eqB ⟨r0,r1,⟨r2,r3,r4,r5⟩⟩ ⟨q0,q1,⟨q2,q3,q4,q5⟩⟩=b)(w:World):(Op.equalIn 10000 31 (rV r0 r1 r2 r3 r4 r5) (rV q0 q1 q2 q3 q4 q5)).run Tryz.prog w=.ok b w:=h▸eqRpl ⟨r0,r1,⟨r2,r3,r4,r5⟩⟩ ⟨q0,q1,⟨q2,q3,q4,q5⟩⟩ w
theorem Jl7(W w:World)(R:List HP)(hS:St W R w):
  Calls Tryz.prog 14 #[] w fun e w'=>e=.returned (.bool true)∧St W R w':=by
 go_enter Tryz.func14,Tryz.ntmps14
 go_wp2_with(first|(go_at_call 15;refine(Ig7 W _ _ hS).mono ?_;clear hS;rintro e w ⟨eb,rfl,hS⟩)|((fail_if_success (have:=q1));(refine zal hS ?_;clear hS;have q1:Nat:=0;intro b1 w hS))|((have:=q1);(fail_if_success (have:=q2));(refine zal hS ?_;clear hS;have q2:Nat:=0;intro b2 w hS))|((have:=q2);(refine zal hS ?_;clear hS;intro b3 w hS))|(refine zlN hS ?_)|(refine zlN hS ?_ (vs:=[.string kA,.string kX]) (hc:=by first|exact Cells.here rfl|exact Cells.there (Cells.here rfl)|exact Cells.there (Cells.there (Cells.here rfl))|exact Cells.there (Cells.there (Cells.there (Cells.here rfl)))))|(refine zsN hS ?_;clear hS;intro w hS)|((fail_if_success (have:=gA));go_at_call 16;refine(GX7 (eOk0 0) (by decide) QW7 W _ _ (hS.s (ecP eb ec0::blk b1 _ _::R))).mono ?_;clear hS;have gA:Nat:=0;rintro e w ⟨hok,rfl,hS⟩;have Hok:=Lib.hid hok;clear hok)|((have:=gA);go_at_call 16;refine(GX7 Hok.out (by decide) Ou7 W _ _ (hS.s (ecP eb (kn1)::blk b2 _ _::blk b1 _ _::R))).mono ?_;clear hS;rintro e w ⟨_,rfl,hS⟩)|((with_reducible apply BT7);(with_reducible rfl);rfl;rfl;rfl;kernel_rfl;exact GZ7 (rfl:Rpl.eqB ⟨0,0,⟨0,0,0,0⟩⟩ ⟨0,0,⟨0,0,0,0⟩⟩=true);(refine frS ?_))|((with_reducible apply BT7);(with_reducible rfl);rfl;rfl;rfl;kernel_rfl;exact eqI _ _ _ _ _ _ _ _;(refine frS ?_))|(go_at_call 18;refine(Ks7 kA kX kn_at W _ _ (hS.s (ecP eb kn1::blk b3 _ _::blk b2 _ _::blk b1 _ _::R))).mono ?_;clear hS;rintro e w ⟨rfl,hS⟩))
 go_ret
 exact⟨rfl,hS.drop.drop.drop.drop⟩
abbrev sM(n:Int):Opn:=⟨1,1,1,kA,kX,kN,kN,0,n,0,false,0⟩
abbrev sS(c:Int):Opn:=⟨2,1,2,kA,kX,kB,kY,0,c,0,false,0⟩
abbrev sA(c:Int):Opn:=⟨6,1,2,kB,kY,kN,kN,0,c,0,false,0⟩
abbrev sD:Opn:=⟨7,1,2,kA,kX,kN,kN,0,0,0,false,0⟩
section
variable{n c:Int}
abbrev s1(n:Int):Ec:=⟨[(kA,⟨[(kX,⟨n,0,0,0⟩)],[],1⟩)],[(1,(1,rp0))],[],[]⟩
abbrev s2n(n:Int):Ec:=⟨[(kA,⟨[(kX,⟨n,0,0,0⟩)],[],1⟩)],[(1,(2,⟨14,0,it0⟩))],[],[]⟩
abbrev qS(n c:Int):Ps:=layP [(kX,⟨n,0,0,0⟩)] kX ⟨n-c,0,0,0⟩
abbrev s2(n c:Int):Ec:=⟨(setV (s1 n) kA ⟨qS n c,[],1⟩).vs,[(1,(2,rp0))],[((1,2),tnsOf (sS c))],[]⟩
abbrev s3(n c:Int):Ec:=⟨(setV (s2 n c) kB ⟨[(kY,⟨c,0,0,0⟩)],[],1⟩).vs,[(1,(2,rp0))],[((1,2),tnsOf (sS c))],[((1,2),())]⟩
abbrev s4(n c:Int):Ec:=⟨(setV (s3 n c) kA (atV (s3 n c) kA)).vs,[(1,(2,rp0))],[],[((1,2),())]⟩
end
theorem Il7{eb:Nat}{e:Ec}(cl sq:Int){b:Bool}(hb:(getL e.ar (cl,sq)).isSome=b)(W w:World)(R:List HP)(hS:St W (ecP eb e::R) w):
  Calls Tryz.prog 19 #[.pointer (some ⟨eb,0,none⟩),.int .i64 cl,.int .i64 sq] w fun x w'=>x=.returned (.bool b)∧St W (ecP eb e::R) w':=by
 obtain⟨m1,m2,m3,m4,E,hp,hn,hS⟩:=ecOpenR hS
 have hS1:=evOpen hS
 clear hS
 have hS:=hS1
 clear hS1
 have Hp:=Lib.hid hp
 clear hp hn
 cases hg:getL e.ar (cl,sq)with
 | none=>
  rw[hg]at hb
  obtain rfl:false=b:=hb
  go_enter Tryz.func19,Tryz.ntmps19
  go_wp2_with(first|go_big_skip|(refine zl1 hS ?_)|((with_reducible apply Fm7 (ek:=eW) (ev:=eU) (k:=(cl,sq)) hS);(with_reducible rfl);rfl;rfl;rfl;(exact takeS);exact mAr;exact kW;exact zA;exact hg;(refine frS ?_)))
  go_ret
  exact⟨rfl,ecShut Hp.out (hS.s _)⟩
 | some u=>
  rw[hg]at hb
  obtain rfl:true=b:=hb
  go_enter Tryz.func19,Tryz.ntmps19
  go_wp2_with(first|go_big_skip|(refine zl1 hS ?_)|((with_reducible apply Cj7 (ek:=eW) (ev:=eU) (k:=(cl,sq)) hS);(with_reducible rfl);rfl;rfl;rfl;(exact takeS);exact mAr;exact kW;exact zA;exact hg;(refine frS ?_)))
  go_ret
  exact⟨rfl,ecShut Hp.out (hS.s _)⟩
end Go.Proofs.YtlmhakmoioogaaaGreat
end
