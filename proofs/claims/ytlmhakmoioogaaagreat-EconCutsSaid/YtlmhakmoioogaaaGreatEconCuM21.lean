/-
  The vault's scripts.
-/
import Derived.Test.YtlmhakmoioogaaaGreatEconCuM5
import Derived.Test.YtlmhakmoioogaaaGreatEconCuM9
import Derived.Test.YtlmhakmoioogaaaGreatEconCuM17
import Derived.Test.YtlmhakmoioogaaaGreatEconCuM20
import Derived.Test.YtlmhakmoioogaaaGreatRows
import Derived.Lib.SmallJoins
import Derived.ChangeArms
import Derived.ProofKit
set_option maxHeartbeats 16000000
set_option maxRecDepth 100000
set_option linter.unusedSimpArgs false
set_option linter.unusedVariables false
section
namespace Go.Sl
open Go.RowKit
section
variable{P:Program}{W:World}{L:List HP}{ops:Array Oper}{Q:Act->Prop}{a:Act}{rest:List Oper}{o:Oper}
theorem QP7{t t2:TypeId}{x y:Operand}{xs ys:Array Value}{r:Bool}(ho:o.op=.binOp .eql t x y t2)(hg:Region.wanted o (yielded ops a.tmps)=true)(hx:a.eval x=.agg xs)(hy:a.eval y=.agg ys)(hm:P.eqGuardType P.depth t=false)(hr:∀w:World,(Op.equalIn 10000 t (.agg xs) (.agg ys)).run P w=.ok r w)
  (h:wpQuiet P ops (St W L) Q rest (a.put o.dst (.bool r))):wpQuiet P ops (St W L) Q (o::rest) a:=
 FM7 hg (fun w _=>by unfold execOp;simp[ho,hx,hy,run_eqGuard_agg w .eql t x y xs ys hm,run_eql_struct,hr]) h
theorem Le7{t t2:TypeId}{x y:Operand}{xs ys:Array Value}{r:Bool}(ho:o.op=.binOp .neq t x y t2)(hg:Region.wanted o (yielded ops a.tmps)=true)(hx:a.eval x=.agg xs)(hy:a.eval y=.agg ys)(hm:P.eqGuardType P.depth t=false)(hr:∀w:World,(Op.equalIn 10000 t (.agg xs) (.agg ys)).run P w=.ok r w)
  (h:wpQuiet P ops (St W L) Q rest (a.put o.dst (.bool (!r)))):wpQuiet P ops (St W L) Q (o::rest) a:=
 FM7 hg (fun w _=>by unfold execOp;simp[ho,hx,hy,run_eqGuard_agg w .neq t x y xs ys hm,run_neq_struct,hr]) h
end
end Go.Sl
namespace Go.Proofs.YtlmhakmoioogaaaGreat
open Go.RowKit Go.Sl
structure VOk(p:Ps)(n:Int)(i:Nat):Prop where
 ok:M6 p
 w:PsW p (100*i)
 n0:1<=n
 n1:n<=1+i
theorem gf4:VOk [] 1 0:=⟨Fr7,NL7 _,by decide,by decide⟩
theorem VOk.on{p:Ps}{n:Int}{i:Nat}(h:VOk p n i):VOk p n (i+1):=⟨h.ok,At7 h.w (by omega),h.n0,by have:=h.n1;omega⟩
section
variable(vb mb bb:Nat){p:Ps}{L:List Ord}{n:Int}{i:Nat}(W w:World)(R:List HP)
theorem SC7(h:VOk p n i)(who:ByteArray)(it:It)(hS:St W (w5 vb mb bb p L n R) w):
  Calls Tryz.prog 102 #[.P vb,.string who,.agg it.cells.toArray] w fun e w'=>e=.returned (.I (K7 p who it))/\VOk (F9 p who it) n (i+1)/\St W (w5 vb mb bb (F9 p who it) L n R) w':=by
 refine(Pl7 vb mb p who _ _ it W w _ hS).mono ?_;rintro e w' ⟨rfl,hS⟩;exact⟨rfl,⟨La7 h.ok _ _,At7 (JV7 h.w _ _) (by omega),h.n0,by have:=h.n1;omega⟩,hS⟩
theorem Rr7(h:VOk p n i)(who:ByteArray)(it:It)(hS:St W (w5 vb mb bb p L n R) w):
  Calls Tryz.prog 104 #[.P vb,.string who,.agg it.cells.toArray] w fun e w'=>e=.returned (.I (m9 p who it))/\VOk (p9 p who it) n (i+1)/\St W (w5 vb mb bb (p9 p who it) L n R) w':=by
 refine(FU7 vb mb p who _ _ it W w _ hS).mono ?_;rintro e w' ⟨rfl,hS⟩;exact⟨rfl,⟨CA7 h.ok _ _,At7 (Fv7 h.w _ _) (by omega),h.n0,by have:=h.n1;omega⟩,hS⟩
theorem Rs7(h:VOk p n i)(o:Ord)(hS:St W (w5 vb mb bb p L n R) w):
  Calls Tryz.prog 105 #[.P vb,.agg o.cells.toArray] w fun e w'=>e=.returned (.tuple #[.I (B6 ⟨p,L,n⟩ o).1,.I (B6 ⟨p,L,n⟩ o).2.1]) /\
   VOk (B6 ⟨p,L,n⟩ o).2.2.ps (B6 ⟨p,L,n⟩ o).2.2.n (i+1)/\St W (w5 vb mb bb (B6 ⟨p,L,n⟩ o).2.2.ps (B6 ⟨p,L,n⟩ o).2.2.L (B6 ⟨p,L,n⟩ o).2.2.n R) w':=by
 have hll:=Cb7 hS.drop.drop;have hmay:∀x∈L,MayP x:=fun x hx=>(By7 hS.drop.drop x hx).1
 refine(NG7 vb mb bb ⟨p,L,n⟩ o h.ok h.n0 W w R hS).mono ?_;rintro e w' ⟨rfl,hS⟩;have h1:=Ro7 (V:=⟨p,L,n⟩) (o:=o) h.ok h.n0 hmay;have h2:=QM7 (V:=⟨p,L,n⟩) (o:=o) h.w hmay hll
 have h3:(B6 ⟨p,L,n⟩ o).2.2.n<=n+1:=by
  unfold B6
  repeat' split
  all_goals dsimp only
  all_goals omega
 exact⟨rfl,⟨h1.1,At7 h2 (by omega),h1.2,by have:=h.n1;omega⟩,hS⟩
theorem Rt7(h:VOk p n i)(who:ByteArray)(id:Int)(hS:St W (w5 vb mb bb p L n R) w):
  Calls Tryz.prog 106 #[.P vb,.string who,.I id] w fun e w'=>e=.returned (.I (C7 ⟨p,L,n⟩ who id).1) /\
   VOk (C7 ⟨p,L,n⟩ who id).2.ps n (i+1)/\St W (w5 vb mb bb (C7 ⟨p,L,n⟩ who id).2.ps (C7 ⟨p,L,n⟩ who id).2.L n R) w':=by
 have hmay:∀x∈L,MayP x:=fun x hx=>(By7 hS.drop.drop x hx).1
 refine(NH7 vb mb bb ⟨p,L,n⟩ who id h.ok W w R hS).mono ?_;rintro e w' ⟨rfl,hS⟩;have h1:=Rp7 (V:=⟨p,L,n⟩) (who:=who) (id:=id) h.ok h.n0 hmay;have h2:=QN7 (V:=⟨p,L,n⟩) (who:=who) (id:=id) h.w hmay;have h3:(C7 ⟨p,L,n⟩ who id).2.n=n:=by unfold C7;split <;> rfl
 rw[h3]at hS;exact⟨rfl,⟨h1.1,At7 h2 (by omega),h.n0,by have:=h.n1;omega⟩,hS⟩
theorem SD7(u1 u2:Value){k:ByteArray}{x0 x1 x2 x3:Int}(hx:k9 p k=⟨x0,x1,x2,x3⟩)(hS:St W (blk vb [.map (some mb),u1,u2] 176::d8 eS eP mb p::R) w):
  Calls Tryz.prog 47 #[.P vb,.string k] w fun e w'=>e=.returned (.agg #[.I x0,.I x1,.I x2,.I x3])/\St W (blk vb [.map (some mb),u1,u2] 176::d8 eS eP mb p::R) w':=by
 refine(Pj7 vb mb p k u1 u2 W w R hS).mono ?_;rw[hx];exact fun e w' h=>h
end
structure Opn where
 kind:Int
 client:Int
 seq:Int
 ak:ByteArray
 aw:ByteArray
 tk:ByteArray
 tw:ByteArray
 item:Int
 cnt:Int
 price:Int
 buy:Bool
 id:Int
def Opn.cells(o:Opn):List Value:=[.I o.kind,.I o.client,.I o.seq,.string o.ak,.string o.aw,.string o.tk,.string o.tw,.I o.item,.I o.cnt,.I o.price,.bool o.buy,.I o.id]
theorem Opn.len(o:Opn):o.cells.length=12:=rfl
structure Rpl where
 err:Int
 id:Int
 has:It
def Rpl.cells(r:Rpl):List Value:=.I r.err::.I r.id::r.has.cells
abbrev rp0:Rpl:=⟨0,0,it0⟩
structure Tns where
 client:Int
 seq:Int
 ak:ByteArray
 aw:ByteArray
 tk:ByteArray
 tw:ByteArray
 item:Int
 cnt:Int
def Tns.cells(t:Tns):List Value:=[.I t.client,.I t.seq,.string t.ak,.string t.aw,.string t.tk,.string t.tw,.I t.item,.I t.cnt]
theorem Tns.len(t:Tns):t.cells.length=8:=rfl
structure Ec where
 vs:List (ByteArray×Vs)
 ss:List (Int×(Int×Rpl))
 ts:List ((Int×Int)×Tns)
 ar:List ((Int×Int)×Unit)
abbrev ec0:Ec:=⟨[],[],[],[]⟩
abbrev vs0:Vs:=⟨[],[],1⟩
def noB(u:ByteArray):Bool:=decide (u.size=0)
def H8(o:Opn):Bool:=decide (0<=o.item)&&(decide (o.item<4)&&(decide (1<=o.cnt)&&decide (o.cnt<=1048576)))
def dU4(o:Opn):Bool:=noB o.tk&&(noB o.tw&&(decide (o.price=0)&&(!o.buy&&decide (o.id=0))))
def aL4(k u:ByteArray):Bool:=B8 k&&B8 u
def t8(o:Opn):Bool:=H8 o&&dU4 o
def N7(o:Opn):Bool:=aL4 o.tk o.tw&&(H8 o&&(decide (o.price=0)&&(!o.buy&&decide (o.id=0))))
def I8(o:Opn):Bool:=decide (1<=o.item)&&(decide (1<=o.price)&&(decide (o.price<=1024)&&(H8 o&&(noB o.tk&&(noB o.tw&&decide (o.id=0))))))
def G7(o:Opn):Bool:=decide (1<=o.id)&&(decide (o.id<=1099511627776)&&(noB o.tk&&(noB o.tw&&(decide (o.item=0)&&(decide (o.cnt=0)&&(decide (o.price=0)&&!o.buy))))))
def co4(o:Opn):Bool:=noB o.tk&&(noB o.tw&&(decide (o.item=0)&&(decide (o.cnt=0)&&(decide (o.price=0)&&(!o.buy&&decide (o.id=0))))))
def J9(o:Opn):Bool:=
 if o.kind=1 then t8 o else if o.kind=2 then N7 o else if o.kind=3 then I8 o else if o.kind=4 then G7 o
 else if o.kind=5 then co4 o else if o.kind=6 then t8 o else if o.kind=7 then co4 o else false
def F8(o:Opn):Bool:=decide (1<=o.client)&&(decide (o.client<=1048576)&&(decide (1<=o.seq)&&(decide (o.seq<=1099511627776)&&aL4 o.ak o.aw)))
def w8(o:Opn):Bool:=F8 o&&J9 o
def D7(e:Ec)(o:Opn):Rpl×Bool:=
 if w8 o=false then(⟨1,0,it0⟩,true)
 else if o.kind=6 then(rp0,(i9 e.ar (o.client,o.seq)).isSome)
 else if o.kind=7 then(rp0,(i9 e.ts (o.client,o.seq)).isNone)
 else match i9 e.ss o.client with
  | none=>(rp0,false)
  | some (q,r)=>if o.seq<q then(⟨13,0,it0⟩,true)else if o.seq=q then(r,true)else(rp0,false)
def atV(e:Ec)(k:ByteArray):Vs:=(i9 e.vs k).getD vs0
def A6(V:Vs):Bool:=decide (V.ps.length=0)&&(decide (V.L.length=0)&&decide (V.n=1))
def bF4(e:Ec)(k:ByteArray)(V:Vs):Ec:={ e with vs:=if A6 V=true then j6 e.vs k else(k,V)::j6 e.vs k }
def r8(item n:Int):It:=aU4 it0 item n
def dD4(o:Opn):Tns:=⟨o.client,o.seq,o.ak,o.aw,o.tk,o.tw,o.item,o.cnt⟩
def aT4(o:Opn):Ord:=⟨0,o.aw,o.buy,o.item,o.cnt,o.price⟩
def doV(V:Vs)(o:Opn):Rpl×Vs:=
 if o.kind=1 then(⟨K7 V.ps o.aw (r8 o.item o.cnt),0,it0⟩, { V with ps:=F9 V.ps o.aw (r8 o.item o.cnt) })
 else if o.kind=2 then(⟨m9 V.ps o.aw (r8 o.item o.cnt),0,it0⟩, { V with ps:=p9 V.ps o.aw (r8 o.item o.cnt) })
 else if o.kind=3 then(⟨(B6 V (aT4 o)).2.1,(B6 V (aT4 o)).1,it0⟩,(B6 V (aT4 o)).2.2)
 else if o.kind=4 then(⟨(C7 V o.aw o.id).1,0,it0⟩,(C7 V o.aw o.id).2)
 else if o.kind=5 then(⟨0,0,k9 V.ps o.aw⟩,V)
 else if o.kind=6 then(rp0, { V with ps:=F9 V.ps o.aw (r8 o.item o.cnt) })
 else(rp0,V)
def doT(e:Ec)(o:Opn)(r:Rpl):List ((Int×Int)×Tns):=
 if o.kind=2/\r.err=0 then((o.client,o.seq),dD4 o)::j6 e.ts (o.client,o.seq)
 else if o.kind=7 then j6 e.ts (o.client,o.seq)else e.ts
def doA(e:Ec)(o:Opn):List ((Int×Int)×Unit):=if o.kind=6 then((o.client,o.seq),())::j6 e.ar (o.client,o.seq)else e.ar
def doS(e:Ec)(o:Opn)(r:Rpl):List (Int×(Int×Rpl)):=if o.kind=6\/o.kind=7 then e.ss else(o.client,(o.seq,r))::j6 e.ss o.client
def G8(e:Ec)(o:Opn):Rpl×Bool×Ec:=
 if(D7 e o).2=true then((D7 e o).1,false,e)
 else
  let r:=(doV (atV e o.ak) o).1
  (r,true, { bF4 e o.ak (doV (atV e o.ak) o).2 with ss:=doS e o r,ts:=doT e o r,ar:=doA e o })
end Go.Proofs.YtlmhakmoioogaaaGreat
end
section
namespace Go.Proofs.YtlmhakmoioogaaaGreat
open Go.Joins Go.ChangeShapes Go.WideShapes Go.RowKit Go.Deep Go.Sl
theorem Gk7{H:Type}{enc:TypeId×Value->H}{w:World}{base:Nat}{spare:Nat->Bool}{held:Bool}{n:Nat}{cs:List Value}{y:DataW H×List MemPlace}
  (h:DataW.trod enc Tryz.prog w base spare held n 26 cs=some y):∃k u:ByteArray,cs=[.string k,.string u]:=by
 obtain⟨xs,n',rfl,hx,hlen,hxl,hg⟩:=DataW.trod_struct Tryz.underlying26 h;have hlen':cs.length=2:=hlen.trans (by kernel_rfl)
 match cs,hlen' with
 | [c0,c1],_=>
  match xs,hxl with
  | [y0,y1],_=>
   have g0:=hg 0 _ rfl;have g1:=hg 1 _ rfl;obtain⟨k,e0,_⟩:=DataW.trod_string Tryz.underlying9 (show DataW.trod enc Tryz.prog w base spare held n' 9 [c0]=some y0 from g0);obtain⟨u,e1,_⟩:=DataW.trod_string Tryz.underlying9 (show DataW.trod enc Tryz.prog w base spare held n' 9 [c1]=some y1 from g1);simp only[List.cons.injEq,and_true]at e0 e1;subst e0 e1;exact⟨k,u,rfl⟩
theorem NM7{H:Type}{enc:TypeId×Value->H}{w:World}{base:Nat}{spare:Nat->Bool}{held:Bool}{n:Nat}{cs:List Value}{y:DataW H×List MemPlace}
  (h:DataW.trod enc Tryz.prog w base spare held n 35 cs=some y):∃o:Opn,cs=o.cells:=by
 obtain⟨xs,n',rfl,hx,hlen,hxl,hg⟩:=DataW.trod_struct Tryz.underlying35 h;have hlen':cs.length=12:=hlen.trans (by kernel_rfl)
 match cs,hlen' with
 | [c0,c1,c2,c3,c4,c5,c6,c7,c8,c9,c10,c11],_=>
  match xs,hxl with
  | [y0,y1,y2,y3,y4,y5,y6,y7,y8,y9],_=>
   have g0:=hg 0 _ rfl;have g1:=hg 1 _ rfl;have g2:=hg 2 _ rfl;have g3:=hg 3 _ rfl;have g4:=hg 4 _ rfl;have g5:=hg 5 _ rfl;have g6:=hg 6 _ rfl;have g7:=hg 7 _ rfl;have g8:=hg 8 _ rfl;have g9:=hg 9 _ rfl;obtain⟨z0,e0,_⟩:=DataW.trod_int Tryz.underlying3 (show DataW.trod enc Tryz.prog w base spare held n' 3 [c0]=some y0 from g0);obtain⟨z1,e1,_⟩:=DataW.trod_int Tryz.underlying3 (show DataW.trod enc Tryz.prog w base spare held n' 3 [c1]=some y1 from g1);obtain⟨z2,e2,_⟩:=DataW.trod_int Tryz.underlying3 (show DataW.trod enc Tryz.prog w base spare held n' 3 [c2]=some y2 from g2);obtain⟨ak,aw,e3⟩:=Gk7 (show DataW.trod enc Tryz.prog w base spare held n' 26 [c3,c4]=some y3 from g3);obtain⟨tk,tw,e4⟩:=Gk7 (show DataW.trod enc Tryz.prog w base spare held n' 26 [c5,c6]=some y4 from g4);obtain⟨z5,e5,_⟩:=DataW.trod_int Tryz.underlying3 (show DataW.trod enc Tryz.prog w base spare held n' 3 [c7]=some y5 from g5);obtain⟨z6,e6,_⟩:=DataW.trod_int Tryz.underlying3 (show DataW.trod enc Tryz.prog w base spare held n' 3 [c8]=some y6 from g6);obtain⟨z7,e7,_⟩:=DataW.trod_int Tryz.underlying3 (show DataW.trod enc Tryz.prog w base spare held n' 3 [c9]=some y7 from g7);obtain⟨z8,e8,_⟩:=DataW.trod_bool Tryz.underlying4 (show DataW.trod enc Tryz.prog w base spare held n' 4 [c10]=some y8 from g8);obtain⟨z9,e9,_⟩:=DataW.trod_int Tryz.underlying3 (show DataW.trod enc Tryz.prog w base spare held n' 3 [c11]=some y9 from g9);simp only[List.cons.injEq,and_true]at e0 e1 e2 e3 e4 e5 e6 e7 e8 e9;obtain⟨e3,e3'⟩:=e3;obtain⟨e4,e4'⟩:=e4;subst e0 e1 e2 e3 e3' e4 e4' e5 e6 e7 e8 e9;exact⟨⟨z0,z1,z2,ak,aw,tk,tw,z5,z6,z7,z8,z9⟩,rfl⟩
theorem open_opns{H:Type}{enc:TypeId×Value->H}{w:World}{base:Nat}{spare:Nat->Bool}{held:Bool}{r:Reach}{b0:Nat}{v:Value}{d:DataW H}{p:List MemPlace}
  (hv:Value.okWide Tryz.prog w r b0 43 v) (h:DataW.Trod enc Tryz.prog w base spare held 43 v d p):∃xs,bQ4 Opn.cells 12 w v xs:=
 JO7 Opn.cells ⟨0,0,0,⟨#[]⟩,⟨#[]⟩,⟨#[]⟩,⟨#[]⟩,0,0,0,false,0⟩ Opn.len (by decide) Tryz.underlying43 (by kernel_rfl) (fun _ _ _ _ h => NM7 h) hv h
structure OpnAt(V:World)(b off:Nat)(x:Opn):Prop where
 kind:V.cell? ⟨b,off,none⟩=some (.I x.kind)
 client:V.cell? ⟨b,off+1,none⟩=some (.I x.client)
 seq:V.cell? ⟨b,off+2,none⟩=some (.I x.seq)
 ak:V.cell? ⟨b,off+3,none⟩=some (.string x.ak)
 aw:V.cell? ⟨b,off+4,none⟩=some (.string x.aw)
 tk:V.cell? ⟨b,off+5,none⟩=some (.string x.tk)
 tw:V.cell? ⟨b,off+6,none⟩=some (.string x.tw)
 all:∀(j:Nat) (v:Value),x.cells[j]? = some v->V.cell? ⟨b,off+j,none⟩=some v
theorem bQ4.opn{V:World}{v:Value}{xs:List Opn}(h:bQ4 Opn.cells 12 V v xs):∃a cap,v=.slice a xs.length cap/\xs.length<=9223372036854775807/\∀i (h:i<xs.length), ∃b off,a=some ⟨b,off,none⟩/\OpnAt V b (off+i*12) xs[i]:=by obtain⟨a,cap,hv,h63,hc⟩:=h;refine⟨a,cap,hv,h63,fun i hi=>?_⟩;obtain⟨b,off,ha,hj⟩:=hc i hi;exact⟨b,off,ha,hj 0 _ rfl,hj 1 _ rfl,hj 2 _ rfl,hj 3 _ rfl,hj 4 _ rfl,hj 5 _ rfl,hj 6 _ rfl,fun j v hv=>hj j v hv⟩
end Go.Proofs.YtlmhakmoioogaaaGreat
end
section
namespace Go.Proofs.YtlmhakmoioogaaaGreat
open Go.RowKit Go.Sl
theorem dE4(k:ByteArray)(W w:World)(R:List HP)(hS:St W R w):
  Calls Tryz.prog 115 #[.string k] w fun e w'=>e=.returned (.bool (B8 k))/\St W R w':=by
 go_enter Tryz.func115,Tryz.ntmps115;by_cases h1:k.size<1
 ·have e:B8 k=false:=by unfold B8;simp;omega
  have d1:decide ((1:Int)<=(k.size:Int))=false:=by simp;omega
  rw[e];go_wp2_with(fail);go_ret;exact⟨rfl,hS⟩
 ·have d1:(1:Int)<=(k.size:Int):=by omega
  by_cases h2:k.size<=16
  ·have e:B8 k=true:=by unfold B8;simp;omega
   have d2:(k.size:Int)<=16:=by omega
   rw[e];go_wp2_with(fail);go_ret;exact⟨rfl,hS⟩
  ·have e:B8 k=false:=by unfold B8;simp;omega
   have d2:decide ((k.size:Int)<=16)=false:=by simp;omega
   rw[e];go_wp2_with(fail);go_ret;exact⟨rfl,hS⟩
theorem is8(i:It)(W w:World)(R:List HP)(hS:St W R w):
  Calls Tryz.prog 116 #[.agg i.cells.toArray] w fun e w'=>e=.returned (.bool (s9 i))/\St W R w':=by
 obtain⟨x0,x1,x2,x3⟩:=i;simp only[It.cells];go_enter Tryz.func116,Tryz.ntmps116;go_wp2_with(first|refine zbx hS ?_;clear hS;intro b w hS)
 go_loopw [3] (fun v wr=>IsR W (blk b [.I x0,.I x1,.I x2,.I x3] 29::R) ⟨x0,x1,x2,x3⟩ v wr) (fun v _=>4-(intOf v).toNat)
 case atStart=>exact⟨hS,.inl rfl⟩
 case round=>
  clear hS;obtain⟨hS,hk⟩:=hrel;simp only at hk
  rcases hk with rfl|⟨rfl,q0⟩|⟨rfl,q0,q1⟩|⟨rfl,q0,q1,q2⟩|⟨rfl,q0,q1,q2,q3⟩
  ·skip
   by_cases h1:x0<0
   ·have hx:=CU7 h1;go_wp2_with(first|refine zl1 hS ?_);go_ret;refine⟨by simp only[s9,hx,Bool.false_and,Bool.and_false,hx];rfl,hS.drop⟩
   ·have d1:decide (x0<0)=false:=by simpa using h1
    by_cases h2:1152921504606846976<x0
    ·have hx:=Cf7 h2;go_wp2_with(first|refine zl1 hS ?_);go_ret;refine⟨by simp only[s9,hx,Bool.false_and,Bool.and_false,hx];rfl,hS.drop⟩
    ·have d2:decide (1152921504606846976<x0)=false:=by simpa using h2
     have hx:inH x0=true:=BM7.2 ⟨by omega,by omega⟩;clear h1 h2;go_wp2_with(first|refine zl1 hS ?_);go_roundw
     case rel=>exact⟨hS,.inr (.inl ⟨rfl,hx⟩)⟩
     case measure=>simp[intOf]
  ·skip
   by_cases h1:x1<0
   ·have hx:=CU7 h1;go_wp2_with(first|refine zl1 hS ?_);go_ret;refine⟨by simp only[s9,hx,Bool.false_and,Bool.and_false,q0];rfl,hS.drop⟩
   ·have d1:decide (x1<0)=false:=by simpa using h1
    by_cases h2:1152921504606846976<x1
    ·have hx:=Cf7 h2;go_wp2_with(first|refine zl1 hS ?_);go_ret;refine⟨by simp only[s9,hx,Bool.false_and,Bool.and_false,q0];rfl,hS.drop⟩
    ·have d2:decide (1152921504606846976<x1)=false:=by simpa using h2
     have hx:inH x1=true:=BM7.2 ⟨by omega,by omega⟩;clear h1 h2;go_wp2_with(first|refine zl1 hS ?_);go_roundw
     case rel=>exact⟨hS,.inr (.inr (.inl ⟨rfl,q0,hx⟩))⟩
     case measure=>simp[intOf]
  ·skip
   by_cases h1:x2<0
   ·have hx:=CU7 h1;go_wp2_with(first|refine zl1 hS ?_);go_ret;refine⟨by simp only[s9,hx,Bool.false_and,Bool.and_false,q0];rfl,hS.drop⟩
   ·have d1:decide (x2<0)=false:=by simpa using h1
    by_cases h2:1152921504606846976<x2
    ·have hx:=Cf7 h2;go_wp2_with(first|refine zl1 hS ?_);go_ret;refine⟨by simp only[s9,hx,Bool.false_and,Bool.and_false,q0];rfl,hS.drop⟩
    ·have d2:decide (1152921504606846976<x2)=false:=by simpa using h2
     have hx:inH x2=true:=BM7.2 ⟨by omega,by omega⟩;clear h1 h2;go_wp2_with(first|refine zl1 hS ?_);go_roundw
     case rel=>exact⟨hS,.inr (.inr (.inr (.inl ⟨rfl,q0,q1,hx⟩)))⟩
     case measure=>simp[intOf]
  ·skip
   by_cases h1:x3<0
   ·have hx:=CU7 h1;go_wp2_with(first|refine zl1 hS ?_);go_ret;refine⟨by simp only[s9,hx,Bool.false_and,Bool.and_false,q0];rfl,hS.drop⟩
   ·have d1:decide (x3<0)=false:=by simpa using h1
    by_cases h2:1152921504606846976<x3
    ·have hx:=Cf7 h2;go_wp2_with(first|refine zl1 hS ?_);go_ret;refine⟨by simp only[s9,hx,Bool.false_and,Bool.and_false,q0];rfl,hS.drop⟩
    ·have d2:decide (1152921504606846976<x3)=false:=by simpa using h2
     have hx:inH x3=true:=BM7.2 ⟨by omega,by omega⟩;clear h1 h2;go_wp2_with(first|refine zl1 hS ?_);go_roundw
     case rel=>exact⟨hS,.inr (.inr (.inr (.inr ⟨rfl,q0,q1,q2,hx⟩)))⟩
     case measure=>simp[intOf]
  ·go_wp2_with(fail);go_ret;refine⟨by simp only[s9,q0,q1,q2,q3];rfl,hS.drop⟩
theorem CB7(x0 x1 x2 x3:Int)(W w:World)(R:List HP)(hS:St W R w):
  Calls Tryz.prog 116 #[.agg #[.I x0,.I x1,.I x2,.I x3]] w fun e w'=>e=.returned (.bool (s9 ⟨x0,x1,x2,x3⟩))/\St W R w':=is8 ⟨x0,x1,x2,x3⟩ W w R hS
theorem fo4(x0 x1 x2 x3 y0 y1 y2 y3:Int)(W w:World)(R:List HP)(hS:St W R w):
  Calls Tryz.prog 226 #[.agg #[.I x0,.I x1,.I x2,.I x3],.agg #[.I y0,.I y1,.I y2,.I y3]] w fun e w'=>e=.returned (.bool (N5 ⟨x0,x1,x2,x3⟩ ⟨y0,y1,y2,y3⟩))/\St W R w':=by
 go_enter Tryz.func226,Tryz.ntmps226;go_wp2_with(first|(fail_if_success (have:=bA));(with_reducible apply AG7 hS);rfl;rfl;rfl;rfl;clear hS;intro bA w hS;refine frS ?_|(have:=bA);(with_reducible apply AG7 hS);rfl;rfl;rfl;rfl;clear hS;intro bB w hS;refine frS ?_)
 go_loopw [5] (fun v wr=>LsR W (blk bB [.I y0,.I y1,.I y2,.I y3] 29::blk bA [.I x0,.I x1,.I x2,.I x3] 29::R) ⟨x0,x1,x2,x3⟩ ⟨y0,y1,y2,y3⟩ v wr) (fun v _=>4-(intOf v).toNat)
 case atStart=>exact⟨hS,.inl rfl⟩
 case round=>
  clear hS;obtain⟨hS,hk⟩:=hrel;simp only at hk
  rcases hk with rfl|⟨rfl,q0⟩|⟨rfl,q0,q1⟩|⟨rfl,q0,q1,q2⟩|⟨rfl,q0,q1,q2,q3⟩
  ·skip
   by_cases h1:x0<y0
   ·have hx:decide (x0<y0)=true:=by simpa using h1
    go_wp2_with(fail);refine Aa7 (by kernel_rfl) (by kernel_rfl) hS ?_
    iterate 2 (refine qR ?_)
    (refine zq1 ?_)
    iterate 2 (refine qR ?_)
    (refine zq1 ?_);refine qR ?_;clear hS;intro w hS;go_wp2_with(fail);go_ret;refine⟨by simp only[N5,hx,Bool.true_or,Bool.or_true];rfl,hS.drop.drop⟩
   ·have hx:decide (x0<y0)=false:=by simpa using h1
    clear h1;go_wp2_with(fail);refine Aa7 (by kernel_rfl) (by kernel_rfl) hS ?_
    iterate 2 (refine qR ?_)
    (refine zq1 ?_)
    iterate 2 (refine qR ?_)
    (refine zq1 ?_);refine qR ?_;clear hS;intro w hS;go_wp2_with(fail);go_roundw
    case rel=>exact⟨hS,.inr (.inl ⟨rfl,hx⟩)⟩
    case measure=>simp[intOf]
  ·skip
   by_cases h1:x1<y1
   ·have hx:decide (x1<y1)=true:=by simpa using h1
    go_wp2_with(fail);refine Aa7 (by kernel_rfl) (by kernel_rfl) hS ?_
    iterate 2 (refine qR ?_)
    (refine zq1 ?_)
    iterate 2 (refine qR ?_)
    (refine zq1 ?_);refine qR ?_;clear hS;intro w hS;go_wp2_with(fail);go_ret;refine⟨by simp only[N5,hx,Bool.true_or,Bool.or_true];rfl,hS.drop.drop⟩
   ·have hx:decide (x1<y1)=false:=by simpa using h1
    clear h1;go_wp2_with(fail);refine Aa7 (by kernel_rfl) (by kernel_rfl) hS ?_
    iterate 2 (refine qR ?_)
    (refine zq1 ?_)
    iterate 2 (refine qR ?_)
    (refine zq1 ?_);refine qR ?_;clear hS;intro w hS;go_wp2_with(fail);go_roundw
    case rel=>exact⟨hS,.inr (.inr (.inl ⟨rfl,q0,hx⟩))⟩
    case measure=>simp[intOf]
  ·skip
   by_cases h1:x2<y2
   ·have hx:decide (x2<y2)=true:=by simpa using h1
    go_wp2_with(fail);refine Aa7 (by kernel_rfl) (by kernel_rfl) hS ?_
    iterate 2 (refine qR ?_)
    (refine zq1 ?_)
    iterate 2 (refine qR ?_)
    (refine zq1 ?_);refine qR ?_;clear hS;intro w hS;go_wp2_with(fail);go_ret;refine⟨by simp only[N5,hx,Bool.true_or,Bool.or_true];rfl,hS.drop.drop⟩
   ·have hx:decide (x2<y2)=false:=by simpa using h1
    clear h1;go_wp2_with(fail);refine Aa7 (by kernel_rfl) (by kernel_rfl) hS ?_
    iterate 2 (refine qR ?_)
    (refine zq1 ?_)
    iterate 2 (refine qR ?_)
    (refine zq1 ?_);refine qR ?_;clear hS;intro w hS;go_wp2_with(fail);go_roundw
    case rel=>exact⟨hS,.inr (.inr (.inr (.inl ⟨rfl,q0,q1,hx⟩)))⟩
    case measure=>simp[intOf]
  ·skip
   by_cases h1:x3<y3
   ·have hx:decide (x3<y3)=true:=by simpa using h1
    go_wp2_with(fail);refine Aa7 (by kernel_rfl) (by kernel_rfl) hS ?_
    iterate 2 (refine qR ?_)
    (refine zq1 ?_)
    iterate 2 (refine qR ?_)
    (refine zq1 ?_);refine qR ?_;clear hS;intro w hS;go_wp2_with(fail);go_ret;refine⟨by simp only[N5,hx,Bool.true_or,Bool.or_true];rfl,hS.drop.drop⟩
   ·have hx:decide (x3<y3)=false:=by simpa using h1
    clear h1;go_wp2_with(fail);refine Aa7 (by kernel_rfl) (by kernel_rfl) hS ?_
    iterate 2 (refine qR ?_)
    (refine zq1 ?_)
    iterate 2 (refine qR ?_)
    (refine zq1 ?_);refine qR ?_;clear hS;intro w hS;go_wp2_with(fail);go_roundw
    case rel=>exact⟨hS,.inr (.inr (.inr (.inr ⟨rfl,q0,q1,q2,hx⟩)))⟩
    case measure=>simp[intOf]
  ·go_wp2_with(fail);go_ret;refine⟨by simp only[N5,q0,q1,q2,q3];rfl,hS.drop.drop⟩
theorem gg4(i j:It)(W w:World)(R:List HP)(hS:St W R w):
  Calls Tryz.prog 181 #[.agg i.cells.toArray,.agg j.cells.toArray] w fun e w'=>e=.returned (.tuple #[.agg (cl4 i j).cells.toArray,.bool (J8 i j)])/\St W R w':=by
 obtain⟨x0,x1,x2,x3⟩:=i;obtain⟨y0,y1,y2,y3⟩:=j
 cases hi:s9 ⟨x0,x1,x2,x3⟩with
 | false=>
  have e:J8 ⟨x0,x1,x2,x3⟩ ⟨y0,y1,y2,y3⟩=false:=by unfold J8;rw[hi];rfl
  unfold cl4;rw[e];simp only[It.cells];go_enter Tryz.func181,Tryz.ntmps181;go_wp2_with(first|go_big_skip|go_at_call 116;refine(CB7 _ _ _ _ W _ _ hS).mono ?_;clear hS;(try rw[hi]);(try rw[hj]);rintro e w ⟨rfl,hS⟩|(fail_if_success (have:=bA));(with_reducible apply AG7 hS);rfl;rfl;rfl;rfl;clear hS;intro bA w hS;refine frS ?_|(have:=bA);(with_reducible apply AG7 hS);rfl;rfl;rfl;rfl;clear hS;intro bB w hS;refine frS ?_|refine zlN hS ?_|refine zsN hS ?_;clear hS;intro w hS|(with_reducible apply Al7 hS);rfl;rfl;exact zsS;clear hS;intro b w hS;refine frS ?_);apply Ac7;rfl;rfl;rfl;rfl;exact hS;decide +kernel;(exact n9);kernel_rfl;exact⟨rfl,hS.drop.drop.drop⟩
 | true=>
  cases hj:s9 ⟨y0,y1,y2,y3⟩with
  | false=>
   have e:J8 ⟨x0,x1,x2,x3⟩ ⟨y0,y1,y2,y3⟩=false:=by unfold J8;rw[hi,hj];rfl
   unfold cl4;rw[e];simp only[It.cells];go_enter Tryz.func181,Tryz.ntmps181;go_wp2_with(first|go_big_skip|go_at_call 116;refine(CB7 _ _ _ _ W _ _ hS).mono ?_;clear hS;(try rw[hi]);(try rw[hj]);rintro e w ⟨rfl,hS⟩|(fail_if_success (have:=bA));(with_reducible apply AG7 hS);rfl;rfl;rfl;rfl;clear hS;intro bA w hS;refine frS ?_|(have:=bA);(with_reducible apply AG7 hS);rfl;rfl;rfl;rfl;clear hS;intro bB w hS;refine frS ?_|refine zlN hS ?_|refine zsN hS ?_;clear hS;intro w hS|(with_reducible apply Al7 hS);rfl;rfl;exact zsS;clear hS;intro b w hS;refine frS ?_);apply Ac7;rfl;rfl;rfl;rfl;exact hS;decide +kernel;(exact n9);kernel_rfl;exact⟨rfl,hS.drop.drop.drop⟩
  | true=>
   cases hl:N5 ⟨x0,x1,x2,x3⟩ ⟨y0,y1,y2,y3⟩with
   | true=>
    have e:J8 ⟨x0,x1,x2,x3⟩ ⟨y0,y1,y2,y3⟩=false:=by unfold J8;rw[hi,hj,hl];rfl
    unfold cl4;rw[e];simp only[It.cells];go_enter Tryz.func181,Tryz.ntmps181;go_wp2_with(first|go_at_call 116;refine(CB7 _ _ _ _ W _ _ hS).mono ?_;clear hS;(try rw[hi]);(try rw[hj]);rintro e w ⟨rfl,hS⟩|go_at_call 226;refine(fo4 _ _ _ _ _ _ _ _ W _ _ hS).mono ?_;clear hS;rw[hl];rintro e w ⟨rfl,hS⟩|(fail_if_success (have:=bA));(with_reducible apply AG7 hS);rfl;rfl;rfl;rfl;clear hS;intro bA w hS;refine frS ?_|(have:=bA);(with_reducible apply AG7 hS);rfl;rfl;rfl;rfl;clear hS;intro bB w hS;refine frS ?_|refine zlN hS ?_|refine zsN hS ?_;clear hS;intro w hS|(with_reducible apply Al7 hS);rfl;rfl;exact zsS;clear hS;intro b w hS;refine frS ?_);apply Ac7;rfl;rfl;rfl;rfl;exact hS;decide +kernel;(exact n9);kernel_rfl;exact⟨rfl,hS.drop.drop.drop⟩
   | false=>
    have e:J8 ⟨x0,x1,x2,x3⟩ ⟨y0,y1,y2,y3⟩=true:=by unfold J8;rw[hi,hj,hl];rfl
    obtain⟨a0,a1,a2,a3⟩:=Ah7.1 hi;obtain⟨b0,b1,b2,b3⟩:=Ah7.1 hj;simp only at a0 a1 a2 a3 b0 b1 b2 b3;unfold cl4;rw[e,if_pos rfl];simp only[It.cells];go_enter Tryz.func181,Tryz.ntmps181;go_wp2_with(first|go_at_call 116;refine(CB7 _ _ _ _ W _ _ hS).mono ?_;clear hS;(try rw[hi]);(try rw[hj]);rintro e w ⟨rfl,hS⟩|go_at_call 226;refine(fo4 _ _ _ _ _ _ _ _ W _ _ hS).mono ?_;clear hS;rw[hl];rintro e w ⟨rfl,hS⟩|(fail_if_success (have:=bA));(with_reducible apply AG7 hS);rfl;rfl;rfl;rfl;clear hS;intro bA w hS;refine frS ?_|(have:=bA);(with_reducible apply AG7 hS);rfl;rfl;rfl;rfl;clear hS;intro bB w hS;refine frS ?_|refine zlN hS ?_|(with_reducible apply Al7 hS);rfl;rfl;exact zsS;clear hS;intro b w hS;refine frS ?_)
    go_loopw [6] (fun v wr=>Sb4 W (fun q=>[blk b [.I 0,.I 0,.I 0,.I 0] 29,blk bB [.I y0,.I y1,.I y2,.I y3] 29,blk bA [.I q.x0,.I q.x1,.I q.x2,.I q.x3] 29]++R) ⟨x0,x1,x2,x3⟩ ⟨y0,y1,y2,y3⟩ v wr) (fun v _=>4-(intOf v).toNat)
    case atStart=>exact .inl ⟨rfl,hS⟩
    case round=>
     clear hS hi hj hl;simp only[Sb4,bD4,jK,jN]at hrel
     rcases hrel with ⟨rfl,hS⟩|⟨rfl,hS⟩|⟨rfl,hS⟩|⟨rfl,hS⟩|⟨rfl,hS⟩
     ·skip
      go_wp2_with(fail);refine rt 9 hS ?_
      iterate 3 (refine qR ?_)
      (refine zq1 ?_)
      iterate 2 (refine qR ?_)
      (refine zq1 ?_)
      iterate 2 (refine qR ?_)
      clear hS;intro w hS;simp only[jD,List.drop_zero];go_wp2_with(first|refine zs1 hS ?_;clear hS;intro w hS);go_roundw
      case rel=>exact .inr (.inl ⟨rfl,hS⟩)
      case measure=>simp[intOf]
     ·skip
      go_wp2_with(fail);refine rt 9 hS ?_
      iterate 3 (refine qR ?_)
      (refine zq1 ?_)
      iterate 2 (refine qR ?_)
      (refine zq1 ?_)
      iterate 2 (refine qR ?_)
      clear hS;intro w hS;simp only[jD,List.drop_zero];go_wp2_with(first|refine zs1 hS ?_;clear hS;intro w hS);go_roundw
      case rel=>exact .inr (.inr (.inl ⟨rfl,hS⟩))
      case measure=>simp[intOf]
     ·skip
      go_wp2_with(fail);refine rt 9 hS ?_
      iterate 3 (refine qR ?_)
      (refine zq1 ?_)
      iterate 2 (refine qR ?_)
      (refine zq1 ?_)
      iterate 2 (refine qR ?_)
      clear hS;intro w hS;simp only[jD,List.drop_zero];go_wp2_with(first|refine zs1 hS ?_;clear hS;intro w hS);go_roundw
      case rel=>exact .inr (.inr (.inr (.inl ⟨rfl,hS⟩)))
      case measure=>simp[intOf]
     ·skip
      go_wp2_with(fail);refine rt 9 hS ?_
      iterate 3 (refine qR ?_)
      (refine zq1 ?_)
      iterate 2 (refine qR ?_)
      (refine zq1 ?_)
      iterate 2 (refine qR ?_)
      clear hS;intro w hS;simp only[jD,List.drop_zero];go_wp2_with(first|refine zs1 hS ?_;clear hS;intro w hS);go_roundw
      case rel=>exact .inr (.inr (.inr (.inr ⟨rfl,hS⟩)))
      case measure=>simp[intOf]
     ·go_wp2_with(first|refine zlN hS ?_|refine zsN hS ?_;clear hS;intro w hS);apply Ac7;rfl;rfl;rfl;rfl;exact hS;decide +kernel;(exact n9);kernel_rfl;exact⟨rfl,hS.drop.drop.drop⟩
theorem fI4(o:Ord)(hm:MayP o)(W w:World)(R:List HP)(hS:St W R w):
  Calls Tryz.prog 183 #[.agg o.cells.toArray] w fun e w'=>e=.returned (.agg (j9 o).cells.toArray)/\St W R w':=by
 have h1:=hm.item0;have h2:=hm.item1;have h3:=Ci7 (by have:=hm.cnt0;omega) hm.cnt1 (by have:=hm.price0;omega) hm.price1;obtain⟨i,u,y,t,c,pr⟩:=o;simp only at h1 h2 h3;clear hm
 cases y with
 | true=>
  have e:j9 ⟨i,u,true,t,c,pr⟩=⟨c*pr,0,0,0⟩:=rfl;rw[e];simp only[Ord.cells,It.cells];have h4:c*pr<=9223372036854775807:=by omega
  have h5 : -9223372036854775808<=c*pr:=by omega
  clear e h1 h2;go_enter Tryz.func183,Tryz.ntmps183;go_wp2_with(first|refine zl1 hS ?_|refine zlN hS ?_|refine zs1 hS ?_;clear hS;intro w hS|refine zsN hS ?_;clear hS;intro w hS|refine zbx hS ?_;clear hS;intro b w hS|refine zal hS ?_;clear hS;intro b w hS);apply As7;rfl;rfl;rfl;exact hS;decide +kernel;(exact n9);kernel_rfl;exact⟨rfl,hS.s _⟩
 | false=>
  have ht:t=1\/t=2\/t=3:=by omega
  rcases ht with rfl|rfl|rfl
  ·have e:j9 ⟨i,u,false,1,c,pr⟩=⟨0,c,0,0⟩:=rfl;rw[e];simp only[Ord.cells,It.cells];clear e h1 h2 h3;go_enter Tryz.func183,Tryz.ntmps183;go_wp2_with(first|refine zl1 hS ?_|refine zlN hS ?_|refine zs1 hS ?_;clear hS;intro w hS|refine zsN hS ?_;clear hS;intro w hS|refine zbx hS ?_;clear hS;intro b w hS|refine zal hS ?_;clear hS;intro b w hS);apply As7;rfl;rfl;rfl;exact hS;decide +kernel;(exact n9);kernel_rfl;exact⟨rfl,hS.s _⟩
  ·have e:j9 ⟨i,u,false,2,c,pr⟩=⟨0,0,c,0⟩:=rfl;rw[e];simp only[Ord.cells,It.cells];clear e h1 h2 h3;go_enter Tryz.func183,Tryz.ntmps183;go_wp2_with(first|refine zl1 hS ?_|refine zlN hS ?_|refine zs1 hS ?_;clear hS;intro w hS|refine zsN hS ?_;clear hS;intro w hS|refine zbx hS ?_;clear hS;intro b w hS|refine zal hS ?_;clear hS;intro b w hS);apply As7;rfl;rfl;rfl;exact hS;decide +kernel;(exact n9);kernel_rfl;exact⟨rfl,hS.s _⟩
  ·have e:j9 ⟨i,u,false,3,c,pr⟩=⟨0,0,0,c⟩:=rfl;rw[e];simp only[Ord.cells,It.cells];clear e h1 h2 h3;go_enter Tryz.func183,Tryz.ntmps183;go_wp2_with(first|refine zl1 hS ?_|refine zlN hS ?_|refine zs1 hS ?_;clear hS;intro w hS|refine zsN hS ?_;clear hS;intro w hS|refine zbx hS ?_;clear hS;intro b w hS|refine zal hS ?_;clear hS;intro b w hS);apply As7;rfl;rfl;rfl;exact hS;decide +kernel;(exact n9);kernel_rfl;exact⟨rfl,hS.s _⟩
end Go.Proofs.YtlmhakmoioogaaaGreat
end
