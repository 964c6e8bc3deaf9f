/-
  The vault's scripts.
-/
import Derived.Test.YtlmhakmoioogaaaGreatEconBkM9
set_option maxHeartbeats 16000000
set_option maxRecDepth 100000
set_option linter.unusedSimpArgs false
set_option linter.unusedVariables false
section
namespace Go.Sl
open Go.RowKit
section
variable{P:Program}{W:World}{L:List HP}{ops:Array Oper}{Q:Act->Prop}{a:Act}{rest:List Oper}{o:Oper}
theorem SL7{t t2:TypeId}{x y:Operand}{xs ys:Array Value}{r:Bool}(ho:o.op=.binOp .eql t x y t2)(hg:Region.wanted o (yielded ops a.tmps)=true)(hx:a.eval x=.agg xs)(hy:a.eval y=.agg ys)(hm:P.eqGuardType P.depth t=false)(hr:∀w:World,(Op.equalIn 10000 t (.agg xs) (.agg ys)).run P w=.ok r w)
  (h:wpQuiet P ops (St W L) Q rest (a.put o.dst (.bool r))):wpQuiet P ops (St W L) Q (o::rest) a:=
 Hm7 hg (fun w _=>by unfold execOp;simp[ho,hx,hy,run_eqGuard_agg w .eql t x y xs ys hm,run_eql_struct,hr]) h
theorem LM7{t t2:TypeId}{x y:Operand}{xs ys:Array Value}{r:Bool}(ho:o.op=.binOp .neq t x y t2)(hg:Region.wanted o (yielded ops a.tmps)=true)(hx:a.eval x=.agg xs)(hy:a.eval y=.agg ys)(hm:P.eqGuardType P.depth t=false)(hr:∀w:World,(Op.equalIn 10000 t (.agg xs) (.agg ys)).run P w=.ok r w)
  (h:wpQuiet P ops (St W L) Q rest (a.put o.dst (.bool (!r)))):wpQuiet P ops (St W L) Q (o::rest) a:=
 Hm7 hg (fun w _=>by unfold execOp;simp[ho,hx,hy,run_eqGuard_agg w .neq t x y xs ys hm,run_neq_struct,hr]) h
end
end Go.Sl
namespace Go.Proofs.YtlmhakmoioogaaaGreat
open Go.RowKit Go.Sl
structure VOk(p:Ps)(n:Int)(i:Nat):Prop where
 ok:N5 p
 w:PsW p (100*i)
 n0:1<=n
 n1:n<=1+i
theorem gk4:VOk [] 1 0:=⟨Ek7,Ky7 _,by decide,by decide⟩
theorem VOk.on{p:Ps}{n:Int}{i:Nat}(h:VOk p n i):VOk p n (i+1):=⟨h.ok,Ap7 h.w (by omega),h.n0,by have:=h.n1;omega⟩
section
variable(vb mb bb:Nat){p:Ps}{L:List Ord}{n:Int}{i:Nat}(W w:World)(R:List HP)
theorem UO7(h:VOk p n i)(who:ByteArray)(it:It)(hS:St W (B7 vb mb bb p L n R) w):
  Calls Tryz.prog 102 #[.P vb,.string who,.agg it.cells.toArray] w fun e w'=>e=.returned (.I (Q5 p who it))/\VOk (M5 p who it) n (i+1)/\St W (B7 vb mb bb (M5 p who it) L n R) w':=by
 refine(QJ7 vb mb p who _ _ it W w _ hS).mono ?_;rintro e w' ⟨rfl,hS⟩;exact⟨rfl,⟨LJ7 h.ok _ _,Ap7 (Kz7 h.w _ _) (by omega),h.n0,by have:=h.n1;omega⟩,hS⟩
theorem Tu7(h:VOk p n i)(who:ByteArray)(it:It)(hS:St W (B7 vb mb bb p L n R) w):
  Calls Tryz.prog 104 #[.P vb,.string who,.agg it.cells.toArray] w fun e w'=>e=.returned (.I (A5 p who it))/\VOk (A8 p who it) n (i+1)/\St W (B7 vb mb bb (A8 p who it) L n R) w':=by
 refine(Gm7 vb mb p who _ _ it W w _ hS).mono ?_;rintro e w' ⟨rfl,hS⟩;exact⟨rfl,⟨CI7 h.ok _ _,Ap7 (FO7 h.w _ _) (by omega),h.n0,by have:=h.n1;omega⟩,hS⟩
theorem Tv7(h:VOk p n i)(o:Ord)(hS:St W (B7 vb mb bb p L n R) w):
  Calls Tryz.prog 105 #[.P vb,.agg o.cells.toArray] w fun e w'=>e=.returned (.tuple #[.I (E6 ⟨p,L,n⟩ o).1,.I (E6 ⟨p,L,n⟩ o).2.1]) /\
   VOk (E6 ⟨p,L,n⟩ o).2.2.ps (E6 ⟨p,L,n⟩ o).2.2.n (i+1)/\St W (B7 vb mb bb (E6 ⟨p,L,n⟩ o).2.2.ps (E6 ⟨p,L,n⟩ o).2.2.L (E6 ⟨p,L,n⟩ o).2.2.n R) w':=by
 have hll:=Cd7 hS.drop.drop;have hmay:∀x∈L,MayP x:=fun x hx=>(Bn7 hS.drop.drop x hx).1
 refine(Ox7 vb mb bb ⟨p,L,n⟩ o h.ok h.n0 W w R hS).mono ?_;rintro e w' ⟨rfl,hS⟩;have h1:=Tr7 (V:=⟨p,L,n⟩) (o:=o) h.ok h.n0 hmay;have h2:=SI7 (V:=⟨p,L,n⟩) (o:=o) h.w hmay hll
 have h3:(E6 ⟨p,L,n⟩ o).2.2.n<=n+1:=by
  unfold E6
  repeat' split
  all_goals dsimp only
  all_goals omega
 exact⟨rfl,⟨h1.1,Ap7 h2 (by omega),h1.2,by have:=h.n1;omega⟩,hS⟩
theorem Tw7(h:VOk p n i)(who:ByteArray)(id:Int)(hS:St W (B7 vb mb bb p L n R) w):
  Calls Tryz.prog 106 #[.P vb,.string who,.I id] w fun e w'=>e=.returned (.I (F6 ⟨p,L,n⟩ who id).1) /\
   VOk (F6 ⟨p,L,n⟩ who id).2.ps n (i+1)/\St W (B7 vb mb bb (F6 ⟨p,L,n⟩ who id).2.ps (F6 ⟨p,L,n⟩ who id).2.L n R) w':=by
 have hmay:∀x∈L,MayP x:=fun x hx=>(Bn7 hS.drop.drop x hx).1
 refine(Oy7 vb mb bb ⟨p,L,n⟩ who id h.ok W w R hS).mono ?_;rintro e w' ⟨rfl,hS⟩;have h1:=Ts7 (V:=⟨p,L,n⟩) (who:=who) (id:=id) h.ok h.n0 hmay;have h2:=SJ7 (V:=⟨p,L,n⟩) (who:=who) (id:=id) h.w hmay;have h3:(F6 ⟨p,L,n⟩ who id).2.n=n:=by unfold F6;split <;> rfl
 rw[h3]at hS;exact⟨rfl,⟨h1.1,Ap7 h2 (by omega),h.n0,by have:=h.n1;omega⟩,hS⟩
theorem UP7(u1 u2:Value){k:ByteArray}{x0 x1 x2 x3:Int}(hx:m5 p k=⟨x0,x1,x2,x3⟩)(hS:St W (blk vb [.map (some mb),u1,u2] 176::d8 eS eP mb p::R) w):
  Calls Tryz.prog 47 #[.P vb,.string k] w fun e w'=>e=.returned (.agg #[.I x0,.I x1,.I x2,.I x3])/\St W (blk vb [.map (some mb),u1,u2] 176::d8 eS eP mb p::R) w':=by
 refine(QH7 vb mb p k u1 u2 W w R hS).mono ?_;rw[hx];exact fun e w' h=>h
end
structure Opn where
 kind:Int
 client:Int
 seq:Int
 ak:ByteArray
 aw:ByteArray
 tk:ByteArray
 tw:ByteArray
 item:Int
 cnt:Int
 price:Int
 buy:Bool
 id:Int
def Opn.cells(o:Opn):List Value:=[.I o.kind,.I o.client,.I o.seq,.string o.ak,.string o.aw,.string o.tk,.string o.tw,.I o.item,.I o.cnt,.I o.price,.bool o.buy,.I o.id]
theorem Opn.len(o:Opn):o.cells.length=12:=rfl
structure Rpl where
 err:Int
 id:Int
 has:It
def Rpl.cells(r:Rpl):List Value:=.I r.err::.I r.id::r.has.cells
abbrev rp0:Rpl:=⟨0,0,it0⟩
structure Tns where
 client:Int
 seq:Int
 ak:ByteArray
 aw:ByteArray
 tk:ByteArray
 tw:ByteArray
 item:Int
 cnt:Int
def Tns.cells(t:Tns):List Value:=[.I t.client,.I t.seq,.string t.ak,.string t.aw,.string t.tk,.string t.tw,.I t.item,.I t.cnt]
theorem Tns.len(t:Tns):t.cells.length=8:=rfl
structure Ec where
 vs:List (ByteArray×Vs)
 ss:List (Int×(Int×Rpl))
 ts:List ((Int×Int)×Tns)
 ar:List ((Int×Int)×Unit)
abbrev ec0:Ec:=⟨[],[],[],[]⟩
abbrev vs0:Vs:=⟨[],[],1⟩
def noB(u:ByteArray):Bool:=decide (u.size=0)
def N6(o:Opn):Bool:=decide (0<=o.item)&&(decide (o.item<4)&&(decide (1<=o.cnt)&&decide (o.cnt<=1048576)))
def ei4(o:Opn):Bool:=noB o.tk&&(noB o.tw&&(decide (o.price=0)&&(!o.buy&&decide (o.id=0))))
def ax4(k u:ByteArray):Bool:=C8 k&&C8 u
def B9(o:Opn):Bool:=N6 o&&ei4 o
def R6(o:Opn):Bool:=ax4 o.tk o.tw&&(N6 o&&(decide (o.price=0)&&(!o.buy&&decide (o.id=0))))
def N9(o:Opn):Bool:=decide (1<=o.item)&&(decide (1<=o.price)&&(decide (o.price<=1024)&&(N6 o&&(noB o.tk&&(noB o.tw&&decide (o.id=0))))))
def M6(o:Opn):Bool:=decide (1<=o.id)&&(decide (o.id<=1099511627776)&&(noB o.tk&&(noB o.tw&&(decide (o.item=0)&&(decide (o.cnt=0)&&(decide (o.price=0)&&!o.buy))))))
def ch4(o:Opn):Bool:=noB o.tk&&(noB o.tw&&(decide (o.item=0)&&(decide (o.cnt=0)&&(decide (o.price=0)&&(!o.buy&&decide (o.id=0))))))
def M7(o:Opn):Bool:=
 if o.kind=1 then B9 o else if o.kind=2 then R6 o else if o.kind=3 then N9 o else if o.kind=4 then M6 o
 else if o.kind=5 then ch4 o else if o.kind=6 then B9 o else if o.kind=7 then ch4 o else false
def K6(o:Opn):Bool:=decide (1<=o.client)&&(decide (o.client<=1048576)&&(decide (1<=o.seq)&&(decide (o.seq<=1099511627776)&&ax4 o.ak o.aw)))
def C5(o:Opn):Bool:=K6 o&&M7 o
def G9(e:Ec)(o:Opn):Rpl×Bool:=
 if C5 o=false then(⟨1,0,it0⟩,true)
 else if o.kind=6 then(rp0,(m7 e.ar (o.client,o.seq)).isSome)
 else if o.kind=7 then(rp0,(m7 e.ts (o.client,o.seq)).isNone)
 else match m7 e.ss o.client with
  | none=>(rp0,false)
  | some (q,r)=>if o.seq<q then(⟨13,0,it0⟩,true)else if o.seq=q then(r,true)else(rp0,false)
def atV(e:Ec)(k:ByteArray):Vs:=(m7 e.vs k).getD vs0
def C6(V:Vs):Bool:=decide (V.ps.length=0)&&(decide (V.L.length=0)&&decide (V.n=1))
def bL4(e:Ec)(k:ByteArray)(V:Vs):Ec:={ e with vs:=if C6 V=true then j9 e.vs k else(k,V)::j9 e.vs k }
def B5(item n:Int):It:=aX4 it0 item n
def dp4(o:Opn):Tns:=⟨o.client,o.seq,o.ak,o.aw,o.tk,o.tw,o.item,o.cnt⟩
def aV4(o:Opn):Ord:=⟨0,o.aw,o.buy,o.item,o.cnt,o.price⟩
def doV(V:Vs)(o:Opn):Rpl×Vs:=
 if o.kind=1 then(⟨Q5 V.ps o.aw (B5 o.item o.cnt),0,it0⟩, { V with ps:=M5 V.ps o.aw (B5 o.item o.cnt) })
 else if o.kind=2 then(⟨A5 V.ps o.aw (B5 o.item o.cnt),0,it0⟩, { V with ps:=A8 V.ps o.aw (B5 o.item o.cnt) })
 else if o.kind=3 then(⟨(E6 V (aV4 o)).2.1,(E6 V (aV4 o)).1,it0⟩,(E6 V (aV4 o)).2.2)
 else if o.kind=4 then(⟨(F6 V o.aw o.id).1,0,it0⟩,(F6 V o.aw o.id).2)
 else if o.kind=5 then(⟨0,0,m5 V.ps o.aw⟩,V)
 else if o.kind=6 then(rp0, { V with ps:=M5 V.ps o.aw (B5 o.item o.cnt) })
 else(rp0,V)
def doT(e:Ec)(o:Opn)(r:Rpl):List ((Int×Int)×Tns):=
 if o.kind=2/\r.err=0 then((o.client,o.seq),dp4 o)::j9 e.ts (o.client,o.seq)
 else if o.kind=7 then j9 e.ts (o.client,o.seq)else e.ts
def doA(e:Ec)(o:Opn):List ((Int×Int)×Unit):=if o.kind=6 then((o.client,o.seq),())::j9 e.ar (o.client,o.seq)else e.ar
def doS(e:Ec)(o:Opn)(r:Rpl):List (Int×(Int×Rpl)):=if o.kind=6\/o.kind=7 then e.ss else(o.client,(o.seq,r))::j9 e.ss o.client
def M8(e:Ec)(o:Opn):Rpl×Bool×Ec:=
 if(G9 e o).2=true then((G9 e o).1,false,e)
 else
  let r:=(doV (atV e o.ak) o).1
  (r,true, { bL4 e o.ak (doV (atV e o.ak) o).2 with ss:=doS e o r,ts:=doT e o r,ar:=doA e o })
end Go.Proofs.YtlmhakmoioogaaaGreat
end
section
namespace Go.Proofs.YtlmhakmoioogaaaGreat
open Go.Joins Go.ChangeShapes Go.WideShapes Go.RowKit Go.Deep Go.Sl
theorem GA7{H:Type}{enc:TypeId×Value->H}{w:World}{base:Nat}{spare:Nat->Bool}{held:Bool}{n:Nat}{cs:List Value}{y:DataW H×List MemPlace}
  (h:DataW.trod enc Tryz.prog w base spare held n 26 cs=some y):∃k u:ByteArray,cs=[.string k,.string u]:=by
 obtain⟨xs,n',rfl,hx,hlen,hxl,hg⟩:=DataW.trod_struct Tryz.underlying26 h;have hlen':cs.length=2:=hlen.trans (by kernel_rfl)
 match cs,hlen' with
 | [c0,c1],_=>
  match xs,hxl with
  | [y0,y1],_=>
   have g0:=hg 0 _ rfl;have g1:=hg 1 _ rfl;obtain⟨k,e0,_⟩:=DataW.trod_string Tryz.underlying9 (show DataW.trod enc Tryz.prog w base spare held n' 9 [c0]=some y0 from g0);obtain⟨u,e1,_⟩:=DataW.trod_string Tryz.underlying9 (show DataW.trod enc Tryz.prog w base spare held n' 9 [c1]=some y1 from g1);simp only[List.cons.injEq,and_true]at e0 e1;subst e0 e1;exact⟨k,u,rfl⟩
theorem OC7{H:Type}{enc:TypeId×Value->H}{w:World}{base:Nat}{spare:Nat->Bool}{held:Bool}{n:Nat}{cs:List Value}{y:DataW H×List MemPlace}
  (h:DataW.trod enc Tryz.prog w base spare held n 35 cs=some y):∃o:Opn,cs=o.cells:=by
 obtain⟨xs,n',rfl,hx,hlen,hxl,hg⟩:=DataW.trod_struct Tryz.underlying35 h;have hlen':cs.length=12:=hlen.trans (by kernel_rfl)
 match cs,hlen' with
 | [c0,c1,c2,c3,c4,c5,c6,c7,c8,c9,c10,c11],_=>
  match xs,hxl with
  | [y0,y1,y2,y3,y4,y5,y6,y7,y8,y9],_=>
   have g0:=hg 0 _ rfl;have g1:=hg 1 _ rfl;have g2:=hg 2 _ rfl;have g3:=hg 3 _ rfl;have g4:=hg 4 _ rfl;have g5:=hg 5 _ rfl;have g6:=hg 6 _ rfl;have g7:=hg 7 _ rfl;have g8:=hg 8 _ rfl;have g9:=hg 9 _ rfl;obtain⟨z0,e0,_⟩:=DataW.trod_int Tryz.underlying3 (show DataW.trod enc Tryz.prog w base spare held n' 3 [c0]=some y0 from g0);obtain⟨z1,e1,_⟩:=DataW.trod_int Tryz.underlying3 (show DataW.trod enc Tryz.prog w base spare held n' 3 [c1]=some y1 from g1);obtain⟨z2,e2,_⟩:=DataW.trod_int Tryz.underlying3 (show DataW.trod enc Tryz.prog w base spare held n' 3 [c2]=some y2 from g2);obtain⟨ak,aw,e3⟩:=GA7 (show DataW.trod enc Tryz.prog w base spare held n' 26 [c3,c4]=some y3 from g3);obtain⟨tk,tw,e4⟩:=GA7 (show DataW.trod enc Tryz.prog w base spare held n' 26 [c5,c6]=some y4 from g4);obtain⟨z5,e5,_⟩:=DataW.trod_int Tryz.underlying3 (show DataW.trod enc Tryz.prog w base spare held n' 3 [c7]=some y5 from g5);obtain⟨z6,e6,_⟩:=DataW.trod_int Tryz.underlying3 (show DataW.trod enc Tryz.prog w base spare held n' 3 [c8]=some y6 from g6);obtain⟨z7,e7,_⟩:=DataW.trod_int Tryz.underlying3 (show DataW.trod enc Tryz.prog w base spare held n' 3 [c9]=some y7 from g7);obtain⟨z8,e8,_⟩:=DataW.trod_bool Tryz.underlying4 (show DataW.trod enc Tryz.prog w base spare held n' 4 [c10]=some y8 from g8);obtain⟨z9,e9,_⟩:=DataW.trod_int Tryz.underlying3 (show DataW.trod enc Tryz.prog w base spare held n' 3 [c11]=some y9 from g9);simp only[List.cons.injEq,and_true]at e0 e1 e2 e3 e4 e5 e6 e7 e8 e9;obtain⟨e3,e3'⟩:=e3;obtain⟨e4,e4'⟩:=e4;subst e0 e1 e2 e3 e3' e4 e4' e5 e6 e7 e8 e9;exact⟨⟨z0,z1,z2,ak,aw,tk,tw,z5,z6,z7,z8,z9⟩,rfl⟩
theorem open_opns{H:Type}{enc:TypeId×Value->H}{w:World}{base:Nat}{spare:Nat->Bool}{held:Bool}{r:Reach}{b0:Nat}{v:Value}{d:DataW H}{p:List MemPlace}
  (hv:Value.okWide Tryz.prog w r b0 43 v) (h:DataW.Trod enc Tryz.prog w base spare held 43 v d p):∃xs,bU4 Opn.cells 12 w v xs:=
 Ks7 Opn.cells ⟨0,0,0,⟨#[]⟩,⟨#[]⟩,⟨#[]⟩,⟨#[]⟩,0,0,0,false,0⟩ Opn.len (by decide) Tryz.underlying43 (by kernel_rfl) (fun _ _ _ _ h => OC7 h) hv h
structure OpnAt(V:World)(b off:Nat)(x:Opn):Prop where
 kind:V.cell? ⟨b,off,none⟩=some (.I x.kind)
 client:V.cell? ⟨b,off+1,none⟩=some (.I x.client)
 seq:V.cell? ⟨b,off+2,none⟩=some (.I x.seq)
 ak:V.cell? ⟨b,off+3,none⟩=some (.string x.ak)
 aw:V.cell? ⟨b,off+4,none⟩=some (.string x.aw)
 tk:V.cell? ⟨b,off+5,none⟩=some (.string x.tk)
 tw:V.cell? ⟨b,off+6,none⟩=some (.string x.tw)
 all:∀(j:Nat) (v:Value),x.cells[j]? = some v->V.cell? ⟨b,off+j,none⟩=some v
theorem bU4.opn{V:World}{v:Value}{xs:List Opn}(h:bU4 Opn.cells 12 V v xs):∃a cap,v=.slice a xs.length cap/\xs.length<=9223372036854775807/\∀i (h:i<xs.length), ∃b off,a=some ⟨b,off,none⟩/\OpnAt V b (off+i*12) xs[i]:=by obtain⟨a,cap,hv,h63,hc⟩:=h;refine⟨a,cap,hv,h63,fun i hi=>?_⟩;obtain⟨b,off,ha,hj⟩:=hc i hi;exact⟨b,off,ha,hj 0 _ rfl,hj 1 _ rfl,hj 2 _ rfl,hj 3 _ rfl,hj 4 _ rfl,hj 5 _ rfl,hj 6 _ rfl,fun j v hv=>hj j v hv⟩
end Go.Proofs.YtlmhakmoioogaaaGreat
end
section
namespace Go.Proofs.YtlmhakmoioogaaaGreat
open Go.RowKit Go.Sl
theorem dK4(k:ByteArray)(W w:World)(R:List HP)(hS:St W R w):
  Calls Tryz.prog 115 #[.string k] w fun e w'=>e=.returned (.bool (C8 k))/\St W R w':=by
 go_enter Tryz.func115,Tryz.ntmps115;by_cases h1:k.size<1
 ·have e:C8 k=false:=by unfold C8;simp;omega
  have d1:decide ((1:Int)<=(k.size:Int))=false:=by simp;omega
  rw[e];go_wp2_with(fail);go_ret;exact⟨rfl,hS⟩
 ·have d1:(1:Int)<=(k.size:Int):=by omega
  by_cases h2:k.size<=16
  ·have e:C8 k=true:=by unfold C8;simp;omega
   have d2:(k.size:Int)<=16:=by omega
   rw[e];go_wp2_with(fail);go_ret;exact⟨rfl,hS⟩
  ·have e:C8 k=false:=by unfold C8;simp;omega
   have d2:decide ((k.size:Int)<=16)=false:=by simp;omega
   rw[e];go_wp2_with(fail);go_ret;exact⟨rfl,hS⟩
theorem is8(i:It)(W w:World)(R:List HP)(hS:St W R w):
  Calls Tryz.prog 116 #[.agg i.cells.toArray] w fun e w'=>e=.returned (.bool (x8 i))/\St W R w':=by
 obtain⟨x0,x1,x2,x3⟩:=i;simp only[It.cells];go_enter Tryz.func116,Tryz.ntmps116;go_wp2_with(first|refine zbx hS ?_;clear hS;intro b w hS)
 go_loopw [3] (fun v wr=>IsR W (blk b [.I x0,.I x1,.I x2,.I x3] 29::R) ⟨x0,x1,x2,x3⟩ v wr) (fun v _=>4-(intOf v).toNat)
 case atStart=>exact⟨hS,.inl rfl⟩
 case round=>
  clear hS;obtain⟨hS,hk⟩:=hrel;simp only at hk
  rcases hk with rfl|⟨rfl,q0⟩|⟨rfl,q0,q1⟩|⟨rfl,q0,q1,q2⟩|⟨rfl,q0,q1,q2,q3⟩
  ·skip
   by_cases h1:x0<0
   ·have hx:=Db7 h1;go_wp2_with(first|refine zl1 hS ?_);go_ret;refine⟨by simp only[x8,hx,Bool.false_and,Bool.and_false,hx];rfl,hS.drop⟩
   ·have d1:decide (x0<0)=false:=by simpa using h1
    by_cases h2:1152921504606846976<x0
    ·have hx:=Cn7 h2;go_wp2_with(first|refine zl1 hS ?_);go_ret;refine⟨by simp only[x8,hx,Bool.false_and,Bool.and_false,hx];rfl,hS.drop⟩
    ·have d2:decide (1152921504606846976<x0)=false:=by simpa using h2
     have hx:inH x0=true:=BP7.2 ⟨by omega,by omega⟩;clear h1 h2;go_wp2_with(first|refine zl1 hS ?_);go_roundw
     case rel=>exact⟨hS,.inr (.inl ⟨rfl,hx⟩)⟩
     case measure=>simp[intOf]
  ·skip
   by_cases h1:x1<0
   ·have hx:=Db7 h1;go_wp2_with(first|refine zl1 hS ?_);go_ret;refine⟨by simp only[x8,hx,Bool.false_and,Bool.and_false,q0];rfl,hS.drop⟩
   ·have d1:decide (x1<0)=false:=by simpa using h1
    by_cases h2:1152921504606846976<x1
    ·have hx:=Cn7 h2;go_wp2_with(first|refine zl1 hS ?_);go_ret;refine⟨by simp only[x8,hx,Bool.false_and,Bool.and_false,q0];rfl,hS.drop⟩
    ·have d2:decide (1152921504606846976<x1)=false:=by simpa using h2
     have hx:inH x1=true:=BP7.2 ⟨by omega,by omega⟩;clear h1 h2;go_wp2_with(first|refine zl1 hS ?_);go_roundw
     case rel=>exact⟨hS,.inr (.inr (.inl ⟨rfl,q0,hx⟩))⟩
     case measure=>simp[intOf]
  ·skip
   by_cases h1:x2<0
   ·have hx:=Db7 h1;go_wp2_with(first|refine zl1 hS ?_);go_ret;refine⟨by simp only[x8,hx,Bool.false_and,Bool.and_false,q0];rfl,hS.drop⟩
   ·have d1:decide (x2<0)=false:=by simpa using h1
    by_cases h2:1152921504606846976<x2
    ·have hx:=Cn7 h2;go_wp2_with(first|refine zl1 hS ?_);go_ret;refine⟨by simp only[x8,hx,Bool.false_and,Bool.and_false,q0];rfl,hS.drop⟩
    ·have d2:decide (1152921504606846976<x2)=false:=by simpa using h2
     have hx:inH x2=true:=BP7.2 ⟨by omega,by omega⟩;clear h1 h2;go_wp2_with(first|refine zl1 hS ?_);go_roundw
     case rel=>exact⟨hS,.inr (.inr (.inr (.inl ⟨rfl,q0,q1,hx⟩)))⟩
     case measure=>simp[intOf]
  ·skip
   by_cases h1:x3<0
   ·have hx:=Db7 h1;go_wp2_with(first|refine zl1 hS ?_);go_ret;refine⟨by simp only[x8,hx,Bool.false_and,Bool.and_false,q0];rfl,hS.drop⟩
   ·have d1:decide (x3<0)=false:=by simpa using h1
    by_cases h2:1152921504606846976<x3
    ·have hx:=Cn7 h2;go_wp2_with(first|refine zl1 hS ?_);go_ret;refine⟨by simp only[x8,hx,Bool.false_and,Bool.and_false,q0];rfl,hS.drop⟩
    ·have d2:decide (1152921504606846976<x3)=false:=by simpa using h2
     have hx:inH x3=true:=BP7.2 ⟨by omega,by omega⟩;clear h1 h2;go_wp2_with(first|refine zl1 hS ?_);go_roundw
     case rel=>exact⟨hS,.inr (.inr (.inr (.inr ⟨rfl,q0,q1,q2,hx⟩)))⟩
     case measure=>simp[intOf]
  ·go_wp2_with(fail);go_ret;refine⟨by simp only[x8,q0,q1,q2,q3];rfl,hS.drop⟩
theorem CJ7(x0 x1 x2 x3:Int)(W w:World)(R:List HP)(hS:St W R w):
  Calls Tryz.prog 116 #[.agg #[.I x0,.I x1,.I x2,.I x3]] w fun e w'=>e=.returned (.bool (x8 ⟨x0,x1,x2,x3⟩))/\St W R w':=is8 ⟨x0,x1,x2,x3⟩ W w R hS
theorem fs4(x0 x1 x2 x3 y0 y1 y2 y3:Int)(W w:World)(R:List HP)(hS:St W R w):
  Calls Tryz.prog 226 #[.agg #[.I x0,.I x1,.I x2,.I x3],.agg #[.I y0,.I y1,.I y2,.I y3]] w fun e w'=>e=.returned (.bool (S6 ⟨x0,x1,x2,x3⟩ ⟨y0,y1,y2,y3⟩))/\St W R w':=by
 go_enter Tryz.func226,Tryz.ntmps226;go_wp2_with(first|(fail_if_success (have:=bA));(with_reducible apply AH7 hS);rfl;rfl;rfl;rfl;clear hS;intro bA w hS;refine frS ?_|(have:=bA);(with_reducible apply AH7 hS);rfl;rfl;rfl;rfl;clear hS;intro bB w hS;refine frS ?_)
 go_loopw [5] (fun v wr=>LsR W (blk bB [.I y0,.I y1,.I y2,.I y3] 29::blk bA [.I x0,.I x1,.I x2,.I x3] 29::R) ⟨x0,x1,x2,x3⟩ ⟨y0,y1,y2,y3⟩ v wr) (fun v _=>4-(intOf v).toNat)
 case atStart=>exact⟨hS,.inl rfl⟩
 case round=>
  clear hS;obtain⟨hS,hk⟩:=hrel;simp only at hk
  rcases hk with rfl|⟨rfl,q0⟩|⟨rfl,q0,q1⟩|⟨rfl,q0,q1,q2⟩|⟨rfl,q0,q1,q2,q3⟩
  ·skip
   by_cases h1:x0<y0
   ·have hx:decide (x0<y0)=true:=by simpa using h1
    go_wp2_with(fail);refine Aa7 (by kernel_rfl) (by kernel_rfl) hS ?_
    iterate 2 (refine qR ?_)
    (refine zq1 ?_)
    iterate 2 (refine qR ?_)
    (refine zq1 ?_);refine qR ?_;clear hS;intro w hS;go_wp2_with(fail);go_ret;refine⟨by simp only[S6,hx,Bool.true_or,Bool.or_true];rfl,hS.drop.drop⟩
   ·have hx:decide (x0<y0)=false:=by simpa using h1
    clear h1;go_wp2_with(fail);refine Aa7 (by kernel_rfl) (by kernel_rfl) hS ?_
    iterate 2 (refine qR ?_)
    (refine zq1 ?_)
    iterate 2 (refine qR ?_)
    (refine zq1 ?_);refine qR ?_;clear hS;intro w hS;go_wp2_with(fail);go_roundw
    case rel=>exact⟨hS,.inr (.inl ⟨rfl,hx⟩)⟩
    case measure=>simp[intOf]
  ·skip
   by_cases h1:x1<y1
   ·have hx:decide (x1<y1)=true:=by simpa using h1
    go_wp2_with(fail);refine Aa7 (by kernel_rfl) (by kernel_rfl) hS ?_
    iterate 2 (refine qR ?_)
    (refine zq1 ?_)
    iterate 2 (refine qR ?_)
    (refine zq1 ?_);refine qR ?_;clear hS;intro w hS;go_wp2_with(fail);go_ret;refine⟨by simp only[S6,hx,Bool.true_or,Bool.or_true];rfl,hS.drop.drop⟩
   ·have hx:decide (x1<y1)=false:=by simpa using h1
    clear h1;go_wp2_with(fail);refine Aa7 (by kernel_rfl) (by kernel_rfl) hS ?_
    iterate 2 (refine qR ?_)
    (refine zq1 ?_)
    iterate 2 (refine qR ?_)
    (refine zq1 ?_);refine qR ?_;clear hS;intro w hS;go_wp2_with(fail);go_roundw
    case rel=>exact⟨hS,.inr (.inr (.inl ⟨rfl,q0,hx⟩))⟩
    case measure=>simp[intOf]
  ·skip
   by_cases h1:x2<y2
   ·have hx:decide (x2<y2)=true:=by simpa using h1
    go_wp2_with(fail);refine Aa7 (by kernel_rfl) (by kernel_rfl) hS ?_
    iterate 2 (refine qR ?_)
    (refine zq1 ?_)
    iterate 2 (refine qR ?_)
    (refine zq1 ?_);refine qR ?_;clear hS;intro w hS;go_wp2_with(fail);go_ret;refine⟨by simp only[S6,hx,Bool.true_or,Bool.or_true];rfl,hS.drop.drop⟩
   ·have hx:decide (x2<y2)=false:=by simpa using h1
    clear h1;go_wp2_with(fail);refine Aa7 (by kernel_rfl) (by kernel_rfl) hS ?_
    iterate 2 (refine qR ?_)
    (refine zq1 ?_)
    iterate 2 (refine qR ?_)
    (refine zq1 ?_);refine qR ?_;clear hS;intro w hS;go_wp2_with(fail);go_roundw
    case rel=>exact⟨hS,.inr (.inr (.inr (.inl ⟨rfl,q0,q1,hx⟩)))⟩
    case measure=>simp[intOf]
  ·skip
   by_cases h1:x3<y3
   ·have hx:decide (x3<y3)=true:=by simpa using h1
    go_wp2_with(fail);refine Aa7 (by kernel_rfl) (by kernel_rfl) hS ?_
    iterate 2 (refine qR ?_)
    (refine zq1 ?_)
    iterate 2 (refine qR ?_)
    (refine zq1 ?_);refine qR ?_;clear hS;intro w hS;go_wp2_with(fail);go_ret;refine⟨by simp only[S6,hx,Bool.true_or,Bool.or_true];rfl,hS.drop.drop⟩
   ·have hx:decide (x3<y3)=false:=by simpa using h1
    clear h1;go_wp2_with(fail);refine Aa7 (by kernel_rfl) (by kernel_rfl) hS ?_
    iterate 2 (refine qR ?_)
    (refine zq1 ?_)
    iterate 2 (refine qR ?_)
    (refine zq1 ?_);refine qR ?_;clear hS;intro w hS;go_wp2_with(fail);go_roundw
    case rel=>exact⟨hS,.inr (.inr (.inr (.inr ⟨rfl,q0,q1,q2,hx⟩)))⟩
    case measure=>simp[intOf]
  ·go_wp2_with(fail);go_ret;refine⟨by simp only[S6,q0,q1,q2,q3];rfl,hS.drop.drop⟩
theorem gl4(i j:It)(W w:World)(R:List HP)(hS:St W R w):
  Calls Tryz.prog 181 #[.agg i.cells.toArray,.agg j.cells.toArray] w fun e w'=>e=.returned (.tuple #[.agg (cs4 i j).cells.toArray,.bool (O8 i j)])/\St W R w':=by
 obtain⟨x0,x1,x2,x3⟩:=i;obtain⟨y0,y1,y2,y3⟩:=j
 cases hi:x8 ⟨x0,x1,x2,x3⟩with
 | false=>
  have e:O8 ⟨x0,x1,x2,x3⟩ ⟨y0,y1,y2,y3⟩=false:=by unfold O8;rw[hi];rfl
  unfold cs4;rw[e];simp only[It.cells];go_enter Tryz.func181,Tryz.ntmps181;go_wp2_with(first|go_big_skip|go_at_call 116;refine(CJ7 _ _ _ _ W _ _ hS).mono ?_;clear hS;(try rw[hi]);(try rw[hj]);rintro e w ⟨rfl,hS⟩|(fail_if_success (have:=bA));(with_reducible apply AH7 hS);rfl;rfl;rfl;rfl;clear hS;intro bA w hS;refine frS ?_|(have:=bA);(with_reducible apply AH7 hS);rfl;rfl;rfl;rfl;clear hS;intro bB w hS;refine frS ?_|refine zlN hS ?_|refine zsN hS ?_;clear hS;intro w hS|(with_reducible apply Al7 hS);rfl;rfl;exact zsS;clear hS;intro b w hS;refine frS ?_);apply Ac7;rfl;rfl;rfl;rfl;exact hS;decide +kernel;(exact x9);kernel_rfl;exact⟨rfl,hS.drop.drop.drop⟩
 | true=>
  cases hj:x8 ⟨y0,y1,y2,y3⟩with
  | false=>
   have e:O8 ⟨x0,x1,x2,x3⟩ ⟨y0,y1,y2,y3⟩=false:=by unfold O8;rw[hi,hj];rfl
   unfold cs4;rw[e];simp only[It.cells];go_enter Tryz.func181,Tryz.ntmps181;go_wp2_with(first|go_big_skip|go_at_call 116;refine(CJ7 _ _ _ _ W _ _ hS).mono ?_;clear hS;(try rw[hi]);(try rw[hj]);rintro e w ⟨rfl,hS⟩|(fail_if_success (have:=bA));(with_reducible apply AH7 hS);rfl;rfl;rfl;rfl;clear hS;intro bA w hS;refine frS ?_|(have:=bA);(with_reducible apply AH7 hS);rfl;rfl;rfl;rfl;clear hS;intro bB w hS;refine frS ?_|refine zlN hS ?_|refine zsN hS ?_;clear hS;intro w hS|(with_reducible apply Al7 hS);rfl;rfl;exact zsS;clear hS;intro b w hS;refine frS ?_);apply Ac7;rfl;rfl;rfl;rfl;exact hS;decide +kernel;(exact x9);kernel_rfl;exact⟨rfl,hS.drop.drop.drop⟩
  | true=>
   cases hl:S6 ⟨x0,x1,x2,x3⟩ ⟨y0,y1,y2,y3⟩with
   | true=>
    have e:O8 ⟨x0,x1,x2,x3⟩ ⟨y0,y1,y2,y3⟩=false:=by unfold O8;rw[hi,hj,hl];rfl
    unfold cs4;rw[e];simp only[It.cells];go_enter Tryz.func181,Tryz.ntmps181;go_wp2_with(first|go_at_call 116;refine(CJ7 _ _ _ _ W _ _ hS).mono ?_;clear hS;(try rw[hi]);(try rw[hj]);rintro e w ⟨rfl,hS⟩|go_at_call 226;refine(fs4 _ _ _ _ _ _ _ _ W _ _ hS).mono ?_;clear hS;rw[hl];rintro e w ⟨rfl,hS⟩|(fail_if_success (have:=bA));(with_reducible apply AH7 hS);rfl;rfl;rfl;rfl;clear hS;intro bA w hS;refine frS ?_|(have:=bA);(with_reducible apply AH7 hS);rfl;rfl;rfl;rfl;clear hS;intro bB w hS;refine frS ?_|refine zlN hS ?_|refine zsN hS ?_;clear hS;intro w hS|(with_reducible apply Al7 hS);rfl;rfl;exact zsS;clear hS;intro b w hS;refine frS ?_);apply Ac7;rfl;rfl;rfl;rfl;exact hS;decide +kernel;(exact x9);kernel_rfl;exact⟨rfl,hS.drop.drop.drop⟩
   | false=>
    have e:O8 ⟨x0,x1,x2,x3⟩ ⟨y0,y1,y2,y3⟩=true:=by unfold O8;rw[hi,hj,hl];rfl
    obtain⟨a0,a1,a2,a3⟩:=Af7.1 hi;obtain⟨b0,b1,b2,b3⟩:=Af7.1 hj;simp only at a0 a1 a2 a3 b0 b1 b2 b3;unfold cs4;rw[e,if_pos rfl];simp only[It.cells];go_enter Tryz.func181,Tryz.ntmps181;go_wp2_with(first|go_at_call 116;refine(CJ7 _ _ _ _ W _ _ hS).mono ?_;clear hS;(try rw[hi]);(try rw[hj]);rintro e w ⟨rfl,hS⟩|go_at_call 226;refine(fs4 _ _ _ _ _ _ _ _ W _ _ hS).mono ?_;clear hS;rw[hl];rintro e w ⟨rfl,hS⟩|(fail_if_success (have:=bA));(with_reducible apply AH7 hS);rfl;rfl;rfl;rfl;clear hS;intro bA w hS;refine frS ?_|(have:=bA);(with_reducible apply AH7 hS);rfl;rfl;rfl;rfl;clear hS;intro bB w hS;refine frS ?_|refine zlN hS ?_|(with_reducible apply Al7 hS);rfl;rfl;exact zsS;clear hS;intro b w hS;refine frS ?_)
    go_loopw [6] (fun v wr=>Sb4 W (fun q=>[blk b [.I 0,.I 0,.I 0,.I 0] 29,blk bB [.I y0,.I y1,.I y2,.I y3] 29,blk bA [.I q.x0,.I q.x1,.I q.x2,.I q.x3] 29]++R) ⟨x0,x1,x2,x3⟩ ⟨y0,y1,y2,y3⟩ v wr) (fun v _=>4-(intOf v).toNat)
    case atStart=>exact .inl ⟨rfl,hS⟩
    case round=>
     clear hS hi hj hl;simp only[Sb4,bH4,jK,jN]at hrel
     rcases hrel with ⟨rfl,hS⟩|⟨rfl,hS⟩|⟨rfl,hS⟩|⟨rfl,hS⟩|⟨rfl,hS⟩
     ·skip
      go_wp2_with(fail);refine rt 9 hS ?_
      iterate 3 (refine qR ?_)
      (refine zq1 ?_)
      iterate 2 (refine qR ?_)
      (refine zq1 ?_)
      iterate 2 (refine qR ?_)
      clear hS;intro w hS;simp only[jD,List.drop_zero];go_wp2_with(first|refine zs1 hS ?_;clear hS;intro w hS);go_roundw
      case rel=>exact .inr (.inl ⟨rfl,hS⟩)
      case measure=>simp[intOf]
     ·skip
      go_wp2_with(fail);refine rt 9 hS ?_
      iterate 3 (refine qR ?_)
      (refine zq1 ?_)
      iterate 2 (refine qR ?_)
      (refine zq1 ?_)
      iterate 2 (refine qR ?_)
      clear hS;intro w hS;simp only[jD,List.drop_zero];go_wp2_with(first|refine zs1 hS ?_;clear hS;intro w hS);go_roundw
      case rel=>exact .inr (.inr (.inl ⟨rfl,hS⟩))
      case measure=>simp[intOf]
     ·skip
      go_wp2_with(fail);refine rt 9 hS ?_
      iterate 3 (refine qR ?_)
      (refine zq1 ?_)
      iterate 2 (refine qR ?_)
      (refine zq1 ?_)
      iterate 2 (refine qR ?_)
      clear hS;intro w hS;simp only[jD,List.drop_zero];go_wp2_with(first|refine zs1 hS ?_;clear hS;intro w hS);go_roundw
      case rel=>exact .inr (.inr (.inr (.inl ⟨rfl,hS⟩)))
      case measure=>simp[intOf]
     ·skip
      go_wp2_with(fail);refine rt 9 hS ?_
      iterate 3 (refine qR ?_)
      (refine zq1 ?_)
      iterate 2 (refine qR ?_)
      (refine zq1 ?_)
      iterate 2 (refine qR ?_)
      clear hS;intro w hS;simp only[jD,List.drop_zero];go_wp2_with(first|refine zs1 hS ?_;clear hS;intro w hS);go_roundw
      case rel=>exact .inr (.inr (.inr (.inr ⟨rfl,hS⟩)))
      case measure=>simp[intOf]
     ·go_wp2_with(first|refine zlN hS ?_|refine zsN hS ?_;clear hS;intro w hS);apply Ac7;rfl;rfl;rfl;rfl;exact hS;decide +kernel;(exact x9);kernel_rfl;exact⟨rfl,hS.drop.drop.drop⟩
theorem fO4(o:Ord)(hm:MayP o)(W w:World)(R:List HP)(hS:St W R w):
  Calls Tryz.prog 183 #[.agg o.cells.toArray] w fun e w'=>e=.returned (.agg (l8 o).cells.toArray)/\St W R w':=by
 have h1:=hm.item0;have h2:=hm.item1;have h3:=Cp7 (by have:=hm.cnt0;omega) hm.cnt1 (by have:=hm.price0;omega) hm.price1;obtain⟨i,u,y,t,c,pr⟩:=o;simp only at h1 h2 h3;clear hm
 cases y with
 | true=>
  have e:l8 ⟨i,u,true,t,c,pr⟩=⟨c*pr,0,0,0⟩:=rfl;rw[e];simp only[Ord.cells,It.cells];have h4:c*pr<=9223372036854775807:=by omega
  have h5 : -9223372036854775808<=c*pr:=by omega
  clear e h1 h2;go_enter Tryz.func183,Tryz.ntmps183;go_wp2_with(first|refine zl1 hS ?_|refine zlN hS ?_|refine zs1 hS ?_;clear hS;intro w hS|refine zsN hS ?_;clear hS;intro w hS|refine zbx hS ?_;clear hS;intro b w hS|refine zal hS ?_;clear hS;intro b w hS);apply Au7;rfl;rfl;rfl;exact hS;decide +kernel;(exact x9);kernel_rfl;exact⟨rfl,hS.s _⟩
 | false=>
  have ht:t=1\/t=2\/t=3:=by omega
  rcases ht with rfl|rfl|rfl
  ·have e:l8 ⟨i,u,false,1,c,pr⟩=⟨0,c,0,0⟩:=rfl;rw[e];simp only[Ord.cells,It.cells];clear e h1 h2 h3;go_enter Tryz.func183,Tryz.ntmps183;go_wp2_with(first|refine zl1 hS ?_|refine zlN hS ?_|refine zs1 hS ?_;clear hS;intro w hS|refine zsN hS ?_;clear hS;intro w hS|refine zbx hS ?_;clear hS;intro b w hS|refine zal hS ?_;clear hS;intro b w hS);apply Au7;rfl;rfl;rfl;exact hS;decide +kernel;(exact x9);kernel_rfl;exact⟨rfl,hS.s _⟩
  ·have e:l8 ⟨i,u,false,2,c,pr⟩=⟨0,0,c,0⟩:=rfl;rw[e];simp only[Ord.cells,It.cells];clear e h1 h2 h3;go_enter Tryz.func183,Tryz.ntmps183;go_wp2_with(first|refine zl1 hS ?_|refine zlN hS ?_|refine zs1 hS ?_;clear hS;intro w hS|refine zsN hS ?_;clear hS;intro w hS|refine zbx hS ?_;clear hS;intro b w hS|refine zal hS ?_;clear hS;intro b w hS);apply Au7;rfl;rfl;rfl;exact hS;decide +kernel;(exact x9);kernel_rfl;exact⟨rfl,hS.s _⟩
  ·have e:l8 ⟨i,u,false,3,c,pr⟩=⟨0,0,0,c⟩:=rfl;rw[e];simp only[Ord.cells,It.cells];clear e h1 h2 h3;go_enter Tryz.func183,Tryz.ntmps183;go_wp2_with(first|refine zl1 hS ?_|refine zlN hS ?_|refine zs1 hS ?_;clear hS;intro w hS|refine zsN hS ?_;clear hS;intro w hS|refine zbx hS ?_;clear hS;intro b w hS|refine zal hS ?_;clear hS;intro b w hS);apply Au7;rfl;rfl;rfl;exact hS;decide +kernel;(exact x9);kernel_rfl;exact⟨rfl,hS.s _⟩
def spI:List Hd->ByteArray->Nat
 | [],_=>0
 | h::H,k=>if Op.bytesLess h.who.toList k.toList=true then spI H k+1 else 0
def spB:List Hd->ByteArray->Bool
 | [],_=>false
 | h::H,k=>if Op.bytesLess h.who.toList k.toList=true then spB H k else h.who.toList==k.toList
theorem SM7:∀(H:List Hd) (k:ByteArray),spI H k<=H.length
 | [],_=>Nat.le_refl _
 | h::H,k=>by have:=SM7 H k;rw[spI,jC];split <;> omega
theorem OD7:∀(H:List Hd) (k:ByteArray),spB H k=true->spI H k<H.length
 | [],_,h=>by cases h
 | x::H,k,h=>by
  rw[spB]at h;rw[spI,jC];split
  ·rename_i hc
   rw[if_pos hc]at h;have:=OD7 H k h;omega
  ·omega
abbrev xvL(xb:Nat)(v vB:Value)(n:Int)(H:List Hd)(R:List HP):List HP:=blk xb [v,vB,.I n] 246::hdR v H::R
def SpR(W:World)(L:List HP)(H:List Hd)(k:ByteArray)(v:Value)(w:World):Prop:=
 ∃i:Nat,v=.I i/\i<=H.length/\spI H k=i+spI (H.drop i) k/\spB H k=spB (H.drop i) k/\St W L w
theorem OE7(H:List Hd)(k:ByteArray)(xb:Nat)(v vB:Value)(n:Int)(W w:World)(R:List HP)(hS:St W (xvL xb v vB n H R) w):
  Calls Tryz.prog 180 #[.P xb,.string k] w fun e w'=>e=.returned (.tuple #[.I (spI H k),.bool (spB H k)])/\St W (xvL xb v vB n H R) w':=by
 obtain⟨a,cap,rfl⟩:=hS.drop.rowVal
 have h63:H.length<=9223372036854775807:=by
  rcases St.rowCase hS.drop with ⟨_,h0,_⟩|⟨_,_,h1,h2⟩
  ·omega
  ·omega
 go_enter Tryz.func180,Tryz.ntmps180;go_wp2_with fail
 go_loopw [6] (fun v wr=>SpR W (xvL xb (.slice a H.length cap) vB n H R) H k v wr) (fun v _=>H.length-(intOf v).toNat)
 case atStart=>exact⟨0,rfl,Nat.zero_le _,by simp,rfl,hS⟩
 case round=>
  clear hS;obtain⟨i,rfl,hil,e1,e2,hS⟩:=hrel;by_cases hin:i=H.length
  ·subst hin;rw[List.drop_length]at e1 e2;have E1:=jH (show spI H k=H.length from e1);have E2:=jH (show spB H k=false from e2);clear e1 e2;go_wp2_with(first|go_big_skip|refine zl1 hS ?_);go_ret2;rw[E1.out,E2.out];exact⟨rfl,hS⟩
  ·have hi1:i<H.length:=by omega
   obtain⟨⟨g,rfl⟩,_,_⟩:=St.rowAddr hS.drop (by omega);have hname:∀{K K':List HP},Take K (hdR (.S g H.length cap) H) K'->i9 K g (i*5) (.string H[i].who):=fun hu=>i8.elemM (enc:=Hd.cells) Hd.len hu hi1 0 _ rfl
   have hdr:H.drop i=H[i]::H.drop (i+1):=List.drop_eq_getElem_cons hi1;rw[hdr]at e1 e2;generalize H[i]=x at hname e1 e2;obtain⟨xw,xi⟩:=x;simp only at hname;rw[spI]at e1;rw[spB]at e2;simp only at e1 e2;clear hdr
   cases hb:Op.bytesLess xw.toList k.toList with
   | true=>
    rw[if_pos hb]at e1 e2;have E1:=jH e1;have E2:=jH e2;clear e1 e2;go_wp2_with(first|go_big_skip|refine zl1 hS ?_|refine zl1 hS ?_ (hc:=by exact hname (by exact j5)));go_roundw
    case rel=>exact⟨i+1,rfl,hi1,by rw[E1.out];omega,E2.out,hS⟩
    case measure=>simp[intOf];omega
   | false=>
    rw[if_neg (by rw[hb];simp)]at e1 e2;have E1:=jH (show spI H k=i from e1);have E2:=jH e2;clear e1 e2;go_wp2_with(first|go_big_skip|refine zl1 hS ?_|refine zl1 hS ?_ (hc:=by exact hname (by exact j5)));refine Aa7 (by kernel_rfl) (by kernel_rfl) hS ?_
    iterate 2 (refine qR ?_)
    (refine zqn ?_);refine qR ?_;refine zq1 ?_
    iterate 3 (refine qR ?_)
    (apply As7;rfl;rfl;rfl;decide +kernel;exact hname (by exact j5);refine frS ?_)
    iterate 4 (refine qR ?_)
    clear hS;intro w hS;go_wp2_with fail;go_ret2;rw[E1.out,E2.out];exact⟨rfl,hS⟩
theorem Di7{H:List Hd}{k:ByteArray}{p:Nat}{b:Bool}(h1:spI H k=p)(h2:spB H k=b)(xb:Nat)(v vB:Value)(n:Int)(W w:World)(R:List HP)(hS:St W (xvL xb v vB n H R) w):
  Calls Tryz.prog 180 #[.P xb,.string k] w fun e w'=>e=.returned (.tuple #[.I p,.bool b])/\St W (xvL xb v vB n H R) w':=
 (OE7 H k xb v vB n W w R hS).mono fun e w' ⟨he,hS⟩=>⟨by rw[he,h1,h2],hS⟩
def fa4(H:List Hd)(k:ByteArray):It:=if spB H k=true then(H.getD (spI H k) ⟨⟨#[]⟩,it0⟩).has else it0
theorem hm4(H:List Hd)(k:ByteArray)(xb:Nat)(v vB:Value)(n:Int)(W w:World)(R:List HP)(hS:St W (xvL xb v vB n H R) w):
  Calls Tryz.prog 118 #[.P xb,.string k] w fun e w'=>e=.returned (eP (fa4 H k))/\St W (xvL xb v vB n H R) w':=by
 obtain⟨a,cap,rfl⟩:=hS.drop.rowVal;unfold fa4
 cases hb:spB H k with
 | false=>
  obtain⟨p,hp⟩:∃p,spI H k=p:=⟨_,rfl⟩
  have Hp:=jH hp;have Hb:=jH hb;clear hp hb;rw[if_neg (by simp)];go_enter Tryz.func118,Tryz.ntmps118;go_wp2_with(first|go_big_skip|go_at_call 180;refine(Di7 Hp.out Hb.out xb _ vB n W _ (_::R) (hS.s (blk xb _ _::hdR _ H::blk b _ _::R))).mono ?_;clear hS;rintro e w ⟨rfl,hS⟩|refine zl1 hS ?_|refine zlN hS ?_|refine zs1 hS ?_;clear hS;intro w hS|refine zsN hS ?_;clear hS;intro w hS|refine zbx hS ?_;clear hS;intro b w hS|refine zal hS ?_;clear hS;intro b w hS);apply Au7;rfl;rfl;rfl;exact hS;decide +kernel;(exact x9);kernel_rfl;exact⟨rfl,hS.s _⟩
 | true=>
  rw[if_pos rfl];have hlt:=OD7 H k hb;obtain⟨p,hp⟩:∃p,spI H k=p:=⟨_,rfl⟩
  rw[hp]at hlt ⊢;have Hp:=jH hp;have Hb:=jH hb;clear hp hb;obtain⟨⟨g,rfl⟩,_,_⟩:=St.rowAddr hS.drop (by omega);have hitems:∀{K K':List HP},Take K (hdR (.S g H.length cap) H) K'->i8 K g (p*5+1) (H[p].has.cells):=fun hu j v hj=>by have h1:=i8.elemM (enc:=Hd.cells) Hd.len hu hlt (1+j) v (by rw[Nat.add_comm];exact hj);rwa [<-Nat.add_assoc]at h1
  have e:H.getD p ⟨⟨#[]⟩,it0⟩=H[p]:=by simp[List.getD_eq_getElem?_getD,jG hlt]
  rw[e];clear e;generalize H[p]=x at hitems;obtain⟨xw,⟨x0,x1,x2,x3⟩⟩:=x;simp only[It.cells]at hitems;go_enter Tryz.func118,Tryz.ntmps118;go_wp2_with(first|go_big_skip|go_at_call 180;refine(Di7 Hp.out Hb.out xb _ vB n W _ (_::R) (hS.s (blk xb _ _::hdR _ H::blk b _ _::R))).mono ?_;clear hS;rintro e w ⟨rfl,hS⟩|refine zl1 hS ?_|refine zlN hS ?_ (hc:=by exact hitems (by exact j5))|refine zsN hS ?_;clear hS;intro w hS|refine zal hS ?_;clear hS;intro b w hS);apply Au7;rfl;rfl;rfl;exact hS;decide +kernel;(exact x9);kernel_rfl;exact⟨rfl,hS.s _⟩
abbrev blt(x y:ByteArray):Prop:=Op.bytesLess x.toList y.toList=true
theorem Fl7{x y:ByteArray}:blt x y↔x.data.toList<y.data.toList:=by unfold blt;rw[bytesLess_eq,Lib.toList_data,Lib.toList_data,decide_eq_true_eq]
theorem Dj7{x y z:ByteArray}(h1:blt x y)(h2:blt y z):blt x z:=Fl7.2 (List.lt_trans (Fl7.1 h1) (Fl7.1 h2))
theorem Eq7{x y:ByteArray}(h:blt x y):x≠y:=fun e=>by rw[e]at h;exact List.lt_irrefl _ (Fl7.1 h)
theorem Er7{x y:ByteArray}(h:blt x y):leB x y=true:=by unfold leB;rw[decide_eq_true_eq];exact List.le_of_lt (Fl7.1 h)
theorem HA7{x k:ByteArray}(h:¬blt x k)(hne:x≠k):blt k x:=by
 refine Jk7 ?_ fun e=>hne e.symm
 unfold leB;rw[decide_eq_true_eq];exact List.not_lt.1 fun hl=>h (Fl7.2 hl)
theorem Ce7{x y:ByteArray}:(x.toList==y.toList)=true↔x=y:=by
 rw[Lib.toList_data,Lib.toList_data];constructor
 ·intro h;exact Ep7 (by simpa using h)
 ·rintro rfl;simp
def dU4(H:List Hd):Prop:=H.Pairwise fun x y=>blt x.who y.who
theorem Ig7:∀(H:List Hd) (k:ByteArray),dU4 H->
  (∀x∈H.take (spI H k),blt x.who k)/\(∀y∈H.drop (if spB H k=true then spI H k+1 else spI H k),blt k y.who)/\(spB H k=true->∃x,H.drop (spI H k)=x::H.drop (spI H k+1)/\x.who=k)
 | [],k,_=>⟨fun x hx=>(by simp at hx),fun y hy=>(by simp[spI,spB]at hy),fun h=>(by cases h)⟩
 | h::H,k,hs=>by
  unfold dU4 at hs;rw[List.pairwise_cons]at hs;obtain⟨hs1,hs2⟩:=hs;rw[spI,spB];by_cases hb:Op.bytesLess h.who.toList k.toList=true
  ·rw[if_pos hb,if_pos hb];obtain⟨i1,i2,i3⟩:=Ig7 H k hs2;refine⟨?_,?_,?_⟩
   ·intro x hx;rw[List.take_succ_cons]at hx
    rcases List.mem_cons.1 hx with rfl|hx
    ·exact hb
    ·exact i1 x hx
   ·intro y hy;refine i2 y ?_;split at hy
    ·rename_i h1
     rw[if_pos h1];simpa using hy
    ·rename_i h1
     rw[if_neg h1];simpa using hy
   ·intro h1;obtain⟨x,hx1,hx2⟩:=i3 h1;exact⟨x,by simpa using hx1,hx2⟩
  ·rw[if_neg hb,if_neg hb];refine⟨fun x hx=>(by simp at hx),?_,?_⟩
   ·intro y hy;split at hy
    ·rename_i h1
     have e:=Ce7.1 h1;rw[<-e];exact hs1 y (by simpa using hy)
    ·rename_i h1
     have hne:h.who≠k:=fun e=>h1 (Ce7.2 e)
     have hkh:=HA7 hb hne;rw[List.drop_zero]at hy
     rcases List.mem_cons.1 hy with rfl|hy
     ·exact hkh
     ·exact Dj7 hkh (hs1 y hy)
   ·intro h1;exact⟨h,by simp,Ce7.1 h1⟩
def dL4(H:List Hd)(k:ByteArray)(i:It):List Hd:=H.take (spI H k)++((if isZ i=true then[]else[⟨k,i⟩])++H.drop (if spB H k=true then spI H k+1 else spI H k))
section
variable{p:Ps}{N:Nat}
theorem GB7(hw:PsW p N):dU4 (hdL p):=by
 refine List.pairwise_iff_getElem.2 fun i j hi hj hij=>?_
 exact(UN7 hw hj).2.2 i hij
theorem DN7(p:Ps):(hdL p).map Hd.who=kL p:=by unfold hdL;rw[List.map_map];exact(List.map_congr_left fun _ _=>rfl).trans (List.map_id _)
theorem CS7{x:Hd}(h:x∈hdL p):x.has=m5 p x.who:=by unfold hdL at h;obtain⟨y,_,rfl⟩:=List.mem_map.1 h;rfl
theorem eF4(H:List Hd)(k:ByteArray):H=H.take (spI H k)++((if spB H k=true then(H.drop (spI H k)).take 1 else[])++H.drop (if spB H k=true then spI H k+1 else spI H k)):=by
 split
 ·have e:(H.drop (spI H k)).drop 1=H.drop (spI H k+1):=by rw[List.drop_drop]
  rw[<-e,List.take_append_drop,List.take_append_drop]
 ·rw[jN,List.take_append_drop]
theorem Tx7(hw:PsW p N)(k:ByteArray):fa4 (hdL p) k=m5 p k:=by
 obtain⟨h1,h2,h3⟩:=Ig7 (hdL p) k (GB7 hw);unfold fa4
 cases hb:spB (hdL p) k with
 | true=>
  obtain⟨x,hx,hk⟩:=h3 hb;rw[if_pos rfl];have hm:x∈hdL p:=List.mem_of_mem_drop (by rw[hx];exact List.mem_cons_self ..)
  have e:(hdL p).getD (spI (hdL p) k) ⟨⟨#[]⟩,it0⟩=x:=by
   have h4:((hdL p).drop (spI (hdL p) k))[0]? = some x:=by rw[hx];rfl
   rw[List.getElem?_drop,Nat.add_zero]at h4;rw[List.getD_eq_getElem?_getD,h4];rfl
  rw[e,CS7 hm,hk]
 | false=>
  rw[hb]at h2;rw[if_neg (by simp)]
  have hno:∀x∈p,x.1≠k:=by
   intro x hx e;have hm:x.1∈(hdL p).map Hd.who:=by rw[DN7];exact(Ax7 _).mem_iff.2 (List.mem_map_of_mem hx)
   obtain⟨y,hy,hye⟩:=List.mem_map.1 hm;have hs:=eF4 (hdL p) k;rw[hb]at hs;simp only[Bool.false_eq_true,if_false,jN]at hs h2;rw[hs]at hy
   rcases List.mem_append.1 hy with hy|hy
   ·exact Eq7 (h1 y hy) (hye.trans e)
   ·exact Eq7 (h2 y hy) (hye.trans e).symm
  unfold m5;rw[HS7 hno];rfl
theorem OF7(hw:PsW p N)(k:ByteArray)(i:It):dL4 (hdL p) k i=hdL (K7 p k i):=by
 obtain⟨h1,h2,h3⟩:=Ig7 (hdL p) k (GB7 hw);have hsp:=eF4 (hdL p) k;have hsr:=GB7 hw;have hmA:∀x∈(hdL p).take (spI (hdL p) k),x∈hdL p:=fun x hx=>List.mem_of_mem_take hx
 have hmB:∀x∈(hdL p).drop (if spB (hdL p) k=true then spI (hdL p) k+1 else spI (hdL p) k),x∈hdL p:=fun x hx=>List.mem_of_mem_drop hx
 have hmid:∀x∈(if spB (hdL p) k=true then((hdL p).drop (spI (hdL p) k)).take 1 else[]),x.who=k:=by
  intro x hx;split at hx
  ·rename_i hb
   obtain⟨y,hy,hk⟩:=h3 hb;rw[hy]at hx;simp at hx;rw[hx];exact hk
  ·cases hx
 have hsA:dU4 ((hdL p).take (spI (hdL p) k)):=hsr.sublist (List.take_sublist _ _);have hsB:dU4 ((hdL p).drop (if spB (hdL p) k=true then spI (hdL p) k+1 else spI (hdL p) k)):=hsr.sublist (List.drop_sublist _ _)
 have hwho:(kL p).filter (fun y=>decide (y≠k))=((hdL p).take (spI (hdL p) k)).map Hd.who++((hdL p).drop (if spB (hdL p) k=true then spI (hdL p) k+1 else spI (hdL p) k)).map Hd.who:=by
  rw[<-DN7 p]
  conv=>lhs;rw[hsp]
  rw[List.map_append,List.map_append,List.filter_append,List.filter_append];rw[List.filter_eq_self.2 fun y hy=>by obtain⟨x,hx,rfl⟩:=List.mem_map.1 hy;simpa using Eq7 (h1 x hx)];rw[List.filter_eq_nil_iff.2 fun y hy=>by obtain⟨x,hx,rfl⟩:=List.mem_map.1 hy;simpa using hmid x hx];rw[jN,List.filter_eq_self.2 fun y hy=>by obtain⟨x,hx,rfl⟩:=List.mem_map.1 hy;simpa using(Eq7 (h2 x hx)).symm]
 have hdel:((j9 p k).map (·.1)).Perm (((hdL p).take (spI (hdL p) k)).map Hd.who++((hdL p).drop (if spB (hdL p) k=true then spI (hdL p) k+1 else spI (hdL p) k)).map Hd.who):=by
  rw[<-hwho];have e:(j9 p k).map (·.1)=(p.map (·.1)).filter (fun y=>decide (y≠k)):=by unfold j9;rw[List.filter_map];rfl
  rw[e];have hp:(kL p).Perm (p.map (·.1)):=Ax7 _;exact(hp.filter _).symm
 unfold dL4 K7
 cases hz:isZ i with
 | true=>
  rw[if_pos rfl,if_pos rfl,jN];have hk:kL (j9 p k)=((hdL p).take (spI (hdL p) k)).map Hd.who++((hdL p).drop (if spB (hdL p) k=true then spI (hdL p) k+1 else spI (hdL p) k)).map Hd.who:=by refine List.Perm.eq_of_pairwise (le:=fun a b=>leB a b=true) (fun a b _ _ h1 h2=>FN7 h1 h2) (AR7 _) ?_ ((Ax7 _).trans hdel);refine List.pairwise_append.2 ⟨List.pairwise_map.2 (hsA.imp Er7),List.pairwise_map.2 (hsB.imp Er7),fun a ha b hb=>?_⟩;obtain⟨x,hx,rfl⟩:=List.mem_map.1 ha;obtain⟨y,hy,rfl⟩:=List.mem_map.1 hb;exact Er7 (Dj7 (h1 x hx) (h2 y hy))
  unfold hdL at hk ⊢;rw[hk,List.map_append,List.map_map,List.map_map];refine congr (congrArg _ ?_) ?_
  ·refine((List.map_congr_left fun x hx=>?_).trans (List.map_id _)).symm;have e1:=CS7 (hmA x hx);have e2:=Cc7 p (Eq7 (h1 x hx)) i;unfold K7 at e2;rw[hz,if_pos rfl]at e2;show(⟨x.who,m5 (j9 p k) x.who⟩:Hd)=x
   rw[e2,<-e1]
  ·refine((List.map_congr_left fun x hx=>?_).trans (List.map_id _)).symm;have e1:=CS7 (hmB x hx);have e2:=Cc7 p (Eq7 (h2 x hx)).symm i;unfold K7 at e2;rw[hz,if_pos rfl]at e2;show(⟨x.who,m5 (j9 p k) x.who⟩:Hd)=x
   rw[e2,<-e1]
 | false=>
  have hft:¬(false=true):=by simp
  rw[if_neg hft,if_neg hft]
  have hk:kL ((k,i)::j9 p k)=((hdL p).take (spI (hdL p) k)).map Hd.who++(k::((hdL p).drop (if spB (hdL p) k=true then spI (hdL p) k+1 else spI (hdL p) k)).map Hd.who):=by
   refine List.Perm.eq_of_pairwise (le:=fun a b=>leB a b=true) (fun a b _ _ h1 h2=>FN7 h1 h2) (AR7 _) ?_ ((Ax7 _).trans ?_)
   ·refine List.pairwise_append.2 ⟨List.pairwise_map.2 (hsA.imp Er7),List.pairwise_cons.2 ⟨fun b hb=>?_,List.pairwise_map.2 (hsB.imp Er7)⟩,fun a ha b hb=>?_⟩
    ·obtain⟨y,hy,rfl⟩:=List.mem_map.1 hb;exact Er7 (h2 y hy)
    ·obtain⟨x,hx,rfl⟩:=List.mem_map.1 ha
     rcases List.mem_cons.1 hb with rfl|hb
     ·exact Er7 (h1 x hx)
     ·obtain⟨y,hy,rfl⟩:=List.mem_map.1 hb;exact Er7 (Dj7 (h1 x hx) (h2 y hy))
   ·rw[List.map_cons];exact(List.Perm.cons k hdel).trans List.perm_middle.symm
  unfold hdL at hk ⊢;rw[hk,List.map_append,List.map_cons,List.map_map,List.map_map];have es:=Hy7 p k i;unfold K7 at es;rw[hz,if_neg (by simp)]at es;refine congr (congrArg _ ?_) ?_
  ·refine((List.map_congr_left fun x hx=>?_).trans (List.map_id _)).symm;have e1:=CS7 (hmA x hx);have e2:=Cc7 p (Eq7 (h1 x hx)) i;unfold K7 at e2;rw[hz,if_neg (by simp)]at e2;show(⟨x.who,m5 ((k,i)::j9 p k) x.who⟩:Hd)=x
   rw[e2,<-e1]
  ·rw[List.singleton_append,es];refine congrArg _ ?_;refine((List.map_congr_left fun x hx=>?_).trans (List.map_id _)).symm;have e1:=CS7 (hmB x hx);have e2:=Cc7 p (Eq7 (h2 x hx)).symm i;unfold K7 at e2;rw[hz,if_neg (by simp)]at e2;show(⟨x.who,m5 ((k,i)::j9 p k) x.who⟩:Hd)=x
   rw[e2,<-e1]
end
theorem Es7:∀L:List Hd,(L.flatMap Hd.cells).all (·.oneCell')=true
 | []=>rfl
 | x::L=>by rw[List.flatMap_cons,List.all_append,Es7 L];rfl
theorem OG7(H:List Hd)(p q:Nat)(x:Hd)(hp:p<=H.length):(H.take p++x::H.drop q).length=0+p+1+(H.length-q):=by rw[jA,jT,jC,List.length_drop,Nat.min_eq_left hp];omega
theorem LN7(H:List Hd)(p q:Nat)(x:Hd):(H.take p++x::H.drop q).flatMap Hd.cells=[]++(H.take p).flatMap Hd.cells++Hd.cells x++(H.drop q).flatMap Hd.cells:=by rw[List.flatMap_append,List.flatMap_cons,jN,jS]
theorem OH7(H:List Hd)(p q:Nat)(hp:p<=H.length):(H.take p++H.drop q).length=0+p+(H.length-q):=by rw[jA,jT,List.length_drop,Nat.min_eq_left hp];omega
theorem LO7(H:List Hd)(p q:Nat):(H.take p++H.drop q).flatMap Hd.cells=[]++(H.take p).flatMap Hd.cells++(H.drop q).flatMap Hd.cells:=by rw[List.flatMap_append,jN]
theorem ho4(H:List Hd)(k:ByteArray)(i:It)(hl:H.length<=1000000)(xb:Nat)(v vB:Value)(n:Int)(W w:World)(R:List HP)(hS:St W (xvL xb v vB n H R) w):
  Calls Tryz.prog 119 #[.P xb,.string k,.agg i.cells.toArray] w fun e w'=>e=.returned (.tuple #[])/\∃v',St W (xvL xb v' vB n (dL4 H k i) R) w':=by
 obtain⟨a,cap,rfl⟩:=hS.drop.rowVal;obtain⟨x0,x1,x2,x3⟩:=i;simp only[It.cells];have hle:=SM7 H k;have hlt:=OD7 H k;have e0:dL4 H k ⟨x0,x1,x2,x3⟩=H.take (spI H k)++((if isZ ⟨x0,x1,x2,x3⟩=true then[]else[⟨k,⟨x0,x1,x2,x3⟩⟩])++H.drop (if spB H k=true then spI H k+1 else spI H k)):=rfl;obtain⟨p,hp⟩:∃p,spI H k=p:=⟨_,rfl⟩
 rw[hp]at hle hlt e0;have Hp:=jH hp;clear hp
 rcases St.rowCase hS.drop with ⟨rfl,h0,rfl,hc0⟩|⟨g,rfl,hcap,hcn⟩
 ·have hH:H=[]:=List.eq_nil_of_length_eq_zero h0;subst hH;have hp0:p=0:=by simp at hle;exact hle
  subst hp0;have Hb:=jH (show spB [] k=false from rfl)
  cases hz:isZ ⟨x0,x1,x2,x3⟩with
  | true=>
   have h4:(x0==0&&(x1==0&&(x2==0&&x3==0)))=true:=hz;rw[hz,if_pos rfl]at e0;have E:=jH (show dL4 [] k ⟨x0,x1,x2,x3⟩=[]from e0);clear e0 hz hlt hle h0;go_enter Tryz.func119,Tryz.ntmps119;go_wp2_with(first|go_at_call 180;refine(Di7 (H:=[]) Hp.out Hb.out xb _ vB n W _ (blk bA _ _::R) (hS.s _)).mono ?_;clear hS;rintro e w ⟨rfl,hS⟩|(fail_if_success (have:=bA));(with_reducible apply AH7 hS);rfl;rfl;rfl;rfl;clear hS;intro bA w hS;refine frS ?_|(with_reducible apply Bq7 (n:=0) hS);rfl;rfl;(focus(simp only[fD,fI,fJ,Act.eval,fE,fF,fG,fH,fK];try rfl));exact esS;exact rsS;rfl;rfl;rfl;rfl;rfl;decide;clear hS;intro bv w hS;refine frS ?_|(with_reducible apply Ae7 hS);rfl;rfl;rfl;rfl;exact esS;exact rsS;rfl;decide;exact j5;exact .inl ⟨rfl,rfl,rfl⟩;(focus(rfl));exact rfl;(focus(unfold maxLen;omega));(focus(omega));clear hS;intro v w hS;(have hv:=hS.rowVal;obtain⟨va,vc,rfl⟩:=hv);refine frS ?_|(with_reducible apply Hs7);rfl;rfl;rfl;rfl;kernel_rfl;exact eqI _ _ _ _ _ _ _ _;rw[h4];simp only[Bool.not_true,Bool.not_false];simp only[Act.put,fA,fB,fC,Nat.reduceAdd,eP,It.cells]|refine zl1 hS ?_|refine zlN hS ?_|refine zs1 hS ?_;clear hS;intro w hS)
   all_goals go_end0
   all_goals refine⟨rfl,.slice va 0 vc,?_⟩
   all_goals rw[E.out]
   all_goals have hS1:St W (hdR (.slice va 0 vc) []::_) w:=hS
   all_goals exact hS1.s _
  | false=>
   have h4:(x0==0&&(x1==0&&(x2==0&&x3==0)))=false:=hz;rw[hz,if_neg (by simp)]at e0;have E:=jH (show dL4 [] k ⟨x0,x1,x2,x3⟩=[⟨k,⟨x0,x1,x2,x3⟩⟩]from e0);clear e0 hz hlt hle h0;go_enter Tryz.func119,Tryz.ntmps119;go_wp2_with(first|go_at_call 180;refine(Di7 (H:=[]) Hp.out Hb.out xb _ vB n W _ (blk bA _ _::R) (hS.s _)).mono ?_;clear hS;rintro e w ⟨rfl,hS⟩|(fail_if_success (have:=bA));(with_reducible apply AH7 hS);rfl;rfl;rfl;rfl;clear hS;intro bA w hS;refine frS ?_|(with_reducible apply Bq7 (n:=0) hS);rfl;rfl;(focus(simp only[fD,fI,fJ,Act.eval,fE,fF,fG,fH,fK];try rfl));exact esS;exact rsS;rfl;rfl;rfl;rfl;rfl;decide;clear hS;intro bv w hS;refine frS ?_|refine zbs hS ?_;clear hS;intro bS w hS|(with_reducible apply Ae7 hS);rfl;rfl;rfl;rfl;exact esS;exact rsS;rfl;decide;exact j5;exact .inl ⟨rfl,rfl,rfl⟩;(focus(rfl));exact rfl;(focus(unfold maxLen;omega));(focus(omega));clear hS;intro v w hS;(have hv:=hS.rowVal;obtain⟨va,vc,rfl⟩:=hv);refine frS ?_|(with_reducible apply Ae7 hS);rfl;rfl;rfl;rfl;exact esS;exact rsS;rfl;decide;exact j5;exact Src.mk i8.whole;(focus(rfl));exact rfl;(focus(unfold maxLen;omega));(focus(omega));clear hS;intro v w hS;(have hv:=hS.rowVal;obtain⟨va,vc,rfl⟩:=hv);refine frS ?_|(with_reducible apply Hs7);rfl;rfl;rfl;rfl;kernel_rfl;exact eqI _ _ _ _ _ _ _ _;rw[h4];simp only[Bool.not_true,Bool.not_false];simp only[Act.put,fA,fB,fC,Nat.reduceAdd,eP,It.cells]|refine zl1 hS ?_|refine zlN hS ?_|refine zs1 hS ?_;clear hS;intro w hS)
   all_goals go_end0
   all_goals refine⟨rfl,.slice va 1 vc,?_⟩
   all_goals rw[E.out]
   all_goals have hS1:St W (hdR (.slice va 1 vc) [⟨k,⟨x0,x1,x2,x3⟩⟩]::_) w:=hS
   all_goals exact hS1.s _
 ·cases hb:spB H k with
  | true=>
   have hl1:=hlt hb;rw[hb,if_pos rfl]at e0;have Hb:=jH hb
   cases hz:isZ ⟨x0,x1,x2,x3⟩with
   | true=>
    have h4:(x0==0&&(x1==0&&(x2==0&&x3==0)))=true:=hz;rw[hz,if_pos rfl,jN]at e0;have E:=jH e0;clear e0 hz hlt hb;go_enter Tryz.func119,Tryz.ntmps119;go_wp2_with(first|go_at_call 180;refine(Di7 Hp.out Hb.out xb _ vB n W _ (blk bA _ _::R) (hS.s _)).mono ?_;clear hS;rintro e w ⟨rfl,hS⟩|(fail_if_success (have:=bA));(with_reducible apply AH7 hS);rfl;rfl;rfl;rfl;clear hS;intro bA w hS;refine frS ?_|(with_reducible apply Bq7 (n:=0) hS);rfl;rfl;(focus(simp only[fD,fI,fJ,Act.eval,fE,fF,fG,fH,fK];try rfl));exact esS;exact rsS;rfl;rfl;rfl;rfl;rfl;decide;clear hS;intro bv w hS;refine frS ?_|(with_reducible apply Ae7 hS);rfl;rfl;rfl;rfl;exact esS;exact rsS;rfl;decide;exact j5;exact Src.partM (by exact bu4) (F5 H p);(focus(rw[Ab7 Hd.len,jT,Nat.min_eq_left (by omega)]));exact Es7 _;(focus(unfold maxLen;omega));(focus(omega));clear hS;intro v w hS;(have hv:=hS.rowVal;obtain⟨va,vc,rfl⟩:=hv);refine frS ?_|(with_reducible apply Ae7 hS);rfl;rfl;rfl;rfl;exact esS;exact rsS;rfl;decide;exact j5;exact Src.behindM (by exact bu4) (fun h=>⟨by omega,by rw[List.drop_eq_nil_of_le (by omega)];rfl⟩) (fun j u h=>H9 Hd.len H (p+1) j u (by omega) h);(focus(rw[Ab7 Hd.len,List.length_drop]));exact Es7 _;(focus(unfold maxLen;omega));(focus(omega));clear hS;intro v w hS;(have hv:=hS.rowVal;obtain⟨va,vc,rfl⟩:=hv);refine frS ?_|(with_reducible apply Hs7);rfl;rfl;rfl;rfl;kernel_rfl;exact eqI _ _ _ _ _ _ _ _;rw[h4];simp only[Bool.not_true,Bool.not_false];simp only[Act.put,fA,fB,fC,Nat.reduceAdd,eP,It.cells]|refine zl1 hS ?_|refine zlN hS ?_|refine zs1 hS ?_;clear hS;intro w hS)
    all_goals go_end0
    all_goals refine⟨rfl,.slice va (0+p+(H.length-(p+1))) vc,?_⟩
    all_goals rw[E.out]
    all_goals unfold xvL hdR
    all_goals rw[OH7 H p (p+1) (by omega),LO7]
    all_goals have hS1:St W (row (.slice va (0+p+(H.length-(p+1))) vc) 5 189 (0+p+(H.length-(p+1))) ([]++(H.take p).flatMap Hd.cells++(H.drop (p+1)).flatMap Hd.cells)::_) w:=hS
    all_goals exact hS1.s _
   | false=>
    have h4:(x0==0&&(x1==0&&(x2==0&&x3==0)))=false:=hz;rw[hz,if_neg (by simp),List.singleton_append]at e0;have E:=jH e0;clear e0 hz hlt hb;go_enter Tryz.func119,Tryz.ntmps119
    go_wp2_with(first|go_at_call 180;refine(Di7 Hp.out Hb.out xb _ vB n W _ (blk bA _ _::R) (hS.s _)).mono ?_;clear hS;rintro e w ⟨rfl,hS⟩|(fail_if_success (have:=bA));(with_reducible apply AH7 hS);rfl;rfl;rfl;rfl;clear hS;intro bA w hS;refine frS ?_|(with_reducible apply Bq7 (n:=0) hS);rfl;rfl;(focus(simp only[fD,fI,fJ,Act.eval,fE,fF,fG,fH,fK];try rfl));exact esS;exact rsS;rfl;rfl;rfl;rfl;rfl;decide;clear hS;intro bv w hS;refine frS ?_|refine zbs hS ?_;clear hS;intro bS w hS|(with_reducible apply Ae7 hS);rfl;rfl;rfl;rfl;exact esS;exact rsS;rfl;decide;exact j5;exact Src.partM (by exact bu4) (F5 H p);(focus(rw[Ab7 Hd.len,jT,Nat.min_eq_left (by omega)]));exact Es7 _;(focus(unfold maxLen;omega));(focus(omega));clear hS;intro v w hS;(have hv:=hS.rowVal;obtain⟨va,vc,rfl⟩:=hv);refine frS ?_|(with_reducible apply Ae7 hS);rfl;rfl;rfl;rfl;exact esS;exact rsS;rfl;decide;exact j5;exact Src.mk i8.whole;(focus(rfl));exact rfl;(focus(unfold maxLen;omega));(focus(omega));clear hS;intro v w hS;(have hv:=hS.rowVal;obtain⟨va,vc,rfl⟩:=hv);refine frS ?_|(with_reducible apply Ae7 hS);rfl;rfl;rfl;rfl;exact esS;exact rsS;rfl;decide;exact j5;exact Src.behindM (by exact bu4) (fun h=>⟨by omega,by rw[List.drop_eq_nil_of_le (by omega)];rfl⟩) (fun j u h=>H9 Hd.len H (p+1) j u (by omega) h);(focus(rw[Ab7 Hd.len,List.length_drop]));exact Es7 _;(focus(unfold maxLen;omega));(focus(omega));clear hS;intro v w hS;(have hv:=hS.rowVal;obtain⟨va,vc,rfl⟩:=hv);refine frS ?_|(with_reducible apply Hs7);rfl;rfl;rfl;rfl;kernel_rfl;exact eqI _ _ _ _ _ _ _ _;rw[h4];simp only[Bool.not_true,Bool.not_false];simp only[Act.put,fA,fB,fC,Nat.reduceAdd,eP,It.cells]|refine zl1 hS ?_|refine zlN hS ?_|refine zs1 hS ?_;clear hS;intro w hS)
    all_goals go_end0
    all_goals refine⟨rfl,.slice va (0+p+1+(H.length-(p+1))) vc,?_⟩
    all_goals rw[E.out]
    all_goals unfold xvL hdR
    all_goals rw[OG7 H p (p+1) _ (by omega),LN7]
    all_goals have hS1:St W (row (.slice va (0+p+1+(H.length-(p+1))) vc) 5 189 (0+p+1+(H.length-(p+1))) ([]++(H.take p).flatMap Hd.cells++Hd.cells ⟨k,⟨x0,x1,x2,x3⟩⟩++(H.drop (p+1)).flatMap Hd.cells)::_) w:=hS
    all_goals exact hS1.s _
  | false=>
   have hft:¬(false=true):=by simp
   rw[hb,if_neg hft]at e0;have Hb:=jH hb
   cases hz:isZ ⟨x0,x1,x2,x3⟩with
   | true=>
    have h4:(x0==0&&(x1==0&&(x2==0&&x3==0)))=true:=hz;rw[hz,if_pos rfl,jN]at e0;have E:=jH e0;clear e0 hz hlt hb;go_enter Tryz.func119,Tryz.ntmps119;go_wp2_with(first|go_at_call 180;refine(Di7 Hp.out Hb.out xb _ vB n W _ (blk bA _ _::R) (hS.s _)).mono ?_;clear hS;rintro e w ⟨rfl,hS⟩|(fail_if_success (have:=bA));(with_reducible apply AH7 hS);rfl;rfl;rfl;rfl;clear hS;intro bA w hS;refine frS ?_|(with_reducible apply Bq7 (n:=0) hS);rfl;rfl;(focus(simp only[fD,fI,fJ,Act.eval,fE,fF,fG,fH,fK];try rfl));exact esS;exact rsS;rfl;rfl;rfl;rfl;rfl;decide;clear hS;intro bv w hS;refine frS ?_|(with_reducible apply Ae7 hS);rfl;rfl;rfl;rfl;exact esS;exact rsS;rfl;decide;exact j5;exact Src.partM (by exact bu4) (F5 H p);(focus(rw[Ab7 Hd.len,jT,Nat.min_eq_left (by omega)]));exact Es7 _;(focus(unfold maxLen;omega));(focus(omega));clear hS;intro v w hS;(have hv:=hS.rowVal;obtain⟨va,vc,rfl⟩:=hv);refine frS ?_|(with_reducible apply Ae7 hS);rfl;rfl;rfl;rfl;exact esS;exact rsS;rfl;decide;exact j5;exact Src.behindM (by exact bu4) (fun h=>⟨by omega,by rw[List.drop_eq_nil_of_le (by omega)];rfl⟩) (fun j u h=>H9 Hd.len H p j u (by omega) h);(focus(rw[Ab7 Hd.len,List.length_drop]));exact Es7 _;(focus(unfold maxLen;omega));(focus(omega));clear hS;intro v w hS;(have hv:=hS.rowVal;obtain⟨va,vc,rfl⟩:=hv);refine frS ?_|(with_reducible apply Hs7);rfl;rfl;rfl;rfl;kernel_rfl;exact eqI _ _ _ _ _ _ _ _;rw[h4];simp only[Bool.not_true,Bool.not_false];simp only[Act.put,fA,fB,fC,Nat.reduceAdd,eP,It.cells]|refine zl1 hS ?_|refine zlN hS ?_|refine zs1 hS ?_;clear hS;intro w hS)
    all_goals go_end0
    all_goals refine⟨rfl,.slice va (0+p+(H.length-p)) vc,?_⟩
    all_goals rw[E.out]
    all_goals unfold xvL hdR
    all_goals rw[OH7 H p p (by omega),LO7]
    all_goals have hS1:St W (row (.slice va (0+p+(H.length-p)) vc) 5 189 (0+p+(H.length-p)) ([]++(H.take p).flatMap Hd.cells++(H.drop p).flatMap Hd.cells)::_) w:=hS
    all_goals exact hS1.s _
   | false=>
    have h4:(x0==0&&(x1==0&&(x2==0&&x3==0)))=false:=hz;rw[hz,if_neg (by simp),List.singleton_append]at e0;have E:=jH e0;clear e0 hz hlt hb;go_enter Tryz.func119,Tryz.ntmps119
    go_wp2_with(first|go_at_call 180;refine(Di7 Hp.out Hb.out xb _ vB n W _ (blk bA _ _::R) (hS.s _)).mono ?_;clear hS;rintro e w ⟨rfl,hS⟩|(fail_if_success (have:=bA));(with_reducible apply AH7 hS);rfl;rfl;rfl;rfl;clear hS;intro bA w hS;refine frS ?_|(with_reducible apply Bq7 (n:=0) hS);rfl;rfl;(focus(simp only[fD,fI,fJ,Act.eval,fE,fF,fG,fH,fK];try rfl));exact esS;exact rsS;rfl;rfl;rfl;rfl;rfl;decide;clear hS;intro bv w hS;refine frS ?_|refine zbs hS ?_;clear hS;intro bS w hS|(with_reducible apply Ae7 hS);rfl;rfl;rfl;rfl;exact esS;exact rsS;rfl;decide;exact j5;exact Src.partM (by exact bu4) (F5 H p);(focus(rw[Ab7 Hd.len,jT,Nat.min_eq_left (by omega)]));exact Es7 _;(focus(unfold maxLen;omega));(focus(omega));clear hS;intro v w hS;(have hv:=hS.rowVal;obtain⟨va,vc,rfl⟩:=hv);refine frS ?_|(with_reducible apply Ae7 hS);rfl;rfl;rfl;rfl;exact esS;exact rsS;rfl;decide;exact j5;exact Src.mk i8.whole;(focus(rfl));exact rfl;(focus(unfold maxLen;omega));(focus(omega));clear hS;intro v w hS;(have hv:=hS.rowVal;obtain⟨va,vc,rfl⟩:=hv);refine frS ?_|(with_reducible apply Ae7 hS);rfl;rfl;rfl;rfl;exact esS;exact rsS;rfl;decide;exact j5;exact Src.behindM (by exact bu4) (fun h=>⟨by omega,by rw[List.drop_eq_nil_of_le (by omega)];rfl⟩) (fun j u h=>H9 Hd.len H p j u (by omega) h);(focus(rw[Ab7 Hd.len,List.length_drop]));exact Es7 _;(focus(unfold maxLen;omega));(focus(omega));clear hS;intro v w hS;(have hv:=hS.rowVal;obtain⟨va,vc,rfl⟩:=hv);refine frS ?_|(with_reducible apply Hs7);rfl;rfl;rfl;rfl;kernel_rfl;exact eqI _ _ _ _ _ _ _ _;rw[h4];simp only[Bool.not_true,Bool.not_false];simp only[Act.put,fA,fB,fC,Nat.reduceAdd,eP,It.cells]|refine zl1 hS ?_|refine zlN hS ?_|refine zs1 hS ?_;clear hS;intro w hS)
    all_goals go_end0
    all_goals refine⟨rfl,.slice va (0+p+1+(H.length-p)) vc,?_⟩
    all_goals rw[E.out]
    all_goals unfold xvL hdR
    all_goals rw[OG7 H p p _ (by omega),LN7]
    all_goals have hS1:St W (row (.slice va (0+p+1+(H.length-p)) vc) 5 189 (0+p+1+(H.length-p)) ([]++(H.take p).flatMap Hd.cells++Hd.cells ⟨k,⟨x0,x1,x2,x3⟩⟩++(H.drop p).flatMap Hd.cells)::_) w:=hS
    all_goals exact hS1.s _
end Go.Proofs.YtlmhakmoioogaaaGreat
end
