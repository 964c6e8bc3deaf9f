/-
  The vault's scripts.
-/
import Derived.Test.YtienbkdjkjbelaaGreatJuTM1
import Derived.Test.YtienbkdjkjbelaaGreatJuTM7
import Derived.Test.YtienbkdjkjbelaaGreatJuTM17
import Derived.Test.YtienbkdjkjbelaaGreatJuTM20
import Derived.Test.YtienbkdjkjbelaaGreatRows
import Derived.Lib.SmallJoins
import Derived.ChangeArms
import Derived.ProofKit
import Derived.WalkKit
import Derived.OpenShut
import Derived.ChangeSame
import Derived.ReadAgain
import Derived.Laws.StructEq
set_option maxHeartbeats 16000000
set_option maxRecDepth 100000
set_option linter.unusedSimpArgs false
set_option linter.unusedVariables false
section
namespace Go.Sl
open Go.RowKit
section
variable{P:Program}{W:World}{L:List HP}{ops:Array Oper}{Q:Act->Prop}{a:Act}{rest:List Oper}{o:Oper}
theorem Pr7{t t2:TypeId}{x y:Operand}{xs ys:Array Value}{r:Bool}(ho:o.op=.binOp .eql t x y t2)(hg:Region.wanted o (yielded ops a.tmps)=true)(hx:a.eval x=.agg xs)(hy:a.eval y=.agg ys)(hm:P.eqGuardType P.depth t=false)(hr:∀w:World,(Op.equalIn 10000 t (.agg xs) (.agg ys)).run P w=.ok r w)
  (h:wpQuiet P ops (St W L) Q rest (a.put o.dst (.bool r))):wpQuiet P ops (St W L) Q (o::rest) a:=
 GO7 hg (fun w _=>by unfold execOp;simp[ho,hx,hy,run_eqGuard_agg w .eql t x y xs ys hm,run_eql_struct,hr]) h
end
end Go.Sl
namespace Go.Proofs.YtienbkdjkjbelaaGreat
open Go.RowKit Go.Sl
structure VOk(p:Ps)(n:Int)(i:Nat):Prop where
 ok:L7 p
 w:PsW p (100*i)
 n0:1<=n
 n1:n<=1+i
theorem fu4:VOk [] 1 0:=⟨EG7,Mf7 _,by decide,by decide⟩
theorem VOk.on{p:Ps}{n:Int}{i:Nat}(h:VOk p n i):VOk p n (i+1):=⟨h.ok,Al7 h.w (by omega),h.n0,by have:=h.n1;omega⟩
section
variable(vb mb bb:Nat){p:Ps}{L:List Ord}{n:Int}{i:Nat}(W w:World)(R:List HP)
theorem Rd7(h:VOk p n i)(who:ByteArray)(it:It)(hS:St W (w5 vb mb bb p L n R) w):
  Calls Tryz.prog 110 #[.P vb,.string who,.agg it.cells.toArray] w fun e w'=>e=.returned (.I (J8 p who it))/\VOk (F8 p who it) n (i+1)/\St W (w5 vb mb bb (F8 p who it) L n R) w':=by
 refine(NP7 vb mb p who _ _ it W w _ hS).mono ?_;rintro e w' ⟨rfl,hS⟩;exact⟨rfl,⟨Gw7 h.ok _ _,Al7 (Gx7 h.w _ _) (by omega),h.n0,by have:=h.n1;omega⟩,hS⟩
theorem PZ7(h:VOk p n i)(who:ByteArray)(it:It)(hS:St W (w5 vb mb bb p L n R) w):
  Calls Tryz.prog 112 #[.P vb,.string who,.agg it.cells.toArray] w fun e w'=>e=.returned (.I (p9 p who it))/\VOk (r8 p who it) n (i+1)/\St W (w5 vb mb bb (r8 p who it) L n R) w':=by
 refine(Fd7 vb mb p who _ _ it W w _ hS).mono ?_;rintro e w' ⟨rfl,hS⟩;exact⟨rfl,⟨BF7 h.ok _ _,Al7 (Dv7 h.w _ _) (by omega),h.n0,by have:=h.n1;omega⟩,hS⟩
theorem Qa7(h:VOk p n i)(o:Ord)(hS:St W (w5 vb mb bb p L n R) w):
  Calls Tryz.prog 113 #[.P vb,.agg o.cells.toArray] w fun e w'=>e=.returned (.tuple #[.I (x8 ⟨p,L,n⟩ o).1,.I (x8 ⟨p,L,n⟩ o).2.1]) /\
   VOk (x8 ⟨p,L,n⟩ o).2.2.ps (x8 ⟨p,L,n⟩ o).2.2.n (i+1)/\St W (w5 vb mb bb (x8 ⟨p,L,n⟩ o).2.2.ps (x8 ⟨p,L,n⟩ o).2.2.L (x8 ⟨p,L,n⟩ o).2.2.n R) w':=by
 have hll:=Cv7 hS.drop.drop;have hmay:∀x∈L,MayP x:=fun x hx=>(Ca7 hS.drop.drop x hx).1
 refine(LY7 vb mb bb ⟨p,L,n⟩ o h.ok h.n0 W w R hS).mono ?_;rintro e w' ⟨rfl,hS⟩;have h1:=Mb7 (V:=⟨p,L,n⟩) (o:=o) h.ok h.n0 hmay;have h2:=Mh7 (V:=⟨p,L,n⟩) (o:=o) h.w hmay hll
 have h3:(x8 ⟨p,L,n⟩ o).2.2.n<=n+1:=by
  unfold x8
  repeat' split
  all_goals dsimp only
  all_goals omega
 exact⟨rfl,⟨h1.1,Al7 h2 (by omega),h1.2,by have:=h.n1;omega⟩,hS⟩
theorem Qb7(h:VOk p n i)(who:ByteArray)(id:Int)(hS:St W (w5 vb mb bb p L n R) w):
  Calls Tryz.prog 114 #[.P vb,.string who,.I id] w fun e w'=>e=.returned (.I (B8 ⟨p,L,n⟩ who id).1) /\
   VOk (B8 ⟨p,L,n⟩ who id).2.ps n (i+1)/\St W (w5 vb mb bb (B8 ⟨p,L,n⟩ who id).2.ps (B8 ⟨p,L,n⟩ who id).2.L n R) w':=by
 have hmay:∀x∈L,MayP x:=fun x hx=>(Ca7 hS.drop.drop x hx).1
 refine(LZ7 vb mb bb ⟨p,L,n⟩ who id h.ok W w R hS).mono ?_;rintro e w' ⟨rfl,hS⟩;have h1:=Mc7 (V:=⟨p,L,n⟩) (who:=who) (id:=id) h.ok h.n0 hmay;have h2:=Mi7 (V:=⟨p,L,n⟩) (who:=who) (id:=id) h.w hmay;have h3:(B8 ⟨p,L,n⟩ who id).2.n=n:=by unfold B8;split <;> rfl
 rw[h3]at hS;exact⟨rfl,⟨h1.1,Al7 h2 (by omega),h.n0,by have:=h.n1;omega⟩,hS⟩
theorem Re7(u1 u2:Value){k:ByteArray}{x0 x1 x2 x3:Int}(hx:j8 p k=⟨x0,x1,x2,x3⟩)(hS:St W (blk vb [.map (some mb),u1,u2] 215::d9 eS eP mb p::R) w):
  Calls Tryz.prog 155 #[.P vb,.string k] w fun e w'=>e=.returned (.agg #[.I x0,.I x1,.I x2,.I x3])/\St W (blk vb [.map (some mb),u1,u2] 215::d9 eS eP mb p::R) w':=by
 refine(NN7 vb mb p k u1 u2 W w R hS).mono ?_;rw[hx];exact fun e w' h=>h
end
structure Opn where
 kind:Int
 client:Int
 seq:Int
 ak:ByteArray
 aw:ByteArray
 tk:ByteArray
 tw:ByteArray
 item:Int
 cnt:Int
 price:Int
 buy:Bool
 id:Int
def Opn.cells(o:Opn):List Value:=[.I o.kind,.I o.client,.I o.seq,.string o.ak,.string o.aw,.string o.tk,.string o.tw,.I o.item,.I o.cnt,.I o.price,.bool o.buy,.I o.id]
theorem Opn.len(o:Opn):o.cells.length=12:=rfl
structure Rpl where
 err:Int
 id:Int
 has:It
def Rpl.cells(r:Rpl):List Value:=.I r.err::.I r.id::r.has.cells
abbrev rp0:Rpl:=⟨0,0,it0⟩
structure Tns where
 client:Int
 seq:Int
 ak:ByteArray
 aw:ByteArray
 tk:ByteArray
 tw:ByteArray
 item:Int
 cnt:Int
def Tns.cells(t:Tns):List Value:=[.I t.client,.I t.seq,.string t.ak,.string t.aw,.string t.tk,.string t.tw,.I t.item,.I t.cnt]
theorem Tns.len(t:Tns):t.cells.length=8:=rfl
structure Ec where
 vs:List (ByteArray×Vs)
 ss:List (Int×(Int×Rpl))
 ts:List ((Int×Int)×Tns)
 ar:List ((Int×Int)×Unit)
abbrev ec0:Ec:=⟨[],[],[],[]⟩
abbrev vs0:Vs:=⟨[],[],1⟩
def noB(u:ByteArray):Bool:=decide (u.size=0)
def H5(o:Opn):Bool:=decide (0<=o.item)&&(decide (o.item<4)&&(decide (1<=o.cnt)&&decide (o.cnt<=1048576)))
def dq4(o:Opn):Bool:=noB o.tk&&(noB o.tw&&(decide (o.price=0)&&(!o.buy&&decide (o.id=0))))
def az4(k u:ByteArray):Bool:=C6 k&&C6 u
def s7(o:Opn):Bool:=H5 o&&dq4 o
def M6(o:Opn):Bool:=az4 o.tk o.tw&&(H5 o&&(decide (o.price=0)&&(!o.buy&&decide (o.id=0))))
def H9(o:Opn):Bool:=decide (1<=o.item)&&(decide (1<=o.price)&&(decide (o.price<=1024)&&(H5 o&&(noB o.tk&&(noB o.tw&&decide (o.id=0))))))
def G6(o:Opn):Bool:=decide (1<=o.id)&&(decide (o.id<=1099511627776)&&(noB o.tk&&(noB o.tw&&(decide (o.item=0)&&(decide (o.cnt=0)&&(decide (o.price=0)&&!o.buy))))))
def bZ4(o:Opn):Bool:=noB o.tk&&(noB o.tw&&(decide (o.item=0)&&(decide (o.cnt=0)&&(decide (o.price=0)&&(!o.buy&&decide (o.id=0))))))
def J6(o:Opn):Bool:=
 if o.kind=1 then s7 o else if o.kind=2 then M6 o else if o.kind=3 then H9 o else if o.kind=4 then G6 o
 else if o.kind=5 then bZ4 o else if o.kind=6 then s7 o else if o.kind=7 then bZ4 o else false
def G5(o:Opn):Bool:=decide (1<=o.client)&&(decide (o.client<=1048576)&&(decide (1<=o.seq)&&(decide (o.seq<=1099511627776)&&az4 o.ak o.aw)))
def w6(o:Opn):Bool:=G5 o&&J6 o
def G7(e:Ec)(o:Opn):Rpl×Bool:=
 if w6 o=false then(⟨1,0,it0⟩,true)
 else if o.kind=6 then(rp0,(j6 e.ar (o.client,o.seq)).isSome)
 else if o.kind=7 then(rp0,(j6 e.ts (o.client,o.seq)).isNone)
 else match j6 e.ss o.client with
  | none=>(rp0,false)
  | some (q,r)=>if o.seq<q then(⟨13,0,it0⟩,true)else if o.seq=q then(r,true)else(rp0,false)
def atV(e:Ec)(k:ByteArray):Vs:=(j6 e.vs k).getD vs0
def A5(V:Vs):Bool:=decide (V.ps.length=0)&&(decide (V.L.length=0)&&decide (V.n=1))
def bf4(e:Ec)(k:ByteArray)(V:Vs):Ec:={ e with vs:=if A5 V=true then i9 e.vs k else(k,V)::i9 e.vs k }
def p8(item n:Int):It:=aE4 it0 item n
def cW4(o:Opn):Tns:=⟨o.client,o.seq,o.ak,o.aw,o.tk,o.tw,o.item,o.cnt⟩
def P6(o:Opn):Ord:=⟨0,o.aw,o.buy,o.item,o.cnt,o.price⟩
def doV(V:Vs)(o:Opn):Rpl×Vs:=
 if o.kind=1 then(⟨J8 V.ps o.aw (p8 o.item o.cnt),0,it0⟩, { V with ps:=F8 V.ps o.aw (p8 o.item o.cnt) })
 else if o.kind=2 then(⟨p9 V.ps o.aw (p8 o.item o.cnt),0,it0⟩, { V with ps:=r8 V.ps o.aw (p8 o.item o.cnt) })
 else if o.kind=3 then(⟨(x8 V (P6 o)).2.1,(x8 V (P6 o)).1,it0⟩,(x8 V (P6 o)).2.2)
 else if o.kind=4 then(⟨(B8 V o.aw o.id).1,0,it0⟩,(B8 V o.aw o.id).2)
 else if o.kind=5 then(⟨0,0,j8 V.ps o.aw⟩,V)
 else if o.kind=6 then(rp0, { V with ps:=F8 V.ps o.aw (p8 o.item o.cnt) })
 else(rp0,V)
def doT(e:Ec)(o:Opn)(r:Rpl):List ((Int×Int)×Tns):=
 if o.kind=2/\r.err=0 then((o.client,o.seq),cW4 o)::i9 e.ts (o.client,o.seq)
 else if o.kind=7 then i9 e.ts (o.client,o.seq)else e.ts
def doA(e:Ec)(o:Opn):List ((Int×Int)×Unit):=if o.kind=6 then((o.client,o.seq),())::i9 e.ar (o.client,o.seq)else e.ar
def doS(e:Ec)(o:Opn)(r:Rpl):List (Int×(Int×Rpl)):=if o.kind=6\/o.kind=7 then e.ss else(o.client,(o.seq,r))::i9 e.ss o.client
def B6(e:Ec)(o:Opn):Rpl×Bool×Ec:=
 if(G7 e o).2=true then((G7 e o).1,false,e)
 else
  let r:=(doV (atV e o.ak) o).1
  (r,true, { bf4 e o.ak (doV (atV e o.ak) o).2 with ss:=doS e o r,ts:=doT e o r,ar:=doA e o })
end Go.Proofs.YtienbkdjkjbelaaGreat
end
section
namespace Go.Proofs.YtienbkdjkjbelaaGreat
open Go.Joins Go.ChangeShapes Go.WideShapes Go.RowKit Go.Deep Go.Sl
theorem Fr7{H:Type}{enc:TypeId×Value->H}{w:World}{base:Nat}{spare:Nat->Bool}{held:Bool}{n:Nat}{cs:List Value}{y:DataW H×List MemPlace}
  (h:DataW.trod enc Tryz.prog w base spare held n 29 cs=some y):∃k u:ByteArray,cs=[.string k,.string u]:=by
 obtain⟨xs,n',rfl,hx,hlen,hxl,hg⟩:=DataW.trod_struct Tryz.underlying29 h;have hlen':cs.length=2:=hlen.trans (by kernel_rfl)
 match cs,hlen' with
 | [c0,c1],_=>
  match xs,hxl with
  | [y0,y1],_=>
   have g0:=hg 0 _ rfl;have g1:=hg 1 _ rfl;obtain⟨k,e0,_⟩:=DataW.trod_string Tryz.underlying9 (show DataW.trod enc Tryz.prog w base spare held n' 9 [c0]=some y0 from g0);obtain⟨u,e1,_⟩:=DataW.trod_string Tryz.underlying9 (show DataW.trod enc Tryz.prog w base spare held n' 9 [c1]=some y1 from g1);simp only[List.cons.injEq,and_true]at e0 e1;subst e0 e1;exact⟨k,u,rfl⟩
theorem Hx7{H:Type}{enc:TypeId×Value->H}{w:World}{base:Nat}{spare:Nat->Bool}{held:Bool}{n:Nat}{cs:List Value}{y:DataW H×List MemPlace}
  (h:DataW.trod enc Tryz.prog w base spare held n 31 cs=some y):∃o:Opn,cs=o.cells:=by
 obtain⟨xs,n',rfl,hx,hlen,hxl,hg⟩:=DataW.trod_struct Tryz.underlying31 h;have hlen':cs.length=12:=hlen.trans (by kernel_rfl)
 match cs,hlen' with
 | [c0,c1,c2,c3,c4,c5,c6,c7,c8,c9,c10,c11],_=>
  match xs,hxl with
  | [y0,y1,y2,y3,y4,y5,y6,y7,y8,y9],_=>
   have g0:=hg 0 _ rfl;have g1:=hg 1 _ rfl;have g2:=hg 2 _ rfl;have g3:=hg 3 _ rfl;have g4:=hg 4 _ rfl;have g5:=hg 5 _ rfl;have g6:=hg 6 _ rfl;have g7:=hg 7 _ rfl;have g8:=hg 8 _ rfl;have g9:=hg 9 _ rfl;obtain⟨z0,e0,_⟩:=DataW.trod_int Tryz.underlying3 (show DataW.trod enc Tryz.prog w base spare held n' 3 [c0]=some y0 from g0);obtain⟨z1,e1,_⟩:=DataW.trod_int Tryz.underlying3 (show DataW.trod enc Tryz.prog w base spare held n' 3 [c1]=some y1 from g1);obtain⟨z2,e2,_⟩:=DataW.trod_int Tryz.underlying3 (show DataW.trod enc Tryz.prog w base spare held n' 3 [c2]=some y2 from g2);obtain⟨ak,aw,e3⟩:=Fr7 (show DataW.trod enc Tryz.prog w base spare held n' 29 [c3,c4]=some y3 from g3);obtain⟨tk,tw,e4⟩:=Fr7 (show DataW.trod enc Tryz.prog w base spare held n' 29 [c5,c6]=some y4 from g4);obtain⟨z5,e5,_⟩:=DataW.trod_int Tryz.underlying3 (show DataW.trod enc Tryz.prog w base spare held n' 3 [c7]=some y5 from g5);obtain⟨z6,e6,_⟩:=DataW.trod_int Tryz.underlying3 (show DataW.trod enc Tryz.prog w base spare held n' 3 [c8]=some y6 from g6);obtain⟨z7,e7,_⟩:=DataW.trod_int Tryz.underlying3 (show DataW.trod enc Tryz.prog w base spare held n' 3 [c9]=some y7 from g7);obtain⟨z8,e8,_⟩:=DataW.trod_bool Tryz.underlying4 (show DataW.trod enc Tryz.prog w base spare held n' 4 [c10]=some y8 from g8);obtain⟨z9,e9,_⟩:=DataW.trod_int Tryz.underlying3 (show DataW.trod enc Tryz.prog w base spare held n' 3 [c11]=some y9 from g9);simp only[List.cons.injEq,and_true]at e0 e1 e2 e3 e4 e5 e6 e7 e8 e9;obtain⟨e3,e3'⟩:=e3;obtain⟨e4,e4'⟩:=e4;subst e0 e1 e2 e3 e3' e4 e4' e5 e6 e7 e8 e9;exact⟨⟨z0,z1,z2,ak,aw,tk,tw,z5,z6,z7,z8,z9⟩,rfl⟩
theorem open_opns{H:Type}{enc:TypeId×Value->H}{w:World}{base:Nat}{spare:Nat->Bool}{held:Bool}{r:Reach}{b0:Nat}{v:Value}{d:DataW H}{p:List MemPlace}
  (hv:Value.okWide Tryz.prog w r b0 22 v) (h:DataW.Trod enc Tryz.prog w base spare held 22 v d p):∃xs,C8 Opn.cells 12 w v xs:=
 Iy7 Opn.cells ⟨0,0,0,⟨#[]⟩,⟨#[]⟩,⟨#[]⟩,⟨#[]⟩,0,0,0,false,0⟩ Opn.len (by decide) Tryz.underlying22 (by kernel_rfl) (fun _ _ _ _ h => Hx7 h) hv h
structure OpnAt(V:World)(b off:Nat)(x:Opn):Prop where
 kind:V.cell? ⟨b,off,none⟩=some (.I x.kind)
 client:V.cell? ⟨b,off+1,none⟩=some (.I x.client)
 seq:V.cell? ⟨b,off+2,none⟩=some (.I x.seq)
 ak:V.cell? ⟨b,off+3,none⟩=some (.string x.ak)
 aw:V.cell? ⟨b,off+4,none⟩=some (.string x.aw)
 tk:V.cell? ⟨b,off+5,none⟩=some (.string x.tk)
 tw:V.cell? ⟨b,off+6,none⟩=some (.string x.tw)
 all:∀(j:Nat) (v:Value),x.cells[j]? = some v->V.cell? ⟨b,off+j,none⟩=some v
theorem C8.opn{V:World}{v:Value}{xs:List Opn}(h:C8 Opn.cells 12 V v xs):∃a cap,v=.slice a xs.length cap/\xs.length<=9223372036854775807/\∀i (h:i<xs.length), ∃b off,a=some ⟨b,off,none⟩/\OpnAt V b (off+i*12) xs[i]:=by obtain⟨a,cap,hv,h63,hc⟩:=h;refine⟨a,cap,hv,h63,fun i hi=>?_⟩;obtain⟨b,off,ha,hj⟩:=hc i hi;exact⟨b,off,ha,hj 0 _ rfl,hj 1 _ rfl,hj 2 _ rfl,hj 3 _ rfl,hj 4 _ rfl,hj 5 _ rfl,hj 6 _ rfl,fun j v hv=>hj j v hv⟩
end Go.Proofs.YtienbkdjkjbelaaGreat
end
section
namespace Go.Sl
open Go.ChangeShapes Go.WideShapes Go.ChangeAt Go.RowKit
section
variable{H:Type}{enc:TypeId×Value->H}{P:Program}
theorem Dx7{w w':World}{base:Nat}{spare:Nat->Bool}{held:Bool}:∀{ts:List TypeId} {vs:List Value} {ds:List (DataW H)} {ps:List MemPlace},
  DataW.TrodAll enc P w base spare held ts vs ds ps->(∀p∈ps,w.sameAt w' p)->DataW.TrodAll enc P w' base spare held ts vs ds ps
 | [],[],[],_,h,_=>h
 | _::_,_::_,_::_,_,⟨p,q,⟨n,hn⟩,h2,e⟩,hs=>
  ⟨p,q,⟨n,DataW.trod_carry n _ _ _ hn fun x hx=>hs x (by rw[e];exact List.mem_append_left _ hx)⟩,Dx7 h2 (fun x hx=>hs x (by rw[e];exact List.mem_append_right _ hx)),e⟩
theorem law_post{f:Func}{s:ChangeSpec}{apart fresh handsOn again:Bool}{W W':World}{args:Array Value}{ds gs:List (DataW H)}{before:List MemPlace}{tb:TypeId}
  (hl:laidOutB P=true) (hm:mapsRowed P=true) (hz:((List.range P.types.size).all fun t=>match P.underlying t with|some (.slice e)=>decide (0<P.cellsOf e)|_=>true)=true)
  (hT:f.params.toList.all (·<P.types.size)=true) (hr:f.resultTypes=#[tb]) (hb:P.underlying tb=some .bool) (hv:s.vars=[])
  (hW:DataW.Whole enc P f.params.toList s.vars apart W args.toList ds gs before)
  (hres:(s.fn H (ds++gs)).results=[.lit (.bool true)]) (hargs:(s.fn H (ds++gs)).args=ds) (hvars:(s.fn H (ds++gs)).vars=[])
  (hB:Below W.heap.size W W'):s.post enc P f apart fresh handsOn again W args (.bool true) W':=by
 have hW0:=hW;obtain⟨p,q,hA,hV,rfl,hfz,hnd⟩:=hW;rw[hv]at hV;obtain⟨rfl,rfl⟩:=trodVars_none hV;have hlt:∀x∈p++[],x.block<W.heap.size:=fun x hx=>hW0.lt x hx
 have hA':∀sp:Nat->Bool,(∀x∈p++[],sp x.block=true)->DataW.TrodAll enc P W' 0 sp true f.params.toList args.toList (s.fn H (ds++[])).args p:=fun sp hs=>by rw[hargs];refine Dx7 (DataW.TrodAll.respare (kids_rows hl hm) (fun t e=>slices_full_of P hz t e) (fun t ht=>by simpa using List.all_eq_true.1 hT t ht) hA fun x hx=>hs x (by simpa using hx)) fun x hx=>hB.same (hlt x (by simpa using hx))
 have hR:∀(b:Nat) (sp:Nat->Bool) (hd:Bool),DataW.TrodAll enc P W' b sp hd f.resultTypes.toList ((Value.bool true).resultList f.resultTypes.size) (s.fn H (ds++[])).results []:=fun b sp hd=>by rw[hres,hr];exact trodAll_cons_mk (shut_bool hb _) trodAll_mk0
 have hU:∀sp:Nat->Bool,DataW.TrodVars enc P W' sp s.vars (s.fn H (ds++[])).vars []:=fun sp=>by rw[hv,hvars];rfl
 have hold:∀x∈p++[],(fun b=>decide (b<W.heap.size)) x.block=true:=fun x hx=>by simpa using hlt x hx
 refine⟨ds,[],p++[],[],p,[],hW0,hR _ _ _,hA' _ hold,hU _,World.keptBut_mono (fun x hx=>⟨hx,?_⟩) (hB.frame (·∈p++[])),fun _=>?_⟩
 ·exact Or.inr (by simpa using hx)
 ·refine⟨ok_one hr rfl (okWide_bool_mk hb _),_,_,([]++p)++[],⟨[]++p,[],trodAll_append (hA' _ (fun _ _=>rfl)) (hR _ _ _),hU _,rfl,?_,?_⟩,?_⟩
  ·intro b off hx;rw[hB.frozen (hlt _ (by simpa using hx))];exact hfz b off (by simpa using hx)
  ·intro ha;simpa using hnd ha
  ·intro x hx _;simpa using hx
end
end Go.Sl
end
section
namespace Go.Proofs.YtienbkdjkjbelaaGreat
open Go.RowKit Go.Sl
section
variable{κ ν:Type}[DecidableEq κ]
theorem Dy7(k:κ)(v:ν)(l:List (κ×ν))(x:κ):j6 ((k,v)::l) x=if k=x then some v else j6 l x:=by
 unfold j6;rw[List.find?_cons];by_cases h:k=x
 ·rw[if_pos h];simp[h]
 ·rw[if_neg h];simp[h]
theorem Og7(l:List (κ×ν))(k x:κ):j6 (i9 l k) x=if x=k then none else j6 l x:=by
 by_cases h:x=k
 ·rw[if_pos h];refine Gn7 fun y hy=>?_
  have:=(List.mem_filter.1 hy).2;rw[h];simpa using this
 ·rw[if_neg h]
  induction l with
  | nil=>rfl
  | cons y l ih=>
   obtain⟨a,b⟩:=y;have e:i9 ((a,b)::l) k=if a=k then i9 l k else(a,b)::i9 l k:=by unfold i9;rw[List.filter_cons];by_cases hk:a=k <;> simp[hk]
   rw[e,Dy7];by_cases hk:a=k
   ·rw[if_pos hk,ih,if_neg (fun e=>h (e.symm.trans hk))]
   ·rw[if_neg hk,Dy7,ih]
theorem JI7(l:List (κ×ν))(k x:κ)(v:ν):j6 ((k,v)::i9 l k) x=if k=x then some v else j6 l x:=by
 rw[Dy7,Og7];by_cases h:k=x
 ·rw[if_pos h,if_pos h]
 ·rw[if_neg h,if_neg h,if_neg (fun e=>h e.symm)]
end
theorem Gz7{V:Vs}(h:A5 V=true):V=vs0:=by obtain⟨p,L,n⟩:=V;unfold A5 at h;simp only[jB,decide_eq_true_eq]at h;obtain⟨h1,h2,h3⟩:=h;rw[List.eq_nil_of_length_eq_zero h1,List.eq_nil_of_length_eq_zero h2,h3]
structure AlkE(C:Int->Prop)(k:ByteArray)(e f:Ec):Prop where
 v:atV e k=atV f k
 s:∀c,C c->j6 e.ss c=j6 f.ss c
 t:∀c q,C c->j6 e.ts (c,q)=j6 f.ts (c,q)
 a:∀c q,C c->j6 e.ar (c,q)=j6 f.ar (c,q)
def l6(l:List Opn)(e:Ec):Ec:=l.foldl (fun e o=>(B6 e o).2.2) e
def gX4(k:ByteArray)(l:List Opn):List Opn:=l.filter fun o=>decide (o.ak=k)
end Go.Proofs.YtienbkdjkjbelaaGreat
end
section
namespace Go.Sl
open Go.RowKit
section
variable{κ:Type}[DecidableEq κ]{P:Program}{K:TypeId}{kd:TypeDesc}{ek:κ->Value}
theorem CS7(heq:∀a b w,(Op.equal K (ek a) (ek b)).run P w=.ok (decide (a=b)) w)(k:κ):∀(l:List (κ×Value×Nat)) (i:Nat) (w:World),(Instr.findAsking K (ek k) (l.map (J9 ek)) i).run P w=.ok (bq4 k l i) w
 | [],_,_=>rfl
 | x::l,i,w=>by
  have e:(J9 ek x).key=ek x.1:=rfl;rw[List.map_cons,Instr.findAsking,e,bq4];simp only[Sem.run_bind,heq,Result.andThen_ok];by_cases hk:k=x.1
  ·rw[if_pos hk];simp[hk,J9]
  ·rw[if_neg hk];simp[hk];exact CS7 heq k l (i+1) w
theorem KeyOk.deep(hK:P.underlying K=some kd)(hsn:∀a b,Instr.sameNow kd (ek a) (ek b)=none)(hchk:∀e k w,(Instr.checkKey e 10000 K (ek k)).run P w=.ok () w)(heq:∀a b w,(Op.equal K (ek a) (ek b)).run P w=.ok (decide (a=b)) w)
  (hb:∀k,Instr.sameBits 10000 (ek k) (ek k)=true):KeyOk P K ek:=
 ⟨hchk,fun k l w=>by
  unfold Instr.findKey;simp only[Sem.run_bind,run_underlying hK,Result.andThen_ok]
  cases l with
  | nil=>rfl
  | cons x l=>
   have e:Instr.findNow kd (ek k) ((x::l).map (J9 ek)) 0=none:=by rw[List.map_cons,Instr.findNow];have:(J9 ek x).key=ek x.1:=rfl;rw[this,hsn]
   rw[e];exact CS7 heq k (x::l) 0 w,hb⟩
end
end Go.Sl
end
section
namespace Go.Sl
open Go.RowKit
section
variable{W w:World}{R A:List HP}
theorem Oh7{h:O8}{R:List HP}(hs:sats R h):sep (fun _=>True) (sats R) h:=⟨fun _=>false,trivial,by
 have:l8 (fun _=>false) h=h:=by funext b;rfl
 rw[this];exact hs⟩
theorem cX4:∀{A:List HP} {h:O8},sep (sats A) (sats R) h->sats (A++R) h
 | [],_,⟨_,_,h2⟩=>BK7 h2
 | _::_,_,hs=>AL7 (fun _ x=>x) (fun _ x=>cX4 x) (GK7 hs)
theorem cY4:∀{A:List HP} {h:O8},sats (A++R) h->sep (sats A) (sats R) h
 | [],_,hs=>Oh7 hs
 | _::_,_,hs=>Je7 (AL7 (fun _ x=>x) (fun _ x=>cY4 x) hs)
theorem St.openS(h:St W (sats A::R) w):St W (A++R) w:=⟨h.os,h.tape,h.output,cX4 h.sat⟩
theorem St.shutS(A:List HP)(h:St W (A++R) w):St W (sats A::R) w:=⟨h.os,h.tape,h.output,cY4 h.sat⟩
theorem Em7{L L':List HP}(hp:L.Perm L'):∀{h:O8},sats L h->sats L' h:=by
 induction hp with
 | nil=>exact fun h=>h
 | cons _ _ ih=>exact fun h=>AL7 (fun _ x=>x) (fun _ x=>ih x) h
 | swap _ _ _=>exact fun h=>Db7 h
 | trans _ _ i1 i2=>exact fun h=>i2 (i1 h)
end
section
variable{κ ν:Type}[DecidableEq κ]
theorem Bq7{k:κ}{v:ν}:∀{l:List (κ×ν)},(l.map (·.1)).Nodup->j6 l k=some v->l.Perm ((k,v)::i9 l k)
 | [],_,h=>(by cases h)
 | y::l,hn,h=>by
  rw[List.map_cons,List.nodup_cons]at hn;have e:i9 (y::l) k=if y.1=k then i9 l k else y::i9 l k:=by unfold i9;rw[List.filter_cons];by_cases hk:y.1=k <;> simp[hk]
  by_cases hk:y.1=k
  ·have h0:∀x∈l,x.1≠k:=fun x hx e=>hn.1 (List.mem_map.2 ⟨x,hx,e.trans hk.symm⟩)
   have hv:y=(k,v):=by
    have h2:=AE7 h
    rcases List.mem_cons.1 h2 with h2|h2
    ·exact h2.symm
    ·exact absurd rfl (h0 _ h2)
   rw[e,if_pos hk,By7 h0,hv]
  ·have h2:j6 l k=some v:=by
    unfold j6 at h ⊢;rw[List.find?_cons]at h;simpa[hk]using h
   rw[e,if_neg hk];exact((Bq7 hn.2 h2).cons y).trans (List.Perm.swap _ _ _)
end
end Go.Sl
namespace Go.Proofs.YtienbkdjkjbelaaGreat
open Go.RowKit Go.Sl
abbrev eN(b:Nat):Value:=.P b
abbrev eI(z:Int):Value:=.I z
abbrev eU(_:Unit):Value:=.bool true
abbrev eW(x:Int×Int):Value:=.agg #[.I x.1,.I x.2]
abbrev eSs(x:Int×Rpl):Value:=.agg #[.I x.1,.I x.2.err,.I x.2.id,.I x.2.has.x0,.I x.2.has.x1,.I x.2.has.x2,.I x.2.has.x3]
abbrev eTn(t:Tns):Value:=.agg #[.I t.client,.I t.seq,.string t.ak,.string t.aw,.string t.tk,.string t.tw,.I t.item,.I t.cnt]
abbrev Ev:=List (ByteArray×(Nat×Vs))
def j9(E:Ev):List (ByteArray×Nat):=E.map fun x=>(x.1,x.2.1)
def k9(E:Ev):List (ByteArray×Vs):=E.map fun x=>(x.1,x.2.2)
def I7(vb:Nat)(V:Vs):HP:=fun f=>∃mb bb:Nat,sats [blk vb [.map (some mb),.P bb,.I V.n] 215,d9 eS eP mb V.ps,x9 bb V.L V.n] f
def l9(E:Ev):HP:=sats (E.map fun x=>I7 x.2.1 x.2.2)
abbrev ecL(eb m1 m2 m3 m4:Nat)(E:Ev)(e:Ec)(R:List HP):List HP:=
 blk eb [.map (some m1),.map (some m2),.map (some m3),.map (some m4)] 112::d9 eS eN m1 (j9 E)::l9 E::d9 eI eSs m2 e.ss::d9 eW eTn m3 e.ts::d9 eW eU m4 e.ar::R
def ecP(eb:Nat)(e:Ec):HP:=fun f=>∃(m1 m2 m3 m4:Nat) (E:Ev),(k9 E).Perm e.vs/\sats (ecL eb m1 m2 m3 m4 E e []) f
section
variable{W w:World}{R L:List HP}{vb eb m1 m2 m3 m4:Nat}{V:Vs}{E E':Ev}{e:Ec}{k:ByteArray}
theorem bz4(h:St W (I7 vb V::R) w):∃mb bb,St W (w5 vb mb bb V.ps V.L V.n R) w:=by obtain⟨mb,h⟩:=St.ex h;obtain⟨bb,h⟩:=St.ex h;exact⟨mb,bb,h.openS⟩
theorem aI4{mb bb:Nat}(h:St W (w5 vb mb bb V.ps V.L V.n R) w):St W (I7 vb V::R) w:=
 St.mkEx mb (St.mkEx bb (St.shutS [_,_,_] h))
theorem cr4{x:ByteArray×(Nat×Vs)}(h:St W (l9 (x::E)::R) w):St W (I7 x.2.1 x.2.2::l9 E::R) w:=St.split h
theorem cs4{x:ByteArray×(Nat×Vs)}(h:St W (I7 x.2.1 x.2.2::l9 E::R) w):St W (l9 (x::E)::R) w:=St.join h
theorem bi4(hp:E.Perm E')(h:St W (l9 E::R) w):St W (l9 E'::R) w:=h.imp fun _=>Em7 (hp.map _)
theorem eW4(h:St W (ecP eb e::R) w):∃m1 m2 m3 m4 E,(k9 E).Perm e.vs/\St W (ecL eb m1 m2 m3 m4 E e R) w:=by obtain⟨m1,h⟩:=St.ex h;obtain⟨m2,h⟩:=St.ex h;obtain⟨m3,h⟩:=St.ex h;obtain⟨m4,h⟩:=St.ex h;obtain⟨E,h⟩:=St.ex h;obtain⟨hp,h⟩:=St.and h;exact⟨m1,m2,m3,m4,E,hp,h.openS⟩
theorem bu4(hp:(k9 E).Perm e.vs)(h:St W (ecL eb m1 m2 m3 m4 E e R) w):St W (ecP eb e::R) w:=
 St.mkEx m1 (St.mkEx m2 (St.mkEx m3 (St.mkEx m4 (St.mkEx E (St.mkAnd hp (St.shutS [_,_,_,_,_,_] h))))))
theorem AH7(E:Ev):(j9 E).map (·.1)=E.map (·.1):=by unfold j9;rw[List.map_map];rfl
theorem Bw7(E:Ev):(k9 E).map (·.1)=E.map (·.1):=by unfold k9;rw[List.map_map];rfl
theorem JJ7(E:Ev)(k:ByteArray):i9 (j9 E) k=j9 (i9 E k):=by unfold j9 i9;rw[List.filter_map];rfl
theorem Hy7(E:Ev)(k:ByteArray):i9 (k9 E) k=k9 (i9 E k):=by unfold k9 i9;rw[List.filter_map];rfl
theorem JK7{α β:Type}(f:α->β)(l:List (ByteArray×α))(k:ByteArray):j6 (l.map fun x=>(x.1,f x.2)) k=(j6 l k).map f:=by
 unfold j6;rw[List.find?_map];show((l.find? fun x=>decide (x.1=k)).map fun x=>(x.1,f x.2)).map (·.2)=_
 rw[Option.map_map,Option.map_map];rfl
theorem CL7(E:Ev)(k:ByteArray):j6 (j9 E) k=(j6 E k).map (·.1):=JK7 (fun x:Nat×Vs=>x.1) E k
theorem Hz7(E:Ev)(k:ByteArray):j6 (k9 E) k=(j6 E k).map (·.2):=JK7 (fun x:Nat×Vs=>x.2) E k
theorem Rf7(hn:(E.map (·.1)).Nodup)(hp:(k9 E).Perm e.vs)(k:ByteArray):j6 e.vs k=(j6 E k).map (·.2):=by rw[<-AF7 (by rw[Bw7];exact hn) hp k,Hz7]
end
theorem dr4(k u k2 u2:ByteArray)(d:Nat)(w:World):(Op.equalIn (d+2) 29 (.agg #[.string k,.string u]) (.agg #[.string k2,.string u2])).run Tryz.prog w=.ok (k.toList==k2.toList&&u.toList==u2.toList) w:=by
 have u9:=Tryz.underlying9;have a9:=Tryz.isAgg9;have z9:=Tryz.sizeOf9;have hs:Tryz.prog.stoodInHeld 29=false:=by kernel_rfl
 rw[Op.equalIn];simp only[Sem.run_bind,run_underlying Tryz.underlying29,Result.andThen_ok,run_program,hs,Bool.false_eq_true,if_false];rw[<-Array.forIn_toList];simp only[List.forIn_cons,List.forIn_nil]
 go_simp
 by_cases h1:k.toList=k2.toList <;> by_cases h2:u.toList=u2.toList <;> simp[h1,h2]
def Opn.eqB(o q:Opn):Bool:=
 decide (o.kind=q.kind)&&(decide (o.client=q.client)&&(decide (o.seq=q.seq)&&(decide (o.ak.toList=q.ak.toList)&&(decide (o.aw.toList=q.aw.toList)&&(decide (o.tk.toList=q.tk.toList)&&(decide (o.tw.toList=q.tw.toList) &&
  (decide (o.item=q.item)&&(decide (o.cnt=q.cnt)&&(decide (o.price=q.price)&&(decide (o.buy=q.buy)&&decide (o.id=q.id)))))))))))
theorem dQ4(o q:Opn)(w:World):(Op.equalIn 10000 234 (.agg o.cells.toArray) (.agg q.cells.toArray)).run Tryz.prog w=.ok (o.eqB q) w:=by
 have u9:=Tryz.underlying9;have a9:=Tryz.isAgg9;have z9:=Tryz.sizeOf9;have u3:=Tryz.underlying3;have a3:=Tryz.isAgg3;have z3:=Tryz.sizeOf3;have u4:=Tryz.underlying4;have a4:=Tryz.isAgg4;have z4:=Tryz.sizeOf4;have u5:=Tryz.underlying29;have a5:=Tryz.isAgg29;have z5:=Tryz.sizeOf29;have hp:=fun k u k2 u2 w=>dr4 k u k2 u2 9997 w
 have hs:Tryz.prog.stoodInHeld 234=false:=by kernel_rfl
 obtain⟨o0,o1,o2,o3,o4,o5,o6,o7,o8,o9,o10,o11⟩:=o;obtain⟨q0,q1,q2,q3,q4,q5,q6,q7,q8,q9,q10,q11⟩:=q;unfold Opn.eqB Opn.cells;dsimp only;rw[Op.equalIn];simp only[Sem.run_bind,run_underlying Tryz.underlying234,Result.andThen_ok,run_program,hs,Bool.false_eq_true,if_false];rw[<-Array.forIn_toList];simp only[List.forIn_cons,List.forIn_nil]
 go_simp
 by_cases h:o0=q0
 case neg=>simp[h]
 rw[if_pos h,decide_eq_true h,Bool.true_and];clear h;by_cases h:o1=q1
 case neg=>simp[h]
 rw[if_pos h,decide_eq_true h,Bool.true_and];clear h;by_cases h:o2=q2
 case neg=>simp[h]
 rw[if_pos h,decide_eq_true h,Bool.true_and];clear h;by_cases h:o3.toList=q3.toList
 case neg=>simp[h]
 by_cases h2:o4.toList=q4.toList
 case neg=>simp[h2]
 rw[if_neg (fun f=>f h h2),decide_eq_true h,decide_eq_true h2,Bool.true_and,Bool.true_and];clear h h2;by_cases h:o5.toList=q5.toList
 case neg=>simp[h]
 by_cases h2:o6.toList=q6.toList
 case neg=>simp[h2]
 rw[if_neg (fun f=>f h h2),decide_eq_true h,decide_eq_true h2,Bool.true_and,Bool.true_and];clear h h2;by_cases h:o7=q7
 case neg=>simp[h]
 rw[if_pos h,decide_eq_true h,Bool.true_and];clear h;by_cases h:o8=q8
 case neg=>simp[h]
 rw[if_pos h,decide_eq_true h,Bool.true_and];clear h;by_cases h:o9=q9
 case neg=>simp[h]
 rw[if_pos h,decide_eq_true h,Bool.true_and];clear h;by_cases h:o10=q10
 case neg=>simp[h]
 rw[if_pos h,decide_eq_true h,Bool.true_and];clear h;by_cases h:o11=q11 <;> simp[h]
theorem dR4(d:Nat)(x0 x1 x2 x3 y0 y1 y2 y3:Int)(w:World):(Op.equalIn (d+2) 34 (.agg #[.I x0,.I x1,.I x2,.I x3]) (.agg #[.I y0,.I y1,.I y2,.I y3])).run Tryz.prog w=.ok (x0==y0&&(x1==y1&&(x2==y2&&x3==y3))) w:=by
 have u3:=Tryz.underlying3;have a3:=Tryz.isAgg3;have z3:=Tryz.sizeOf3;rw[Op.equalIn];simp only[Sem.run_bind,run_underlying Tryz.underlying34,Result.andThen_ok];simp only[Std.Legacy.Range.forIn_eq_forIn_range',Std.Legacy.Range.size,Nat.sub_zero,Nat.add_sub_cancel,Nat.div_one,List.range'_succ,List.range'_zero,List.forIn_cons,List.forIn_nil]
 go_simp
 by_cases h1:x0=y0 <;> by_cases h2:x1=y1 <;> by_cases h3:x2=y2 <;> by_cases h4:x3=y3 <;> simp[h1,h2,h3,h4]
def Rpl.eqB(r q:Rpl):Bool:=decide (r.err=q.err)&&(decide (r.id=q.id)&&(r.has.x0==q.has.x0&&(r.has.x1==q.has.x1&&(r.has.x2==q.has.x2&&r.has.x3==q.has.x3))))
theorem fv4(r q:Rpl)(w:World):(Op.equalIn 10000 36 (.agg #[.I r.err,.I r.id,.I r.has.x0,.I r.has.x1,.I r.has.x2,.I r.has.x3]) (.agg #[.I q.err,.I q.id,.I q.has.x0,.I q.has.x1,.I q.has.x2,.I q.has.x3])).run Tryz.prog w=.ok (r.eqB q) w:=by
 have u3:=Tryz.underlying3;have a3:=Tryz.isAgg3;have z3:=Tryz.sizeOf3;have u4:=Tryz.underlying32;have a4:=Tryz.isAgg32;have z4:=Tryz.sizeOf32;have u5:=Tryz.underlying34;have a5:=Tryz.isAgg34;have z5:=Tryz.sizeOf34;have hp:=dR4 9997;have hs:Tryz.prog.stoodInHeld 36=false:=by kernel_rfl
 obtain⟨r0,r1,r2,r3,r4,r5⟩:=r;obtain⟨q0,q1,q2,q3,q4,q5⟩:=q;unfold Rpl.eqB;dsimp only;rw[Op.equalIn];simp only[Sem.run_bind,run_underlying Tryz.underlying36,Result.andThen_ok,run_program,hs,Bool.false_eq_true,if_false];rw[<-Array.forIn_toList];simp only[List.forIn_cons,List.forIn_nil]
 go_simp
 by_cases h:r0=q0
 case neg=>simp[h]
 rw[if_pos h,decide_eq_true h,Bool.true_and];clear h;by_cases h:r1=q1
 case neg=>simp[h]
 rw[if_pos h,decide_eq_true h,Bool.true_and];clear h;by_cases h1:r2=q2 <;> by_cases h2:r3=q3 <;> by_cases h3:r4=q4 <;> by_cases h4:r5=q5 <;> simp[h1,h2,h3,h4]
end Go.Proofs.YtienbkdjkjbelaaGreat
end
