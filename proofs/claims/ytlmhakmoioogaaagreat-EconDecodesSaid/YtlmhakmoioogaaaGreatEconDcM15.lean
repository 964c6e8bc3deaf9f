/-
  The vault's scripts.
-/
import Derived.Test.YtlmhakmoioogaaaGreatEconDcM4
import Derived.Test.YtlmhakmoioogaaaGreatEconDcM6
import Derived.Test.YtlmhakmoioogaaaGreatEconDcM14
import Derived.Laws.StructEq
set_option maxHeartbeats 16000000
set_option maxRecDepth 100000
set_option linter.unusedSimpArgs false
set_option linter.unusedVariables false
section
namespace Go.Sl
open Go.RowKit
section
variable{P:Program}{W:World}{L:List HP}{ops:Array Oper}{Q:Act->Prop}{a:Act}{rest:List Oper}{o:Oper}
theorem GJ7{t t2:TypeId}{x y:Operand}{xs ys:Array Value}{r:Bool}(ho:o.op=.binOp .eql t x y t2)(hg:Region.wanted o (yielded ops a.tmps)=true)(hx:a.eval x=.agg xs)(hy:a.eval y=.agg ys)(hm:P.eqGuardType P.depth t=false)(hr:∀w:World,(Op.equalIn 10000 t (.agg xs) (.agg ys)).run P w=.ok r w)
  (h:wpQuiet P ops (St W L) Q rest (a.put o.dst (.bool r))):wpQuiet P ops (St W L) Q (o::rest) a:=
 Hs7 hg (fun w _=>by unfold execOp;simp[ho,hx,hy,run_eqGuard_agg w .eql t x y xs ys hm,run_eql_struct,hr]) h
theorem Tj7{t t2:TypeId}{x y:Operand}{xs ys:Array Value}{r:Bool}(ho:o.op=.binOp .neq t x y t2)(hg:Region.wanted o (yielded ops a.tmps)=true)(hx:a.eval x=.agg xs)(hy:a.eval y=.agg ys)(hm:P.eqGuardType P.depth t=false)(hr:∀w:World,(Op.equalIn 10000 t (.agg xs) (.agg ys)).run P w=.ok r w)
  (h:wpQuiet P ops (St W L) Q rest (a.put o.dst (.bool (!r)))):wpQuiet P ops (St W L) Q (o::rest) a:=
 Hs7 hg (fun w _=>by unfold execOp;simp[ho,hx,hy,run_eqGuard_agg w .neq t x y xs ys hm,run_neq_struct,hr]) h
end
end Go.Sl
namespace Go.Proofs.YtlmhakmoioogaaaGreat
open Go.RowKit Go.Sl
structure VOk(p:Ps)(n:Int)(i:Nat):Prop where
 ok:P8 p
 w:PsW p (100*i)
 n0:1<=n
 n1:n<=1+i
theorem gh4:VOk [] 1 0:=⟨LG7,Oc7 _,by decide,by decide⟩
theorem VOk.on{p:Ps}{n:Int}{i:Nat}(h:VOk p n i):VOk p n (i+1):=⟨h.ok,AI7 h.w (by omega),h.n0,by have:=h.n1;omega⟩
section
variable(vb mb bb:Nat){p:Ps}{L:List Ord}{n:Int}{i:Nat}(W w:World)(R:List HP)
theorem Tk7(h:VOk p n i)(who:ByteArray)(it:It)(hS:St W (t8 vb mb bb p L n R) w):
  Calls Tryz.prog 102 #[.P vb,.string who,.agg it.cells.toArray] w fun e w'=>e=.returned (.I (bA4 p who it))/\VOk (aM4 p who it) n (i+1)/\St W (t8 vb mb bb (aM4 p who it) L n R) w':=by
 refine(PJ7 vb mb p who _ _ it W w _ hS).mono ?_;rintro e w' ⟨rfl,hS⟩;exact⟨rfl,⟨PX7 h.ok _ _,AI7 (RW7 h.w _ _) (by omega),h.n0,by have:=h.n1;omega⟩,hS⟩
theorem RY7(h:VOk p n i)(who:ByteArray)(it:It)(hS:St W (t8 vb mb bb p L n R) w):
  Calls Tryz.prog 104 #[.P vb,.string who,.agg it.cells.toArray] w fun e w'=>e=.returned (.I (J9 p who it))/\VOk (K6 p who it) n (i+1)/\St W (t8 vb mb bb (K6 p who it) L n R) w':=by
 refine(Gr7 vb mb p who _ _ it W w _ hS).mono ?_;rintro e w' ⟨rfl,hS⟩;exact⟨rfl,⟨GF7 h.ok _ _,AI7 (LJ7 h.w _ _) (by omega),h.n0,by have:=h.n1;omega⟩,hS⟩
theorem RZ7(h:VOk p n i)(o:Ord)(hS:St W (t8 vb mb bb p L n R) w):
  Calls Tryz.prog 105 #[.P vb,.agg o.cells.toArray] w fun e w'=>e=.returned (.tuple #[.I (P6 ⟨p,L,n⟩ o).1,.I (P6 ⟨p,L,n⟩ o).2.1]) /\
   VOk (P6 ⟨p,L,n⟩ o).2.2.ps (P6 ⟨p,L,n⟩ o).2.2.n (i+1)/\St W (t8 vb mb bb (P6 ⟨p,L,n⟩ o).2.2.ps (P6 ⟨p,L,n⟩ o).2.2.L (P6 ⟨p,L,n⟩ o).2.2.n R) w':=by
 have hll:=BP7 hS.drop.drop;have hmay:∀x∈L,MayP x:=fun x hx=>(By7 hS.drop.drop x hx).1
 refine(NX7 vb mb bb ⟨p,L,n⟩ o h.ok h.n0 W w R hS).mono ?_;rintro e w' ⟨rfl,hS⟩;have h1:=RU7 (V:=⟨p,L,n⟩) (o:=o) h.ok h.n0 hmay;have h2:=Tg7 (V:=⟨p,L,n⟩) (o:=o) h.w hmay hll
 have h3:(P6 ⟨p,L,n⟩ o).2.2.n<=n+1:=by
  unfold P6
  repeat' split
  all_goals dsimp only
  all_goals omega
 exact⟨rfl,⟨h1.1,AI7 h2 (by omega),h1.2,by have:=h.n1;omega⟩,hS⟩
theorem Sa7(h:VOk p n i)(who:ByteArray)(id:Int)(hS:St W (t8 vb mb bb p L n R) w):
  Calls Tryz.prog 106 #[.P vb,.string who,.I id] w fun e w'=>e=.returned (.I (P9 ⟨p,L,n⟩ who id).1) /\
   VOk (P9 ⟨p,L,n⟩ who id).2.ps n (i+1)/\St W (t8 vb mb bb (P9 ⟨p,L,n⟩ who id).2.ps (P9 ⟨p,L,n⟩ who id).2.L n R) w':=by
 have hmay:∀x∈L,MayP x:=fun x hx=>(By7 hS.drop.drop x hx).1
 refine(NY7 vb mb bb ⟨p,L,n⟩ who id h.ok W w R hS).mono ?_;rintro e w' ⟨rfl,hS⟩;have h1:=RV7 (V:=⟨p,L,n⟩) (who:=who) (id:=id) h.ok h.n0 hmay;have h2:=Th7 (V:=⟨p,L,n⟩) (who:=who) (id:=id) h.w hmay;have h3:(P9 ⟨p,L,n⟩ who id).2.n=n:=by unfold P9;split <;> rfl
 rw[h3]at hS;exact⟨rfl,⟨h1.1,AI7 h2 (by omega),h.n0,by have:=h.n1;omega⟩,hS⟩
theorem Tl7(u1 u2:Value){k:ByteArray}{x0 x1 x2 x3:Int}(hx:r6 p k=⟨x0,x1,x2,x3⟩)(hS:St W (blk vb [.map (some mb),u1,u2] 176::c8 eS eP mb p::R) w):
  Calls Tryz.prog 47 #[.P vb,.string k] w fun e w'=>e=.returned (.agg #[.I x0,.I x1,.I x2,.I x3])/\St W (blk vb [.map (some mb),u1,u2] 176::c8 eS eP mb p::R) w':=by
 refine(PI7 vb mb p k u1 u2 W w R hS).mono ?_;rw[hx];exact fun e w' h=>h
end
structure Opn where
 kind:Int
 client:Int
 seq:Int
 ak:ByteArray
 aw:ByteArray
 tk:ByteArray
 tw:ByteArray
 item:Int
 cnt:Int
 price:Int
 buy:Bool
 id:Int
def Opn.cells(o:Opn):List Value:=[.I o.kind,.I o.client,.I o.seq,.string o.ak,.string o.aw,.string o.tk,.string o.tw,.I o.item,.I o.cnt,.I o.price,.bool o.buy,.I o.id]
theorem Opn.len(o:Opn):o.cells.length=12:=rfl
structure Rpl where
 err:Int
 id:Int
 has:It
def Rpl.cells(r:Rpl):List Value:=.I r.err::.I r.id::r.has.cells
abbrev rp0:Rpl:=⟨0,0,it0⟩
structure Tns where
 client:Int
 seq:Int
 ak:ByteArray
 aw:ByteArray
 tk:ByteArray
 tw:ByteArray
 item:Int
 cnt:Int
def Tns.cells(t:Tns):List Value:=[.I t.client,.I t.seq,.string t.ak,.string t.aw,.string t.tk,.string t.tw,.I t.item,.I t.cnt]
theorem Tns.len(t:Tns):t.cells.length=8:=rfl
structure Ec where
 vs:List (ByteArray×Vs)
 ss:List (Int×(Int×Rpl))
 ts:List ((Int×Int)×Tns)
 ar:List ((Int×Int)×Unit)
abbrev ec0:Ec:=⟨[],[],[],[]⟩
abbrev vs0:Vs:=⟨[],[],1⟩
def noB(u:ByteArray):Bool:=decide (u.size=0)
def K7(o:Opn):Bool:=decide (0<=o.item)&&(decide (o.item<4)&&(decide (1<=o.cnt)&&decide (o.cnt<=1048576)))
def dA4(o:Opn):Bool:=noB o.tk&&(noB o.tw&&(decide (o.price=0)&&(!o.buy&&decide (o.id=0))))
def ax4(k u:ByteArray):Bool:=y5 k&&y5 u
def A7(o:Opn):Bool:=K7 o&&dA4 o
def ac4(o:Opn):Bool:=ax4 o.tk o.tw&&(K7 o&&(decide (o.price=0)&&(!o.buy&&decide (o.id=0))))
def M9(o:Opn):Bool:=decide (1<=o.item)&&(decide (1<=o.price)&&(decide (o.price<=1024)&&(K7 o&&(noB o.tk&&(noB o.tw&&decide (o.id=0))))))
def M6(o:Opn):Bool:=decide (1<=o.id)&&(decide (o.id<=1099511627776)&&(noB o.tk&&(noB o.tw&&(decide (o.item=0)&&(decide (o.cnt=0)&&(decide (o.price=0)&&!o.buy))))))
def ch4(o:Opn):Bool:=noB o.tk&&(noB o.tw&&(decide (o.item=0)&&(decide (o.cnt=0)&&(decide (o.price=0)&&(!o.buy&&decide (o.id=0))))))
def L8(o:Opn):Bool:=
 if o.kind=1 then A7 o else if o.kind=2 then ac4 o else if o.kind=3 then M9 o else if o.kind=4 then M6 o
 else if o.kind=5 then ch4 o else if o.kind=6 then A7 o else if o.kind=7 then ch4 o else false
def G6(o:Opn):Bool:=decide (1<=o.client)&&(decide (o.client<=1048576)&&(decide (1<=o.seq)&&(decide (o.seq<=1099511627776)&&ax4 o.ak o.aw)))
def A8(o:Opn):Bool:=G6 o&&L8 o
def au4(e:Ec)(o:Opn):Rpl×Bool:=
 if A8 o=false then(⟨1,0,it0⟩,true)
 else if o.kind=6 then(rp0,(p9 e.ar (o.client,o.seq)).isSome)
 else if o.kind=7 then(rp0,(p9 e.ts (o.client,o.seq)).isNone)
 else match p9 e.ss o.client with
  | none=>(rp0,false)
  | some (q,r)=>if o.seq<q then(⟨13,0,it0⟩,true)else if o.seq=q then(r,true)else(rp0,false)
def atV(e:Ec)(k:ByteArray):Vs:=(p9 e.vs k).getD vs0
def G9(V:Vs):Bool:=decide (V.ps.length=0)&&(decide (V.L.length=0)&&decide (V.n=1))
def cu4(e:Ec)(k:ByteArray)(V:Vs):Ec:={ e with vs:=if G9 V=true then l8 e.vs k else(k,V)::l8 e.vs k }
def P7(item n:Int):It:=bN4 it0 item n
def dd4(o:Opn):Tns:=⟨o.client,o.seq,o.ak,o.aw,o.tk,o.tw,o.item,o.cnt⟩
def ed4(o:Opn):Ord:=⟨0,o.aw,o.buy,o.item,o.cnt,o.price⟩
def doV(V:Vs)(o:Opn):Rpl×Vs:=
 if o.kind=1 then(⟨bA4 V.ps o.aw (P7 o.item o.cnt),0,it0⟩, { V with ps:=aM4 V.ps o.aw (P7 o.item o.cnt) })
 else if o.kind=2 then(⟨J9 V.ps o.aw (P7 o.item o.cnt),0,it0⟩, { V with ps:=K6 V.ps o.aw (P7 o.item o.cnt) })
 else if o.kind=3 then(⟨(P6 V (ed4 o)).2.1,(P6 V (ed4 o)).1,it0⟩,(P6 V (ed4 o)).2.2)
 else if o.kind=4 then(⟨(P9 V o.aw o.id).1,0,it0⟩,(P9 V o.aw o.id).2)
 else if o.kind=5 then(⟨0,0,r6 V.ps o.aw⟩,V)
 else if o.kind=6 then(rp0, { V with ps:=aM4 V.ps o.aw (P7 o.item o.cnt) })
 else(rp0,V)
def doT(e:Ec)(o:Opn)(r:Rpl):List ((Int×Int)×Tns):=
 if o.kind=2/\r.err=0 then((o.client,o.seq),dd4 o)::l8 e.ts (o.client,o.seq)
 else if o.kind=7 then l8 e.ts (o.client,o.seq)else e.ts
def doA(e:Ec)(o:Opn):List ((Int×Int)×Unit):=if o.kind=6 then((o.client,o.seq),())::l8 e.ar (o.client,o.seq)else e.ar
def doS(e:Ec)(o:Opn)(r:Rpl):List (Int×(Int×Rpl)):=if o.kind=6\/o.kind=7 then e.ss else(o.client,(o.seq,r))::l8 e.ss o.client
def bg4(e:Ec)(o:Opn):Rpl×Bool×Ec:=
 if(au4 e o).2=true then((au4 e o).1,false,e)
 else
  let r:=(doV (atV e o.ak) o).1
  (r,true, { cu4 e o.ak (doV (atV e o.ak) o).2 with ss:=doS e o r,ts:=doT e o r,ar:=doA e o })
section
variable{κ ν:Type}[DecidableEq κ]
theorem Od7(k:κ)(v:ν)(l:List (κ×ν))(x:κ):p9 ((k,v)::l) x=if k=x then some v else p9 l x:=by
 unfold p9;rw[List.find?_cons];by_cases h:k=x
 ·rw[if_pos h];simp[h]
 ·rw[if_neg h];simp[h]
end
theorem Qe7{V:Vs}(h:G9 V=true):V=vs0:=by obtain⟨p,L,n⟩:=V;unfold G9 at h;simp only[jB,decide_eq_true_eq]at h;obtain⟨h1,h2,h3⟩:=h;rw[List.eq_nil_of_length_eq_zero h1,List.eq_nil_of_length_eq_zero h2,h3]
structure AlkE(C:Int->Prop)(k:ByteArray)(e f:Ec):Prop where
 v:atV e k=atV f k
 s:∀c,C c->p9 e.ss c=p9 f.ss c
 t:∀c q,C c->p9 e.ts (c,q)=p9 f.ts (c,q)
 a:∀c q,C c->p9 e.ar (c,q)=p9 f.ar (c,q)
def cC4(l:List Opn)(e:Ec):Ec:=l.foldl (fun e o=>(bg4 e o).2.2) e
def gO4(k:ByteArray)(l:List Opn):List Opn:=l.filter fun o=>decide (o.ak=k)
end Go.Proofs.YtlmhakmoioogaaaGreat
end
section
namespace Go.Sl
open Go.RowKit
section
variable{κ:Type}[DecidableEq κ]{P:Program}{K:TypeId}{kd:TypeDesc}{ek:κ->Value}
theorem DY7(heq:∀a b w,(Op.equal K (ek a) (ek b)).run P w=.ok (decide (a=b)) w)(k:κ):∀(l:List (κ×Value×Nat)) (i:Nat) (w:World),(Instr.findAsking K (ek k) (l.map (L9 ek)) i).run P w=.ok (bu4 k l i) w
 | [],_,_=>rfl
 | x::l,i,w=>by
  have e:(L9 ek x).key=ek x.1:=rfl;rw[List.map_cons,Instr.findAsking,e,bu4];simp only[Sem.run_bind,heq,Result.andThen_ok];by_cases hk:k=x.1
  ·rw[if_pos hk];simp[hk,L9]
  ·rw[if_neg hk];simp[hk];exact DY7 heq k l (i+1) w
theorem KeyOk.deep(hK:P.underlying K=some kd)(hsn:∀a b,Instr.sameNow kd (ek a) (ek b)=none)(hchk:∀e k w,(Instr.checkKey e 10000 K (ek k)).run P w=.ok () w)(heq:∀a b w,(Op.equal K (ek a) (ek b)).run P w=.ok (decide (a=b)) w)
  (hb:∀k,Instr.sameBits 10000 (ek k) (ek k)=true):KeyOk P K ek:=
 ⟨hchk,fun k l w=>by
  unfold Instr.findKey;simp only[Sem.run_bind,run_underlying hK,Result.andThen_ok]
  cases l with
  | nil=>rfl
  | cons x l=>
   have e:Instr.findNow kd (ek k) ((x::l).map (L9 ek)) 0=none:=by rw[List.map_cons,Instr.findNow];have:(L9 ek x).key=ek x.1:=rfl;rw[this,hsn]
   rw[e];exact DY7 heq k (x::l) 0 w,hb⟩
end
end Go.Sl
end
section
namespace Go.Sl
open Go.RowKit
section
variable{W w:World}{R A:List HP}
theorem Qf7{h:R7}{R:List HP}(hs:sats R h):sep (fun _=>True) (sats R) h:=⟨fun _=>false,trivial,by
 have:w7 (fun _=>false) h=h:=by funext b;rfl
 rw[this];exact hs⟩
theorem de4:∀{A:List HP} {h:R7},sep (sats A) (sats R) h->sats (A++R) h
 | [],_,⟨_,_,h2⟩=>BZ7 h2
 | _::_,_,hs=>AU7 (fun _ x=>x) (fun _ x=>de4 x) (IF7 hs)
theorem df4:∀{A:List HP} {h:R7},sats (A++R) h->sep (sats A) (sats R) h
 | [],_,hs=>Qf7 hs
 | _::_,_,hs=>Lb7 (AU7 (fun _ x=>x) (fun _ x=>df4 x) hs)
theorem St.openS(h:St W (sats A::R) w):St W (A++R) w:=⟨h.os,h.tape,h.output,de4 h.sat⟩
theorem St.shutS(A:List HP)(h:St W (A++R) w):St W (sats A::R) w:=⟨h.os,h.tape,h.output,df4 h.sat⟩
theorem Fm7{L L':List HP}(hp:L.Perm L'):∀{h:R7},sats L h->sats L' h:=by
 induction hp with
 | nil=>exact fun h=>h
 | cons _ _ ih=>exact fun h=>AU7 (fun _ x=>x) (fun _ x=>ih x) h
 | swap _ _ _=>exact fun h=>DG7 h
 | trans _ _ i1 i2=>exact fun h=>i2 (i1 h)
end
section
variable{κ ν:Type}[DecidableEq κ]
theorem CX7{k:κ}{v:ν}:∀{l:List (κ×ν)},(l.map (·.1)).Nodup->p9 l k=some v->l.Perm ((k,v)::l8 l k)
 | [],_,h=>(by cases h)
 | y::l,hn,h=>by
  rw[List.map_cons,List.nodup_cons]at hn;have e:l8 (y::l) k=if y.1=k then l8 l k else y::l8 l k:=by unfold l8;rw[List.filter_cons];by_cases hk:y.1=k <;> simp[hk]
  by_cases hk:y.1=k
  ·have h0:∀x∈l,x.1≠k:=fun x hx e=>hn.1 (List.mem_map.2 ⟨x,hx,e.trans hk.symm⟩)
   have hv:y=(k,v):=by
    have h2:=Dn7 h
    rcases List.mem_cons.1 h2 with h2|h2
    ·exact h2.symm
    ·exact absurd rfl (h0 _ h2)
   rw[e,if_pos hk,Ec7 h0,hv]
  ·have h2:p9 l k=some v:=by
    unfold p9 at h ⊢;rw[List.find?_cons]at h;simpa[hk]using h
   rw[e,if_neg hk];exact((CX7 hn.2 h2).cons y).trans (List.Perm.swap _ _ _)
end
end Go.Sl
namespace Go.Proofs.YtlmhakmoioogaaaGreat
open Go.RowKit Go.Sl
abbrev eN(b:Nat):Value:=.P b
abbrev eI(z:Int):Value:=.I z
abbrev eU(_:Unit):Value:=.bool true
abbrev eW(x:Int×Int):Value:=.agg #[.I x.1,.I x.2]
abbrev eSs(x:Int×Rpl):Value:=.agg #[.I x.1,.I x.2.err,.I x.2.id,.I x.2.has.x0,.I x.2.has.x1,.I x.2.has.x2,.I x.2.has.x3]
abbrev eTn(t:Tns):Value:=.agg #[.I t.client,.I t.seq,.string t.ak,.string t.aw,.string t.tk,.string t.tw,.I t.item,.I t.cnt]
abbrev Ev:=List (ByteArray×(Nat×Vs))
def i8(E:Ev):List (ByteArray×Nat):=E.map fun x=>(x.1,x.2.1)
def m8(E:Ev):List (ByteArray×Vs):=E.map fun x=>(x.1,x.2.2)
def B5(vb:Nat)(V:Vs):HP:=fun f=>∃mb bb:Nat,sats [blk vb [.map (some mb),.P bb,.I V.n] 176,c8 eS eP mb V.ps,r7 bb V.L V.n] f
def j8(E:Ev):HP:=sats (E.map fun x=>B5 x.2.1 x.2.2)
abbrev ecL(eb m1 m2 m3 m4:Nat)(E:Ev)(e:Ec)(R:List HP):List HP:=
 blk eb [.map (some m1),.map (some m2),.map (some m3),.map (some m4)] 84::c8 eS eN m1 (i8 E)::j8 E::c8 eI eSs m2 e.ss::c8 eW eTn m3 e.ts::c8 eW eU m4 e.ar::R
def ecP(eb:Nat)(e:Ec):HP:=fun f=>∃(m1 m2 m3 m4:Nat) (E:Ev),(m8 E).Perm e.vs/\sats (ecL eb m1 m2 m3 m4 E e []) f
section
variable{W w:World}{R L:List HP}{vb eb m1 m2 m3 m4:Nat}{V:Vs}{E E':Ev}{e:Ec}{k:ByteArray}
theorem ay4(h:St W (B5 vb V::R) w):∃mb bb,St W (t8 vb mb bb V.ps V.L V.n R) w:=by obtain⟨mb,h⟩:=St.ex h;obtain⟨bb,h⟩:=St.ex h;exact⟨mb,bb,h.openS⟩
theorem J6{mb bb:Nat}(h:St W (t8 vb mb bb V.ps V.L V.n R) w):St W (B5 vb V::R) w:=
 St.mkEx mb (St.mkEx bb (St.shutS [_,_,_] h))
theorem bn4{x:ByteArray×(Nat×Vs)}(h:St W (j8 (x::E)::R) w):St W (B5 x.2.1 x.2.2::j8 E::R) w:=St.split h
theorem bo4{x:ByteArray×(Nat×Vs)}(h:St W (B5 x.2.1 x.2.2::j8 E::R) w):St W (j8 (x::E)::R) w:=St.join h
theorem aq4(hp:E.Perm E')(h:St W (j8 E::R) w):St W (j8 E'::R) w:=h.imp fun _=>Fm7 (hp.map _)
theorem cv4(h:St W (ecP eb e::R) w):∃m1 m2 m3 m4 E,(m8 E).Perm e.vs/\St W (ecL eb m1 m2 m3 m4 E e R) w:=by obtain⟨m1,h⟩:=St.ex h;obtain⟨m2,h⟩:=St.ex h;obtain⟨m3,h⟩:=St.ex h;obtain⟨m4,h⟩:=St.ex h;obtain⟨E,h⟩:=St.ex h;obtain⟨hp,h⟩:=St.and h;exact⟨m1,m2,m3,m4,E,hp,h.openS⟩
theorem R6(hp:(m8 E).Perm e.vs)(h:St W (ecL eb m1 m2 m3 m4 E e R) w):St W (ecP eb e::R) w:=
 St.mkEx m1 (St.mkEx m2 (St.mkEx m3 (St.mkEx m4 (St.mkEx E (St.mkAnd hp (St.shutS [_,_,_,_,_,_] h))))))
theorem Bb7(E:Ev):(i8 E).map (·.1)=E.map (·.1):=by unfold i8;rw[List.map_map];rfl
theorem Cg7(E:Ev):(m8 E).map (·.1)=E.map (·.1):=by unfold m8;rw[List.map_map];rfl
theorem Im7(E:Ev)(k:ByteArray):l8 (i8 E) k=i8 (l8 E k):=by unfold i8 l8;rw[List.filter_map];rfl
theorem GK7(E:Ev)(k:ByteArray):l8 (m8 E) k=m8 (l8 E k):=by unfold m8 l8;rw[List.filter_map];rfl
theorem LL7{α β:Type}(f:α->β)(l:List (ByteArray×α))(k:ByteArray):p9 (l.map fun x=>(x.1,f x.2)) k=(p9 l k).map f:=by
 unfold p9;rw[List.find?_map];show((l.find? fun x=>decide (x.1=k)).map fun x=>(x.1,f x.2)).map (·.2)=_
 rw[Option.map_map,Option.map_map];rfl
theorem CY7(E:Ev)(k:ByteArray):p9 (i8 E) k=(p9 E k).map (·.1):=LL7 (fun x:Nat×Vs=>x.1) E k
theorem Jw7(E:Ev)(k:ByteArray):p9 (m8 E) k=(p9 E k).map (·.2):=LL7 (fun x:Nat×Vs=>x.2) E k
theorem Tm7(hn:(E.map (·.1)).Nodup)(hp:(m8 E).Perm e.vs)(k:ByteArray):p9 e.vs k=(p9 E k).map (·.2):=by rw[<-CM7 (by rw[Cg7];exact hn) hp k,Jw7]
end
theorem cQ4(k u k2 u2:ByteArray)(d:Nat)(w:World):(Op.equalIn (d+2) 26 (.agg #[.string k,.string u]) (.agg #[.string k2,.string u2])).run Tryz.prog w=.ok (k.toList==k2.toList&&u.toList==u2.toList) w:=by
 have u9:=Tryz.underlying9;have a9:=Tryz.isAgg9;have z9:=Tryz.sizeOf9;have hs:Tryz.prog.stoodInHeld 26=false:=by kernel_rfl
 rw[Op.equalIn];simp only[Sem.run_bind,run_underlying Tryz.underlying26,Result.andThen_ok,run_program,hs,Bool.false_eq_true,if_false];rw[<-Array.forIn_toList];simp only[List.forIn_cons,List.forIn_nil]
 go_simp
 by_cases h1:k.toList=k2.toList <;> by_cases h2:u.toList=u2.toList <;> simp[h1,h2]
def Opn.eqB(o q:Opn):Bool:=
 decide (o.kind=q.kind)&&(decide (o.client=q.client)&&(decide (o.seq=q.seq)&&(decide (o.ak.toList=q.ak.toList)&&(decide (o.aw.toList=q.aw.toList)&&(decide (o.tk.toList=q.tk.toList)&&(decide (o.tw.toList=q.tw.toList) &&
  (decide (o.item=q.item)&&(decide (o.cnt=q.cnt)&&(decide (o.price=q.price)&&(decide (o.buy=q.buy)&&decide (o.id=q.id)))))))))))
theorem ee4(o q:Opn)(w:World):(Op.equalIn 10000 207 (.agg o.cells.toArray) (.agg q.cells.toArray)).run Tryz.prog w=.ok (o.eqB q) w:=by
 have u9:=Tryz.underlying9;have a9:=Tryz.isAgg9;have z9:=Tryz.sizeOf9;have u3:=Tryz.underlying3;have a3:=Tryz.isAgg3;have z3:=Tryz.sizeOf3;have u4:=Tryz.underlying4;have a4:=Tryz.isAgg4;have z4:=Tryz.sizeOf4;have u5:=Tryz.underlying26;have a5:=Tryz.isAgg26;have z5:=Tryz.sizeOf26;have hp:=fun k u k2 u2 w=>cQ4 k u k2 u2 9997 w
 have hs:Tryz.prog.stoodInHeld 207=false:=by kernel_rfl
 obtain⟨o0,o1,o2,o3,o4,o5,o6,o7,o8,o9,o10,o11⟩:=o;obtain⟨q0,q1,q2,q3,q4,q5,q6,q7,q8,q9,q10,q11⟩:=q;unfold Opn.eqB Opn.cells;dsimp only;rw[Op.equalIn];simp only[Sem.run_bind,run_underlying Tryz.underlying207,Result.andThen_ok,run_program,hs,Bool.false_eq_true,if_false];rw[<-Array.forIn_toList];simp only[List.forIn_cons,List.forIn_nil]
 go_simp
 by_cases h:o0=q0
 case neg=>simp[h]
 rw[if_pos h,decide_eq_true h,Bool.true_and];clear h;by_cases h:o1=q1
 case neg=>simp[h]
 rw[if_pos h,decide_eq_true h,Bool.true_and];clear h;by_cases h:o2=q2
 case neg=>simp[h]
 rw[if_pos h,decide_eq_true h,Bool.true_and];clear h;by_cases h:o3.toList=q3.toList
 case neg=>simp[h]
 by_cases h2:o4.toList=q4.toList
 case neg=>simp[h2]
 rw[if_neg (fun f=>f h h2),decide_eq_true h,decide_eq_true h2,Bool.true_and,Bool.true_and];clear h h2;by_cases h:o5.toList=q5.toList
 case neg=>simp[h]
 by_cases h2:o6.toList=q6.toList
 case neg=>simp[h2]
 rw[if_neg (fun f=>f h h2),decide_eq_true h,decide_eq_true h2,Bool.true_and,Bool.true_and];clear h h2;by_cases h:o7=q7
 case neg=>simp[h]
 rw[if_pos h,decide_eq_true h,Bool.true_and];clear h;by_cases h:o8=q8
 case neg=>simp[h]
 rw[if_pos h,decide_eq_true h,Bool.true_and];clear h;by_cases h:o9=q9
 case neg=>simp[h]
 rw[if_pos h,decide_eq_true h,Bool.true_and];clear h;by_cases h:o10=q10
 case neg=>simp[h]
 rw[if_pos h,decide_eq_true h,Bool.true_and];clear h;by_cases h:o11=q11 <;> simp[h]
theorem ef4(d:Nat)(x0 x1 x2 x3 y0 y1 y2 y3:Int)(w:World):(Op.equalIn (d+2) 29 (.agg #[.I x0,.I x1,.I x2,.I x3]) (.agg #[.I y0,.I y1,.I y2,.I y3])).run Tryz.prog w=.ok (x0==y0&&(x1==y1&&(x2==y2&&x3==y3))) w:=by
 have u3:=Tryz.underlying3;have a3:=Tryz.isAgg3;have z3:=Tryz.sizeOf3;rw[Op.equalIn];simp only[Sem.run_bind,run_underlying Tryz.underlying29,Result.andThen_ok];simp only[Std.Legacy.Range.forIn_eq_forIn_range',Std.Legacy.Range.size,Nat.sub_zero,Nat.add_sub_cancel,Nat.div_one,List.range'_succ,List.range'_zero,List.forIn_cons,List.forIn_nil]
 go_simp
 by_cases h1:x0=y0 <;> by_cases h2:x1=y1 <;> by_cases h3:x2=y2 <;> by_cases h4:x3=y3 <;> simp[h1,h2,h3,h4]
def Rpl.eqB(r q:Rpl):Bool:=decide (r.err=q.err)&&(decide (r.id=q.id)&&(r.has.x0==q.has.x0&&(r.has.x1==q.has.x1&&(r.has.x2==q.has.x2&&r.has.x3==q.has.x3))))
theorem fw4(r q:Rpl)(w:World):(Op.equalIn 10000 31 (.agg #[.I r.err,.I r.id,.I r.has.x0,.I r.has.x1,.I r.has.x2,.I r.has.x3]) (.agg #[.I q.err,.I q.id,.I q.has.x0,.I q.has.x1,.I q.has.x2,.I q.has.x3])).run Tryz.prog w=.ok (r.eqB q) w:=by
 have u3:=Tryz.underlying3;have a3:=Tryz.isAgg3;have z3:=Tryz.sizeOf3;have u4:=Tryz.underlying27;have a4:=Tryz.isAgg27;have z4:=Tryz.sizeOf27;have u5:=Tryz.underlying29;have a5:=Tryz.isAgg29;have z5:=Tryz.sizeOf29;have hp:=ef4 9997;have hs:Tryz.prog.stoodInHeld 31=false:=by kernel_rfl
 obtain⟨r0,r1,r2,r3,r4,r5⟩:=r;obtain⟨q0,q1,q2,q3,q4,q5⟩:=q;unfold Rpl.eqB;dsimp only;rw[Op.equalIn];simp only[Sem.run_bind,run_underlying Tryz.underlying31,Result.andThen_ok,run_program,hs,Bool.false_eq_true,if_false];rw[<-Array.forIn_toList];simp only[List.forIn_cons,List.forIn_nil]
 go_simp
 by_cases h:r0=q0
 case neg=>simp[h]
 rw[if_pos h,decide_eq_true h,Bool.true_and];clear h;by_cases h:r1=q1
 case neg=>simp[h]
 rw[if_pos h,decide_eq_true h,Bool.true_and];clear h;by_cases h1:r2=q2 <;> by_cases h2:r3=q3 <;> by_cases h3:r4=q4 <;> by_cases h4:r5=q5 <;> simp[h1,h2,h3,h4]
theorem Oe7(k u:ByteArray)(W w:World)(R:List HP)(hS:St W R w):
  Calls Tryz.prog 150 #[.agg #[.string k,.string u]] w fun e w'=>e=.returned (.bool (ax4 k u))/\St W R w':=by
 go_enter Tryz.func150,Tryz.ntmps150;by_cases h1:1<=k.size
 case neg=>
  have e:ax4 k u=false:=by unfold ax4 y5;simp;omega
  have d1:decide ((1:Int)<=(k.size:Int))=false:=by simp;omega
  rw[e];go_wp2_with(first|go_big_skip|refine zbx hS ?_;clear hS;intro b w hS|refine zl1 hS ?_);go_ret;exact⟨rfl,hS.drop⟩
 have d1:(1:Int)<=(k.size:Int):=by omega
 by_cases h2:k.size<=16
 case neg=>
  have e:ax4 k u=false:=by unfold ax4 y5;simp;omega
  have d2:decide ((k.size:Int)<=16)=false:=by simp;omega
  rw[e];go_wp2_with(first|go_big_skip|refine zbx hS ?_;clear hS;intro b w hS|refine zl1 hS ?_);go_ret;exact⟨rfl,hS.drop⟩
 have d2:(k.size:Int)<=16:=by omega
 by_cases h3:1<=u.size
 case neg=>
  have e:ax4 k u=false:=by unfold ax4 y5;simp;omega
  have d3:decide ((1:Int)<=(u.size:Int))=false:=by simp;omega
  rw[e];go_wp2_with(first|go_big_skip|refine zbx hS ?_;clear hS;intro b w hS|refine zl1 hS ?_);go_ret;exact⟨rfl,hS.drop⟩
 have d3:(1:Int)<=(u.size:Int):=by omega
 by_cases h4:u.size<=16
 case neg=>
  have e:ax4 k u=false:=by unfold ax4 y5;simp;omega
  have d4:decide ((u.size:Int)<=16)=false:=by simp;omega
  rw[e];go_wp2_with(first|refine zbx hS ?_;clear hS;intro b w hS|refine zl1 hS ?_);go_ret;exact⟨rfl,hS.drop⟩
 have d4:(u.size:Int)<=16:=by omega
 have e:ax4 k u=true:=by unfold ax4 y5;simp;omega
 rw[e];go_wp2_with(first|refine zbx hS ?_;clear hS;intro b w hS|refine zl1 hS ?_);go_ret;exact⟨rfl,hS.drop⟩
theorem CH7{k u:ByteArray}{r:Bool}(h:ax4 k u=r)(W w:World)(R:List HP)(hS:St W R w):
  Calls Tryz.prog 150 #[.agg #[.string k,.string u]] w fun e w'=>e=.returned (.bool r)/\St W R w':=h▸Oe7 k u W w R hS
abbrev oV(kd cl sq:Int)(ak aw tk tw:ByteArray)(it ct pr:Int)(bu:Bool)(i:Int):Value:=
 .agg #[.I kd,.I cl,.I sq,.string ak,.string aw,.string tk,.string tw,.I it,.I ct,.I pr,.bool bu,.I i]
section
variable(kd cl sq:Int)(ak aw tk tw:ByteArray)(it ct pr:Int)(bu:Bool)(i:Int)(W w:World)(R:List HP)
theorem GL7(hS:St W R w):
  Calls Tryz.prog 194 #[oV kd cl sq ak aw tk tw it ct pr bu i] w fun e w'=>e=.returned (oV 0 0 0 ⟨#[]⟩ ⟨#[]⟩ tk tw it ct pr bu i)/\St W R w':=by
 go_enter Tryz.func194,Tryz.ntmps194;go_wp2_with(first|(fail_if_success (have:=mA));(refine zbx hS ?_;clear hS;have mA:Nat:=0;intro bA w hS)|refine zal hS ?_;clear hS;intro b w hS|refine zs1 hS ?_;clear hS;intro w hS|refine zsN hS ?_;clear hS;intro w hS|refine zlN hS ?_);apply AH7;rfl;rfl;rfl;exact hS;decide +kernel;(exact x9);kernel_rfl;exact⟨rfl,hS.drop.drop⟩
end
theorem FU7(u:ByteArray):decide (u.toList=(⟨#[]⟩:ByteArray).toList)=noB u:=by
 rw[Lib.toList_data,Lib.toList_data];obtain⟨⟨l⟩⟩:=u
 cases l <;> simp[noB,ByteArray.size]
theorem Sb7(tk tw:ByteArray)(it ct pr:Int)(bu:Bool)(i:Int)(w:World):
  (Op.equalIn 10000 207 (oV 0 0 0 ⟨#[]⟩ ⟨#[]⟩ tk tw it ct pr bu i) (oV 0 0 0 ⟨#[]⟩ ⟨#[]⟩ ⟨#[]⟩ ⟨#[]⟩ it ct 0 false 0)).run Tryz.prog w=.ok (noB tk&&(noB tw&&(decide (pr=0)&&(!bu&&decide (i=0))))) w:=by
 have h:=ee4 ⟨0,0,0,⟨#[]⟩,⟨#[]⟩,tk,tw,it,ct,pr,bu,i⟩ ⟨0,0,0,⟨#[]⟩,⟨#[]⟩,⟨#[]⟩,⟨#[]⟩,it,ct,0,false,0⟩ w;refine h.trans ?_;unfold Opn.eqB;simp only[FU7,decide_true,Bool.true_and]
 cases bu <;> rfl
theorem Sc7(tk tw:ByteArray)(it ct pr:Int)(bu:Bool)(i:Int)(w:World):
  (Op.equalIn 10000 207 (oV 0 0 0 ⟨#[]⟩ ⟨#[]⟩ tk tw it ct pr bu i) (oV 0 0 0 ⟨#[]⟩ ⟨#[]⟩ ⟨#[]⟩ ⟨#[]⟩ 0 0 0 false 0)).run Tryz.prog w=.ok (noB tk&&(noB tw&&(decide (it=0)&&(decide (ct=0)&&(decide (pr=0)&&(!bu&&decide (i=0))))))) w:=by
 have h:=ee4 ⟨0,0,0,⟨#[]⟩,⟨#[]⟩,tk,tw,it,ct,pr,bu,i⟩ ⟨0,0,0,⟨#[]⟩,⟨#[]⟩,⟨#[]⟩,⟨#[]⟩,0,0,0,false,0⟩ w;refine h.trans ?_;unfold Opn.eqB;simp only[FU7,decide_true,Bool.true_and]
 cases bu <;> rfl
theorem fx4(tk tw:ByteArray)(it ct pr:Int)(bu:Bool)(i:Int)(w:World):
  (Op.equalIn 10000 207 (oV 0 0 0 ⟨#[]⟩ ⟨#[]⟩ tk tw it ct pr bu i) (oV 0 0 0 ⟨#[]⟩ ⟨#[]⟩ ⟨#[]⟩ ⟨#[]⟩ 0 0 0 false i)).run Tryz.prog w=.ok (noB tk&&(noB tw&&(decide (it=0)&&(decide (ct=0)&&(decide (pr=0)&&!bu))))) w:=by
 have h:=ee4 ⟨0,0,0,⟨#[]⟩,⟨#[]⟩,tk,tw,it,ct,pr,bu,i⟩ ⟨0,0,0,⟨#[]⟩,⟨#[]⟩,⟨#[]⟩,⟨#[]⟩,0,0,0,false,i⟩ w;refine h.trans ?_;unfold Opn.eqB;simp only[FU7,decide_true,Bool.true_and,Bool.and_true]
 cases bu <;> rfl
section
variable(kd cl sq:Int)(ak aw tk tw:ByteArray)(it ct pr:Int)(bu:Bool)(i:Int)(W w:World)(R:List HP)
theorem Ed7(hS:St W R w):
  Calls Tryz.prog 145 #[oV kd cl sq ak aw tk tw it ct pr bu i] w fun e w'=>e=.returned (.bool (A7 ⟨kd,cl,sq,ak,aw,tk,tw,it,ct,pr,bu,i⟩))/\St W R w':=by
 go_enter Tryz.func145,Tryz.ntmps145;by_cases h1:0<=it
 case neg=>
  have e:A7 ⟨kd,cl,sq,ak,aw,tk,tw,it,ct,pr,bu,i⟩=false:=by unfold A7 K7;simp;omega
  have d1:decide (0<=it)=false:=by simpa using h1
  rw[e];go_wp2_with(first|refine zbx hS ?_;clear hS;intro b w hS);refine Aa7 (by kernel_rfl) (by kernel_rfl) hS ?_
  repeat(first|go_big_quiet_skip|refine zq1 ?_|refine qR ?_)
  clear hS;intro w hS;go_wp2_with fail;go_ret;exact⟨by rfl,hS.drop⟩
 by_cases h2:it<4
 case neg=>
  have e:A7 ⟨kd,cl,sq,ak,aw,tk,tw,it,ct,pr,bu,i⟩=false:=by unfold A7 K7;simp;omega
  have d2:decide (it<4)=false:=by simpa using h2
  rw[e];go_wp2_with(first|refine zbx hS ?_;clear hS;intro b w hS);refine Aa7 (by kernel_rfl) (by kernel_rfl) hS ?_
  repeat(first|go_big_quiet_skip|refine zq1 ?_|refine qR ?_)
  clear hS;intro w hS;go_wp2_with fail;go_ret;exact⟨by rfl,hS.drop⟩
 by_cases h3:1<=ct
 case neg=>
  have e:A7 ⟨kd,cl,sq,ak,aw,tk,tw,it,ct,pr,bu,i⟩=false:=by unfold A7 K7;simp;omega
  have d3:decide (1<=ct)=false:=by simpa using h3
  rw[e];go_wp2_with(first|refine zbx hS ?_;clear hS;intro b w hS);refine Aa7 (by kernel_rfl) (by kernel_rfl) hS ?_
  repeat(first|go_big_quiet_skip|refine zq1 ?_|refine qR ?_)
  clear hS;intro w hS;go_wp2_with fail;go_ret;exact⟨by rfl,hS.drop⟩
 by_cases h4:ct<=1048576
 case neg=>
  have e:A7 ⟨kd,cl,sq,ak,aw,tk,tw,it,ct,pr,bu,i⟩=false:=by unfold A7 K7;simp;omega
  have d4:decide (ct<=1048576)=false:=by simpa using h4
  rw[e];go_wp2_with(first|refine zbx hS ?_;clear hS;intro b w hS);refine Aa7 (by kernel_rfl) (by kernel_rfl) hS ?_
  repeat(first|go_big_quiet_skip|refine zq1 ?_|refine qR ?_)
  clear hS;intro w hS;go_wp2_with fail;go_ret;exact⟨by rfl,hS.drop⟩
 have e:A7 ⟨kd,cl,sq,ak,aw,tk,tw,it,ct,pr,bu,i⟩=(noB tk&&(noB tw&&(decide (pr=0)&&(!bu&&decide (i=0))))):=by unfold A7 K7 dA4;simp[h1,h2,h3,h4]
 rw[e];go_wp2_with(first|refine zbx hS ?_;clear hS;intro b w hS);refine Aa7 (by kernel_rfl) (by kernel_rfl) hS ?_
 repeat(first|refine zq1 ?_|refine zqN ?_|apply Ag7;rfl;intro w;apply Ad7;rfl;decide +kernel;(focus(simp only[fD,fI,fJ,Act.eval,fE,fF,fG,fH,fK];try rfl));intro w hS;exact GL7 _ _ _ _ _ _ _ _ _ _ _ _ W w _ hS;refine frS ?_|(with_reducible apply GJ7);rfl;rfl;rfl;rfl;kernel_rfl;exact Sb7 tk tw it ct pr bu i;refine frS ?_|refine qR ?_)
 clear hS;intro w hS;go_wp2_with fail;go_ret;exact⟨by rfl,hS.drop⟩
end
end Go.Proofs.YtlmhakmoioogaaaGreat
end
section
namespace Go.Sl
open Go.RowKit
section
variable{P:Program}{a:Act}{o:Oper}
theorem Bz7{x:Operand}{f:FuncId}{xs:Array Operand}{ats:Array TypeId}{args:Array Value}(w:World)(ho:o.op=.call { callee:=.value x,args:=xs,argTypes:=ats })(hf:a.eval x=.func (.func f) #[] #[])(hb:T6 P f=true)(hx:xs.map a.eval=args):
  (execOp a.eval o).run P w=.ok (.enter f args) w:=by
 unfold execOp;simp only[ho,resolve,Sem.run_bind,hf,Deferred.ofValue,hx,Sem.run_pure,Result.andThen_ok];simp[invoke,BL7 hb]
end
section
variable{P:Program}{ops:Array Oper}{Q:Exit->Act->World->Prop}{a:Act}{w:World}{rest:List Oper}{o:Oper}
def dt4:Value->Option Bool
 | .nilFunc=>some true
 | .func _ _ _=>some false
 | _=>none
theorem CR7{t t2:TypeId}{ps rs:Array TypeId}{vd:Bool}{x y:Operand}{v:Value}{r:Bool}(ho:o.op=.binOp .eql t x y t2)(hg:Region.wanted o (yielded ops a.tmps)=true)(hx:a.eval x=v)(hy:a.eval y=.nilFunc)(hv:dt4 v=some r)(ht:P.underlying t=some (.func ps rs vd))
  (h:wpList P ops Q rest (a.put o.dst (.bool r)) w):wpList P ops Q (o::rest) a w:=by
 refine Ak7 hg (v:=.bool r) (w':=w) ?_ h
 have h1:(binOp .eql t v .nilFunc).run P w=.ok (.bool r) w:=by
  have h:∀d:Nat,(Op.equalIn (d+1) t v .nilFunc).run P w=.ok r w:=fun d=>by
   cases v <;> simp only[dt4,Option.some.injEq,reduceCtorEq]at hv
   all_goals
    subst hv;simp[Op.equalIn,run_underlying ht]
  cases v <;> simp only[dt4,Option.some.injEq,reduceCtorEq]at hv
  all_goals
   simp only[binOp];simp[Op.equal,Op.maxDepth,h 9999]
 unfold execOp;simp[ho,hx,hy,eqGuard,h1]
end
end Go.Sl
namespace Go.Proofs.YtlmhakmoioogaaaGreat
open Go.RowKit Go.Sl
section
variable{kd cl sq:Int}{ak aw tk tw:ByteArray}{it ct pr:Int}{bu:Bool}{i:Int}{r:Bool}
theorem Jx7(h:A7 ⟨kd,cl,sq,ak,aw,tk,tw,it,ct,pr,bu,i⟩=r)(W w:World)(R:List HP)(hS:St W R w):
  Calls Tryz.prog 145 #[oV kd cl sq ak aw tk tw it ct pr bu i] w fun e w'=>e=.returned (.bool r)/\St W R w':=h▸Ed7 kd cl sq ak aw tk tw it ct pr bu i W w R hS
end
section
variable(kd cl sq:Int)(ak aw tk tw:ByteArray)(it ct pr:Int)(bu:Bool)(i:Int)(W w:World)(R:List HP)
theorem MR7(hS:St W R w):
  Calls Tryz.prog 146 #[oV kd cl sq ak aw tk tw it ct pr bu i] w fun e w'=>e=.returned (.bool (ac4 ⟨kd,cl,sq,ak,aw,tk,tw,it,ct,pr,bu,i⟩))/\St W R w':=by
 go_enter Tryz.func146,Tryz.ntmps146;have hc:A7 ⟨kd,cl,sq,ak,aw,⟨#[]⟩,⟨#[]⟩,it,ct,pr,bu,i⟩=(K7 ⟨kd,cl,sq,ak,aw,tk,tw,it,ct,pr,bu,i⟩&&(decide (pr=0)&&(!bu&&decide (i=0)))):=rfl
 cases hp:ax4 tk tw with
 | false=>
  have e:ac4 ⟨kd,cl,sq,ak,aw,tk,tw,it,ct,pr,bu,i⟩=false:=by unfold ac4;rw[hp];rfl
  rw[e];go_wp2_with(first|go_big_skip|refine zbx hS ?_;clear hS;intro b w hS|refine zal hS ?_;clear hS;intro b w hS|refine zlN hS ?_|refine zlN hS ?_ (vs:=[.string tk,.string tw]) (hc:=by first|exact d7.here rfl|exact d7.there (d7.here rfl))|refine zsN hS ?_;clear hS;intro w hS|go_at_call 150;refine(CH7 hp W _ _ hS).mono ?_;clear hS;rintro e w ⟨rfl,hS⟩);go_ret;exact⟨rfl,hS.drop.drop⟩
 | true=>
  have e:ac4 ⟨kd,cl,sq,ak,aw,tk,tw,it,ct,pr,bu,i⟩=(K7 ⟨kd,cl,sq,ak,aw,tk,tw,it,ct,pr,bu,i⟩&&(decide (pr=0)&&(!bu&&decide (i=0)))):=by unfold ac4;rw[hp];rfl
  rw[e];go_wp2_with(first|refine zbx hS ?_;clear hS;intro b w hS|refine zal hS ?_;clear hS;intro b w hS|refine zlN hS ?_|refine zlN hS ?_ (vs:=[.string tk,.string tw]) (hc:=by first|exact d7.here rfl|exact d7.there (d7.here rfl))|refine zsN hS ?_;clear hS;intro w hS|go_at_call 150;refine(CH7 hp W _ _ hS).mono ?_;clear hS;rintro e w ⟨rfl,hS⟩|go_at_call 145;refine(Jx7 hc W _ _ hS).mono ?_;clear hS;rintro e w ⟨rfl,hS⟩);go_ret;exact⟨rfl,hS.drop.drop⟩
theorem Ky7(hS:St W R w):
  Calls Tryz.prog 147 #[oV kd cl sq ak aw tk tw it ct pr bu i] w fun e w'=>e=.returned (.bool (M9 ⟨kd,cl,sq,ak,aw,tk,tw,it,ct,pr,bu,i⟩))/\St W R w':=by
 go_enter Tryz.func147,Tryz.ntmps147;have hc:A7 ⟨kd,cl,sq,ak,aw,tk,tw,it,ct,0,false,i⟩=(K7 ⟨kd,cl,sq,ak,aw,tk,tw,it,ct,pr,bu,i⟩&&(noB tk&&(noB tw&&decide (i=0)))):=by unfold A7 dA4;simp[K7]
 by_cases h1:1<=it
 case neg=>
  have e:M9 ⟨kd,cl,sq,ak,aw,tk,tw,it,ct,pr,bu,i⟩=false:=by unfold M9;simp[h1]
  have d1:decide (1<=it)=false:=by simpa using h1
  rw[e];go_wp2_with(first|go_big_skip|refine zbx hS ?_;clear hS;intro b w hS|refine zl1 hS ?_|refine zs1 hS ?_;clear hS;intro w hS);go_ret;exact⟨rfl,hS.drop⟩
 by_cases h2:1<=pr
 case neg=>
  have e:M9 ⟨kd,cl,sq,ak,aw,tk,tw,it,ct,pr,bu,i⟩=false:=by unfold M9;simp[h2]
  have d2:decide (1<=pr)=false:=by simpa using h2
  rw[e];go_wp2_with(first|go_big_skip|refine zbx hS ?_;clear hS;intro b w hS|refine zl1 hS ?_|refine zs1 hS ?_;clear hS;intro w hS);go_ret;exact⟨rfl,hS.drop⟩
 by_cases h3:pr<=1024
 case neg=>
  have e:M9 ⟨kd,cl,sq,ak,aw,tk,tw,it,ct,pr,bu,i⟩=false:=by unfold M9;simp[h3]
  have d3:decide (pr<=1024)=false:=by simpa using h3
  rw[e];go_wp2_with(first|go_big_skip|refine zbx hS ?_;clear hS;intro b w hS|refine zl1 hS ?_|refine zs1 hS ?_;clear hS;intro w hS);go_ret;exact⟨rfl,hS.drop⟩
 have e:M9 ⟨kd,cl,sq,ak,aw,tk,tw,it,ct,pr,bu,i⟩=(K7 ⟨kd,cl,sq,ak,aw,tk,tw,it,ct,pr,bu,i⟩&&(noB tk&&(noB tw&&decide (i=0)))):=by unfold M9;simp[h1,h2,h3]
 rw[e];go_wp2_with(first|refine zbx hS ?_;clear hS;intro b w hS|refine zl1 hS ?_|refine zlN hS ?_|refine zs1 hS ?_;clear hS;intro w hS|go_at_call 145;refine(Jx7 hc W _ _ hS).mono ?_;clear hS;rintro e w ⟨rfl,hS⟩);go_ret;exact⟨rfl,hS.drop⟩
theorem Jy7(hS:St W R w):
  Calls Tryz.prog 148 #[oV kd cl sq ak aw tk tw it ct pr bu i] w fun e w'=>e=.returned (.bool (M6 ⟨kd,cl,sq,ak,aw,tk,tw,it,ct,pr,bu,i⟩))/\St W R w':=by
 go_enter Tryz.func148,Tryz.ntmps148;by_cases h1:1<=i
 case neg=>
  have e:M6 ⟨kd,cl,sq,ak,aw,tk,tw,it,ct,pr,bu,i⟩=false:=by unfold M6;simp[h1]
  have d1:decide (1<=i)=false:=by simpa using h1
  rw[e];go_wp2_with(first|refine zbx hS ?_;clear hS;intro b w hS);refine Aa7 (by kernel_rfl) (by kernel_rfl) hS ?_
  repeat(first|go_big_quiet_skip|refine zq1 ?_|refine qR ?_)
  clear hS;intro w hS;go_wp2_with fail;go_ret;exact⟨rfl,hS.drop⟩
 by_cases h2:i<=1099511627776
 case neg=>
  have e:M6 ⟨kd,cl,sq,ak,aw,tk,tw,it,ct,pr,bu,i⟩=false:=by unfold M6;simp[h2]
  have d2:decide (i<=1099511627776)=false:=by simpa using h2
  rw[e];go_wp2_with(first|refine zbx hS ?_;clear hS;intro b w hS);refine Aa7 (by kernel_rfl) (by kernel_rfl) hS ?_
  repeat(first|go_big_quiet_skip|refine zq1 ?_|refine qR ?_)
  clear hS;intro w hS;go_wp2_with fail;go_ret;exact⟨rfl,hS.drop⟩
 have e:M6 ⟨kd,cl,sq,ak,aw,tk,tw,it,ct,pr,bu,i⟩=(noB tk&&(noB tw&&(decide (it=0)&&(decide (ct=0)&&(decide (pr=0)&&!bu))))):=by unfold M6;simp[h1,h2]
 rw[e];go_wp2_with(first|refine zbx hS ?_;clear hS;intro b w hS);refine Aa7 (by kernel_rfl) (by kernel_rfl) hS ?_
 repeat(first|refine zq1 ?_|refine zqN ?_|apply Ag7;rfl;intro w;apply Ad7;rfl;decide +kernel;(focus(simp only[fD,fI,fJ,Act.eval,fE,fF,fG,fH,fK];try rfl));intro w hS;exact GL7 _ _ _ _ _ _ _ _ _ _ _ _ W w _ hS;refine frS ?_|(with_reducible apply GJ7);rfl;rfl;rfl;rfl;kernel_rfl;exact fx4 tk tw it ct pr bu i;refine frS ?_|refine qR ?_)
 clear hS;intro w hS;go_wp2_with fail;go_ret;exact⟨rfl,hS.drop⟩
theorem Jz7(hS:St W R w):
  Calls Tryz.prog 149 #[oV kd cl sq ak aw tk tw it ct pr bu i] w fun e w'=>e=.returned (.bool (ch4 ⟨kd,cl,sq,ak,aw,tk,tw,it,ct,pr,bu,i⟩))/\St W R w':=by
 go_enter Tryz.func149,Tryz.ntmps149;go_wp2_with(first|refine zbx hS ?_;clear hS;intro b w hS|refine zlN hS ?_|go_at_call 194;refine(GL7 kd cl sq ak aw tk tw it ct pr bu i W _ _ hS).mono ?_;clear hS;rintro e w ⟨rfl,hS⟩|(with_reducible apply Dh7);rfl;rfl;rfl;rfl;kernel_rfl;exact Sc7 tk tw it ct pr bu i;refine frS ?_);go_ret;exact⟨rfl,hS.drop⟩
end
end Go.Proofs.YtlmhakmoioogaaaGreat
end
