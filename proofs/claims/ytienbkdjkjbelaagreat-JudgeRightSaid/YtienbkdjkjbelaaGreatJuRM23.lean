/-
  What is done at one key changes nothing that another key has.
-/
import Derived.Test.YtienbkdjkjbelaaGreatJuRM5
import Derived.Test.YtienbkdjkjbelaaGreatJuRM8
import Derived.Test.YtienbkdjkjbelaaGreatJuRM22
import Derived.Laws.StructEq
set_option maxHeartbeats 16000000
set_option maxRecDepth 100000
set_option linter.unusedSimpArgs false
set_option linter.unusedVariables false
section
namespace Go.Proofs.YtienbkdjkjbelaaGreat
open Go.RowKit Go.Sl
section
variable{κ ν:Type}[DecidableEq κ]
theorem Df7(k:κ)(v:ν)(l:List (κ×ν))(x:κ):j5 ((k,v)::l) x=if k=x then some v else j5 l x:=by
 unfold j5;rw[List.find?_cons];by_cases h:k=x
 ·rw[if_pos h];simp[h]
 ·rw[if_neg h];simp[h]
theorem LZ7(l:List (κ×ν))(k x:κ):j5 (i9 l k) x=if x=k then none else j5 l x:=by
 by_cases h:x=k
 ·rw[if_pos h];refine Fx7 fun y hy=>?_
  have:=(List.mem_filter.1 hy).2;rw[h];simpa using this
 ·rw[if_neg h]
  induction l with
  | nil=>rfl
  | cons y l ih=>
   obtain⟨a,b⟩:=y;have e:i9 ((a,b)::l) k=if a=k then i9 l k else(a,b)::i9 l k:=by unfold i9;rw[List.filter_cons];by_cases hk:a=k <;> simp[hk]
   rw[e,Df7];by_cases hk:a=k
   ·rw[if_pos hk,ih,if_neg (fun e=>h (e.symm.trans hk))]
   ·rw[if_neg hk,Df7,ih]
theorem FJ7(l:List (κ×ν))(k x:κ)(v:ν):j5 ((k,v)::i9 l k) x=if k=x then some v else j5 l x:=by
 rw[Df7,LZ7];by_cases h:k=x
 ·rw[if_pos h,if_pos h]
 ·rw[if_neg h,if_neg h,if_neg (fun e=>h e.symm)]
end
theorem Ma7{V:Vs}(h:w7 V=true):V=vs0:=by obtain⟨p,L,n⟩:=V;unfold w7 at h;simp only[jB,decide_eq_true_eq]at h;obtain⟨h1,h2,h3⟩:=h;rw[List.eq_nil_of_length_eq_zero h1,List.eq_nil_of_length_eq_zero h2,h3]
structure AlkE(C:Int->Prop)(k:ByteArray)(e f:Ec):Prop where
 v:atV e k=atV f k
 s:∀c,C c->j5 e.ss c=j5 f.ss c
 t:∀c q,C c->j5 e.ts (c,q)=j5 f.ts (c,q)
 a:∀c q,C c->j5 e.ar (c,q)=j5 f.ar (c,q)
def A8(l:List Opn)(e:Ec):Ec:=l.foldl (fun e o=>(p8 e o).2.2) e
def ge4(k:ByteArray)(l:List Opn):List Opn:=l.filter fun o=>decide (o.ak=k)
end Go.Proofs.YtienbkdjkjbelaaGreat
end
section
namespace Go.Sl
open Go.RowKit
section
variable{κ:Type}[DecidableEq κ]{P:Program}{K:TypeId}{kd:TypeDesc}{ek:κ->Value}
theorem CB7(heq:∀a b w,(Op.equal K (ek a) (ek b)).run P w=.ok (decide (a=b)) w)(k:κ):∀(l:List (κ×Value×Nat)) (i:Nat) (w:World),(Instr.findAsking K (ek k) (l.map (I7 ek)) i).run P w=.ok (aN4 k l i) w
 | [],_,_=>rfl
 | x::l,i,w=>by
  have e:(I7 ek x).key=ek x.1:=rfl;rw[List.map_cons,Instr.findAsking,e,aN4];simp only[Sem.run_bind,heq,Result.andThen_ok];by_cases hk:k=x.1
  ·rw[if_pos hk];simp[hk,I7]
  ·rw[if_neg hk];simp[hk];exact CB7 heq k l (i+1) w
theorem KeyOk.deep(hK:P.underlying K=some kd)(hsn:∀a b,Instr.sameNow kd (ek a) (ek b)=none)(hchk:∀e k w,(Instr.checkKey e 10000 K (ek k)).run P w=.ok () w)(heq:∀a b w,(Op.equal K (ek a) (ek b)).run P w=.ok (decide (a=b)) w)
  (hb:∀k,Instr.sameBits 10000 (ek k) (ek k)=true):KeyOk P K ek:=
 ⟨hchk,fun k l w=>by
  unfold Instr.findKey;simp only[Sem.run_bind,run_underlying hK,Result.andThen_ok]
  cases l with
  | nil=>rfl
  | cons x l=>
   have e:Instr.findNow kd (ek k) ((x::l).map (I7 ek)) 0=none:=by rw[List.map_cons,Instr.findNow];have:(I7 ek x).key=ek x.1:=rfl;rw[this,hsn]
   rw[e];exact CB7 heq k (x::l) 0 w,hb⟩
end
end Go.Sl
end
section
namespace Go.Sl
open Go.RowKit
section
variable{W w:World}{R A:List HP}
theorem Mb7{h:M9}{R:List HP}(hs:sats R h):sep (fun _=>True) (sats R) h:=⟨fun _=>false,trivial,by
 have:l6 (fun _=>false) h=h:=by funext b;rfl
 rw[this];exact hs⟩
theorem cs4:∀{A:List HP} {h:M9},sep (sats A) (sats R) h->sats (A++R) h
 | [],_,⟨_,_,h2⟩=>By7 h2
 | _::_,_,hs=>AQ7 (fun _ x=>x) (fun _ x=>cs4 x) (FV7 hs)
theorem ct4:∀{A:List HP} {h:M9},sats (A++R) h->sep (sats A) (sats R) h
 | [],_,hs=>Mb7 hs
 | _::_,_,hs=>HQ7 (AQ7 (fun _ x=>x) (fun _ x=>ct4 x) hs)
theorem St.openS(h:St W (sats A::R) w):St W (A++R) w:=⟨h.os,h.tape,h.output,cs4 h.sat⟩
theorem St.shutS(A:List HP)(h:St W (A++R) w):St W (sats A::R) w:=⟨h.os,h.tape,h.output,ct4 h.sat⟩
theorem DK7{L L':List HP}(hp:L.Perm L'):∀{h:M9},sats L h->sats L' h:=by
 induction hp with
 | nil=>exact fun h=>h
 | cons _ _ ih=>exact fun h=>AQ7 (fun _ x=>x) (fun _ x=>ih x) h
 | swap _ _ _=>exact fun h=>CI7 h
 | trans _ _ i1 i2=>exact fun h=>i2 (i1 h)
end
section
variable{κ ν:Type}[DecidableEq κ]
theorem BV7{k:κ}{v:ν}:∀{l:List (κ×ν)},(l.map (·.1)).Nodup->j5 l k=some v->l.Perm ((k,v)::i9 l k)
 | [],_,h=>(by cases h)
 | y::l,hn,h=>by
  rw[List.map_cons,List.nodup_cons]at hn;have e:i9 (y::l) k=if y.1=k then i9 l k else y::i9 l k:=by unfold i9;rw[List.filter_cons];by_cases hk:y.1=k <;> simp[hk]
  by_cases hk:y.1=k
  ·have h0:∀x∈l,x.1≠k:=fun x hx e=>hn.1 (List.mem_map.2 ⟨x,hx,e.trans hk.symm⟩)
   have hv:y=(k,v):=by
    have h2:=Az7 h
    rcases List.mem_cons.1 h2 with h2|h2
    ·exact h2.symm
    ·exact absurd rfl (h0 _ h2)
   rw[e,if_pos hk,BI7 h0,hv]
  ·have h2:j5 l k=some v:=by
    unfold j5 at h ⊢;rw[List.find?_cons]at h;simpa[hk]using h
   rw[e,if_neg hk];exact((BV7 hn.2 h2).cons y).trans (List.Perm.swap _ _ _)
end
end Go.Sl
namespace Go.Proofs.YtienbkdjkjbelaaGreat
open Go.RowKit Go.Sl
abbrev eN(b:Nat):Value:=.P b
abbrev eI(z:Int):Value:=.I z
abbrev eU(_:Unit):Value:=.bool true
abbrev eW(x:Int×Int):Value:=.agg #[.I x.1,.I x.2]
abbrev eSs(x:Int×Rpl):Value:=.agg #[.I x.1,.I x.2.err,.I x.2.id,.I x.2.has.x0,.I x.2.has.x1,.I x.2.has.x2,.I x.2.has.x3]
abbrev eTn(t:Tns):Value:=.agg #[.I t.client,.I t.seq,.string t.ak,.string t.aw,.string t.tk,.string t.tw,.I t.item,.I t.cnt]
abbrev Ev:=List (ByteArray×(Nat×Vs))
def j9(E:Ev):List (ByteArray×Nat):=E.map fun x=>(x.1,x.2.1)
def j8(E:Ev):List (ByteArray×Vs):=E.map fun x=>(x.1,x.2.2)
def F8(vb:Nat)(V:Vs):HP:=fun f=>∃mb bb:Nat,sats [blk vb [.map (some mb),.P bb,.I V.n] 215,d9 eS eP mb V.ps,t8 bb V.L V.n] f
def m6(E:Ev):HP:=sats (E.map fun x=>F8 x.2.1 x.2.2)
abbrev ecL(eb m1 m2 m3 m4:Nat)(E:Ev)(e:Ec)(R:List HP):List HP:=
 blk eb [.map (some m1),.map (some m2),.map (some m3),.map (some m4)] 112::d9 eS eN m1 (j9 E)::m6 E::d9 eI eSs m2 e.ss::d9 eW eTn m3 e.ts::d9 eW eU m4 e.ar::R
def ecP(eb:Nat)(e:Ec):HP:=fun f=>∃(m1 m2 m3 m4:Nat) (E:Ev),(j8 E).Perm e.vs/\sats (ecL eb m1 m2 m3 m4 E e []) f
section
variable{W w:World}{R L:List HP}{vb eb m1 m2 m3 m4:Nat}{V:Vs}{E E':Ev}{e:Ec}{k:ByteArray}
theorem bG4(h:St W (F8 vb V::R) w):∃mb bb,St W (w6 vb mb bb V.ps V.L V.n R) w:=by obtain⟨mb,h⟩:=St.ex h;obtain⟨bb,h⟩:=St.ex h;exact⟨mb,bb,h.openS⟩
theorem aC4{mb bb:Nat}(h:St W (w6 vb mb bb V.ps V.L V.n R) w):St W (F8 vb V::R) w:=
 St.mkEx mb (St.mkEx bb (St.shutS [_,_,_] h))
theorem ch4{x:ByteArray×(Nat×Vs)}(h:St W (m6 (x::E)::R) w):St W (F8 x.2.1 x.2.2::m6 E::R) w:=St.split h
theorem ci4{x:ByteArray×(Nat×Vs)}(h:St W (F8 x.2.1 x.2.2::m6 E::R) w):St W (m6 (x::E)::R) w:=St.join h
theorem bt4(hp:E.Perm E')(h:St W (m6 E::R) w):St W (m6 E'::R) w:=h.imp fun _=>DK7 (hp.map _)
theorem dZ4(h:St W (ecP eb e::R) w):∃m1 m2 m3 m4 E,(j8 E).Perm e.vs/\St W (ecL eb m1 m2 m3 m4 E e R) w:=by obtain⟨m1,h⟩:=St.ex h;obtain⟨m2,h⟩:=St.ex h;obtain⟨m3,h⟩:=St.ex h;obtain⟨m4,h⟩:=St.ex h;obtain⟨E,h⟩:=St.ex h;obtain⟨hp,h⟩:=St.and h;exact⟨m1,m2,m3,m4,E,hp,h.openS⟩
theorem cA4(hp:(j8 E).Perm e.vs)(h:St W (ecL eb m1 m2 m3 m4 E e R) w):St W (ecP eb e::R) w:=
 St.mkEx m1 (St.mkEx m2 (St.mkEx m3 (St.mkEx m4 (St.mkEx E (St.mkAnd hp (St.shutS [_,_,_,_,_,_] h))))))
theorem AD7(E:Ev):(j9 E).map (·.1)=E.map (·.1):=by unfold j9;rw[List.map_map];rfl
theorem Cu7(E:Ev):(j8 E).map (·.1)=E.map (·.1):=by unfold j8;rw[List.map_map];rfl
theorem Ir7(E:Ev)(k:ByteArray):i9 (j9 E) k=j9 (i9 E k):=by unfold j9 i9;rw[List.filter_map];rfl
theorem GK7(E:Ev)(k:ByteArray):i9 (j8 E) k=j8 (i9 E k):=by unfold j8 i9;rw[List.filter_map];rfl
theorem Is7{α β:Type}(f:α->β)(l:List (ByteArray×α))(k:ByteArray):j5 (l.map fun x=>(x.1,f x.2)) k=(j5 l k).map f:=by
 unfold j5;rw[List.find?_map];show((l.find? fun x=>decide (x.1=k)).map fun x=>(x.1,f x.2)).map (·.2)=_
 rw[Option.map_map,Option.map_map];rfl
theorem Cv7(E:Ev)(k:ByteArray):j5 (j9 E) k=(j5 E k).map (·.1):=Is7 (fun x:Nat×Vs=>x.1) E k
theorem GL7(E:Ev)(k:ByteArray):j5 (j8 E) k=(j5 E k).map (·.2):=Is7 (fun x:Nat×Vs=>x.2) E k
theorem Oq7(hn:(E.map (·.1)).Nodup)(hp:(j8 E).Perm e.vs)(k:ByteArray):j5 e.vs k=(j5 E k).map (·.2):=by rw[<-AA7 (by rw[Cu7];exact hn) hp k,GL7]
end
theorem cH4(k u k2 u2:ByteArray)(d:Nat)(w:World):(Op.equalIn (d+2) 29 (.agg #[.string k,.string u]) (.agg #[.string k2,.string u2])).run Tryz.prog w=.ok (k.toList==k2.toList&&u.toList==u2.toList) w:=by
 have u9:=Tryz.underlying9;have a9:=Tryz.isAgg9;have z9:=Tryz.sizeOf9;have hs:Tryz.prog.stoodInHeld 29=false:=by kernel_rfl
 rw[Op.equalIn];simp only[Sem.run_bind,run_underlying Tryz.underlying29,Result.andThen_ok,run_program,hs,Bool.false_eq_true,if_false];rw[<-Array.forIn_toList];simp only[List.forIn_cons,List.forIn_nil]
 go_simp
 by_cases h1:k.toList=k2.toList <;> by_cases h2:u.toList=u2.toList <;> simp[h1,h2]
def Opn.eqB(o q:Opn):Bool:=
 decide (o.kind=q.kind)&&(decide (o.client=q.client)&&(decide (o.seq=q.seq)&&(decide (o.ak.toList=q.ak.toList)&&(decide (o.aw.toList=q.aw.toList)&&(decide (o.tk.toList=q.tk.toList)&&(decide (o.tw.toList=q.tw.toList) &&
  (decide (o.item=q.item)&&(decide (o.cnt=q.cnt)&&(decide (o.price=q.price)&&(decide (o.buy=q.buy)&&decide (o.id=q.id)))))))))))
theorem cZ4(o q:Opn)(w:World):(Op.equalIn 10000 234 (.agg o.cells.toArray) (.agg q.cells.toArray)).run Tryz.prog w=.ok (o.eqB q) w:=by
 have u9:=Tryz.underlying9;have a9:=Tryz.isAgg9;have z9:=Tryz.sizeOf9;have u3:=Tryz.underlying3;have a3:=Tryz.isAgg3;have z3:=Tryz.sizeOf3;have u4:=Tryz.underlying4;have a4:=Tryz.isAgg4;have z4:=Tryz.sizeOf4;have u5:=Tryz.underlying29;have a5:=Tryz.isAgg29;have z5:=Tryz.sizeOf29;have hp:=fun k u k2 u2 w=>cH4 k u k2 u2 9997 w
 have hs:Tryz.prog.stoodInHeld 234=false:=by kernel_rfl
 obtain⟨o0,o1,o2,o3,o4,o5,o6,o7,o8,o9,o10,o11⟩:=o;obtain⟨q0,q1,q2,q3,q4,q5,q6,q7,q8,q9,q10,q11⟩:=q;unfold Opn.eqB Opn.cells;dsimp only;rw[Op.equalIn];simp only[Sem.run_bind,run_underlying Tryz.underlying234,Result.andThen_ok,run_program,hs,Bool.false_eq_true,if_false];rw[<-Array.forIn_toList];simp only[List.forIn_cons,List.forIn_nil]
 go_simp
 by_cases h:o0=q0
 case neg=>simp[h]
 rw[if_pos h,decide_eq_true h,Bool.true_and];clear h;by_cases h:o1=q1
 case neg=>simp[h]
 rw[if_pos h,decide_eq_true h,Bool.true_and];clear h;by_cases h:o2=q2
 case neg=>simp[h]
 rw[if_pos h,decide_eq_true h,Bool.true_and];clear h;by_cases h:o3.toList=q3.toList
 case neg=>simp[h]
 by_cases h2:o4.toList=q4.toList
 case neg=>simp[h2]
 rw[if_neg (fun f=>f h h2),decide_eq_true h,decide_eq_true h2,Bool.true_and,Bool.true_and];clear h h2;by_cases h:o5.toList=q5.toList
 case neg=>simp[h]
 by_cases h2:o6.toList=q6.toList
 case neg=>simp[h2]
 rw[if_neg (fun f=>f h h2),decide_eq_true h,decide_eq_true h2,Bool.true_and,Bool.true_and];clear h h2;by_cases h:o7=q7
 case neg=>simp[h]
 rw[if_pos h,decide_eq_true h,Bool.true_and];clear h;by_cases h:o8=q8
 case neg=>simp[h]
 rw[if_pos h,decide_eq_true h,Bool.true_and];clear h;by_cases h:o9=q9
 case neg=>simp[h]
 rw[if_pos h,decide_eq_true h,Bool.true_and];clear h;by_cases h:o10=q10
 case neg=>simp[h]
 rw[if_pos h,decide_eq_true h,Bool.true_and];clear h;by_cases h:o11=q11 <;> simp[h]
theorem da4(d:Nat)(x0 x1 x2 x3 y0 y1 y2 y3:Int)(w:World):(Op.equalIn (d+2) 34 (.agg #[.I x0,.I x1,.I x2,.I x3]) (.agg #[.I y0,.I y1,.I y2,.I y3])).run Tryz.prog w=.ok (x0==y0&&(x1==y1&&(x2==y2&&x3==y3))) w:=by
 have u3:=Tryz.underlying3;have a3:=Tryz.isAgg3;have z3:=Tryz.sizeOf3;rw[Op.equalIn];simp only[Sem.run_bind,run_underlying Tryz.underlying34,Result.andThen_ok];simp only[Std.Legacy.Range.forIn_eq_forIn_range',Std.Legacy.Range.size,Nat.sub_zero,Nat.add_sub_cancel,Nat.div_one,List.range'_succ,List.range'_zero,List.forIn_cons,List.forIn_nil]
 go_simp
 by_cases h1:x0=y0 <;> by_cases h2:x1=y1 <;> by_cases h3:x2=y2 <;> by_cases h4:x3=y3 <;> simp[h1,h2,h3,h4]
def Rpl.eqB(r q:Rpl):Bool:=decide (r.err=q.err)&&(decide (r.id=q.id)&&(r.has.x0==q.has.x0&&(r.has.x1==q.has.x1&&(r.has.x2==q.has.x2&&r.has.x3==q.has.x3))))
theorem ey4(r q:Rpl)(w:World):(Op.equalIn 10000 36 (.agg #[.I r.err,.I r.id,.I r.has.x0,.I r.has.x1,.I r.has.x2,.I r.has.x3]) (.agg #[.I q.err,.I q.id,.I q.has.x0,.I q.has.x1,.I q.has.x2,.I q.has.x3])).run Tryz.prog w=.ok (r.eqB q) w:=by
 have u3:=Tryz.underlying3;have a3:=Tryz.isAgg3;have z3:=Tryz.sizeOf3;have u4:=Tryz.underlying32;have a4:=Tryz.isAgg32;have z4:=Tryz.sizeOf32;have u5:=Tryz.underlying34;have a5:=Tryz.isAgg34;have z5:=Tryz.sizeOf34;have hp:=da4 9997;have hs:Tryz.prog.stoodInHeld 36=false:=by kernel_rfl
 obtain⟨r0,r1,r2,r3,r4,r5⟩:=r;obtain⟨q0,q1,q2,q3,q4,q5⟩:=q;unfold Rpl.eqB;dsimp only;rw[Op.equalIn];simp only[Sem.run_bind,run_underlying Tryz.underlying36,Result.andThen_ok,run_program,hs,Bool.false_eq_true,if_false];rw[<-Array.forIn_toList];simp only[List.forIn_cons,List.forIn_nil]
 go_simp
 by_cases h:r0=q0
 case neg=>simp[h]
 rw[if_pos h,decide_eq_true h,Bool.true_and];clear h;by_cases h:r1=q1
 case neg=>simp[h]
 rw[if_pos h,decide_eq_true h,Bool.true_and];clear h;by_cases h1:r2=q2 <;> by_cases h2:r3=q3 <;> by_cases h3:r4=q4 <;> by_cases h4:r5=q5 <;> simp[h1,h2,h3,h4]
theorem Kp7(k u:ByteArray)(W w:World)(R:List HP)(hS:St W R w):
  Calls Tryz.prog 143 #[.agg #[.string k,.string u]] w fun e w'=>e=.returned (.bool (af4 k u))/\St W R w':=by
 go_enter Tryz.func143,Tryz.ntmps143;by_cases h1:1<=k.size
 case neg=>
  have e:af4 k u=false:=by unfold af4 x9;simp;omega
  have d1:decide ((1:Int)<=(k.size:Int))=false:=by simp;omega
  rw[e];go_wp2_with(first|go_big_skip|refine zbx hS ?_;clear hS;intro b w hS|refine zl1 hS ?_);go_ret;exact⟨rfl,hS.drop⟩
 have d1:(1:Int)<=(k.size:Int):=by omega
 by_cases h2:k.size<=16
 case neg=>
  have e:af4 k u=false:=by unfold af4 x9;simp;omega
  have d2:decide ((k.size:Int)<=16)=false:=by simp;omega
  rw[e];go_wp2_with(first|go_big_skip|refine zbx hS ?_;clear hS;intro b w hS|refine zl1 hS ?_);go_ret;exact⟨rfl,hS.drop⟩
 have d2:(k.size:Int)<=16:=by omega
 by_cases h3:1<=u.size
 case neg=>
  have e:af4 k u=false:=by unfold af4 x9;simp;omega
  have d3:decide ((1:Int)<=(u.size:Int))=false:=by simp;omega
  rw[e];go_wp2_with(first|go_big_skip|refine zbx hS ?_;clear hS;intro b w hS|refine zl1 hS ?_);go_ret;exact⟨rfl,hS.drop⟩
 have d3:(1:Int)<=(u.size:Int):=by omega
 by_cases h4:u.size<=16
 case neg=>
  have e:af4 k u=false:=by unfold af4 x9;simp;omega
  have d4:decide ((u.size:Int)<=16)=false:=by simp;omega
  rw[e];go_wp2_with(first|refine zbx hS ?_;clear hS;intro b w hS|refine zl1 hS ?_);go_ret;exact⟨rfl,hS.drop⟩
 have d4:(u.size:Int)<=16:=by omega
 have e:af4 k u=true:=by unfold af4 x9;simp;omega
 rw[e];go_wp2_with(first|refine zbx hS ?_;clear hS;intro b w hS|refine zl1 hS ?_);go_ret;exact⟨rfl,hS.drop⟩
theorem BJ7{k u:ByteArray}{r:Bool}(h:af4 k u=r)(W w:World)(R:List HP)(hS:St W R w):
  Calls Tryz.prog 143 #[.agg #[.string k,.string u]] w fun e w'=>e=.returned (.bool r)/\St W R w':=h▸Kp7 k u W w R hS
abbrev oV(kd cl sq:Int)(ak aw tk tw:ByteArray)(it ct pr:Int)(bu:Bool)(i:Int):Value:=
 .agg #[.I kd,.I cl,.I sq,.string ak,.string aw,.string tk,.string tw,.I it,.I ct,.I pr,.bool bu,.I i]
section
variable(kd cl sq:Int)(ak aw tk tw:ByteArray)(it ct pr:Int)(bu:Bool)(i:Int)(W w:World)(R:List HP)
theorem EF7(hS:St W R w):
  Calls Tryz.prog 184 #[oV kd cl sq ak aw tk tw it ct pr bu i] w fun e w'=>e=.returned (oV 0 0 0 ⟨#[]⟩ ⟨#[]⟩ tk tw it ct pr bu i)/\St W R w':=by
 go_enter Tryz.func184,Tryz.ntmps184;go_wp2_with(first|(fail_if_success (have:=mA));(refine zbx hS ?_;clear hS;have mA:Nat:=0;intro bA w hS)|refine zal hS ?_;clear hS;intro b w hS|refine zs1 hS ?_;clear hS;intro w hS|refine zsN hS ?_;clear hS;intro w hS|refine zlN hS ?_);apply Am7;rfl;rfl;rfl;exact hS;decide +kernel;(exact m8);kernel_rfl;exact⟨rfl,hS.drop.drop⟩
end
theorem Ee7(u:ByteArray):decide (u.toList=(⟨#[]⟩:ByteArray).toList)=noB u:=by
 rw[Lib.toList_data,Lib.toList_data];obtain⟨⟨l⟩⟩:=u
 cases l <;> simp[noB,ByteArray.size]
theorem NA7(tk tw:ByteArray)(it ct pr:Int)(bu:Bool)(i:Int)(w:World):
  (Op.equalIn 10000 234 (oV 0 0 0 ⟨#[]⟩ ⟨#[]⟩ tk tw it ct pr bu i) (oV 0 0 0 ⟨#[]⟩ ⟨#[]⟩ ⟨#[]⟩ ⟨#[]⟩ it ct 0 false 0)).run Tryz.prog w=.ok (noB tk&&(noB tw&&(decide (pr=0)&&(!bu&&decide (i=0))))) w:=by
 have h:=cZ4 ⟨0,0,0,⟨#[]⟩,⟨#[]⟩,tk,tw,it,ct,pr,bu,i⟩ ⟨0,0,0,⟨#[]⟩,⟨#[]⟩,⟨#[]⟩,⟨#[]⟩,it,ct,0,false,0⟩ w;refine h.trans ?_;unfold Opn.eqB;simp only[Ee7,decide_true,Bool.true_and]
 cases bu <;> rfl
theorem NB7(tk tw:ByteArray)(it ct pr:Int)(bu:Bool)(i:Int)(w:World):
  (Op.equalIn 10000 234 (oV 0 0 0 ⟨#[]⟩ ⟨#[]⟩ tk tw it ct pr bu i) (oV 0 0 0 ⟨#[]⟩ ⟨#[]⟩ ⟨#[]⟩ ⟨#[]⟩ 0 0 0 false 0)).run Tryz.prog w=.ok (noB tk&&(noB tw&&(decide (it=0)&&(decide (ct=0)&&(decide (pr=0)&&(!bu&&decide (i=0))))))) w:=by
 have h:=cZ4 ⟨0,0,0,⟨#[]⟩,⟨#[]⟩,tk,tw,it,ct,pr,bu,i⟩ ⟨0,0,0,⟨#[]⟩,⟨#[]⟩,⟨#[]⟩,⟨#[]⟩,0,0,0,false,0⟩ w;refine h.trans ?_;unfold Opn.eqB;simp only[Ee7,decide_true,Bool.true_and]
 cases bu <;> rfl
theorem ez4(tk tw:ByteArray)(it ct pr:Int)(bu:Bool)(i:Int)(w:World):
  (Op.equalIn 10000 234 (oV 0 0 0 ⟨#[]⟩ ⟨#[]⟩ tk tw it ct pr bu i) (oV 0 0 0 ⟨#[]⟩ ⟨#[]⟩ ⟨#[]⟩ ⟨#[]⟩ 0 0 0 false i)).run Tryz.prog w=.ok (noB tk&&(noB tw&&(decide (it=0)&&(decide (ct=0)&&(decide (pr=0)&&!bu))))) w:=by
 have h:=cZ4 ⟨0,0,0,⟨#[]⟩,⟨#[]⟩,tk,tw,it,ct,pr,bu,i⟩ ⟨0,0,0,⟨#[]⟩,⟨#[]⟩,⟨#[]⟩,⟨#[]⟩,0,0,0,false,i⟩ w;refine h.trans ?_;unfold Opn.eqB;simp only[Ee7,decide_true,Bool.true_and,Bool.and_true]
 cases bu <;> rfl
section
variable(kd cl sq:Int)(ak aw tk tw:ByteArray)(it ct pr:Int)(bu:Bool)(i:Int)(W w:World)(R:List HP)
theorem CD7(hS:St W R w):
  Calls Tryz.prog 138 #[oV kd cl sq ak aw tk tw it ct pr bu i] w fun e w'=>e=.returned (.bool (r7 ⟨kd,cl,sq,ak,aw,tk,tw,it,ct,pr,bu,i⟩))/\St W R w':=by
 go_enter Tryz.func138,Tryz.ntmps138;by_cases h1:0<=it
 case neg=>
  have e:r7 ⟨kd,cl,sq,ak,aw,tk,tw,it,ct,pr,bu,i⟩=false:=by unfold r7 E9;simp;omega
  have d1:decide (0<=it)=false:=by simpa using h1
  rw[e];go_wp2_with(first|refine zbx hS ?_;clear hS;intro b w hS);refine Aa7 (by kernel_rfl) (by kernel_rfl) hS ?_
  repeat(first|go_big_quiet_skip|refine zq1 ?_|refine qR ?_)
  clear hS;intro w hS;go_wp2_with fail;go_ret;exact⟨by rfl,hS.drop⟩
 by_cases h2:it<4
 case neg=>
  have e:r7 ⟨kd,cl,sq,ak,aw,tk,tw,it,ct,pr,bu,i⟩=false:=by unfold r7 E9;simp;omega
  have d2:decide (it<4)=false:=by simpa using h2
  rw[e];go_wp2_with(first|refine zbx hS ?_;clear hS;intro b w hS);refine Aa7 (by kernel_rfl) (by kernel_rfl) hS ?_
  repeat(first|go_big_quiet_skip|refine zq1 ?_|refine qR ?_)
  clear hS;intro w hS;go_wp2_with fail;go_ret;exact⟨by rfl,hS.drop⟩
 by_cases h3:1<=ct
 case neg=>
  have e:r7 ⟨kd,cl,sq,ak,aw,tk,tw,it,ct,pr,bu,i⟩=false:=by unfold r7 E9;simp;omega
  have d3:decide (1<=ct)=false:=by simpa using h3
  rw[e];go_wp2_with(first|refine zbx hS ?_;clear hS;intro b w hS);refine Aa7 (by kernel_rfl) (by kernel_rfl) hS ?_
  repeat(first|go_big_quiet_skip|refine zq1 ?_|refine qR ?_)
  clear hS;intro w hS;go_wp2_with fail;go_ret;exact⟨by rfl,hS.drop⟩
 by_cases h4:ct<=1048576
 case neg=>
  have e:r7 ⟨kd,cl,sq,ak,aw,tk,tw,it,ct,pr,bu,i⟩=false:=by unfold r7 E9;simp;omega
  have d4:decide (ct<=1048576)=false:=by simpa using h4
  rw[e];go_wp2_with(first|refine zbx hS ?_;clear hS;intro b w hS);refine Aa7 (by kernel_rfl) (by kernel_rfl) hS ?_
  repeat(first|go_big_quiet_skip|refine zq1 ?_|refine qR ?_)
  clear hS;intro w hS;go_wp2_with fail;go_ret;exact⟨by rfl,hS.drop⟩
 have e:r7 ⟨kd,cl,sq,ak,aw,tk,tw,it,ct,pr,bu,i⟩=(noB tk&&(noB tw&&(decide (pr=0)&&(!bu&&decide (i=0))))):=by unfold r7 E9 cG4;simp[h1,h2,h3,h4]
 rw[e];go_wp2_with(first|refine zbx hS ?_;clear hS;intro b w hS);refine Aa7 (by kernel_rfl) (by kernel_rfl) hS ?_
 repeat(first|refine zq1 ?_|refine zqN ?_|apply As7;rfl;intro w;apply Aj7;rfl;decide +kernel;(focus(simp only[fD,fI,fJ,Act.eval,fE,fF,fG,fH,fK];try rfl));intro w hS;exact EF7 _ _ _ _ _ _ _ _ _ _ _ _ W w _ hS;refine frS ?_|(with_reducible apply MV7);rfl;rfl;rfl;rfl;kernel_rfl;exact NA7 tk tw it ct pr bu i;refine frS ?_|refine qR ?_)
 clear hS;intro w hS;go_wp2_with fail;go_ret;exact⟨by rfl,hS.drop⟩
end
end Go.Proofs.YtienbkdjkjbelaaGreat
end
section
namespace Go.Sl
open Go.RowKit
section
variable{P:Program}{a:Act}{o:Oper}
theorem AO7{x:Operand}{f:FuncId}{xs:Array Operand}{ats:Array TypeId}{args:Array Value}(w:World)(ho:o.op=.call { callee:=.value x,args:=xs,argTypes:=ats })(hf:a.eval x=.func (.func f) #[] #[])(hb:M5 P f=true)(hx:xs.map a.eval=args):
  (execOp a.eval o).run P w=.ok (.enter f args) w:=by
 unfold execOp;simp only[ho,resolve,Sem.run_bind,hf,Deferred.ofValue,hx,Sem.run_pure,Result.andThen_ok];simp[invoke,Bb7 hb]
end
section
variable{P:Program}{ops:Array Oper}{Q:Exit->Act->World->Prop}{a:Act}{w:World}{rest:List Oper}{o:Oper}
def cB4:Value->Option Bool
 | .nilFunc=>some true
 | .func _ _ _=>some false
 | _=>none
theorem BS7{t t2:TypeId}{ps rs:Array TypeId}{vd:Bool}{x y:Operand}{v:Value}{r:Bool}(ho:o.op=.binOp .eql t x y t2)(hg:Region.wanted o (yielded ops a.tmps)=true)(hx:a.eval x=v)(hy:a.eval y=.nilFunc)(hv:cB4 v=some r)(ht:P.underlying t=some (.func ps rs vd))
  (h:wpList P ops Q rest (a.put o.dst (.bool r)) w):wpList P ops Q (o::rest) a w:=by
 refine Ar7 hg (v:=.bool r) (w':=w) ?_ h
 have h1:(binOp .eql t v .nilFunc).run P w=.ok (.bool r) w:=by
  have h:∀d:Nat,(Op.equalIn (d+1) t v .nilFunc).run P w=.ok r w:=fun d=>by
   cases v <;> simp only[cB4,Option.some.injEq,reduceCtorEq]at hv
   all_goals
    subst hv;simp[Op.equalIn,run_underlying ht]
  cases v <;> simp only[cB4,Option.some.injEq,reduceCtorEq]at hv
  all_goals
   simp only[binOp];simp[Op.equal,Op.maxDepth,h 9999]
 unfold execOp;simp[ho,hx,hy,eqGuard,h1]
end
end Go.Sl
namespace Go.Proofs.YtienbkdjkjbelaaGreat
open Go.RowKit Go.Sl
section
variable{kd cl sq:Int}{ak aw tk tw:ByteArray}{it ct pr:Int}{bu:Bool}{i:Int}{r:Bool}
theorem GM7(h:r7 ⟨kd,cl,sq,ak,aw,tk,tw,it,ct,pr,bu,i⟩=r)(W w:World)(R:List HP)(hS:St W R w):
  Calls Tryz.prog 138 #[oV kd cl sq ak aw tk tw it ct pr bu i] w fun e w'=>e=.returned (.bool r)/\St W R w':=h▸CD7 kd cl sq ak aw tk tw it ct pr bu i W w R hS
end
section
variable(kd cl sq:Int)(ak aw tk tw:ByteArray)(it ct pr:Int)(bu:Bool)(i:Int)(W w:World)(R:List HP)
theorem Jc7(hS:St W R w):
  Calls Tryz.prog 139 #[oV kd cl sq ak aw tk tw it ct pr bu i] w fun e w'=>e=.returned (.bool (K6 ⟨kd,cl,sq,ak,aw,tk,tw,it,ct,pr,bu,i⟩))/\St W R w':=by
 go_enter Tryz.func139,Tryz.ntmps139;have hc:r7 ⟨kd,cl,sq,ak,aw,⟨#[]⟩,⟨#[]⟩,it,ct,pr,bu,i⟩=(E9 ⟨kd,cl,sq,ak,aw,tk,tw,it,ct,pr,bu,i⟩&&(decide (pr=0)&&(!bu&&decide (i=0)))):=rfl
 cases hp:af4 tk tw with
 | false=>
  have e:K6 ⟨kd,cl,sq,ak,aw,tk,tw,it,ct,pr,bu,i⟩=false:=by unfold K6;rw[hp];rfl
  rw[e];go_wp2_with(first|go_big_skip|refine zbx hS ?_;clear hS;intro b w hS|refine zal hS ?_;clear hS;intro b w hS|refine zlN hS ?_|refine zlN hS ?_ (vs:=[.string tk,.string tw]) (hc:=by first|exact d8.here rfl|exact d8.there (d8.here rfl))|refine zsN hS ?_;clear hS;intro w hS|go_at_call 143;refine(BJ7 hp W _ _ hS).mono ?_;clear hS;rintro e w ⟨rfl,hS⟩);go_ret;exact⟨rfl,hS.drop.drop⟩
 | true=>
  have e:K6 ⟨kd,cl,sq,ak,aw,tk,tw,it,ct,pr,bu,i⟩=(E9 ⟨kd,cl,sq,ak,aw,tk,tw,it,ct,pr,bu,i⟩&&(decide (pr=0)&&(!bu&&decide (i=0)))):=by unfold K6;rw[hp];rfl
  rw[e];go_wp2_with(first|refine zbx hS ?_;clear hS;intro b w hS|refine zal hS ?_;clear hS;intro b w hS|refine zlN hS ?_|refine zlN hS ?_ (vs:=[.string tk,.string tw]) (hc:=by first|exact d8.here rfl|exact d8.there (d8.here rfl))|refine zsN hS ?_;clear hS;intro w hS|go_at_call 143;refine(BJ7 hp W _ _ hS).mono ?_;clear hS;rintro e w ⟨rfl,hS⟩|go_at_call 138;refine(GM7 hc W _ _ hS).mono ?_;clear hS;rintro e w ⟨rfl,hS⟩);go_ret;exact⟨rfl,hS.drop.drop⟩
theorem HC7(hS:St W R w):
  Calls Tryz.prog 140 #[oV kd cl sq ak aw tk tw it ct pr bu i] w fun e w'=>e=.returned (.bool (F7 ⟨kd,cl,sq,ak,aw,tk,tw,it,ct,pr,bu,i⟩))/\St W R w':=by
 go_enter Tryz.func140,Tryz.ntmps140;have hc:r7 ⟨kd,cl,sq,ak,aw,tk,tw,it,ct,0,false,i⟩=(E9 ⟨kd,cl,sq,ak,aw,tk,tw,it,ct,pr,bu,i⟩&&(noB tk&&(noB tw&&decide (i=0)))):=by unfold r7 cG4;simp[E9]
 by_cases h1:1<=it
 case neg=>
  have e:F7 ⟨kd,cl,sq,ak,aw,tk,tw,it,ct,pr,bu,i⟩=false:=by unfold F7;simp[h1]
  have d1:decide (1<=it)=false:=by simpa using h1
  rw[e];go_wp2_with(first|go_big_skip|refine zbx hS ?_;clear hS;intro b w hS|refine zl1 hS ?_|refine zs1 hS ?_;clear hS;intro w hS);go_ret;exact⟨rfl,hS.drop⟩
 by_cases h2:1<=pr
 case neg=>
  have e:F7 ⟨kd,cl,sq,ak,aw,tk,tw,it,ct,pr,bu,i⟩=false:=by unfold F7;simp[h2]
  have d2:decide (1<=pr)=false:=by simpa using h2
  rw[e];go_wp2_with(first|go_big_skip|refine zbx hS ?_;clear hS;intro b w hS|refine zl1 hS ?_|refine zs1 hS ?_;clear hS;intro w hS);go_ret;exact⟨rfl,hS.drop⟩
 by_cases h3:pr<=1024
 case neg=>
  have e:F7 ⟨kd,cl,sq,ak,aw,tk,tw,it,ct,pr,bu,i⟩=false:=by unfold F7;simp[h3]
  have d3:decide (pr<=1024)=false:=by simpa using h3
  rw[e];go_wp2_with(first|go_big_skip|refine zbx hS ?_;clear hS;intro b w hS|refine zl1 hS ?_|refine zs1 hS ?_;clear hS;intro w hS);go_ret;exact⟨rfl,hS.drop⟩
 have e:F7 ⟨kd,cl,sq,ak,aw,tk,tw,it,ct,pr,bu,i⟩=(E9 ⟨kd,cl,sq,ak,aw,tk,tw,it,ct,pr,bu,i⟩&&(noB tk&&(noB tw&&decide (i=0)))):=by unfold F7;simp[h1,h2,h3]
 rw[e];go_wp2_with(first|refine zbx hS ?_;clear hS;intro b w hS|refine zl1 hS ?_|refine zlN hS ?_|refine zs1 hS ?_;clear hS;intro w hS|go_at_call 138;refine(GM7 hc W _ _ hS).mono ?_;clear hS;rintro e w ⟨rfl,hS⟩);go_ret;exact⟨rfl,hS.drop⟩
theorem GN7(hS:St W R w):
  Calls Tryz.prog 141 #[oV kd cl sq ak aw tk tw it ct pr bu i] w fun e w'=>e=.returned (.bool (D8 ⟨kd,cl,sq,ak,aw,tk,tw,it,ct,pr,bu,i⟩))/\St W R w':=by
 go_enter Tryz.func141,Tryz.ntmps141;by_cases h1:1<=i
 case neg=>
  have e:D8 ⟨kd,cl,sq,ak,aw,tk,tw,it,ct,pr,bu,i⟩=false:=by unfold D8;simp[h1]
  have d1:decide (1<=i)=false:=by simpa using h1
  rw[e];go_wp2_with(first|refine zbx hS ?_;clear hS;intro b w hS);refine Aa7 (by kernel_rfl) (by kernel_rfl) hS ?_
  repeat(first|go_big_quiet_skip|refine zq1 ?_|refine qR ?_)
  clear hS;intro w hS;go_wp2_with fail;go_ret;exact⟨rfl,hS.drop⟩
 by_cases h2:i<=1099511627776
 case neg=>
  have e:D8 ⟨kd,cl,sq,ak,aw,tk,tw,it,ct,pr,bu,i⟩=false:=by unfold D8;simp[h2]
  have d2:decide (i<=1099511627776)=false:=by simpa using h2
  rw[e];go_wp2_with(first|refine zbx hS ?_;clear hS;intro b w hS);refine Aa7 (by kernel_rfl) (by kernel_rfl) hS ?_
  repeat(first|go_big_quiet_skip|refine zq1 ?_|refine qR ?_)
  clear hS;intro w hS;go_wp2_with fail;go_ret;exact⟨rfl,hS.drop⟩
 have e:D8 ⟨kd,cl,sq,ak,aw,tk,tw,it,ct,pr,bu,i⟩=(noB tk&&(noB tw&&(decide (it=0)&&(decide (ct=0)&&(decide (pr=0)&&!bu))))):=by unfold D8;simp[h1,h2]
 rw[e];go_wp2_with(first|refine zbx hS ?_;clear hS;intro b w hS);refine Aa7 (by kernel_rfl) (by kernel_rfl) hS ?_
 repeat(first|refine zq1 ?_|refine zqN ?_|apply As7;rfl;intro w;apply Aj7;rfl;decide +kernel;(focus(simp only[fD,fI,fJ,Act.eval,fE,fF,fG,fH,fK];try rfl));intro w hS;exact EF7 _ _ _ _ _ _ _ _ _ _ _ _ W w _ hS;refine frS ?_|(with_reducible apply MV7);rfl;rfl;rfl;rfl;kernel_rfl;exact ez4 tk tw it ct pr bu i;refine frS ?_|refine qR ?_)
 clear hS;intro w hS;go_wp2_with fail;go_ret;exact⟨rfl,hS.drop⟩
theorem GO7(hS:St W R w):
  Calls Tryz.prog 142 #[oV kd cl sq ak aw tk tw it ct pr bu i] w fun e w'=>e=.returned (.bool (bs4 ⟨kd,cl,sq,ak,aw,tk,tw,it,ct,pr,bu,i⟩))/\St W R w':=by
 go_enter Tryz.func142,Tryz.ntmps142;go_wp2_with(first|refine zbx hS ?_;clear hS;intro b w hS|refine zlN hS ?_|go_at_call 184;refine(EF7 kd cl sq ak aw tk tw it ct pr bu i W _ _ hS).mono ?_;clear hS;rintro e w ⟨rfl,hS⟩|(with_reducible apply Ca7);rfl;rfl;rfl;rfl;kernel_rfl;exact NB7 tk tw it ct pr bu i;refine frS ?_);go_ret;exact⟨rfl,hS.drop⟩
end
end Go.Proofs.YtienbkdjkjbelaaGreat
end
