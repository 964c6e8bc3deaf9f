/-
  An economy as a resource.
-/
import Derived.Test.YtlmhakmoioogaaaGreatEconBkM14
import Derived.Laws.StructEq
set_option maxHeartbeats 16000000
set_option maxRecDepth 100000
set_option linter.unusedSimpArgs false
set_option linter.unusedVariables false
section
namespace Go.Sl
open Go.RowKit
section
variable{W w:World}{R A:List HP}
theorem RD7{h:ad4}{R:List HP}(hs:sats R h):sep (fun _=>True) (sats R) h:=⟨fun _=>false,trivial,by
 have:A9 (fun _=>false) h=h:=by funext b;rfl
 rw[this];exact hs⟩
theorem dM4:∀{A:List HP} {h:ad4},sep (sats A) (sats R) h->sats (A++R) h
 | [],_,⟨_,_,h2⟩=>Cm7 h2
 | _::_,_,hs=>AO7 (fun _ x=>x) (fun _ x=>dM4 x) (Iz7 hs)
theorem dN4:∀{A:List HP} {h:ad4},sats (A++R) h->sep (sats A) (sats R) h
 | [],_,hs=>RD7 hs
 | _::_,_,hs=>Lh7 (AO7 (fun _ x=>x) (fun _ x=>dN4 x) hs)
theorem St.openS(h:St W (sats A::R) w):St W (A++R) w:=⟨h.os,h.tape,h.output,dM4 h.sat⟩
theorem St.shutS(A:List HP)(h:St W (A++R) w):St W (sats A::R) w:=⟨h.os,h.tape,h.output,dN4 h.sat⟩
theorem Fo7{L L':List HP}(hp:L.Perm L'):∀{h:ad4},sats L h->sats L' h:=by
 induction hp with
 | nil=>exact fun h=>h
 | cons _ _ ih=>exact fun h=>AO7 (fun _ x=>x) (fun _ x=>ih x) h
 | swap _ _ _=>exact fun h=>Dp7 h
 | trans _ _ i1 i2=>exact fun h=>i2 (i1 h)
end
section
variable{κ ν:Type}[DecidableEq κ]
theorem BB7{k:κ}{v:ν}:∀{l:List (κ×ν)},(l.map (·.1)).Nodup->m7 l k=some v->l.Perm ((k,v)::j9 l k)
 | [],_,h=>(by cases h)
 | y::l,hn,h=>by
  rw[List.map_cons,List.nodup_cons]at hn;have e:j9 (y::l) k=if y.1=k then j9 l k else y::j9 l k:=by unfold j9;rw[List.filter_cons];by_cases hk:y.1=k <;> simp[hk]
  by_cases hk:y.1=k
  ·have h0:∀x∈l,x.1≠k:=fun x hx e=>hn.1 (List.mem_map.2 ⟨x,hx,e.trans hk.symm⟩)
   have hv:y=(k,v):=by
    have h2:=AI7 h
    rcases List.mem_cons.1 h2 with h2|h2
    ·exact h2.symm
    ·exact absurd rfl (h0 _ h2)
   rw[e,if_pos hk,BN7 h0,hv]
  ·have h2:m7 l k=some v:=by
    unfold m7 at h ⊢;rw[List.find?_cons]at h;simpa[hk]using h
   rw[e,if_neg hk];exact((BB7 hn.2 h2).cons y).trans (List.Perm.swap _ _ _)
end
end Go.Sl
namespace Go.Proofs.YtlmhakmoioogaaaGreat
open Go.RowKit Go.Sl
abbrev eN(b:Nat):Value:=.P b
abbrev eI(z:Int):Value:=.I z
abbrev eU(_:Unit):Value:=.bool true
abbrev eW(x:Int×Int):Value:=.agg #[.I x.1,.I x.2]
abbrev eSs(x:Int×Rpl):Value:=.agg #[.I x.1,.I x.2.err,.I x.2.id,.I x.2.has.x0,.I x.2.has.x1,.I x.2.has.x2,.I x.2.has.x3]
abbrev eTn(t:Tns):Value:=.agg #[.I t.client,.I t.seq,.string t.ak,.string t.aw,.string t.tk,.string t.tw,.I t.item,.I t.cnt]
abbrev Ev:=List (ByteArray×(Nat×Vs))
def j6(E:Ev):List (ByteArray×Nat):=E.map fun x=>(x.1,x.2.1)
def r6(E:Ev):List (ByteArray×Vs):=E.map fun x=>(x.1,x.2.2)
def J6(vb:Nat)(V:Vs):HP:=fun f=>∃mb bb:Nat,sats [blk vb [.map (some mb),.P bb,.I V.n] 176,d8 eS eP mb V.ps,w7 bb V.L V.n] f
def m9(E:Ev):HP:=sats (E.map fun x=>J6 x.2.1 x.2.2)
abbrev ecL(eb m1 m2 m3 m4:Nat)(E:Ev)(e:Ec)(R:List HP):List HP:=
 blk eb [.map (some m1),.map (some m2),.map (some m3),.map (some m4)] 84::d8 eS eN m1 (j6 E)::m9 E::d8 eI eSs m2 e.ss::d8 eW eTn m3 e.ts::d8 eW eU m4 e.ar::R
def ecP(eb:Nat)(e:Ec):HP:=fun f=>∃(m1 m2 m3 m4:Nat) (E:Ev),(r6 E).Perm e.vs/\sats (ecL eb m1 m2 m3 m4 E e []) f
section
variable{W w:World}{R L:List HP}{vb eb m1 m2 m3 m4:Nat}{V:Vs}{E E':Ev}{e:Ec}{k:ByteArray}
theorem aF4(h:St W (J6 vb V::R) w):∃mb bb,St W (B7 vb mb bb V.ps V.L V.n R) w:=by obtain⟨mb,h⟩:=St.ex h;obtain⟨bb,h⟩:=St.ex h;exact⟨mb,bb,h.openS⟩
theorem ah4{mb bb:Nat}(h:St W (B7 vb mb bb V.ps V.L V.n R) w):St W (J6 vb V::R) w:=
 St.mkEx mb (St.mkEx bb (St.shutS [_,_,_] h))
theorem bE4{x:ByteArray×(Nat×Vs)}(h:St W (m9 (x::E)::R) w):St W (J6 x.2.1 x.2.2::m9 E::R) w:=St.split h
theorem cb4{x:ByteArray×(Nat×Vs)}(h:St W (J6 x.2.1 x.2.2::m9 E::R) w):St W (m9 (x::E)::R) w:=St.join h
theorem aY4(hp:E.Perm E')(h:St W (m9 E::R) w):St W (m9 E'::R) w:=h.imp fun _=>Fo7 (hp.map _)
theorem cN4(h:St W (ecP eb e::R) w):∃m1 m2 m3 m4 E,(r6 E).Perm e.vs/\St W (ecL eb m1 m2 m3 m4 E e R) w:=by obtain⟨m1,h⟩:=St.ex h;obtain⟨m2,h⟩:=St.ex h;obtain⟨m3,h⟩:=St.ex h;obtain⟨m4,h⟩:=St.ex h;obtain⟨E,h⟩:=St.ex h;obtain⟨hp,h⟩:=St.and h;exact⟨m1,m2,m3,m4,E,hp,h.openS⟩
theorem S8(hp:(r6 E).Perm e.vs)(h:St W (ecL eb m1 m2 m3 m4 E e R) w):St W (ecP eb e::R) w:=
 St.mkEx m1 (St.mkEx m2 (St.mkEx m3 (St.mkEx m4 (St.mkEx E (St.mkAnd hp (St.shutS [_,_,_,_,_,_] h))))))
theorem AV7(E:Ev):(j6 E).map (·.1)=E.map (·.1):=by unfold j6;rw[List.map_map];rfl
theorem BA7(E:Ev):(r6 E).map (·.1)=E.map (·.1):=by unfold r6;rw[List.map_map];rfl
theorem Io7(E:Ev)(k:ByteArray):j9 (j6 E) k=j6 (j9 E k):=by unfold j6 j9;rw[List.filter_map];rfl
theorem GJ7(E:Ev)(k:ByteArray):j9 (r6 E) k=r6 (j9 E k):=by unfold r6 j9;rw[List.filter_map];rfl
theorem Mg7{α β:Type}(f:α->β)(l:List (ByteArray×α))(k:ByteArray):m7 (l.map fun x=>(x.1,f x.2)) k=(m7 l k).map f:=by
 unfold m7;rw[List.find?_map];show((l.find? fun x=>decide (x.1=k)).map fun x=>(x.1,f x.2)).map (·.2)=_
 rw[Option.map_map,Option.map_map];rfl
theorem CT7(E:Ev)(k:ByteArray):m7 (j6 E) k=(m7 E k).map (·.1):=Mg7 (fun x:Nat×Vs=>x.1) E k
theorem JA7(E:Ev)(k:ByteArray):m7 (r6 E) k=(m7 E k).map (·.2):=Mg7 (fun x:Nat×Vs=>x.2) E k
theorem Vd7(hn:(E.map (·.1)).Nodup)(hp:(r6 E).Perm e.vs)(k:ByteArray):m7 e.vs k=(m7 E k).map (·.2):=by rw[<-AJ7 (by rw[BA7];exact hn) hp k,JA7]
end
theorem dB4(k u k2 u2:ByteArray)(d:Nat)(w:World):(Op.equalIn (d+2) 26 (.agg #[.string k,.string u]) (.agg #[.string k2,.string u2])).run Tryz.prog w=.ok (k.toList==k2.toList&&u.toList==u2.toList) w:=by
 have u9:=Tryz.underlying9;have a9:=Tryz.isAgg9;have z9:=Tryz.sizeOf9;have hs:Tryz.prog.stoodInHeld 26=false:=by kernel_rfl
 rw[Op.equalIn];simp only[Sem.run_bind,run_underlying Tryz.underlying26,Result.andThen_ok,run_program,hs,Bool.false_eq_true,if_false];rw[<-Array.forIn_toList];simp only[List.forIn_cons,List.forIn_nil]
 go_simp
 by_cases h1:k.toList=k2.toList <;> by_cases h2:u.toList=u2.toList <;> simp[h1,h2]
def Opn.eqB(o q:Opn):Bool:=
 decide (o.kind=q.kind)&&(decide (o.client=q.client)&&(decide (o.seq=q.seq)&&(decide (o.ak.toList=q.ak.toList)&&(decide (o.aw.toList=q.aw.toList)&&(decide (o.tk.toList=q.tk.toList)&&(decide (o.tw.toList=q.tw.toList) &&
  (decide (o.item=q.item)&&(decide (o.cnt=q.cnt)&&(decide (o.price=q.price)&&(decide (o.buy=q.buy)&&decide (o.id=q.id)))))))))))
theorem eL4(o q:Opn)(w:World):(Op.equalIn 10000 207 (.agg o.cells.toArray) (.agg q.cells.toArray)).run Tryz.prog w=.ok (o.eqB q) w:=by
 have u9:=Tryz.underlying9;have a9:=Tryz.isAgg9;have z9:=Tryz.sizeOf9;have u3:=Tryz.underlying3;have a3:=Tryz.isAgg3;have z3:=Tryz.sizeOf3;have u4:=Tryz.underlying4;have a4:=Tryz.isAgg4;have z4:=Tryz.sizeOf4;have u5:=Tryz.underlying26;have a5:=Tryz.isAgg26;have z5:=Tryz.sizeOf26;have hp:=fun k u k2 u2 w=>dB4 k u k2 u2 9997 w
 have hs:Tryz.prog.stoodInHeld 207=false:=by kernel_rfl
 obtain⟨o0,o1,o2,o3,o4,o5,o6,o7,o8,o9,o10,o11⟩:=o;obtain⟨q0,q1,q2,q3,q4,q5,q6,q7,q8,q9,q10,q11⟩:=q;unfold Opn.eqB Opn.cells;dsimp only;rw[Op.equalIn];simp only[Sem.run_bind,run_underlying Tryz.underlying207,Result.andThen_ok,run_program,hs,Bool.false_eq_true,if_false];rw[<-Array.forIn_toList];simp only[List.forIn_cons,List.forIn_nil]
 go_simp
 by_cases h:o0=q0
 case neg=>simp[h]
 rw[if_pos h,decide_eq_true h,Bool.true_and];clear h;by_cases h:o1=q1
 case neg=>simp[h]
 rw[if_pos h,decide_eq_true h,Bool.true_and];clear h;by_cases h:o2=q2
 case neg=>simp[h]
 rw[if_pos h,decide_eq_true h,Bool.true_and];clear h;by_cases h:o3.toList=q3.toList
 case neg=>simp[h]
 by_cases h2:o4.toList=q4.toList
 case neg=>simp[h2]
 rw[if_neg (fun f=>f h h2),decide_eq_true h,decide_eq_true h2,Bool.true_and,Bool.true_and];clear h h2;by_cases h:o5.toList=q5.toList
 case neg=>simp[h]
 by_cases h2:o6.toList=q6.toList
 case neg=>simp[h2]
 rw[if_neg (fun f=>f h h2),decide_eq_true h,decide_eq_true h2,Bool.true_and,Bool.true_and];clear h h2;by_cases h:o7=q7
 case neg=>simp[h]
 rw[if_pos h,decide_eq_true h,Bool.true_and];clear h;by_cases h:o8=q8
 case neg=>simp[h]
 rw[if_pos h,decide_eq_true h,Bool.true_and];clear h;by_cases h:o9=q9
 case neg=>simp[h]
 rw[if_pos h,decide_eq_true h,Bool.true_and];clear h;by_cases h:o10=q10
 case neg=>simp[h]
 rw[if_pos h,decide_eq_true h,Bool.true_and];clear h;by_cases h:o11=q11 <;> simp[h]
theorem eM4(d:Nat)(x0 x1 x2 x3 y0 y1 y2 y3:Int)(w:World):(Op.equalIn (d+2) 29 (.agg #[.I x0,.I x1,.I x2,.I x3]) (.agg #[.I y0,.I y1,.I y2,.I y3])).run Tryz.prog w=.ok (x0==y0&&(x1==y1&&(x2==y2&&x3==y3))) w:=by
 have u3:=Tryz.underlying3;have a3:=Tryz.isAgg3;have z3:=Tryz.sizeOf3;rw[Op.equalIn];simp only[Sem.run_bind,run_underlying Tryz.underlying29,Result.andThen_ok];simp only[Std.Legacy.Range.forIn_eq_forIn_range',Std.Legacy.Range.size,Nat.sub_zero,Nat.add_sub_cancel,Nat.div_one,List.range'_succ,List.range'_zero,List.forIn_cons,List.forIn_nil]
 go_simp
 by_cases h1:x0=y0 <;> by_cases h2:x1=y1 <;> by_cases h3:x2=y2 <;> by_cases h4:x3=y3 <;> simp[h1,h2,h3,h4]
def Rpl.eqB(r q:Rpl):Bool:=decide (r.err=q.err)&&(decide (r.id=q.id)&&(r.has.x0==q.has.x0&&(r.has.x1==q.has.x1&&(r.has.x2==q.has.x2&&r.has.x3==q.has.x3))))
theorem gs4(r q:Rpl)(w:World):(Op.equalIn 10000 31 (.agg #[.I r.err,.I r.id,.I r.has.x0,.I r.has.x1,.I r.has.x2,.I r.has.x3]) (.agg #[.I q.err,.I q.id,.I q.has.x0,.I q.has.x1,.I q.has.x2,.I q.has.x3])).run Tryz.prog w=.ok (r.eqB q) w:=by
 have u3:=Tryz.underlying3;have a3:=Tryz.isAgg3;have z3:=Tryz.sizeOf3;have u4:=Tryz.underlying27;have a4:=Tryz.isAgg27;have z4:=Tryz.sizeOf27;have u5:=Tryz.underlying29;have a5:=Tryz.isAgg29;have z5:=Tryz.sizeOf29;have hp:=eM4 9997;have hs:Tryz.prog.stoodInHeld 31=false:=by kernel_rfl
 obtain⟨r0,r1,r2,r3,r4,r5⟩:=r;obtain⟨q0,q1,q2,q3,q4,q5⟩:=q;unfold Rpl.eqB;dsimp only;rw[Op.equalIn];simp only[Sem.run_bind,run_underlying Tryz.underlying31,Result.andThen_ok,run_program,hs,Bool.false_eq_true,if_false];rw[<-Array.forIn_toList];simp only[List.forIn_cons,List.forIn_nil]
 go_simp
 by_cases h:r0=q0
 case neg=>simp[h]
 rw[if_pos h,decide_eq_true h,Bool.true_and];clear h;by_cases h:r1=q1
 case neg=>simp[h]
 rw[if_pos h,decide_eq_true h,Bool.true_and];clear h;by_cases h1:r2=q2 <;> by_cases h2:r3=q3 <;> by_cases h3:r4=q4 <;> by_cases h4:r5=q5 <;> simp[h1,h2,h3,h4]
theorem Pk7(k u:ByteArray)(W w:World)(R:List HP)(hS:St W R w):
  Calls Tryz.prog 150 #[.agg #[.string k,.string u]] w fun e w'=>e=.returned (.bool (ax4 k u))/\St W R w':=by
 go_enter Tryz.func150,Tryz.ntmps150;by_cases h1:1<=k.size
 case neg=>
  have e:ax4 k u=false:=by unfold ax4 C8;simp;omega
  have d1:decide ((1:Int)<=(k.size:Int))=false:=by simp;omega
  rw[e];go_wp2_with(first|go_big_skip|refine zbx hS ?_;clear hS;intro b w hS|refine zl1 hS ?_);go_ret;exact⟨rfl,hS.drop⟩
 have d1:(1:Int)<=(k.size:Int):=by omega
 by_cases h2:k.size<=16
 case neg=>
  have e:ax4 k u=false:=by unfold ax4 C8;simp;omega
  have d2:decide ((k.size:Int)<=16)=false:=by simp;omega
  rw[e];go_wp2_with(first|go_big_skip|refine zbx hS ?_;clear hS;intro b w hS|refine zl1 hS ?_);go_ret;exact⟨rfl,hS.drop⟩
 have d2:(k.size:Int)<=16:=by omega
 by_cases h3:1<=u.size
 case neg=>
  have e:ax4 k u=false:=by unfold ax4 C8;simp;omega
  have d3:decide ((1:Int)<=(u.size:Int))=false:=by simp;omega
  rw[e];go_wp2_with(first|go_big_skip|refine zbx hS ?_;clear hS;intro b w hS|refine zl1 hS ?_);go_ret;exact⟨rfl,hS.drop⟩
 have d3:(1:Int)<=(u.size:Int):=by omega
 by_cases h4:u.size<=16
 case neg=>
  have e:ax4 k u=false:=by unfold ax4 C8;simp;omega
  have d4:decide ((u.size:Int)<=16)=false:=by simp;omega
  rw[e];go_wp2_with(first|refine zbx hS ?_;clear hS;intro b w hS|refine zl1 hS ?_);go_ret;exact⟨rfl,hS.drop⟩
 have d4:(u.size:Int)<=16:=by omega
 have e:ax4 k u=true:=by unfold ax4 C8;simp;omega
 rw[e];go_wp2_with(first|refine zbx hS ?_;clear hS;intro b w hS|refine zl1 hS ?_);go_ret;exact⟨rfl,hS.drop⟩
theorem CA7{k u:ByteArray}{r:Bool}(h:ax4 k u=r)(W w:World)(R:List HP)(hS:St W R w):
  Calls Tryz.prog 150 #[.agg #[.string k,.string u]] w fun e w'=>e=.returned (.bool r)/\St W R w':=h▸Pk7 k u W w R hS
abbrev oV(kd cl sq:Int)(ak aw tk tw:ByteArray)(it ct pr:Int)(bu:Bool)(i:Int):Value:=
 .agg #[.I kd,.I cl,.I sq,.string ak,.string aw,.string tk,.string tw,.I it,.I ct,.I pr,.bool bu,.I i]
section
variable(kd cl sq:Int)(ak aw tk tw:ByteArray)(it ct pr:Int)(bu:Bool)(i:Int)(W w:World)(R:List HP)
theorem GK7(hS:St W R w):
  Calls Tryz.prog 194 #[oV kd cl sq ak aw tk tw it ct pr bu i] w fun e w'=>e=.returned (oV 0 0 0 ⟨#[]⟩ ⟨#[]⟩ tk tw it ct pr bu i)/\St W R w':=by
 go_enter Tryz.func194,Tryz.ntmps194;go_wp2_with(first|(fail_if_success (have:=mA));(refine zbx hS ?_;clear hS;have mA:Nat:=0;intro bA w hS)|refine zal hS ?_;clear hS;intro b w hS|refine zs1 hS ?_;clear hS;intro w hS|refine zsN hS ?_;clear hS;intro w hS|refine zlN hS ?_);apply Au7;rfl;rfl;rfl;exact hS;decide +kernel;(exact x9);kernel_rfl;exact⟨rfl,hS.drop.drop⟩
end
theorem FV7(u:ByteArray):decide (u.toList=(⟨#[]⟩:ByteArray).toList)=noB u:=by
 rw[Lib.toList_data,Lib.toList_data];obtain⟨⟨l⟩⟩:=u
 cases l <;> simp[noB,ByteArray.size]
theorem TS7(tk tw:ByteArray)(it ct pr:Int)(bu:Bool)(i:Int)(w:World):
  (Op.equalIn 10000 207 (oV 0 0 0 ⟨#[]⟩ ⟨#[]⟩ tk tw it ct pr bu i) (oV 0 0 0 ⟨#[]⟩ ⟨#[]⟩ ⟨#[]⟩ ⟨#[]⟩ it ct 0 false 0)).run Tryz.prog w=.ok (noB tk&&(noB tw&&(decide (pr=0)&&(!bu&&decide (i=0))))) w:=by
 have h:=eL4 ⟨0,0,0,⟨#[]⟩,⟨#[]⟩,tk,tw,it,ct,pr,bu,i⟩ ⟨0,0,0,⟨#[]⟩,⟨#[]⟩,⟨#[]⟩,⟨#[]⟩,it,ct,0,false,0⟩ w;refine h.trans ?_;unfold Opn.eqB;simp only[FV7,decide_true,Bool.true_and]
 cases bu <;> rfl
theorem TT7(tk tw:ByteArray)(it ct pr:Int)(bu:Bool)(i:Int)(w:World):
  (Op.equalIn 10000 207 (oV 0 0 0 ⟨#[]⟩ ⟨#[]⟩ tk tw it ct pr bu i) (oV 0 0 0 ⟨#[]⟩ ⟨#[]⟩ ⟨#[]⟩ ⟨#[]⟩ 0 0 0 false 0)).run Tryz.prog w=.ok (noB tk&&(noB tw&&(decide (it=0)&&(decide (ct=0)&&(decide (pr=0)&&(!bu&&decide (i=0))))))) w:=by
 have h:=eL4 ⟨0,0,0,⟨#[]⟩,⟨#[]⟩,tk,tw,it,ct,pr,bu,i⟩ ⟨0,0,0,⟨#[]⟩,⟨#[]⟩,⟨#[]⟩,⟨#[]⟩,0,0,0,false,0⟩ w;refine h.trans ?_;unfold Opn.eqB;simp only[FV7,decide_true,Bool.true_and]
 cases bu <;> rfl
theorem gt4(tk tw:ByteArray)(it ct pr:Int)(bu:Bool)(i:Int)(w:World):
  (Op.equalIn 10000 207 (oV 0 0 0 ⟨#[]⟩ ⟨#[]⟩ tk tw it ct pr bu i) (oV 0 0 0 ⟨#[]⟩ ⟨#[]⟩ ⟨#[]⟩ ⟨#[]⟩ 0 0 0 false i)).run Tryz.prog w=.ok (noB tk&&(noB tw&&(decide (it=0)&&(decide (ct=0)&&(decide (pr=0)&&!bu))))) w:=by
 have h:=eL4 ⟨0,0,0,⟨#[]⟩,⟨#[]⟩,tk,tw,it,ct,pr,bu,i⟩ ⟨0,0,0,⟨#[]⟩,⟨#[]⟩,⟨#[]⟩,⟨#[]⟩,0,0,0,false,i⟩ w;refine h.trans ?_;unfold Opn.eqB;simp only[FV7,decide_true,Bool.true_and,Bool.and_true]
 cases bu <;> rfl
section
variable(kd cl sq:Int)(ak aw tk tw:ByteArray)(it ct pr:Int)(bu:Bool)(i:Int)(W w:World)(R:List HP)
theorem DO7(hS:St W R w):
  Calls Tryz.prog 145 #[oV kd cl sq ak aw tk tw it ct pr bu i] w fun e w'=>e=.returned (.bool (B9 ⟨kd,cl,sq,ak,aw,tk,tw,it,ct,pr,bu,i⟩))/\St W R w':=by
 go_enter Tryz.func145,Tryz.ntmps145;by_cases h1:0<=it
 case neg=>
  have e:B9 ⟨kd,cl,sq,ak,aw,tk,tw,it,ct,pr,bu,i⟩=false:=by unfold B9 N6;simp;omega
  have d1:decide (0<=it)=false:=by simpa using h1
  rw[e];go_wp2_with(first|refine zbx hS ?_;clear hS;intro b w hS);refine Aa7 (by kernel_rfl) (by kernel_rfl) hS ?_
  repeat(first|go_big_quiet_skip|refine zq1 ?_|refine qR ?_)
  clear hS;intro w hS;go_wp2_with fail;go_ret;exact⟨by rfl,hS.drop⟩
 by_cases h2:it<4
 case neg=>
  have e:B9 ⟨kd,cl,sq,ak,aw,tk,tw,it,ct,pr,bu,i⟩=false:=by unfold B9 N6;simp;omega
  have d2:decide (it<4)=false:=by simpa using h2
  rw[e];go_wp2_with(first|refine zbx hS ?_;clear hS;intro b w hS);refine Aa7 (by kernel_rfl) (by kernel_rfl) hS ?_
  repeat(first|go_big_quiet_skip|refine zq1 ?_|refine qR ?_)
  clear hS;intro w hS;go_wp2_with fail;go_ret;exact⟨by rfl,hS.drop⟩
 by_cases h3:1<=ct
 case neg=>
  have e:B9 ⟨kd,cl,sq,ak,aw,tk,tw,it,ct,pr,bu,i⟩=false:=by unfold B9 N6;simp;omega
  have d3:decide (1<=ct)=false:=by simpa using h3
  rw[e];go_wp2_with(first|refine zbx hS ?_;clear hS;intro b w hS);refine Aa7 (by kernel_rfl) (by kernel_rfl) hS ?_
  repeat(first|go_big_quiet_skip|refine zq1 ?_|refine qR ?_)
  clear hS;intro w hS;go_wp2_with fail;go_ret;exact⟨by rfl,hS.drop⟩
 by_cases h4:ct<=1048576
 case neg=>
  have e:B9 ⟨kd,cl,sq,ak,aw,tk,tw,it,ct,pr,bu,i⟩=false:=by unfold B9 N6;simp;omega
  have d4:decide (ct<=1048576)=false:=by simpa using h4
  rw[e];go_wp2_with(first|refine zbx hS ?_;clear hS;intro b w hS);refine Aa7 (by kernel_rfl) (by kernel_rfl) hS ?_
  repeat(first|go_big_quiet_skip|refine zq1 ?_|refine qR ?_)
  clear hS;intro w hS;go_wp2_with fail;go_ret;exact⟨by rfl,hS.drop⟩
 have e:B9 ⟨kd,cl,sq,ak,aw,tk,tw,it,ct,pr,bu,i⟩=(noB tk&&(noB tw&&(decide (pr=0)&&(!bu&&decide (i=0))))):=by unfold B9 N6 ei4;simp[h1,h2,h3,h4]
 rw[e];go_wp2_with(first|refine zbx hS ?_;clear hS;intro b w hS);refine Aa7 (by kernel_rfl) (by kernel_rfl) hS ?_
 repeat(first|refine zq1 ?_|refine zqN ?_|apply At7;rfl;intro w;apply Ag7;rfl;decide +kernel;(focus(simp only[fD,fI,fJ,Act.eval,fE,fF,fG,fH,fK];try rfl));intro w hS;exact GK7 _ _ _ _ _ _ _ _ _ _ _ _ W w _ hS;refine frS ?_|(with_reducible apply SL7);rfl;rfl;rfl;rfl;kernel_rfl;exact TS7 tk tw it ct pr bu i;refine frS ?_|refine qR ?_)
 clear hS;intro w hS;go_wp2_with fail;go_ret;exact⟨by rfl,hS.drop⟩
end
end Go.Proofs.YtlmhakmoioogaaaGreat
end
section
namespace Go.Sl
open Go.RowKit
section
variable{P:Program}{a:Act}{o:Oper}
theorem Bo7{x:Operand}{f:FuncId}{xs:Array Operand}{ats:Array TypeId}{args:Array Value}(w:World)(ho:o.op=.call { callee:=.value x,args:=xs,argTypes:=ats })(hf:a.eval x=.func (.func f) #[] #[])(hb:ab4 P f=true)(hx:xs.map a.eval=args):
  (execOp a.eval o).run P w=.ok (.enter f args) w:=by
 unfold execOp;simp only[ho,resolve,Sem.run_bind,hf,Deferred.ofValue,hx,Sem.run_pure,Result.andThen_ok];simp[invoke,BD7 hb]
end
section
variable{P:Program}{ops:Array Oper}{Q:Exit->Act->World->Prop}{a:Act}{w:World}{rest:List Oper}{o:Oper}
def dV4:Value->Option Bool
 | .nilFunc=>some true
 | .func _ _ _=>some false
 | _=>none
theorem CN7{t t2:TypeId}{ps rs:Array TypeId}{vd:Bool}{x y:Operand}{v:Value}{r:Bool}(ho:o.op=.binOp .eql t x y t2)(hg:Region.wanted o (yielded ops a.tmps)=true)(hx:a.eval x=v)(hy:a.eval y=.nilFunc)(hv:dV4 v=some r)(ht:P.underlying t=some (.func ps rs vd))
  (h:wpList P ops Q rest (a.put o.dst (.bool r)) w):wpList P ops Q (o::rest) a w:=by
 refine Aj7 hg (v:=.bool r) (w':=w) ?_ h
 have h1:(binOp .eql t v .nilFunc).run P w=.ok (.bool r) w:=by
  have h:∀d:Nat,(Op.equalIn (d+1) t v .nilFunc).run P w=.ok r w:=fun d=>by
   cases v <;> simp only[dV4,Option.some.injEq,reduceCtorEq]at hv
   all_goals
    subst hv;simp[Op.equalIn,run_underlying ht]
  cases v <;> simp only[dV4,Option.some.injEq,reduceCtorEq]at hv
  all_goals
   simp only[binOp];simp[Op.equal,Op.maxDepth,h 9999]
 unfold execOp;simp[ho,hx,hy,eqGuard,h1]
end
end Go.Sl
namespace Go.Proofs.YtlmhakmoioogaaaGreat
open Go.RowKit Go.Sl
section
variable{kd cl sq:Int}{ak aw tk tw:ByteArray}{it ct pr:Int}{bu:Bool}{i:Int}{r:Bool}
theorem JB7(h:B9 ⟨kd,cl,sq,ak,aw,tk,tw,it,ct,pr,bu,i⟩=r)(W w:World)(R:List HP)(hS:St W R w):
  Calls Tryz.prog 145 #[oV kd cl sq ak aw tk tw it ct pr bu i] w fun e w'=>e=.returned (.bool r)/\St W R w':=h▸DO7 kd cl sq ak aw tk tw it ct pr bu i W w R hS
end
section
variable(kd cl sq:Int)(ak aw tk tw:ByteArray)(it ct pr:Int)(bu:Bool)(i:Int)(W w:World)(R:List HP)
theorem Ni7(hS:St W R w):
  Calls Tryz.prog 146 #[oV kd cl sq ak aw tk tw it ct pr bu i] w fun e w'=>e=.returned (.bool (R6 ⟨kd,cl,sq,ak,aw,tk,tw,it,ct,pr,bu,i⟩))/\St W R w':=by
 go_enter Tryz.func146,Tryz.ntmps146;have hc:B9 ⟨kd,cl,sq,ak,aw,⟨#[]⟩,⟨#[]⟩,it,ct,pr,bu,i⟩=(N6 ⟨kd,cl,sq,ak,aw,tk,tw,it,ct,pr,bu,i⟩&&(decide (pr=0)&&(!bu&&decide (i=0)))):=rfl
 cases hp:ax4 tk tw with
 | false=>
  have e:R6 ⟨kd,cl,sq,ak,aw,tk,tw,it,ct,pr,bu,i⟩=false:=by unfold R6;rw[hp];rfl
  rw[e];go_wp2_with(first|go_big_skip|refine zbx hS ?_;clear hS;intro b w hS|refine zal hS ?_;clear hS;intro b w hS|refine zlN hS ?_|refine zlN hS ?_ (vs:=[.string tk,.string tw]) (hc:=by first|exact i8.here rfl|exact i8.there (i8.here rfl))|refine zsN hS ?_;clear hS;intro w hS|go_at_call 150;refine(CA7 hp W _ _ hS).mono ?_;clear hS;rintro e w ⟨rfl,hS⟩);go_ret;exact⟨rfl,hS.drop.drop⟩
 | true=>
  have e:R6 ⟨kd,cl,sq,ak,aw,tk,tw,it,ct,pr,bu,i⟩=(N6 ⟨kd,cl,sq,ak,aw,tk,tw,it,ct,pr,bu,i⟩&&(decide (pr=0)&&(!bu&&decide (i=0)))):=by unfold R6;rw[hp];rfl
  rw[e];go_wp2_with(first|refine zbx hS ?_;clear hS;intro b w hS|refine zal hS ?_;clear hS;intro b w hS|refine zlN hS ?_|refine zlN hS ?_ (vs:=[.string tk,.string tw]) (hc:=by first|exact i8.here rfl|exact i8.there (i8.here rfl))|refine zsN hS ?_;clear hS;intro w hS|go_at_call 150;refine(CA7 hp W _ _ hS).mono ?_;clear hS;rintro e w ⟨rfl,hS⟩|go_at_call 145;refine(JB7 hc W _ _ hS).mono ?_;clear hS;rintro e w ⟨rfl,hS⟩);go_ret;exact⟨rfl,hS.drop.drop⟩
theorem KJ7(hS:St W R w):
  Calls Tryz.prog 147 #[oV kd cl sq ak aw tk tw it ct pr bu i] w fun e w'=>e=.returned (.bool (N9 ⟨kd,cl,sq,ak,aw,tk,tw,it,ct,pr,bu,i⟩))/\St W R w':=by
 go_enter Tryz.func147,Tryz.ntmps147;have hc:B9 ⟨kd,cl,sq,ak,aw,tk,tw,it,ct,0,false,i⟩=(N6 ⟨kd,cl,sq,ak,aw,tk,tw,it,ct,pr,bu,i⟩&&(noB tk&&(noB tw&&decide (i=0)))):=by unfold B9 ei4;simp[N6]
 by_cases h1:1<=it
 case neg=>
  have e:N9 ⟨kd,cl,sq,ak,aw,tk,tw,it,ct,pr,bu,i⟩=false:=by unfold N9;simp[h1]
  have d1:decide (1<=it)=false:=by simpa using h1
  rw[e];go_wp2_with(first|go_big_skip|refine zbx hS ?_;clear hS;intro b w hS|refine zl1 hS ?_|refine zs1 hS ?_;clear hS;intro w hS);go_ret;exact⟨rfl,hS.drop⟩
 by_cases h2:1<=pr
 case neg=>
  have e:N9 ⟨kd,cl,sq,ak,aw,tk,tw,it,ct,pr,bu,i⟩=false:=by unfold N9;simp[h2]
  have d2:decide (1<=pr)=false:=by simpa using h2
  rw[e];go_wp2_with(first|go_big_skip|refine zbx hS ?_;clear hS;intro b w hS|refine zl1 hS ?_|refine zs1 hS ?_;clear hS;intro w hS);go_ret;exact⟨rfl,hS.drop⟩
 by_cases h3:pr<=1024
 case neg=>
  have e:N9 ⟨kd,cl,sq,ak,aw,tk,tw,it,ct,pr,bu,i⟩=false:=by unfold N9;simp[h3]
  have d3:decide (pr<=1024)=false:=by simpa using h3
  rw[e];go_wp2_with(first|go_big_skip|refine zbx hS ?_;clear hS;intro b w hS|refine zl1 hS ?_|refine zs1 hS ?_;clear hS;intro w hS);go_ret;exact⟨rfl,hS.drop⟩
 have e:N9 ⟨kd,cl,sq,ak,aw,tk,tw,it,ct,pr,bu,i⟩=(N6 ⟨kd,cl,sq,ak,aw,tk,tw,it,ct,pr,bu,i⟩&&(noB tk&&(noB tw&&decide (i=0)))):=by unfold N9;simp[h1,h2,h3]
 rw[e];go_wp2_with(first|refine zbx hS ?_;clear hS;intro b w hS|refine zl1 hS ?_|refine zlN hS ?_|refine zs1 hS ?_;clear hS;intro w hS|go_at_call 145;refine(JB7 hc W _ _ hS).mono ?_;clear hS;rintro e w ⟨rfl,hS⟩);go_ret;exact⟨rfl,hS.drop⟩
theorem JC7(hS:St W R w):
  Calls Tryz.prog 148 #[oV kd cl sq ak aw tk tw it ct pr bu i] w fun e w'=>e=.returned (.bool (M6 ⟨kd,cl,sq,ak,aw,tk,tw,it,ct,pr,bu,i⟩))/\St W R w':=by
 go_enter Tryz.func148,Tryz.ntmps148;by_cases h1:1<=i
 case neg=>
  have e:M6 ⟨kd,cl,sq,ak,aw,tk,tw,it,ct,pr,bu,i⟩=false:=by unfold M6;simp[h1]
  have d1:decide (1<=i)=false:=by simpa using h1
  rw[e];go_wp2_with(first|refine zbx hS ?_;clear hS;intro b w hS);refine Aa7 (by kernel_rfl) (by kernel_rfl) hS ?_
  repeat(first|go_big_quiet_skip|refine zq1 ?_|refine qR ?_)
  clear hS;intro w hS;go_wp2_with fail;go_ret;exact⟨rfl,hS.drop⟩
 by_cases h2:i<=1099511627776
 case neg=>
  have e:M6 ⟨kd,cl,sq,ak,aw,tk,tw,it,ct,pr,bu,i⟩=false:=by unfold M6;simp[h2]
  have d2:decide (i<=1099511627776)=false:=by simpa using h2
  rw[e];go_wp2_with(first|refine zbx hS ?_;clear hS;intro b w hS);refine Aa7 (by kernel_rfl) (by kernel_rfl) hS ?_
  repeat(first|go_big_quiet_skip|refine zq1 ?_|refine qR ?_)
  clear hS;intro w hS;go_wp2_with fail;go_ret;exact⟨rfl,hS.drop⟩
 have e:M6 ⟨kd,cl,sq,ak,aw,tk,tw,it,ct,pr,bu,i⟩=(noB tk&&(noB tw&&(decide (it=0)&&(decide (ct=0)&&(decide (pr=0)&&!bu))))):=by unfold M6;simp[h1,h2]
 rw[e];go_wp2_with(first|refine zbx hS ?_;clear hS;intro b w hS);refine Aa7 (by kernel_rfl) (by kernel_rfl) hS ?_
 repeat(first|refine zq1 ?_|refine zqN ?_|apply At7;rfl;intro w;apply Ag7;rfl;decide +kernel;(focus(simp only[fD,fI,fJ,Act.eval,fE,fF,fG,fH,fK];try rfl));intro w hS;exact GK7 _ _ _ _ _ _ _ _ _ _ _ _ W w _ hS;refine frS ?_|(with_reducible apply SL7);rfl;rfl;rfl;rfl;kernel_rfl;exact gt4 tk tw it ct pr bu i;refine frS ?_|refine qR ?_)
 clear hS;intro w hS;go_wp2_with fail;go_ret;exact⟨rfl,hS.drop⟩
theorem JD7(hS:St W R w):
  Calls Tryz.prog 149 #[oV kd cl sq ak aw tk tw it ct pr bu i] w fun e w'=>e=.returned (.bool (ch4 ⟨kd,cl,sq,ak,aw,tk,tw,it,ct,pr,bu,i⟩))/\St W R w':=by
 go_enter Tryz.func149,Tryz.ntmps149;go_wp2_with(first|refine zbx hS ?_;clear hS;intro b w hS|refine zlN hS ?_|go_at_call 194;refine(GK7 kd cl sq ak aw tk tw it ct pr bu i W _ _ hS).mono ?_;clear hS;rintro e w ⟨rfl,hS⟩|(with_reducible apply Co7);rfl;rfl;rfl;rfl;kernel_rfl;exact TT7 tk tw it ct pr bu i;refine frS ?_);go_ret;exact⟨rfl,hS.drop⟩
end
section
variable(kd cl sq:Int)(ak aw tk tw:ByteArray)(it ct pr:Int)(bu:Bool)(i:Int)(W w:World)(R:List HP)
theorem Pl7(hS:St W R w):
  Calls Tryz.prog 85 #[oV kd cl sq ak aw tk tw it ct pr bu i] w fun e w'=>e=.returned (.bool (C5 ⟨kd,cl,sq,ak,aw,tk,tw,it,ct,pr,bu,i⟩))/\St W R w':=by
 go_enter Tryz.func85,Tryz.ntmps85;by_cases hk:kd=1\/kd=2\/kd=3\/kd=4\/kd=5\/kd=6\/kd=7
 case neg=>
  have e:C5 ⟨kd,cl,sq,ak,aw,tk,tw,it,ct,pr,bu,i⟩=false:=by unfold C5 M7;simp only[not_or]at hk;obtain⟨k1,k2,k3,k4,k5,k6,k7⟩:=hk;simp[k1,k2,k3,k4,k5,k6,k7]
  rw[e];by_cases h0:kd<0
  ·go_wp2_with(first|go_big_skip|refine zbx hS ?_;clear hS;intro b w hS|refine zal hS ?_;clear hS;intro b2 w hS|refine zsN hS ?_;clear hS;intro w hS|refine zl1 hS ?_);go_ret;exact⟨rfl,hS.drop.drop⟩
  ·have d0:decide (kd<0)=false:=by simpa using h0
   by_cases h8:8<=kd
   ·go_wp2_with(first|go_big_skip|refine zbx hS ?_;clear hS;intro b w hS|refine zal hS ?_;clear hS;intro b2 w hS|refine zsN hS ?_;clear hS;intro w hS|refine zl1 hS ?_);go_ret;exact⟨rfl,hS.drop.drop⟩
   ·obtain rfl:kd=0:=by omega
    clear d0 h0 h8 hk e;go_wp2_with(first|refine zbx hS ?_;clear hS;intro b w hS|refine zal hS ?_;clear hS;intro b2 w hS|refine zsN hS ?_;clear hS;intro w hS|refine zl1 hS ?_|(with_reducible apply CN7);rfl;rfl;rfl;rfl;rfl;exact Tryz.underlying206;refine frS ?_);go_ret;exact⟨rfl,hS.drop.drop⟩
 by_cases h1:1<=cl
 case neg=>
  have d1:decide (1<=cl)=false:=by simpa using h1
  have e:C5 ⟨kd,cl,sq,ak,aw,tk,tw,it,ct,pr,bu,i⟩=false:=by unfold C5 K6;simp[h1]
  rw[e];clear e
  rcases hk with rfl|rfl|rfl|rfl|rfl|rfl|rfl
  all_goals
   go_wp2_with(first|refine zbx hS ?_;clear hS;intro b w hS|refine zal hS ?_;clear hS;intro b2 w hS|refine zsN hS ?_;clear hS;intro w hS|refine zl1 hS ?_|(with_reducible apply CN7);rfl;rfl;rfl;rfl;rfl;exact Tryz.underlying206;refine frS ?_);refine Aa7 (by kernel_rfl) (by kernel_rfl) hS ?_
   repeat(first|go_big_quiet_skip|refine zq1 ?_|refine qR ?_)
   clear hS;intro w hS;go_wp2_with fail;go_ret;exact⟨rfl,hS.drop.drop⟩
 by_cases h2:cl<=1048576
 case neg=>
  have d2:decide (cl<=1048576)=false:=by simpa using h2
  have e:C5 ⟨kd,cl,sq,ak,aw,tk,tw,it,ct,pr,bu,i⟩=false:=by unfold C5 K6;simp[h2]
  rw[e];clear e
  rcases hk with rfl|rfl|rfl|rfl|rfl|rfl|rfl
  all_goals
   go_wp2_with(first|refine zbx hS ?_;clear hS;intro b w hS|refine zal hS ?_;clear hS;intro b2 w hS|refine zsN hS ?_;clear hS;intro w hS|refine zl1 hS ?_|(with_reducible apply CN7);rfl;rfl;rfl;rfl;rfl;exact Tryz.underlying206;refine frS ?_);refine Aa7 (by kernel_rfl) (by kernel_rfl) hS ?_
   repeat(first|go_big_quiet_skip|refine zq1 ?_|refine qR ?_)
   clear hS;intro w hS;go_wp2_with fail;go_ret;exact⟨rfl,hS.drop.drop⟩
 by_cases h3:1<=sq
 case neg=>
  have d3:decide (1<=sq)=false:=by simpa using h3
  have e:C5 ⟨kd,cl,sq,ak,aw,tk,tw,it,ct,pr,bu,i⟩=false:=by unfold C5 K6;simp[h3]
  rw[e];clear e
  rcases hk with rfl|rfl|rfl|rfl|rfl|rfl|rfl
  all_goals
   go_wp2_with(first|refine zbx hS ?_;clear hS;intro b w hS|refine zal hS ?_;clear hS;intro b2 w hS|refine zsN hS ?_;clear hS;intro w hS|refine zl1 hS ?_|(with_reducible apply CN7);rfl;rfl;rfl;rfl;rfl;exact Tryz.underlying206;refine frS ?_);refine Aa7 (by kernel_rfl) (by kernel_rfl) hS ?_
   repeat(first|go_big_quiet_skip|refine zq1 ?_|refine qR ?_)
   clear hS;intro w hS;go_wp2_with fail;go_ret;exact⟨rfl,hS.drop.drop⟩
 by_cases h4:sq<=1099511627776
 case neg=>
  have d4:decide (sq<=1099511627776)=false:=by simpa using h4
  have e:C5 ⟨kd,cl,sq,ak,aw,tk,tw,it,ct,pr,bu,i⟩=false:=by unfold C5 K6;simp[h4]
  rw[e];clear e
  rcases hk with rfl|rfl|rfl|rfl|rfl|rfl|rfl
  all_goals
   go_wp2_with(first|refine zbx hS ?_;clear hS;intro b w hS|refine zal hS ?_;clear hS;intro b2 w hS|refine zsN hS ?_;clear hS;intro w hS|refine zl1 hS ?_|(with_reducible apply CN7);rfl;rfl;rfl;rfl;rfl;exact Tryz.underlying206;refine frS ?_);refine Aa7 (by kernel_rfl) (by kernel_rfl) hS ?_
   repeat(first|go_big_quiet_skip|refine zq1 ?_|refine qR ?_)
   clear hS;intro w hS;go_wp2_with fail;go_ret;exact⟨rfl,hS.drop.drop⟩
 cases hp:ax4 ak aw with
 | false=>
  skip
  have e:C5 ⟨kd,cl,sq,ak,aw,tk,tw,it,ct,pr,bu,i⟩=false:=by unfold C5 K6;simp[hp]
  rw[e];clear e
  rcases hk with rfl|rfl|rfl|rfl|rfl|rfl|rfl
  all_goals
   go_wp2_with(first|refine zbx hS ?_;clear hS;intro b w hS|refine zal hS ?_;clear hS;intro b2 w hS|refine zsN hS ?_;clear hS;intro w hS|refine zl1 hS ?_|(with_reducible apply CN7);rfl;rfl;rfl;rfl;rfl;exact Tryz.underlying206;refine frS ?_);refine Aa7 (by kernel_rfl) (by kernel_rfl) hS ?_
   repeat(first|go_big_quiet_skip|refine zq1 ?_|refine zqN ?_ (hc:=by first|exact i8.here (vs:=[.string ak,.string aw]) rfl|exact i8.there (i8.here (vs:=[.string ak,.string aw]) rfl))|apply At7;rfl;intro w;apply Ag7;rfl;decide +kernel;(focus(simp only[fD,fI,fJ,Act.eval,fE,fF,fG,fH,fK];try rfl));intro w hS;exact CA7 hp W w _ hS;refine frS ?_|refine qR ?_)
   clear hS;intro w hS;go_wp2_with fail;go_ret;exact⟨rfl,hS.drop.drop⟩
 | true=>
  have hh:(decide (1<=cl)&&(decide (cl<=1048576)&&(decide (1<=sq)&&(decide (sq<=1099511627776)&&ax4 ak aw))))=true:=by simp[h1,h2,h3,h4,hp]
  rcases hk with rfl|rfl|rfl|rfl|rfl|rfl|rfl
  ·skip
   have e:C5 ⟨1,cl,sq,ak,aw,tk,tw,it,ct,pr,bu,i⟩=B9 ⟨1,cl,sq,ak,aw,tk,tw,it,ct,pr,bu,i⟩:=by unfold C5;rw[show K6 ⟨1,cl,sq,ak,aw,tk,tw,it,ct,pr,bu,i⟩=true from hh];rfl
   rw[e];clear e;go_wp2_with(first|refine zbx hS ?_;clear hS;intro b w hS|refine zal hS ?_;clear hS;intro b2 w hS|refine zsN hS ?_;clear hS;intro w hS|refine zl1 hS ?_|(with_reducible apply CN7);rfl;rfl;rfl;rfl;rfl;exact Tryz.underlying206;refine frS ?_);refine Aa7 (by kernel_rfl) (by kernel_rfl) hS ?_
   repeat(first|refine zq1 ?_|refine zqN ?_|refine zqN ?_ (hc:=by first|exact i8.here (vs:=[.string ak,.string aw]) rfl|exact i8.there (i8.here (vs:=[.string ak,.string aw]) rfl))|apply At7;rfl;intro w;apply Ag7;rfl;decide +kernel;(focus(simp only[fD,fI,fJ,Act.eval,fE,fF,fG,fH,fK];try rfl));intro w hS;exact CA7 hp W w _ hS;refine frS ?_|apply At7;rfl;intro w;apply Bo7;rfl;rfl;decide +kernel;(focus(simp only[fD,fI,fJ,Act.eval,fE,fF,fG,fH,fK];try rfl));intro w hS;exact DO7 _ _ _ _ _ _ _ _ _ _ _ _ W w _ hS;refine frS ?_|refine qR ?_)
   clear hS;intro w hS;go_wp2_with fail;go_ret;exact⟨rfl,hS.drop.drop⟩
  ·skip
   have e:C5 ⟨2,cl,sq,ak,aw,tk,tw,it,ct,pr,bu,i⟩=R6 ⟨2,cl,sq,ak,aw,tk,tw,it,ct,pr,bu,i⟩:=by unfold C5;rw[show K6 ⟨2,cl,sq,ak,aw,tk,tw,it,ct,pr,bu,i⟩=true from hh];rfl
   rw[e];clear e;go_wp2_with(first|refine zbx hS ?_;clear hS;intro b w hS|refine zal hS ?_;clear hS;intro b2 w hS|refine zsN hS ?_;clear hS;intro w hS|refine zl1 hS ?_|(with_reducible apply CN7);rfl;rfl;rfl;rfl;rfl;exact Tryz.underlying206;refine frS ?_);refine Aa7 (by kernel_rfl) (by kernel_rfl) hS ?_
   repeat(first|refine zq1 ?_|refine zqN ?_|refine zqN ?_ (hc:=by first|exact i8.here (vs:=[.string ak,.string aw]) rfl|exact i8.there (i8.here (vs:=[.string ak,.string aw]) rfl))|apply At7;rfl;intro w;apply Ag7;rfl;decide +kernel;(focus(simp only[fD,fI,fJ,Act.eval,fE,fF,fG,fH,fK];try rfl));intro w hS;exact CA7 hp W w _ hS;refine frS ?_|apply At7;rfl;intro w;apply Bo7;rfl;rfl;decide +kernel;(focus(simp only[fD,fI,fJ,Act.eval,fE,fF,fG,fH,fK];try rfl));intro w hS;exact Ni7 _ _ _ _ _ _ _ _ _ _ _ _ W w _ hS;refine frS ?_|refine qR ?_)
   clear hS;intro w hS;go_wp2_with fail;go_ret;exact⟨rfl,hS.drop.drop⟩
  ·skip
   have e:C5 ⟨3,cl,sq,ak,aw,tk,tw,it,ct,pr,bu,i⟩=N9 ⟨3,cl,sq,ak,aw,tk,tw,it,ct,pr,bu,i⟩:=by unfold C5;rw[show K6 ⟨3,cl,sq,ak,aw,tk,tw,it,ct,pr,bu,i⟩=true from hh];rfl
   rw[e];clear e;go_wp2_with(first|refine zbx hS ?_;clear hS;intro b w hS|refine zal hS ?_;clear hS;intro b2 w hS|refine zsN hS ?_;clear hS;intro w hS|refine zl1 hS ?_|(with_reducible apply CN7);rfl;rfl;rfl;rfl;rfl;exact Tryz.underlying206;refine frS ?_);refine Aa7 (by kernel_rfl) (by kernel_rfl) hS ?_
   repeat(first|refine zq1 ?_|refine zqN ?_|refine zqN ?_ (hc:=by first|exact i8.here (vs:=[.string ak,.string aw]) rfl|exact i8.there (i8.here (vs:=[.string ak,.string aw]) rfl))|apply At7;rfl;intro w;apply Ag7;rfl;decide +kernel;(focus(simp only[fD,fI,fJ,Act.eval,fE,fF,fG,fH,fK];try rfl));intro w hS;exact CA7 hp W w _ hS;refine frS ?_|apply At7;rfl;intro w;apply Bo7;rfl;rfl;decide +kernel;(focus(simp only[fD,fI,fJ,Act.eval,fE,fF,fG,fH,fK];try rfl));intro w hS;exact KJ7 _ _ _ _ _ _ _ _ _ _ _ _ W w _ hS;refine frS ?_|refine qR ?_)
   clear hS;intro w hS;go_wp2_with fail;go_ret;exact⟨rfl,hS.drop.drop⟩
  ·skip
   have e:C5 ⟨4,cl,sq,ak,aw,tk,tw,it,ct,pr,bu,i⟩=M6 ⟨4,cl,sq,ak,aw,tk,tw,it,ct,pr,bu,i⟩:=by unfold C5;rw[show K6 ⟨4,cl,sq,ak,aw,tk,tw,it,ct,pr,bu,i⟩=true from hh];rfl
   rw[e];clear e;go_wp2_with(first|refine zbx hS ?_;clear hS;intro b w hS|refine zal hS ?_;clear hS;intro b2 w hS|refine zsN hS ?_;clear hS;intro w hS|refine zl1 hS ?_|(with_reducible apply CN7);rfl;rfl;rfl;rfl;rfl;exact Tryz.underlying206;refine frS ?_);refine Aa7 (by kernel_rfl) (by kernel_rfl) hS ?_
   repeat(first|refine zq1 ?_|refine zqN ?_|refine zqN ?_ (hc:=by first|exact i8.here (vs:=[.string ak,.string aw]) rfl|exact i8.there (i8.here (vs:=[.string ak,.string aw]) rfl))|apply At7;rfl;intro w;apply Ag7;rfl;decide +kernel;(focus(simp only[fD,fI,fJ,Act.eval,fE,fF,fG,fH,fK];try rfl));intro w hS;exact CA7 hp W w _ hS;refine frS ?_|apply At7;rfl;intro w;apply Bo7;rfl;rfl;decide +kernel;(focus(simp only[fD,fI,fJ,Act.eval,fE,fF,fG,fH,fK];try rfl));intro w hS;exact JC7 _ _ _ _ _ _ _ _ _ _ _ _ W w _ hS;refine frS ?_|refine qR ?_)
   clear hS;intro w hS;go_wp2_with fail;go_ret;exact⟨rfl,hS.drop.drop⟩
  ·skip
   have e:C5 ⟨5,cl,sq,ak,aw,tk,tw,it,ct,pr,bu,i⟩=ch4 ⟨5,cl,sq,ak,aw,tk,tw,it,ct,pr,bu,i⟩:=by unfold C5;rw[show K6 ⟨5,cl,sq,ak,aw,tk,tw,it,ct,pr,bu,i⟩=true from hh];rfl
   rw[e];clear e;go_wp2_with(first|refine zbx hS ?_;clear hS;intro b w hS|refine zal hS ?_;clear hS;intro b2 w hS|refine zsN hS ?_;clear hS;intro w hS|refine zl1 hS ?_|(with_reducible apply CN7);rfl;rfl;rfl;rfl;rfl;exact Tryz.underlying206;refine frS ?_);refine Aa7 (by kernel_rfl) (by kernel_rfl) hS ?_
   repeat(first|refine zq1 ?_|refine zqN ?_|refine zqN ?_ (hc:=by first|exact i8.here (vs:=[.string ak,.string aw]) rfl|exact i8.there (i8.here (vs:=[.string ak,.string aw]) rfl))|apply At7;rfl;intro w;apply Ag7;rfl;decide +kernel;(focus(simp only[fD,fI,fJ,Act.eval,fE,fF,fG,fH,fK];try rfl));intro w hS;exact CA7 hp W w _ hS;refine frS ?_|apply At7;rfl;intro w;apply Bo7;rfl;rfl;decide +kernel;(focus(simp only[fD,fI,fJ,Act.eval,fE,fF,fG,fH,fK];try rfl));intro w hS;exact JD7 _ _ _ _ _ _ _ _ _ _ _ _ W w _ hS;refine frS ?_|refine qR ?_)
   clear hS;intro w hS;go_wp2_with fail;go_ret;exact⟨rfl,hS.drop.drop⟩
  ·skip
   have e:C5 ⟨6,cl,sq,ak,aw,tk,tw,it,ct,pr,bu,i⟩=B9 ⟨6,cl,sq,ak,aw,tk,tw,it,ct,pr,bu,i⟩:=by unfold C5;rw[show K6 ⟨6,cl,sq,ak,aw,tk,tw,it,ct,pr,bu,i⟩=true from hh];rfl
   rw[e];clear e;go_wp2_with(first|refine zbx hS ?_;clear hS;intro b w hS|refine zal hS ?_;clear hS;intro b2 w hS|refine zsN hS ?_;clear hS;intro w hS|refine zl1 hS ?_|(with_reducible apply CN7);rfl;rfl;rfl;rfl;rfl;exact Tryz.underlying206;refine frS ?_);refine Aa7 (by kernel_rfl) (by kernel_rfl) hS ?_
   repeat(first|refine zq1 ?_|refine zqN ?_|refine zqN ?_ (hc:=by first|exact i8.here (vs:=[.string ak,.string aw]) rfl|exact i8.there (i8.here (vs:=[.string ak,.string aw]) rfl))|apply At7;rfl;intro w;apply Ag7;rfl;decide +kernel;(focus(simp only[fD,fI,fJ,Act.eval,fE,fF,fG,fH,fK];try rfl));intro w hS;exact CA7 hp W w _ hS;refine frS ?_|apply At7;rfl;intro w;apply Bo7;rfl;rfl;decide +kernel;(focus(simp only[fD,fI,fJ,Act.eval,fE,fF,fG,fH,fK];try rfl));intro w hS;exact DO7 _ _ _ _ _ _ _ _ _ _ _ _ W w _ hS;refine frS ?_|refine qR ?_)
   clear hS;intro w hS;go_wp2_with fail;go_ret;exact⟨rfl,hS.drop.drop⟩
  ·skip
   have e:C5 ⟨7,cl,sq,ak,aw,tk,tw,it,ct,pr,bu,i⟩=ch4 ⟨7,cl,sq,ak,aw,tk,tw,it,ct,pr,bu,i⟩:=by unfold C5;rw[show K6 ⟨7,cl,sq,ak,aw,tk,tw,it,ct,pr,bu,i⟩=true from hh];rfl
   rw[e];clear e;go_wp2_with(first|refine zbx hS ?_;clear hS;intro b w hS|refine zal hS ?_;clear hS;intro b2 w hS|refine zsN hS ?_;clear hS;intro w hS|refine zl1 hS ?_|(with_reducible apply CN7);rfl;rfl;rfl;rfl;rfl;exact Tryz.underlying206;refine frS ?_);refine Aa7 (by kernel_rfl) (by kernel_rfl) hS ?_
   repeat(first|refine zq1 ?_|refine zqN ?_|refine zqN ?_ (hc:=by first|exact i8.here (vs:=[.string ak,.string aw]) rfl|exact i8.there (i8.here (vs:=[.string ak,.string aw]) rfl))|apply At7;rfl;intro w;apply Ag7;rfl;decide +kernel;(focus(simp only[fD,fI,fJ,Act.eval,fE,fF,fG,fH,fK];try rfl));intro w hS;exact CA7 hp W w _ hS;refine frS ?_|apply At7;rfl;intro w;apply Bo7;rfl;rfl;decide +kernel;(focus(simp only[fD,fI,fJ,Act.eval,fE,fF,fG,fH,fK];try rfl));intro w hS;exact JD7 _ _ _ _ _ _ _ _ _ _ _ _ W w _ hS;refine frS ?_|refine qR ?_)
   clear hS;intro w hS;go_wp2_with fail;go_ret;exact⟨rfl,hS.drop.drop⟩
end
theorem Ci7{kd cl sq:Int}{ak aw tk tw:ByteArray}{it ct pr:Int}{bu:Bool}{i:Int}{r:Bool}(h:C5 ⟨kd,cl,sq,ak,aw,tk,tw,it,ct,pr,bu,i⟩=r)(W w:World)(R:List HP)(hS:St W R w):
  Calls Tryz.prog 85 #[oV kd cl sq ak aw tk tw it ct pr bu i] w fun e w'=>e=.returned (.bool r)/\St W R w':=h▸Pl7 kd cl sq ak aw tk tw it ct pr bu i W w R hS
theorem fd4(a b:Int×Int)(w:World):(Op.equal 94 (eW a) (eW b)).run Tryz.prog w=.ok (decide (a=b)) w:=by
 have u3:=Tryz.underlying3;have a3:=Tryz.isAgg3;have z3:=Tryz.sizeOf3;have hs:Tryz.prog.stoodInHeld 94=false:=by kernel_rfl
 obtain⟨a0,a1⟩:=a;obtain⟨b0,b1⟩:=b
 have h:∀d:Nat,(Op.equalIn (d+2) 94 (eW (a0,a1)) (eW (b0,b1))).run Tryz.prog w=.ok (decide ((a0,a1)=(b0,b1))) w:=fun d=>by
  rw[Op.equalIn];simp only[Sem.run_bind,run_underlying Tryz.underlying94,Result.andThen_ok,run_program,hs,Bool.false_eq_true,if_false];rw[<-Array.forIn_toList];simp only[List.forIn_cons,List.forIn_nil]
  go_simp
  by_cases h1:a0=b0 <;> by_cases h2:a1=b1 <;> simp[h1,h2]
 exact h 9998
theorem eN4(e:Bool)(a:Int×Int)(w:World):(Instr.checkKey e 10000 94 (eW a)).run Tryz.prog w=.ok () w:=by
 have u3:=Tryz.underlying3;have a3:=Tryz.isAgg3;have z3:=Tryz.sizeOf3;have h1:∀(d:Nat) (x:Int),(Instr.checkKey e (d+1) 3 (.I x)).run Tryz.prog w=.ok () w:=fun d x=>by rw[Instr.checkKey];simp[run_underlying u3]
 have h:∀d:Nat,(Instr.checkKey e (d+2) 94 (eW a)).run Tryz.prog w=.ok () w:=fun d=>by
  rw[Instr.checkKey];simp only[Sem.run_bind,run_underlying Tryz.underlying94,Result.andThen_ok];rw[<-Array.forIn_toList];simp only[List.forIn_cons,List.forIn_nil]
  go_simp
 exact h 9998
theorem kW:KeyOk Tryz.prog 94 eW:=KeyOk.deep Tryz.underlying94 (fun _ _=>rfl) eN4 fd4 (fun k=>by simp[Instr.sameBits])
theorem kEi:KeyOk Tryz.prog 3 eI:=KeyOk.int Tryz.underlying3
theorem mV:I9 Tryz.prog 79=some (9,100):=by kernel_rfl
theorem mS:I9 Tryz.prog 80=some (3,90):=by kernel_rfl
theorem mT:I9 Tryz.prog 81=some (94,40):=by kernel_rfl
theorem mAr:I9 Tryz.prog 82=some (94,4):=by kernel_rfl
theorem zV:N8 Tryz.prog 100=some (.pointer none):=by kernel_rfl
theorem zS:N8 Tryz.prog 90=some (eSs (0,rp0)):=by kernel_rfl
theorem zT:N8 Tryz.prog 40=some (eTn ⟨0,0,⟨#[]⟩,⟨#[]⟩,⟨#[]⟩,⟨#[]⟩,0,0⟩):=by kernel_rfl
theorem zA:N8 Tryz.prog 4=some (.bool false):=by kernel_rfl
theorem GL7(W w:World)(R:List HP)(hS:St W R w):
  Calls Tryz.prog 15 #[] w fun e w'=>∃eb,e=.returned (.P eb)/\St W (ecP eb ec0::R) w':=by
 go_enter Tryz.func15,Tryz.ntmps15;go_wp2_with(first|(with_reducible apply Ed7 (t:=79) eS eN hS);rfl;rfl;clear hS;intro m1 w hS;refine frS ?_|(with_reducible apply Ed7 (t:=80) eI eSs hS);rfl;rfl;clear hS;intro m2 w hS;refine frS ?_|(with_reducible apply Ed7 (t:=81) eW eTn hS);rfl;rfl;clear hS;intro m3 w hS;refine frS ?_|(with_reducible apply Ed7 (t:=82) eW eU hS);rfl;rfl;clear hS;intro m4 w hS;refine frS ?_|refine zbx hS ?_;clear hS;intro eb w hS);go_ret;have hS1:St W (m9 []::_) w:=St.shutS [] hS;exact⟨eb,rfl,S8 (E:=[]) (e:=ec0) (m1:=m1) (m2:=m2) (m3:=m3) (m4:=m4) (List.Perm.refl _) (hS1.s (blk eb _ _::d8 eS eN m1 []::m9 []::d8 eI eSs m2 []::d8 eW eTn m3 []::d8 eW eU m4 []::R))⟩
abbrev ebB(eb m1 m2 m3 m4:Nat):HP:=blk eb [.map (some m1),.map (some m2),.map (some m3),.map (some m4)] 84
def vAt(E:Ev)(k:ByteArray):Vs:=((m7 E k).map (·.2)).getD vs0
theorem TU7(eb m1 m2 m3 m4:Nat)(E:Ev)(k:ByteArray)(W w:World)(R:List HP)(hS:St W (ebB eb m1 m2 m3 m4::d8 eS eN m1 (j6 E)::m9 E::R) w):
  Calls Tryz.prog 101 #[.P eb,.string k] w fun e w'=>∃vb,e=.returned (.P vb) /\
   St W (ebB eb m1 m2 m3 m4::d8 eS eN m1 (j6 ((k,(vb,vAt E k))::j9 E k))::J6 vb (vAt E k)::m9 (j9 E k)::R) w':=by
 have hnd:(E.map (·.1)).Nodup:=by rw[<-AV7];exact K8 hS.drop
 cases hg:m7 E k with
 | some x=>
  obtain⟨vb,V⟩:=x;have hgl:m7 (j6 E) k=some vb:=by rw[CT7,hg];rfl
  have hv:vAt E k=V:=by unfold vAt;rw[hg];rfl
  have hp:=BB7 hnd hg;rw[hv];go_enter Tryz.func101,Tryz.ntmps101;go_wp2_with(first|go_big_skip|(with_reducible apply CE7 (ek:=eS) (ev:=eN) (k:=k) hS);rfl;rfl;rfl;rfl;exact j5;exact mV;exact kS;exact zV;exact hgl;refine frS ?_|refine zl1 hS ?_);go_ret;refine⟨vb,rfl,?_⟩;have h1:=ex4 (hp.map fun x=>(x.1,x.2.1)) hS.swap;have h2:St W (m9 E::d8 eS eN m1 (j6 ((k,(vb,V))::j9 E k))::ebB eb m1 m2 m3 m4::R) w:=h1.s _;have h3:=bE4 (aY4 hp h2);exact h3.s (ebB eb m1 m2 m3 m4::d8 eS eN m1 _::J6 vb V::m9 (j9 E k)::R)
 | none=>
  have hgl:m7 (j6 E) k=none:=by rw[CT7,hg];rfl
  have hv:vAt E k=vs0:=by unfold vAt;rw[hg];rfl
  have hd:j9 E k=E:=BN7 (BY7 hg);rw[hv,hd];go_enter Tryz.func101,Tryz.ntmps101;go_wp2_with(first|go_big_skip|(with_reducible apply Gl7 (ek:=eS) (ev:=eN) (k:=k) hS);rfl;rfl;rfl;rfl;exact j5;exact mV;exact kS;exact zV;exact hgl;refine frS ?_|refine zl1 hS ?_|go_at_call 162;refine(Jg7 W _ _ hS).mono ?_;clear hS;rintro e w ⟨vb,mb,bb,rfl,hS⟩|((with_reducible apply Bs7 (ek:=eS) (ev:=eN) (k:=k) (u:=vb) hS);rfl;rfl;rfl;rfl;exact j5;(focus(rfl));exact mV;exact kS;clear hS;intro w hS;try(refine frS ?_)));go_ret;refine⟨vb,rfl,?_⟩;rw[Io7,hd]at hS;have h1:St W (B7 vb mb bb [] [] 1 (ebB eb m1 m2 m3 m4::d8 eS eN m1 ((k,vb)::j6 E)::m9 E::R)) w:=hS.s _;have h2:=ah4 (V:=vs0) h1;have h3:=h2.s (ebB eb m1 m2 m3 m4::d8 eS eN m1 ((k,vb)::j6 E)::J6 vb vs0::m9 E::R);exact h3
theorem KK7(vb:Nat)(V:Vs){N:Nat}(hw:PsW V.ps N)(hN:N<=1000000000)(W w:World)(R:List HP)(hS:St W (J6 vb V::R) w):
  Calls Tryz.prog 107 #[.P vb] w fun e w'=>e=.returned (.bool (C6 V))/\St W (J6 vb V::R) w':=by
 obtain⟨mb,bb,hS⟩:=aF4 hS;have hl:=Bl7 V.ps;have hl32:=Cd7 hS.drop.drop;have hpl:=hw.len;go_enter Tryz.func107,Tryz.ntmps107;by_cases h0:V.ps.length+V.L.length=0
 ·have d0:(((hdL V.ps).length:Int)+(V.L.length:Int)==0)=true:=by simp;omega
  have e:C6 V=(V.n==1):=by unfold C6;rw[decide_eq_true (show V.ps.length=0 by omega),decide_eq_true (show V.L.length=0 by omega)];simp;rw[Bool.eq_iff_iff];simp
  rw[e];go_wp2_with(first|go_at_call 124;refine(Dy7 vb mb bb V.ps V.L V.n hw hN W _ _ hS).mono ?_;clear hS;rintro e w ⟨a,c,a2,c2,rfl,hS⟩);go_ret;exact⟨rfl,ah4 (hS.s _)⟩
 ·have d0:(((hdL V.ps).length:Int)+(V.L.length:Int)==0)=false:=by simp;omega
  have e:C6 V=false:=by
   cases hn:C6 V with
   | false=>rfl
   | true=>exact absurd (by rw[In7 hn];rfl) h0
  rw[e];go_wp2_with(first|go_at_call 124;refine(Dy7 vb mb bb V.ps V.L V.n hw hN W _ _ hS).mono ?_;clear hS;rintro e w ⟨a,c,a2,c2,rfl,hS⟩);go_ret;exact⟨rfl,ah4 (hS.s _)⟩
theorem GM7{V:Vs}{r:Bool}(h:C6 V=r)(vb:Nat){N:Nat}(hw:PsW V.ps N)(hN:N<=1000000000)(W w:World)(R:List HP)(hS:St W (J6 vb V::R) w):
  Calls Tryz.prog 107 #[.P vb] w fun e w'=>e=.returned (.bool r)/\St W (J6 vb V::R) w':=h▸KK7 vb V hw hN W w R hS
def cY4(E:Ev)(k:ByteArray):Ev:=match m7 E k with
 | none=>E
 | some x=>if C6 x.2=true then j9 E k else E
theorem Bg7(eb m1 m2 m3 m4:Nat)(E:Ev)(k:ByteArray){N:Nat}(hw:∀x∈E,PsW x.2.2.ps N)(hN:N<=1000000000)(W w:World)(R:List HP)(hS:St W (ebB eb m1 m2 m3 m4::d8 eS eN m1 (j6 E)::m9 E::R) w):
  Calls Tryz.prog 43 #[.P eb,.string k] w fun e w'=>e=.returned (.tuple #[])/\St W (ebB eb m1 m2 m3 m4::d8 eS eN m1 (j6 (cY4 E k))::m9 (cY4 E k)::R) w':=by
 have hnd:(E.map (·.1)).Nodup:=by rw[<-AV7];exact K8 hS.drop
 cases hg:m7 E k with
 | none=>
  have hgl:m7 (j6 E) k=none:=by rw[CT7,hg];rfl
  have e:cY4 E k=E:=by unfold cY4;rw[hg]
  rw[e];go_enter Tryz.func43,Tryz.ntmps43;go_wp2_with(first|(with_reducible apply Gl7 (ek:=eS) (ev:=eN) (k:=k) hS);rfl;rfl;rfl;rfl;exact j5;exact mV;exact kS;exact zV;exact hgl;refine frS ?_|refine zl1 hS ?_);go_end0;exact⟨rfl,hS⟩
 | some x=>
  obtain⟨vb,V⟩:=x;have hgl:m7 (j6 E) k=some vb:=by rw[CT7,hg];rfl
  have hp:=BB7 hnd hg;have Hw:=jH (hw _ (AI7 hg));have hS1:St W (m9 E::ebB eb m1 m2 m3 m4::d8 eS eN m1 (j6 E)::R) w:=hS.s _;have hS2:=bE4 (aY4 hp hS1);clear hS hS1;have hS:=hS2;clear hS2 hw
  cases hn:C6 V with
  | true=>
   have e:cY4 E k=j9 E k:=by unfold cY4;rw[hg];exact if_pos hn
   rw[e];go_enter Tryz.func43,Tryz.ntmps43;go_wp2_with(first|(with_reducible apply CE7 (ek:=eS) (ev:=eN) (k:=k) hS);rfl;rfl;rfl;rfl;exact j5;exact mV;exact kS;exact zV;exact hgl;refine frS ?_|refine zl1 hS ?_|go_at_call 107;refine(GM7 hn vb Hw.out hN W _ _ (hS.s (J6 vb V::ebB eb m1 m2 m3 m4::d8 eS eN m1 (j6 E)::m9 (j9 E k)::R))).mono ?_;clear hS;rintro e w ⟨rfl,hS⟩|((with_reducible apply Km7 (ek:=eS) (ev:=eN) (k:=k) hS);rfl;rfl;rfl;rfl;exact j5;exact mV;exact kS;clear hS;intro w hS;try(refine frS ?_)));go_end0;rw[Io7]at hS;exact⟨rfl,hS.s _⟩
  | false=>
   have e:cY4 E k=E:=by unfold cY4;rw[hg];exact if_neg (by rw[hn];exact Bool.noConfusion)
   rw[e];go_enter Tryz.func43,Tryz.ntmps43;go_wp2_with(first|(with_reducible apply CE7 (ek:=eS) (ev:=eN) (k:=k) hS);rfl;rfl;rfl;rfl;exact j5;exact mV;exact kS;exact zV;exact hgl;refine frS ?_|refine zl1 hS ?_|go_at_call 107;refine(GM7 hn vb Hw.out hN W _ _ (hS.s (J6 vb V::ebB eb m1 m2 m3 m4::d8 eS eN m1 (j6 E)::m9 (j9 E k)::R))).mono ?_;clear hS;rintro e w ⟨rfl,hS⟩);go_end0;have h1:=aY4 hp.symm (cb4 (x:=(k,(vb,V))) (hS.s (J6 vb V::m9 (j9 E k)::ebB eb m1 m2 m3 m4::d8 eS eN m1 (j6 E)::R)));exact⟨rfl,h1.s _⟩
theorem TV7{it ct x0 x1 x2 x3:Int}(h:B5 it ct=⟨x0,x1,x2,x3⟩)(h0:0<=it)(h4:it<4)(c0:1<=ct)(c1:ct<=1048576)(W w:World)(R:List HP)(hS:St W R w):
  Calls Tryz.prog 165 #[.I it,.I ct] w fun e w'=>e=.returned (.tuple #[.agg #[.I x0,.I x1,.I x2,.I x3],.bool true])/\St W R w':=by
 have d1:decide (ct<0)=false:=by simp;omega
 have d2:decide (1152921504606846976<ct)=false:=by simp;omega
 go_enter Tryz.func165,Tryz.ntmps165;have hk:it=0\/it=1\/it=2\/it=3:=by omega
 clear h0 h4
 rcases hk with rfl|rfl|rfl|rfl
 all_goals
  simp only[B5,aX4,it0,It.mk.injEq,Int.reduceEq,if_true,if_false]at h;obtain⟨rfl,rfl,rfl,rfl⟩:=h;go_wp2_with(first|(fail_if_success (have:=gA));(refine zal hS ?_;clear hS;have gA:Nat:=0;intro b1 w hS)|(have:=gA);refine zal hS ?_;clear hS;intro b2 w hS|refine zlN hS ?_|refine zsN hS ?_;clear hS;intro w hS|refine zs1 hS ?_;clear hS;intro w hS);apply Ac7;rfl;rfl;rfl;rfl;exact hS;decide +kernel;(exact x9);kernel_rfl;exact⟨rfl,hS.drop.drop⟩
theorem FW7{kd cl sq:Int}{ak aw tk tw:ByteArray}{it ct pr:Int}{bu:Bool}{i:Int}{x0 x1 x2 x3:Int}(h:B5 it ct=⟨x0,x1,x2,x3⟩)(h0:0<=it)(h4:it<4)(c0:1<=ct)(c1:ct<=1048576)(W w:World)(R:List HP)(hS:St W R w):
  Calls Tryz.prog 103 #[oV kd cl sq ak aw tk tw it ct pr bu i] w fun e w'=>e=.returned (.agg #[.I x0,.I x1,.I x2,.I x3])/\St W R w':=by
 go_enter Tryz.func103,Tryz.ntmps103;go_wp2_with(first|refine zbx hS ?_;clear hS;intro b w hS|(fail_if_success (have:=gA));(refine zal hS ?_;clear hS;have gA:Nat:=0;intro b1 w hS)|(have:=gA);refine zal hS ?_;clear hS;intro b2 w hS|refine zl1 hS ?_|refine zlN hS ?_|refine zsN hS ?_;clear hS;intro w hS|go_at_call 165;refine(TV7 h h0 h4 c0 c1 W _ _ hS).mono ?_;clear hS;rintro e w ⟨rfl,hS⟩);apply Au7;rfl;rfl;rfl;exact hS;decide +kernel;(exact x9);kernel_rfl;exact⟨rfl,hS.drop.drop.drop⟩
def O6(E:Ev)(i:Nat):Prop:=∀x∈E,VOk x.2.2.ps x.2.2.n i
theorem RE7{p:Ps}{n:Int}{i j:Nat}(h:VOk p n i)(hij:i<=j):VOk p n j:=⟨h.ok,Ap7 h.w (Nat.mul_le_mul_left _ hij),h.n0,by have:=h.n1;omega⟩
theorem Ve7{E:Ev}{i:Nat}(h:O6 E i)(k:ByteArray):VOk (vAt E k).ps (vAt E k).n i:=by
 unfold vAt
 cases hg:m7 E k with
 | none=>exact RE7 gk4 (Nat.zero_le _)
 | some x=>exact h _ (AI7 hg)
def evP(eb m1 m2 m3 m4:Nat)(E:Ev):HP:=sats [ebB eb m1 m2 m3 m4,d8 eS eN m1 (j6 E),m9 E]
def atR(v:Value)(eb m1 m2 m3 m4:Nat)(D:Ev)(k:ByteArray)(V:Vs)(i:Nat):HP:=fun f=>∃vb,(v=.P vb/\VOk V.ps V.n i)/\sats [ebB eb m1 m2 m3 m4,d8 eS eN m1 (j6 ((k,(vb,V))::D)),J6 vb V,m9 D] f
section
variable{W w:World}{R:List HP}{eb m1 m2 m3 m4:Nat}{E D:Ev}{k:ByteArray}{V:Vs}{i:Nat}{v:Value}
theorem G6(h:St W (evP eb m1 m2 m3 m4 E::R) w):St W (ebB eb m1 m2 m3 m4::d8 eS eN m1 (j6 E)::m9 E::R) w:=h.openS
theorem J7(h:St W (ebB eb m1 m2 m3 m4::d8 eS eN m1 (j6 E)::m9 E::R) w):St W (evP eb m1 m2 m3 m4 E::R) w:=St.shutS [_,_,_] h
theorem dC4(h:St W (atR v eb m1 m2 m3 m4 D k V i::R) w):∃vb mb bb,v=.P vb/\VOk V.ps V.n i/\St W (B7 vb mb bb V.ps V.L V.n (ebB eb m1 m2 m3 m4::d8 eS eN m1 (j6 ((k,(vb,V))::D))::m9 D::R)) w:=by obtain⟨vb,h⟩:=St.ex h;obtain⟨⟨h1,h2⟩,h⟩:=St.and h;have h3:St W (ebB eb m1 m2 m3 m4::d8 eS eN m1 (j6 ((k,(vb,V))::D))::J6 vb V::m9 D::R) w:=h.openS;obtain⟨mb,bb,h4⟩:=aF4 (h3.s (J6 vb V::ebB eb m1 m2 m3 m4::d8 eS eN m1 (j6 ((k,(vb,V))::D))::m9 D::R));exact⟨vb,mb,bb,h1,h2,h4⟩
theorem dD4{vb mb bb:Nat}{V':Vs}(h1:VOk V'.ps V'.n i)(h:St W (B7 vb mb bb V'.ps V'.L V'.n (ebB eb m1 m2 m3 m4::d8 eS eN m1 (j6 ((k,(vb,V))::D))::m9 D::R)) w):St W (atR (.P vb) eb m1 m2 m3 m4 D k V' i::R) w:=by have h2:=ah4 h;refine St.mkEx vb (St.mkAnd ⟨rfl,h1⟩ (St.shutS [_,_,_,_] ?_));have h3:St W (ebB eb m1 m2 m3 m4::d8 eS eN m1 (j6 ((k,(vb,V))::D))::J6 vb V'::m9 D::R) w:=h2.s _;exact h3
theorem dq4(h:St W (atR v eb m1 m2 m3 m4 D k V i::R) w):∃vb,VOk V.ps V.n i/\St W (evP eb m1 m2 m3 m4 ((k,(vb,V))::D)::R) w:=by obtain⟨vb,h⟩:=St.ex h;obtain⟨⟨_,h2⟩,h⟩:=St.and h;have h3:St W (ebB eb m1 m2 m3 m4::d8 eS eN m1 (j6 ((k,(vb,V))::D))::J6 vb V::m9 D::R) w:=h.openS;have h4:=cb4 (x:=(k,(vb,V))) (h3.s (J6 vb V::m9 D::ebB eb m1 m2 m3 m4::d8 eS eN m1 (j6 ((k,(vb,V))::D))::R));exact⟨vb,h2,J7 (h4.s _)⟩
theorem atF(hE:O6 E i){Va:Vs}{Da:Ev}(hV:vAt E k=Va)(hD:j9 E k=Da)(hS:St W (evP eb m1 m2 m3 m4 E::R) w):
  Calls Tryz.prog 101 #[.P eb,.string k] w fun e w'=>∃v,e=.returned v/\St W (atR v eb m1 m2 m3 m4 Da k Va i::R) w':=by
 subst hV hD;refine(TU7 eb m1 m2 m3 m4 E k W w R (G6 hS)).mono ?_;rintro e w' ⟨vb,rfl,hS⟩;exact⟨_,rfl,St.mkEx vb (St.mkAnd ⟨rfl,Ve7 hE k⟩ (St.shutS [_,_,_,_] hS))⟩
theorem gu4{who:ByteArray}{x0 x1 x2 x3 r:Int}{q:Ps}(hr:Q5 V.ps who ⟨x0,x1,x2,x3⟩=r)(hq:M5 V.ps who ⟨x0,x1,x2,x3⟩=q)(hS:St W (atR v eb m1 m2 m3 m4 D k V i::R) w):
  Calls Tryz.prog 102 #[v,.string who,.agg #[.I x0,.I x1,.I x2,.I x3]] w fun e w'=>e=.returned (.I r)/\St W (atR v eb m1 m2 m3 m4 D k ⟨q,V.L,V.n⟩ (i+1)::R) w':=by
 obtain⟨vb,mb,bb,rfl,hok,hS⟩:=dC4 hS;refine(UO7 vb mb bb W w _ hok who ⟨x0,x1,x2,x3⟩ hS).mono ?_;rw[hr,hq];rintro e w' ⟨rfl,h1,hS⟩;exact⟨rfl,dD4 (V':=⟨q,V.L,V.n⟩) h1 hS⟩
theorem fu4{who:ByteArray}{x0 x1 x2 x3 r:Int}{q:Ps}(hr:A5 V.ps who ⟨x0,x1,x2,x3⟩=r)(hq:A8 V.ps who ⟨x0,x1,x2,x3⟩=q)(hS:St W (atR v eb m1 m2 m3 m4 D k V i::R) w):
  Calls Tryz.prog 104 #[v,.string who,.agg #[.I x0,.I x1,.I x2,.I x3]] w fun e w'=>e=.returned (.I r)/\St W (atR v eb m1 m2 m3 m4 D k ⟨q,V.L,V.n⟩ (i+1)::R) w':=by
 obtain⟨vb,mb,bb,rfl,hok,hS⟩:=dC4 hS;refine(Tu7 vb mb bb W w _ hok who ⟨x0,x1,x2,x3⟩ hS).mono ?_;rw[hr,hq];rintro e w' ⟨rfl,h1,hS⟩;exact⟨rfl,dD4 (V':=⟨q,V.L,V.n⟩) h1 hS⟩
theorem hx4{oi ot oc op:Int}{ou:ByteArray}{oy:Bool}{r1 r2:Int}{V2:Vs}(h1:(E6 V ⟨oi,ou,oy,ot,oc,op⟩).1=r1)(h2:(E6 V ⟨oi,ou,oy,ot,oc,op⟩).2.1=r2)(h3:(E6 V ⟨oi,ou,oy,ot,oc,op⟩).2.2=V2)(hS:St W (atR v eb m1 m2 m3 m4 D k V i::R) w):
  Calls Tryz.prog 105 #[v,.agg #[.I oi,.string ou,.bool oy,.I ot,.I oc,.I op]] w fun e w'=>e=.returned (.tuple #[.I r1,.I r2])/\St W (atR v eb m1 m2 m3 m4 D k V2 (i+1)::R) w':=by
 obtain⟨vb,mb,bb,rfl,hok,hS⟩:=dC4 hS;refine(Tv7 vb mb bb W w _ hok ⟨oi,ou,oy,ot,oc,op⟩ hS).mono ?_;subst h1 h2 h3;rintro e w' ⟨rfl,h1,hS⟩;exact⟨rfl,dD4 h1 hS⟩
theorem hy4{who:ByteArray}{id r:Int}{V2:Vs}(h1:(F6 V who id).1=r)(h2:(F6 V who id).2=V2)(hS:St W (atR v eb m1 m2 m3 m4 D k V i::R) w):
  Calls Tryz.prog 106 #[v,.string who,.I id] w fun e w'=>e=.returned (.I r)/\St W (atR v eb m1 m2 m3 m4 D k V2 (i+1)::R) w':=by
 obtain⟨vb,mb,bb,rfl,hok,hS⟩:=dC4 hS;obtain⟨p,L,n⟩:=V;have h3:(F6 ⟨p,L,n⟩ who id).2.n=n:=by unfold F6;split <;> rfl
 have e:(F6 ⟨p,L,n⟩ who id).2=⟨(F6 ⟨p,L,n⟩ who id).2.ps,(F6 ⟨p,L,n⟩ who id).2.L,n⟩:=by generalize F6 ⟨p,L,n⟩ who id=z at h3 ⊢;obtain⟨z1,z2,z3,z4⟩:=z;simp only at h3;rw[h3]
 refine(Tw7 vb mb bb W w _ hok who id hS).mono ?_;subst h1 h2;rintro e' w' ⟨rfl,h1,hS⟩;refine⟨rfl,?_⟩;rw[e];exact dD4 (V':=⟨(F6 ⟨p,L,n⟩ who id).2.ps,(F6 ⟨p,L,n⟩ who id).2.L,n⟩) h1 hS
end
abbrev rV(x0 x1:Int)(y0 y1 y2 y3:Int):Value:=.agg #[.I x0,.I x1,.I y0,.I y1,.I y2,.I y3]
theorem Pm7{eb m1 m2 m3 m4:Nat}{E:Ev}{i:Nat}(hE:O6 E i)(kd cl sq:Int)(ak aw tk tw:ByteArray)(it ct pr:Int)(bu:Bool)(id:Int)(h0:0<=it)(h4:it<4)(c0:1<=ct)(c1:ct<=1048576){r:Int}{q:Ps}
  (hr:Q5 (vAt E ak).ps aw (B5 it ct)=r) (hq:M5 (vAt E ak).ps aw (B5 it ct)=q) (W w:World) (R:List HP) (hS:St W (evP eb m1 m2 m3 m4 E::R) w):
  Calls Tryz.prog 36 #[.P eb,oV kd cl sq ak aw tk tw it ct pr bu id] w fun e w'=>∃vb,VOk q (vAt E ak).n (i+1)/\e=.returned (rV r 0 0 0 0 0)/\St W (evP eb m1 m2 m3 m4 ((ak,(vb,⟨q,(vAt E ak).L,(vAt E ak).n⟩))::j9 E ak)::R) w':=by
 obtain⟨V,hV⟩:∃V,vAt E ak=V:=⟨_,rfl⟩
 obtain⟨D,hD⟩:∃D,j9 E ak=D:=⟨_,rfl⟩
 obtain⟨x,hx⟩:∃x,B5 it ct=x:=⟨_,rfl⟩
 obtain⟨x0,x1,x2,x3⟩:=x;rw[hV,hx]at hr hq;rw[hV,hD];have HE:=jH hE;have HV:=jH hV;have HD:=jH hD;have Hx:=jH hx;have Hr:=jH hr;have Hq:=jH hq;clear hE hV hD hx hr hq;go_enter Tryz.func36,Tryz.ntmps36;go_wp2_with(first|refine zbx hS ?_;clear hS;intro bO w hS|refine zal hS ?_;clear hS;intro bR w hS);have hS1:=hS.s (evP eb m1 m2 m3 m4 E::blk bR _ _::blk bO _ _::R);clear hS
 refine rf3 [0,0,2,6,15,0,32,96,0,287,1023,2047,4095] (fun i=>i==4) (fun i=>if i==9 then some (.agg #[.I x0,.I x1,.I x2,.I x3])else if i==10 then some (.I r)else none)
  [⟨some 4,some 10,fun nd=>atR (nd 4) eb m1 m2 m3 m4 D ak V i⟩,⟨some 10,none,fun nd=>atR (nd 4) eb m1 m2 m3 m4 D ak ⟨q,V.L,V.n⟩ (i+1)⟩,⟨some 12,none,fun _=>blk bR [.I r,.I 0,.I 0,.I 0,.I 0,.I 0] 31⟩] [some 4,some 12,none] hS1 ?_
 clear hS1;intro nd;refine cR ?_
 iterate 2 (refine cR ?_)
 (refine zc1 ?_);apply AP7;rfl;rfl;rfl;decide +kernel;(focus(simp only[fD,fI,fJ,Act.eval,fE,fF,fG,fH,fK];try rfl));(intro _;rfl);(intro F w hS;exact atF HE.out HV.out HD.out hS);(refine frS ?_)
 iterate 2 (refine cR ?_)
 (refine zc1 ?_);refine zcN ?_;refine zcv ?_ (hs:=by(intro F w hS;(try clear hS0);exact FW7 Hx.out h0 h4 c0 c1 W w _ hS));refine zcv ?_ (hs:=by(intro F w hS;(try clear hS0);exact gu4 Hr.out Hq.out hS));refine cR ?_;refine zcs ?_;refine Ad7 ?_;intro w hS;have hS2:St W [atR _ eb m1 m2 m3 m4 D ak ⟨q,V.L,V.n⟩ (i+1),blk bR _ _,blk bO _ _,sats R] w:=hS;clear hS;have hS:=hS2.unpack [_,_,_];clear hS2;simp only[jK,jN]at hS;go_wp2_with fail;apply Au7;rfl;rfl;rfl;exact hS;decide +kernel;(exact x9);kernel_rfl;obtain⟨vb,h1,hS3⟩:=dq4 hS;exact⟨vb,h1,rfl,hS3.s _⟩
theorem Nj7{eb m1 m2 m3 m4:Nat}{E:Ev}{i:Nat}(hE:O6 E i)(kd cl sq:Int)(ak aw tk tw:ByteArray)(it ct pr:Int)(bu:Bool)(id:Int){r1 r2:Int}{V2:Vs}
  (h1:(E6 (vAt E ak) ⟨0,aw,bu,it,ct,pr⟩).1=r1) (h2:(E6 (vAt E ak) ⟨0,aw,bu,it,ct,pr⟩).2.1=r2) (h3:(E6 (vAt E ak) ⟨0,aw,bu,it,ct,pr⟩).2.2=V2) (W w:World) (R:List HP) (hS:St W (evP eb m1 m2 m3 m4 E::R) w):
  Calls Tryz.prog 38 #[.P eb,oV kd cl sq ak aw tk tw it ct pr bu id] w fun e w'=>∃vb,VOk V2.ps V2.n (i+1)/\e=.returned (rV r2 r1 0 0 0 0)/\St W (evP eb m1 m2 m3 m4 ((ak,(vb,V2))::j9 E ak)::R) w':=by
 obtain⟨V,hV⟩:∃V,vAt E ak=V:=⟨_,rfl⟩
 obtain⟨D,hD⟩:∃D,j9 E ak=D:=⟨_,rfl⟩
 rw[hV]at h1 h2 h3;rw[hD];have H1:=jH h1;have H2:=jH h2;have H3:=jH h3;clear h1 h2 h3;have HE:=jH hE;have HV:=jH hV;have HD:=jH hD;clear hE hV hD;go_enter Tryz.func38,Tryz.ntmps38;go_wp2_with(first|refine zbx hS ?_;clear hS;intro bO w hS|refine zal hS ?_;clear hS;intro bR w hS);have hS1:=hS.s (evP eb m1 m2 m3 m4 E::blk bR _ _::blk bO _ _::R);clear hS
 refine rf3 [0,0,2,6,15,0,32,96,0,256,0,1024,0,4096,0,16384,65504,131071,262143,524287,524287,1048575,4194303] (fun i=>i==4) (fun i=>if i==17 then some (.tuple #[.I r1,.I r2])else none)
  [⟨some 4,some 17,fun nd=>atR (nd 4) eb m1 m2 m3 m4 D ak V i⟩,⟨some 17,none,fun nd=>atR (nd 4) eb m1 m2 m3 m4 D ak V2 (i+1)⟩] [some 4,none,none] hS1 ?_
 clear hS1;intro nd
 repeat(first|refine zc1 ?_|apply AP7;rfl;rfl;rfl;decide +kernel;(focus(simp only[fD,fI,fJ,Act.eval,fE,fF,fG,fH,fK];try rfl));intro _;rfl;intro F w hS;exact atF HE.out HV.out HD.out hS;refine frS ?_|refine zcv ?_ (hs:=by(intro F w hS;(try clear hS0);exact hx4 H1.out H2.out H3.out hS))|refine cR ?_)
 refine Ad7 ?_;intro w hS;have hS2:St W [atR _ eb m1 m2 m3 m4 D ak V2 (i+1),blk bR _ _,blk bO _ _,sats R] w:=hS;clear hS;have hS:=hS2.unpack [_,_,_];clear hS2;simp only[jK,jN]at hS;go_wp2_with(first|refine zsN hS ?_;clear hS;intro w hS);apply Au7;rfl;rfl;rfl;exact hS;decide +kernel;(exact x9);kernel_rfl;obtain⟨vb,h1,hS3⟩:=dq4 (hS.s (atR _ eb m1 m2 m3 m4 D ak V2 (i+1)::R));exact⟨vb,h1,rfl,hS3⟩
theorem JE7{eb m1 m2 m3 m4:Nat}{E:Ev}{i:Nat}(hE:O6 E i)(kd cl sq:Int)(ak aw tk tw:ByteArray)(it ct pr:Int)(bu:Bool)(id:Int){r:Int}{V2:Vs}
  (h1:(F6 (vAt E ak) aw id).1=r) (h2:(F6 (vAt E ak) aw id).2=V2) (W w:World) (R:List HP) (hS:St W (evP eb m1 m2 m3 m4 E::R) w):
  Calls Tryz.prog 39 #[.P eb,oV kd cl sq ak aw tk tw it ct pr bu id] w fun e w'=>∃vb,VOk V2.ps V2.n (i+1)/\e=.returned (rV r 0 0 0 0 0)/\St W (evP eb m1 m2 m3 m4 ((ak,(vb,V2))::j9 E ak)::R) w':=by
 obtain⟨V,hV⟩:∃V,vAt E ak=V:=⟨_,rfl⟩
 obtain⟨D,hD⟩:∃D,j9 E ak=D:=⟨_,rfl⟩
 rw[hV]at h1 h2;rw[hD];have H1:=jH h1;have H2:=jH h2;clear h1 h2;have HE:=jH hE;have HV:=jH hV;have HD:=jH hD;clear hE hV hD;go_enter Tryz.func39,Tryz.ntmps39;go_wp2_with(first|refine zbx hS ?_;clear hS;intro bO w hS|refine zal hS ?_;clear hS;intro bR w hS);have hS1:=hS.s (evP eb m1 m2 m3 m4 E::blk bR _ _::blk bO _ _::R);clear hS
 refine rf3 [0,0,2,6,15,0,32,96,0,256,1023,2047,4095] (fun i=>i==4) (fun i=>if i==10 then some (.I r)else none)
  [⟨some 4,some 10,fun nd=>atR (nd 4) eb m1 m2 m3 m4 D ak V i⟩,⟨some 10,none,fun nd=>atR (nd 4) eb m1 m2 m3 m4 D ak V2 (i+1)⟩,⟨some 12,none,fun _=>blk bR [.I r,.I 0,.I 0,.I 0,.I 0,.I 0] 31⟩] [some 4,some 12,none] hS1 ?_
 clear hS1;intro nd
 repeat(first|refine zc1 ?_|apply AP7;rfl;rfl;rfl;decide +kernel;(focus(simp only[fD,fI,fJ,Act.eval,fE,fF,fG,fH,fK];try rfl));intro _;rfl;intro F w hS;exact atF HE.out HV.out HD.out hS;refine frS ?_|refine zcv ?_ (hs:=by(intro F w hS;(try clear hS0);exact hy4 H1.out H2.out hS))|refine zcs ?_|refine cR ?_)
 refine Ad7 ?_;intro w hS;have hS2:St W [atR _ eb m1 m2 m3 m4 D ak V2 (i+1),blk bR _ _,blk bO _ _,sats R] w:=hS;clear hS;have hS:=hS2.unpack [_,_,_];clear hS2;simp only[jK,jN]at hS;go_wp2_with fail;apply Au7;rfl;rfl;rfl;exact hS;decide +kernel;(exact x9);kernel_rfl;obtain⟨vb,h1,hS3⟩:=dq4 hS;exact⟨vb,h1,rfl,hS3.s _⟩
theorem KL7{eb m1 m2 m3 m4:Nat}{E:Ev}{i:Nat}(hE:O6 E i)(kd cl sq:Int)(ak aw tk tw:ByteArray)(it ct pr:Int)(bu:Bool)(id:Int)(ar:List ((Int×Int)×Unit))(h0:0<=it)(h4:it<4)(c0:1<=ct)(c1:ct<=1048576){q:Ps}
  (hq:M5 (vAt E ak).ps aw (B5 it ct)=q) (W w:World) (R:List HP) (hS:St W (evP eb m1 m2 m3 m4 E::d8 eW eU m4 ar::R) w):
  Calls Tryz.prog 41 #[.P eb,oV kd cl sq ak aw tk tw it ct pr bu id] w fun e w'=>∃vb,VOk q (vAt E ak).n (i+1)/\e=.returned (rV 0 0 0 0 0 0) /\
   St W (evP eb m1 m2 m3 m4 ((ak,(vb,⟨q,(vAt E ak).L,(vAt E ak).n⟩))::j9 E ak)::d8 eW eU m4 (((cl,sq),())::j9 ar (cl,sq))::R) w':=by
 obtain⟨V,hV⟩:∃V,vAt E ak=V:=⟨_,rfl⟩
 obtain⟨D,hD⟩:∃D,j9 E ak=D:=⟨_,rfl⟩
 obtain⟨x,hx⟩:∃x,B5 it ct=x:=⟨_,rfl⟩
 obtain⟨x0,x1,x2,x3⟩:=x;rw[hV,hx]at hq;obtain⟨r,hr⟩:∃r,Q5 V.ps aw ⟨x0,x1,x2,x3⟩=r:=⟨_,rfl⟩
 rw[hV,hD];have Hx:=jH hx;have Hr:=jH hr;have Hq:=jH hq;clear hx hr hq;have HE:=jH hE;have HV:=jH hV;have HD:=jH hD;clear hE hV hD;go_enter Tryz.func41,Tryz.ntmps41;go_wp2_with(first|refine zbx hS ?_;clear hS;intro bO w hS|refine zal hS ?_;clear hS;intro bR w hS);have hS1:=hS.s (evP eb m1 m2 m3 m4 E::blk bR _ _::blk bO _ _::d8 eW eU m4 ar::R);clear hS
 refine rf3 [0,0,2,6,15,0,32,96,0,287,1023] (fun i=>i==4) (fun i=>if i==9 then some (.agg #[.I x0,.I x1,.I x2,.I x3])else if i==10 then some (.I r)else none)
  [⟨some 4,some 10,fun nd=>atR (nd 4) eb m1 m2 m3 m4 D ak V i⟩,⟨some 10,none,fun nd=>atR (nd 4) eb m1 m2 m3 m4 D ak ⟨q,V.L,V.n⟩ (i+1)⟩] [some 4,none,none] hS1 ?_
 clear hS1;intro nd
 repeat(first|refine zc1 ?_|refine zcN ?_|apply AP7;rfl;rfl;rfl;decide +kernel;(focus(simp only[fD,fI,fJ,Act.eval,fE,fF,fG,fH,fK];try rfl));intro _;rfl;intro F w hS;exact atF HE.out HV.out HD.out hS;refine frS ?_|refine zcv ?_ (hs:=by(intro F w hS;(try clear hS0);exact FW7 Hx.out h0 h4 c0 c1 W w _ hS))|refine zcv ?_ (hs:=by(intro F w hS;(try clear hS0);exact gu4 Hr.out Hq.out hS))|refine cR ?_)
 refine Ad7 ?_;intro w hS;have hS2:St W [atR _ eb m1 m2 m3 m4 D ak ⟨q,V.L,V.n⟩ (i+1),blk bR _ _,blk bO _ _,sats (d8 eW eU m4 ar::R)] w:=hS;clear hS;have hS:=hS2.unpack [_,_,_];clear hS2;simp only[jK,jN]at hS;obtain⟨vb,h1,hS3⟩:=dq4 hS;clear hS;have H1:=jH h1;clear h1;have hS:=G6 hS3;clear hS3;go_wp2_with fail;refine rt 9 hS ?_
 repeat(first|refine zq1 ?_|refine zqn ?_|refine qR ?_)
 clear hS;intro w hS;simp only[jD,List.drop_zero];go_wp2_with(first|((with_reducible apply Bs7 (ek:=eW) (ev:=eU) (k:=(cl,sq)) (u:=()) hS);rfl;rfl;rfl;rfl;exact j5;(focus(rfl));exact mAr;exact kW;clear hS;intro w hS;try(refine frS ?_))|refine zsN hS ?_;clear hS;intro w hS);apply Au7;rfl;rfl;rfl;exact hS;decide +kernel;(exact x9);kernel_rfl;exact⟨vb,H1.out,rfl,(J7 (hS.s (ebB eb m1 m2 m3 m4::d8 eS eN m1 _::m9 _::d8 eW eU m4 _::R)))⟩
theorem Pn7{eb m1 m2 m3 m4:Nat}{E:Ev}(kd cl sq:Int)(ak aw tk tw:ByteArray)(it ct pr:Int)(bu:Bool)(id:Int)(ts:List ((Int×Int)×Tns))(W w:World)(R:List HP)(hS:St W (evP eb m1 m2 m3 m4 E::d8 eW eTn m3 ts::R) w):
  Calls Tryz.prog 42 #[.P eb,oV kd cl sq ak aw tk tw it ct pr bu id] w fun e w'=>e=.returned (rV 0 0 0 0 0 0)/\St W (evP eb m1 m2 m3 m4 E::d8 eW eTn m3 (j9 ts (cl,sq))::R) w':=by
 have hS1:=G6 hS;clear hS;have hS:=hS1;clear hS1;go_enter Tryz.func42,Tryz.ntmps42;go_wp2_with(first|refine zbx hS ?_;clear hS;intro bO w hS|refine zal hS ?_;clear hS;intro bR w hS);refine rt 9 hS ?_
 repeat(first|refine zq1 ?_|refine zqn ?_|refine qR ?_)
 clear hS;intro w hS;simp only[jD,List.drop_zero];go_wp2_with(first|((with_reducible apply Km7 (ek:=eW) (ev:=eTn) (k:=(cl,sq)) hS);rfl;rfl;rfl;rfl;exact j5;exact mT;exact kW;clear hS;intro w hS;try(refine frS ?_))|refine zsN hS ?_;clear hS;intro w hS);apply Au7;rfl;rfl;rfl;exact hS;decide +kernel;(exact x9);kernel_rfl;exact⟨rfl,J7 (hS.s (ebB eb m1 m2 m3 m4::d8 eS eN m1 _::m9 _::d8 eW eTn m3 _::R))⟩
end Go.Proofs.YtlmhakmoioogaaaGreat
end
