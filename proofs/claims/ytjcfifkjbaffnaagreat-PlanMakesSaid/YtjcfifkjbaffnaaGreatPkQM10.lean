/-
  Rules of the walk.
-/
import Derived.Test.YtjcfifkjbaffnaaGreatPkQM4
import Derived.Test.YtjcfifkjbaffnaaGreatPkQM5
import Derived.Test.YtjcfifkjbaffnaaGreatPkQM6
import Derived.Test.YtjcfifkjbaffnaaGreatPkQM9
import Derived.Laws.StructEq
import Derived.Sort.Walk0
set_option maxHeartbeats 16000000
set_option maxRecDepth 100000
set_option linter.unusedSimpArgs false
set_option linter.unusedVariables false
section
namespace Go.Sl
open Go.RowKit
section
variable{κ ν:Type}[DecidableEq κ]{P:Program}{t K E:TypeId}{ek:κ->Value}{ev:ν->Value}{W w:World}{L R:List HP}{b:Nat}{l:List (κ×ν)}{ops:Array Oper}{a:Act}{rest:List Oper}{o:Oper}
theorem Jn7{k:κ}{z:Value}{d u:ν}(hd:z=ev d)(hu:(m6 l k).getD d=u):F9 false z ((m6 l k).map ev)=ev u:=by
 subst hu hd
 cases m6 l k <;> rfl
theorem Ae7{Q:Act->Prop}{x y:Operand}{k:κ}{z:Value}(d u:ν)(ho:o.op=.lookup t x y false)(hg:Region.wanted o (yielded ops a.tmps)=true)(hx:a.eval x=.map (some b))(hy:a.eval y=ek k)(hu:Take L (i5 ek ev b l) R)
  (ht:A7 P t=some (K,E)) (hK:KeyOk P K ek) (hz:w6 P E=some z) (hd:z=ev d) (hv:(m6 l k).getD d=u) (h:wpQuiet P ops (St W L) Q rest (a.put o.dst (ev u))):wpQuiet P ops (St W L) Q (o::rest) a:=
 Ce7 hg (fun w hS=>by unfold execOp;simp[ho,hx,hy,Cj7 (hS.take hu) ht hK hz,Jn7 hd hv]) h
end
section
variable{P:Program}{w:World}{ops:Array Oper}{Q:Exit->Act->World->Prop}{a:Act}{rest:List Oper}{o:Oper}
theorem IH7{t t2:TypeId}{x y:Operand}{xs ys:Array Value}{r:Bool}(ho:o.op=.binOp .eql t x y t2)(hg:Region.wanted o (yielded ops a.tmps)=true)(hx:a.eval x=.agg xs)(hy:a.eval y=.agg ys)(hm:P.eqGuardType P.depth t=false)(hr:∀w:World,(Op.equalIn 10000 t (.agg xs) (.agg ys)).run P w=.ok r w)
  (h:wpList P ops Q rest (a.put o.dst (.bool r)) w):wpList P ops Q (o::rest) a w:=by
 refine Al7 hg (v:=.bool r) (w':=w) ?_ h;unfold execOp;simp[ho,hx,hy,run_eqGuard_agg w .eql t x y xs ys hm,run_eql_struct,hr]
end
section
variable{P:Program}{W:World}{L:List HP}{ops:Array Oper}{Q:Act->Prop}{a:Act}{rest:List Oper}{o:Oper}
theorem Ec7{t t2:TypeId}{x y:Operand}{xs ys:Array Value}{r:Bool}(ho:o.op=.binOp .neq t x y t2)(hg:Region.wanted o (yielded ops a.tmps)=true)(hx:a.eval x=.agg xs)(hy:a.eval y=.agg ys)(hm:P.eqGuardType P.depth t=false)(hr:∀w:World,(Op.equalIn 10000 t (.agg xs) (.agg ys)).run P w=.ok r w)
  (h:wpQuiet P ops (St W L) Q rest (a.put o.dst (.bool (!r)))):wpQuiet P ops (St W L) Q (o::rest) a:=
 Ce7 hg (fun w _=>by unfold execOp;simp[ho,hx,hy,run_eqGuard_agg w .neq t x y xs ys hm,run_neq_struct,hr]) h
end
section
variable{P:Program}{a:Act}{o:Oper}
theorem Ap7{x:Operand}{f:FuncId}{xs:Array Operand}{ats:Array TypeId}{args:Array Value}(w:World)(ho:o.op=.call { callee:=.value x,args:=xs,argTypes:=ats })(hf:a.eval x=.func (.func f) #[] #[])(hb:t8 P f=true)(hx:xs.map a.eval=args):
  (execOp a.eval o).run P w=.ok (.enter f args) w:=by
 unfold execOp;simp only[ho,resolve,Sem.run_bind,hf,Deferred.ofValue,hx,Sem.run_pure,Result.andThen_ok];simp[invoke,AI7 hb]
end
section
variable{P:Program}{ops:Array Oper}{Q:Exit->Act->World->Prop}{a:Act}{w:World}{rest:List Oper}{o:Oper}
def bT4:Value->Option Bool
 | .nilFunc=>some true
 | .func _ _ _=>some false
 | _=>none
end
section
variable{κ ν:Type}[DecidableEq κ]{P:Program}{t K E:TypeId}{ek:κ->Value}{ev:ν->Value}{W w:World}{L R:List HP}{b:Nat}{l:List (κ×ν)}{ops:Array Oper}{a:Act}{rest:List Oper}{o:Oper}
end
section
variable{P:Program}{W:World}{ops:Array Oper}{t:List Nat}{toks:List Tok}{fresh:Nat->Bool}{pin:Nat->Option Value}{Qf:Act->Prop}{nd:Nat->Value}{i:Nat}{o:Oper}{l:List Oper}{a:Act}
end
section
variable{P:Program}{W:World}{L:List HP}{ops:Array Oper}{Q:Act->Prop}{a:Act}{rest:List Oper}{o:Oper}
theorem AQ7{t:TypeId}{x:Operand}{i:Nat}{u v:Value}(ho:o.op=.field t x i)(hg:Region.wanted o (yielded ops a.tmps)=true)(hx:a.eval x=u)(hr:∀w:World,(Instr.field t u i).run P w=.ok v w)
  (h:wpQuiet P ops (St W L) Q rest (a.put o.dst v)):wpQuiet P ops (St W L) Q (o::rest) a:=
 Ce7 hg (fun w _=>by unfold execOp;simp[ho,hx,hr]) h
end
section
variable{P:Program}{w:World}
theorem Ds7{a:Act}{W:World}{L:List HP}{o:Oper}{x:Operand}{name:String}{xs:Array Operand}{ats:Array TypeId}{t e:TypeId}{f:FuncId}{b off:Nat}{vs:List Value}{args:Array Value}(hS:St W L w)(ho:o.op=.call { callee:=.invoke x name,args:=xs,argTypes:=ats })
  (hx:a.eval x=.iface t (.pointer (some ⟨b,off,none⟩))) (hm:F8 P t name=some (f,false)) (hb:t8 P f=true) (hu:G9 P t=some e) (ha:m7 P e=some true) (hz:j6 P e=some vs.length) (hc:a7 L b off vs) (hargs:xs.map a.eval=args):
  (execOp a.eval o).run P w=.ok (.enter f (#[.agg vs.toArray]++args)) w:=by
 have h2:=BG7 (w:=w) (P:=P) (p:=⟨b,off,none⟩) ha hz (fun j v hj=>by rw[Addr.add_lit];exact hc j v hj W w hS);unfold execOp;simp only[ho,resolve,invoke,Sem.run_bind,Sem.run_pure,Result.andThen_ok,hx,hargs,Array.extract_append];simp[DG7,callMethod,CH7 hm hu h2,AI7 hb,Made.depth]
def ax4(P:Program)(t:TypeId)(k:Nat):Bool:=match G9 P t with|some e=>m7 P e==some true&&j6 P e==some k|none=>false
theorem Cq7{t:TypeId}{k:Nat}(h:ax4 P t k=true):∃e,G9 P t=some e/\m7 P e=some true/\j6 P e=some k:=by
 unfold ax4 at h
 cases he:G9 P t with
 | none=>rw[he]at h;cases h
 | some e=>rw[he]at h;simp only[jB,beq_iff_eq]at h;exact⟨e,rfl,h.1,h.2⟩
theorem AZ7(f:FuncId){ops:Array Oper}{Q:Exit->Act->World->Prop}{a:Act}{W:World}{L:List HP}{rest:List Oper}{o:Oper}{x:Operand}{name:String}{xs:Array Operand}{ats:Array TypeId}{t:TypeId}{b off:Nat}{vs:List Value}{args:Array Value}(hS:St W L w)(ho:o.op=.call { callee:=.invoke x name,args:=xs,argTypes:=ats })
  (hg:Region.wanted o (yielded ops a.tmps)=true) (hx:a.eval x=.iface t (.pointer (some ⟨b,off,none⟩))) (hm:F8 P t name=some (f,false)) (hb:t8 P f=true) (hc:a7 L b off vs) (hu:ax4 P t vs.length=true) (hargs:xs.map a.eval=args)
  (h:Calls P f (#[.agg vs.toArray]++args) w fun e w'=>∃v,e=.returned v/\wpList P ops Q rest (a.put o.dst v) w'):wpList P ops Q (o::rest) a w:=
 let ⟨_,h1,h2,h3⟩:=Cq7 hu
 ES7 hg (Ds7 hS ho hx hm hb h1 h2 h3 hc hargs) h
theorem EF7(f:FuncId){ops:Array Oper}{Q:Exit->Act->World->Prop}{a:Act}{rest:List Oper}{o:Oper}(k:Nat){x:Operand}{name:String}{xs:Array Operand}{ats:Array TypeId}{t:TypeId}{p:Addr}{args:Array Value}(ho:o.op=.call { callee:=.invoke x name,args:=xs,argTypes:=ats })
  (hg:Region.wanted o (yielded ops a.tmps)=true) (hx:a.eval x=.iface t (.pointer (some p))) (hm:F8 P t name=some (f,true)) (hb:t8 P f=true) (hu:ax4 P t k=true) (hargs:xs.map a.eval=args)
  (h:Calls P f (#[.pointer (some p)]++args) w fun e w'=>∃v,e=.returned v/\wpList P ops Q rest (a.put o.dst v) w'):wpList P ops Q (o::rest) a w:=
 let ⟨_,h1,_⟩:=Cq7 hu
 ES7 hg (DH7 ho hx hm hb h1 hargs) h
end
section
variable{P:Program}{fn:Func}{R:Ending->World->Prop}{a:Act}{W w:World}{L:List HP}
theorem Au7{p p2 q:Tmp}{ty ty2:TypeId}{b off b2 off2:Nat}{vs vs2:List Value}{v:Value}(hres:fn.results=#[.cell p ty,.cell p2 ty2,.tmp q])(hp:a.tmps.getD p undef=.pointer (some ⟨b,off,none⟩))(hp2:a.tmps.getD p2 undef=.pointer (some ⟨b2,off2,none⟩))(hq:a.tmps.getD q undef=v)(hd:a.defers=[])(hS:St W L w)(ht:m7 P ty=some true)
  (hc:a7 L b off vs) (hz:j6 P ty=some vs.length) (ht2:m7 P ty2=some true) (hc2:a7 L b2 off2 vs2) (hz2:j6 P ty2=some vs2.length) (h:R (.returned (.tuple #[.agg vs.toArray,.agg vs2.toArray,v])) w):bodyPost P fn R .ret a w:=by
 refine bodyPost_ret (v:=.tuple #[.agg vs.toArray,.agg vs2.toArray,v]) ?_ hd h;have h1:=BW7 (P:=P) (w:=w) hp;have g1:=BW7 (P:=P) (w:=w) hp2;have h2:=BG7 (w:=w) (P:=P) (p:=⟨b,off,none⟩) ht hz (fun j v hj=>by rw[Addr.add_lit];exact hc j v hj W w hS);have g2:=BG7 (w:=w) (P:=P) (p:=⟨b2,off2,none⟩) ht2 hz2 (fun j v hj=>by rw[Addr.add_lit];exact hc2 j v hj W w hS);subst hq;simp[results,hres,Sem.run_bind,Result.andThen]at h1 g1 ⊢;simp[h1,h2,g1,g2]
end
section
variable{P:Program}{W:World}{ops:Array Oper}{t:List Nat}{toks:List Tok}{fresh:Nat->Bool}{pin:Nat->Option Value}{Qf:Act->Prop}{nd:Nat->Value}{i:Nat}{l:List Oper}{a:Act}{o:Oper}
theorem Dt7{ty:TypeId}{xs:Array (Nat×Operand)}{vs:Array (Nat×Value)}{v:Value}(hf:fresh i=false)(hn:x9 toks i=true)(ho:o.op=.build ty xs)(hg:Region.wanted o (yielded ops a.tmps)=true)(hx:(xs.map fun(i,x)=>(i,a.eval x))=vs)
  (hv:∀F w,St W (kpL toks t i nd++F) w->(Instr.build ty vs).run P w=.ok v w) (h:d9 P W ops t toks fresh pin Qf nd (i+1) l (a.put o.dst v)):d9 P W ops t toks fresh pin Qf nd i (o::l) a:=
 By7 hf hn hg (fun F w hS=>by unfold execOp;simp only[ho,hx,Sem.run_bind,hv F w hS,Result.andThen_ok,Sem.run_pure]) h
end
end Go.Sl
end
section
namespace Go.Proofs.YtjcfifkjbaffnaaGreat
open Go.RowKit Go.Sl
theorem GR7(a b:ByteArray):ltU a b=decide (a.data.toList<b.data.toList):=by unfold ltU;rw[bytesLess_eq,Lib.toList_data,Lib.toList_data]
theorem Du7(f t:ByteArray):ltU f t=(!ltU t f&&!(t.toList==f.toList)):=by
 have e:(t.toList==f.toList)=decide (t.data.toList=f.data.toList):=by rw[Lib.toList_data,Lib.toList_data,Bool.eq_iff_iff];simp
 rw[e,GR7,GR7,Bool.eq_iff_iff];simp only[jB,Bool.not_eq_true',decide_eq_true_eq,decide_eq_false_iff_not];constructor
 ·intro h;exact⟨List.lt_asymm h,fun e=>by rw[e]at h;exact List.lt_irrefl _ h⟩
 ·rintro⟨h1,h2⟩;rcases Classical.em (f.data.toList<t.data.toList)with h|h
  ·exact h
  ·exact absurd (List.le_antisymm (List.not_lt.1 h) (List.not_lt.1 h1)) h2
theorem Ax7(u:ByteArray):(u.toList==[])=p8 u:=by
 rw[Lib.toList_data];obtain⟨⟨l⟩⟩:=u;unfold p8
 cases l <;> simp[ByteArray.size]
def isB(f t:ByteArray):Bool:=decide ((f.size:Int)<=16)&&(decide ((t.size:Int)<=16)&&((t.toList==[])||(!ltU t f&&!(t.toList==f.toList))))
def inB(f t k:ByteArray):Bool:=isB f t&&(decide (1<=(k.size:Int))&&(decide ((k.size:Int)<=16)&&(!(ltU k f)&&((t.toList==[])||ltU k t))))
theorem Fm7(f t:ByteArray):isB f t=spB f t:=by
 unfold isB spB;rw[Ax7,<-Du7]
 congr 1
 ·rw[decide_eq_decide];omega
 ·congr 1
  rw[decide_eq_decide];omega
theorem II7(f t k:ByteArray):inB f t k=aa4 f t k:=by
 unfold inB aa4;rw[Fm7,Ax7]
 congr 2
 ·rw[decide_eq_decide];omega
 ·congr 1
  rw[decide_eq_decide];omega
theorem Cr7{f t:ByteArray}{r:Bool}(hr:isB f t=r)(W w:World)(R:List HP)(hS:St W R w):
  Calls Tryz.prog 78 #[.agg #[.string f,.string t]] w fun e w'=>e=.returned (.bool r)/\St W R w':=by
 go_enter Tryz.func78,Tryz.ntmps78;unfold isB at hr
 cases h1:decide ((f.size:Int)<=16)with
 | false=>
  rw[h1]at hr;obtain rfl:false=r:=hr;go_wp2_with(first|go_big_skip|refine zbx hS ?_;clear hS;intro bO w hS|refine zl1 hS ?_);go_ret;exact⟨rfl,hS.drop⟩
 | true=>
  rw[h1]at hr
  cases h2:decide ((t.size:Int)<=16)with
  | false=>
   rw[h2]at hr;obtain rfl:false=r:=hr;go_wp2_with(first|go_big_skip|refine zbx hS ?_;clear hS;intro bO w hS|refine zl1 hS ?_);go_ret;exact⟨rfl,hS.drop⟩
  | true=>
   rw[h2]at hr
   cases h3:t.toList==[]with
   | true=>
    rw[h3]at hr;obtain rfl:true=r:=hr;go_wp2_with(first|go_big_skip|refine zbx hS ?_;clear hS;intro bO w hS|refine zl1 hS ?_);go_ret;exact⟨rfl,hS.drop⟩
   | false=>
    rw[h3]at hr;have hr2:(!ltU t f&&!(t.toList==f.toList))=r:=hr;have Hr:=jH hr2;clear hr hr2;go_wp2_with(first|go_big_skip|refine zbx hS ?_;clear hS;intro bO w hS|refine zl1 hS ?_);go_ret;rw[<-Hr.out];exact⟨rfl,hS.drop⟩
theorem JZ7{f t k:ByteArray}{r:Bool}(hr:inB f t k=r)(W w:World)(R:List HP)(hS:St W R w):
  Calls Tryz.prog 70 #[.agg #[.string f,.string t],.string k] w fun e w'=>e=.returned (.bool r)/\St W R w':=by
 go_enter Tryz.func70,Tryz.ntmps70;unfold inB at hr
 cases h1:isB f t with
 | false=>
  rw[h1]at hr;obtain rfl:false=r:=hr;have H1:=jH h1;clear h1;go_wp2_with(first|go_big_skip|refine zbx hS ?_;clear hS;intro bO w hS|refine zlN hS ?_|refine zl1 hS ?_|go_at_call 78;refine(Cr7 H1.out W _ _ hS).mono ?_;clear hS;rintro e w ⟨rfl,hS⟩);go_ret;exact⟨rfl,hS.drop⟩
 | true=>
  rw[h1]at hr;have H1:=jH h1;clear h1
  cases h2:decide (1<=(k.size:Int))with
  | false=>
   rw[h2]at hr;obtain rfl:false=r:=hr;go_wp2_with(first|go_big_skip|refine zbx hS ?_;clear hS;intro bO w hS|refine zlN hS ?_|refine zl1 hS ?_|go_at_call 78;refine(Cr7 H1.out W _ _ hS).mono ?_;clear hS;rintro e w ⟨rfl,hS⟩);go_ret;exact⟨rfl,hS.drop⟩
  | true=>
   rw[h2]at hr
   cases h3:decide ((k.size:Int)<=16)with
   | false=>
    rw[h3]at hr;obtain rfl:false=r:=hr;go_wp2_with(first|go_big_skip|refine zbx hS ?_;clear hS;intro bO w hS|refine zlN hS ?_|refine zl1 hS ?_|go_at_call 78;refine(Cr7 H1.out W _ _ hS).mono ?_;clear hS;rintro e w ⟨rfl,hS⟩);go_ret;exact⟨rfl,hS.drop⟩
   | true=>
    rw[h3]at hr
    cases h4:Op.bytesLess k.toList f.toList with
    | true=>
     rw[show ltU k f=true from h4]at hr;obtain rfl:false=r:=hr;go_wp2_with(first|go_big_skip|refine zbx hS ?_;clear hS;intro bO w hS|refine zlN hS ?_|refine zl1 hS ?_|go_at_call 78;refine(Cr7 H1.out W _ _ hS).mono ?_;clear hS;rintro e w ⟨rfl,hS⟩);go_ret;exact⟨rfl,hS.drop⟩
    | false=>
     rw[show ltU k f=false from h4]at hr
     cases h5:t.toList==[]with
     | true=>
      rw[h5]at hr;obtain rfl:true=r:=hr;go_wp2_with(first|go_big_skip|refine zbx hS ?_;clear hS;intro bO w hS|refine zlN hS ?_|refine zl1 hS ?_|go_at_call 78;refine(Cr7 H1.out W _ _ hS).mono ?_;clear hS;rintro e w ⟨rfl,hS⟩);go_ret;exact⟨rfl,hS.drop⟩
     | false=>
      rw[h5]at hr;have hr2:ltU k t=r:=hr;have Hr:=jH hr2;clear hr hr2;go_wp2_with(first|go_big_skip|refine zbx hS ?_;clear hS;intro bO w hS|refine zlN hS ?_|refine zl1 hS ?_|go_at_call 78;refine(Cr7 H1.out W _ _ hS).mono ?_;clear hS;rintro e w ⟨rfl,hS⟩);go_ret;rw[<-Hr.out];exact⟨rfl,hS.drop⟩
theorem E8{f t:ByteArray}{r:Bool}(hr:spB f t=r)(W w:World)(R:List HP)(hS:St W R w):
  Calls Tryz.prog 78 #[.agg #[.string f,.string t]] w fun e w'=>e=.returned (.bool r)/\St W R w':=Cr7 ((Fm7 f t).trans hr) W w R hS
theorem aT4{f t k:ByteArray}{r:Bool}(hr:aa4 f t k=r)(W w:World)(R:List HP)(hS:St W R w):
  Calls Tryz.prog 70 #[.agg #[.string f,.string t],.string k] w fun e w'=>e=.returned (.bool r)/\St W R w':=JZ7 ((II7 f t k).trans hr) W w R hS
theorem Bj7{f t k:ByteArray}{r:Bool}(hr:B5 f t k=r)(W w:World)(R:List HP)(hS:St W R w):
  Calls Tryz.prog 42 #[.agg #[.string f,.string t],.string k] w fun e w'=>∃f1 t1 f2 t2,e=.returned (.tuple #[.agg #[.string f1,.string t1],.agg #[.string f2,.string t2],.bool r])/\St W R w':=by
 go_enter Tryz.func42,Tryz.ntmps42;unfold B5 at hr
 cases h1:aa4 f t k with
 | false=>
  rw[h1]at hr;obtain rfl:false=r:=hr;have H1:=jH h1;clear h1;go_wp2_with(first|go_big_skip|refine zbx hS ?_;clear hS;intro bO w hS|(fail_if_success (have:=mA1));(refine zal hS ?_;clear hS;have mA1:Nat:=0;intro bA w hS)|(have:=mA1);refine zal hS ?_;clear hS;intro bB w hS|refine zlN hS ?_|refine zl1 hS ?_|go_at_call 70;refine(aT4 H1.out W _ _ hS).mono ?_;clear hS;rintro e w ⟨rfl,hS⟩|refine zsN hS ?_;clear hS;intro w hS);apply Au7;rfl;rfl;rfl;rfl;rfl;exact hS;decide +kernel;exact s9;kernel_rfl;decide +kernel;exact s9;kernel_rfl;exact⟨_,_,_,_,rfl,hS.s _⟩
 | true=>
  rw[h1]at hr;have hb:Op.bytesLess k.toList f.toList=false:=by unfold aa4 at h1;simp only[jB,Bool.not_eq_true']at h1;exact h1.2.2.2.1
  have hlt:ltU f k=(!ltU k f&&!(k.toList==f.toList)):=Du7 f k;have H1:=jH h1;rw[hlt,show ltU k f=false from hb]at hr;clear h1 hlt
  cases he:k.toList==f.toList with
  | true=>
   rw[he]at hr;obtain rfl:false=r:=hr;go_wp2_with(first|go_big_skip|refine zbx hS ?_;clear hS;intro bO w hS|(fail_if_success (have:=mA1));(refine zal hS ?_;clear hS;have mA1:Nat:=0;intro bA w hS)|(have:=mA1);refine zal hS ?_;clear hS;intro bB w hS|refine zlN hS ?_|refine zl1 hS ?_|go_at_call 70;refine(aT4 H1.out W _ _ hS).mono ?_;clear hS;rintro e w ⟨rfl,hS⟩|refine zsN hS ?_;clear hS;intro w hS);apply Au7;rfl;rfl;rfl;rfl;rfl;exact hS;decide +kernel;exact s9;kernel_rfl;decide +kernel;exact s9;kernel_rfl;exact⟨_,_,_,_,rfl,hS.s _⟩
  | false=>
   rw[he]at hr;obtain rfl:true=r:=hr;go_wp2_with(first|go_big_skip|refine zbx hS ?_;clear hS;intro bO w hS|(fail_if_success (have:=mA1));(refine zal hS ?_;clear hS;have mA1:Nat:=0;intro bA w hS)|(have:=mA1);refine zal hS ?_;clear hS;intro bB w hS|refine zlN hS ?_|refine zl1 hS ?_|go_at_call 70;refine(aT4 H1.out W _ _ hS).mono ?_;clear hS;rintro e w ⟨rfl,hS⟩);have hS1:=hS.s (blk bA [.string ⟨#[]⟩,.string ⟨#[]⟩] 53::blk bB [.string ⟨#[]⟩,.string ⟨#[]⟩] 53::blk bO [.string f,.string t] 53::R);clear hS
   refine rf2 [0,1,0,7,0,0,32,112,15,511,1023] (fun i=>false) [⟨some 8,none,fun nd=>blk bA [.string f,.string k] 53⟩,⟨some 9,none,fun nd=>blk bB [.string k,.string t] 53⟩]
    [some 8,some 9,none] hS1 ?_
   intro nd
   repeat(first|refine zc1 ?_|refine zcN ?_|refine zcn ?_|refine zca ?_|refine zct ?_|refine zcs ?_|refine cR ?_)
   refine AC7 ?_;clear hS1;intro w hS0;have hS1:St W [blk bA [.string f,.string k] 53,blk bB [.string k,.string t] 53,blk bO [.string f,.string t] 53,sats R] w:=hS0;have hS:=hS1.unpack [_,_,_];clear hS0 hS1;simp only[jK,jN]at hS;go_wp2_with(first|go_big_skip);apply Au7;rfl;rfl;rfl;rfl;rfl;exact hS;decide +kernel;exact s9;kernel_rfl;decide +kernel;exact s9;kernel_rfl;exact⟨_,_,_,_,rfl,hS.s _⟩
def L9(f t f2 t2:ByteArray):Bool:=spB f t&&(spB f2 t2&&(!(p8 t)&&(t.toList==f2.toList)))
theorem Jo7{f t f2 t2:ByteArray}(hr:L9 f t f2 t2=false)(W w:World)(R:List HP)(hS:St W R w):
  Calls Tryz.prog 77 #[.agg #[.string f,.string t],.agg #[.string f2,.string t2]] w fun e w'=>e=.returned (.tuple #[.agg #[.string ⟨#[]⟩,.string ⟨#[]⟩],.bool false])/\St W R w':=by
 go_enter Tryz.func77,Tryz.ntmps77;unfold L9 at hr;rw[<-Ax7]at hr
 cases h1:spB f t with
 | false=>
  have H1:=jH h1;clear h1 hr;go_wp2_with(first|go_big_skip|(fail_if_success (have:=mB1));(refine zbx hS ?_;clear hS;have mB1:Nat:=0;intro bO w hS)|(have:=mB1);refine zbx hS ?_;clear hS;intro bP w hS|refine zal hS ?_;clear hS;intro b w hS|refine zlN hS ?_|refine zl1 hS ?_|(fail_if_success (have:=mI1));(go_at_call 78;refine(E8 H1.out W _ _ hS).mono ?_;clear hS;have mI1:Nat:=0;rintro e w ⟨rfl,hS⟩)|(have:=mI1);go_at_call 78;refine(E8 H2.out W _ _ hS).mono ?_;clear hS;rintro e w ⟨rfl,hS⟩|refine zsN hS ?_;clear hS;intro w hS);apply AD7;rfl;rfl;rfl;rfl;exact hS;decide +kernel;(exact s9);kernel_rfl;exact⟨rfl,hS.s _⟩
 | true=>
  rw[h1]at hr;have H1:=jH h1;clear h1
  cases h2:spB f2 t2 with
  | false=>
   have H2:=jH h2;clear h2 hr;go_wp2_with(first|go_big_skip|(fail_if_success (have:=mB1));(refine zbx hS ?_;clear hS;have mB1:Nat:=0;intro bO w hS)|(have:=mB1);refine zbx hS ?_;clear hS;intro bP w hS|refine zal hS ?_;clear hS;intro b w hS|refine zlN hS ?_|refine zl1 hS ?_|(fail_if_success (have:=mI1));(go_at_call 78;refine(E8 H1.out W _ _ hS).mono ?_;clear hS;have mI1:Nat:=0;rintro e w ⟨rfl,hS⟩)|(have:=mI1);go_at_call 78;refine(E8 H2.out W _ _ hS).mono ?_;clear hS;rintro e w ⟨rfl,hS⟩|refine zsN hS ?_;clear hS;intro w hS);apply AD7;rfl;rfl;rfl;rfl;exact hS;decide +kernel;(exact s9);kernel_rfl;exact⟨rfl,hS.s _⟩
  | true=>
   rw[h2]at hr;have H2:=jH h2;clear h2
   cases h3:t.toList==[]with
   | true=>
    clear hr;go_wp2_with(first|go_big_skip|(fail_if_success (have:=mB1));(refine zbx hS ?_;clear hS;have mB1:Nat:=0;intro bO w hS)|(have:=mB1);refine zbx hS ?_;clear hS;intro bP w hS|refine zal hS ?_;clear hS;intro b w hS|refine zlN hS ?_|refine zl1 hS ?_|(fail_if_success (have:=mI1));(go_at_call 78;refine(E8 H1.out W _ _ hS).mono ?_;clear hS;have mI1:Nat:=0;rintro e w ⟨rfl,hS⟩)|(have:=mI1);go_at_call 78;refine(E8 H2.out W _ _ hS).mono ?_;clear hS;rintro e w ⟨rfl,hS⟩|refine zsN hS ?_;clear hS;intro w hS);apply AD7;rfl;rfl;rfl;rfl;exact hS;decide +kernel;(exact s9);kernel_rfl;exact⟨rfl,hS.s _⟩
   | false=>
    rw[h3]at hr;have hr2:(t.toList==f2.toList)=false:=hr;clear hr;go_wp2_with(first|go_big_skip|(fail_if_success (have:=mB1));(refine zbx hS ?_;clear hS;have mB1:Nat:=0;intro bO w hS)|(have:=mB1);refine zbx hS ?_;clear hS;intro bP w hS|refine zal hS ?_;clear hS;intro b w hS|refine zlN hS ?_|refine zl1 hS ?_|(fail_if_success (have:=mI1));(go_at_call 78;refine(E8 H1.out W _ _ hS).mono ?_;clear hS;have mI1:Nat:=0;rintro e w ⟨rfl,hS⟩)|(have:=mI1);go_at_call 78;refine(E8 H2.out W _ _ hS).mono ?_;clear hS;rintro e w ⟨rfl,hS⟩|refine zsN hS ?_;clear hS;intro w hS);apply AD7;rfl;rfl;rfl;rfl;exact hS;decide +kernel;(exact s9);kernel_rfl;exact⟨rfl,hS.s _⟩
theorem If7{f t f2 t2:ByteArray}(hr:L9 f t f2 t2=true)(W w:World)(R:List HP)(hS:St W R w):
  Calls Tryz.prog 77 #[.agg #[.string f,.string t],.agg #[.string f2,.string t2]] w fun e w'=>e=.returned (.tuple #[.agg #[.string f,.string t2],.bool true])/\St W R w':=by
 go_enter Tryz.func77,Tryz.ntmps77;unfold L9 at hr;rw[<-Ax7]at hr;simp only[jB,Bool.not_eq_true']at hr;obtain⟨h1,h2,h3,h4⟩:=hr;have H1:=jH h1;have H2:=jH h2;clear h1 h2;go_wp2_with(first|go_big_skip|(fail_if_success (have:=mB1));(refine zbx hS ?_;clear hS;have mB1:Nat:=0;intro bO w hS)|(have:=mB1);refine zbx hS ?_;clear hS;intro bP w hS|refine zal hS ?_;clear hS;intro b w hS|refine zlN hS ?_|refine zl1 hS ?_|(fail_if_success (have:=mI1));(go_at_call 78;refine(E8 H1.out W _ _ hS).mono ?_;clear hS;have mI1:Nat:=0;rintro e w ⟨rfl,hS⟩)|(have:=mI1);go_at_call 78;refine(E8 H2.out W _ _ hS).mono ?_;clear hS;rintro e w ⟨rfl,hS⟩|refine zsN hS ?_;clear hS;intro w hS);apply AD7;rfl;rfl;rfl;rfl;exact hS;decide +kernel;(exact s9);kernel_rfl;exact⟨rfl,hS.s _⟩
def D7(n:Int):Bool:=decide (1<=n)&&decide (n<=1099511627776)
theorem Ed7(n:Int):D7 n=true↔1<=n/\n<=1099511627776:=by unfold D7;simp
def aA4(z:Zo):Bool:=(z.to==0)&&((z.key.toList==[])&&(z.new==0))
theorem Ee7(z:Zo):aA4 z=true↔am4 z:=by unfold aA4 am4;rw[Ax7];unfold p8;simp
def aB4(z:Zo):Bool:=decide (1<=z.to)&&(decide (z.to<=1048576)&&(!(z.to==z.own)&&((z.key.toList==[])&&(z.new==0))))
theorem Ef7(z:Zo):aB4 z=true↔an4 z:=by unfold aB4 an4;rw[Ax7];unfold p8;simp
def D9(l:List Zo)(n:Int):Int:=if n=0 then 0 else(H5 l n:Int)
def NwI(N:List (Int×Int))(l:List Zo):Prop:=∀k,(m6 N k).getD 0=D9 l k
theorem bU4:NwI [] []:=fun k=>by unfold D9 H5;split <;> rfl
theorem BD7{κ ν:Type}[DecidableEq κ](l:List (κ×ν))(k x:κ)(v:ν):m6 ((k,v)::C7 l k) x=if k=x then some v else m6 l x:=by
 unfold m6 C7;by_cases h:k=x
 ·rw[if_pos h,List.find?_cons_of_pos (by simpa using h)];rfl
 ·rw[if_neg h,List.find?_cons_of_neg (by simpa using h)]
  congr 1
  rw[List.find?_filter]
  congr 1
  funext y
  by_cases hy:y.1=x
  ·have:y.1≠k:=fun e=>h (e.symm.trans hy)
   simp[hy,this];exact fun e=>h e.symm
  ·simp[hy]
theorem BL7(l:List Zo)(z:Zo)(n:Int):H5 (l++[z]) n=H5 l n+if z.new=n then 1 else 0:=by
 unfold H5;rw[List.filter_append,jA]
 congr 1
 by_cases h:z.new=n
 ·rw[if_pos h,List.filter_cons_of_pos (by simpa using h)];rfl
 ·rw[if_neg h,List.filter_cons_of_neg (by simpa using h)];rfl
theorem Ka7{N:List (Int×Int)}{l:List Zo}{z:Zo}(h:NwI N l)(hz:z.new=0):NwI N (l++[z]):=fun k=>by
 rw[h k];unfold D9;by_cases hk:k=0
 ·rw[if_pos hk,if_pos hk]
 ·rw[if_neg hk,if_neg hk,BL7,if_neg (by omega)];omega
theorem Jp7{N:List (Int×Int)}{l:List Zo}{z:Zo}(h:NwI N l)(hz:z.new≠0):NwI ((z.new,D9 l z.new+1)::C7 N z.new) (l++[z]):=fun k=>by
 rw[BD7];by_cases hk:z.new=k
 ·subst hk;rw[if_pos rfl];unfold D9;rw[if_neg hz,if_neg hz,BL7,if_pos rfl];show(H5 l z.new:Int)+1=_
  omega
 ·rw[if_neg hk,h k];unfold D9;by_cases h0:k=0
  ·rw[if_pos h0,if_pos h0]
  ·rw[if_neg h0,if_neg h0,BL7,if_neg hk];omega
theorem Jq7(l:List Zo)(n:Int):0<=D9 l n/\D9 l n<=l.length:=by
 unfold D9;split
 ·omega
 ·have:H5 l n<=l.length:=List.length_filter_le ..;omega
def ac4(nxt:Int)(l:List Zo)(z:Zo):Bool:=B5 z.sf z.st z.key&&((z.to==0)&&(decide (1<=z.new)&&(decide (z.new<nxt)&&((D9 l z.new==1)&&decide (m5 l z.new<0)))))
def aG4(l:List Zo)(z:Zo)(o:Zo):Bool:=(o.own==z.own)&&((o.pend==2)&&((o.new==z.id)&&(D9 l z.new==1)))
def ad4(l:List Zo)(z:Zo)(i:Nat):Bool:=(z.to==0)&&((z.key.toList==[])&&(match l[(m5 l z.new).toNat]? with
 | none=>false
 | some o=>decide (0<=m5 l z.new)&&((m5 l z.new==(i:Int)-1||m5 l z.new==(i:Int)+1)&&aG4 l z o)))
def ao4(nxt:Int)(l:List Zo)(z:Zo)(i:Nat):Bool:=
 if z.pend=0 then aA4 z else if z.pend=1 then ac4 nxt l z else if z.pend=2 then ad4 l z i else if z.pend=3 then aB4 z else false
def H8(nxt:Int)(l:List Zo)(z:Zo)(i:Nat):Bool:=
 decide (1<=z.id)&&(decide (z.id<nxt)&&((m5 l z.id==(i:Int))&&(decide (1<=z.own)&&(decide (z.own<=1048576)&&(D7 z.ep&&ao4 nxt l z i)))))
theorem CW7(nxt:Int)(l:List Zo)(z:Zo):ac4 nxt l z=true↔aE4 nxt l z/\H5 l z.new=1:=by
 unfold ac4 aE4;simp only[jB,beq_iff_eq,decide_eq_true_eq];constructor
 ·rintro⟨a,b,c,d,e,f⟩;refine⟨⟨a,b,c,d,f⟩,?_⟩;unfold D9 at e;rw[if_neg (by omega)]at e;omega
 ·rintro⟨⟨a,b,c,d,e⟩,f⟩;refine⟨a,b,c,d,?_,e⟩;unfold D9;rw[if_neg (by omega),f];rfl
theorem CX7(l:List Zo)(z:Zo)(i:Nat):ad4 l z i=true↔aF4 l z i/\D9 l z.new=1:=by
 unfold ad4 aF4 aG4;rw[Ax7];simp only[jB,beq_iff_eq]
 rcases Aw7 l z.new with ⟨h1,_⟩|⟨k,hk,h1,h2,_⟩
 ·constructor
  ·rintro⟨a,b,c⟩
   cases hg:l[(m5 l z.new).toNat]? with
   | none=>rw[hg]at c;cases c
   | some o=>
    rw[hg]at c;simp only[jB,decide_eq_true_eq]at c;omega
  ·rintro⟨⟨a,b,k,hk,hf,_⟩,_⟩;omega
 ·have e:l[(m5 l z.new).toNat]? = some l[k]:=by
   rw[h1,Int.toNat_natCast,jG hk]
  rw[e];simp only[jB,Bool.or_eq_true,beq_iff_eq,decide_eq_true_eq];unfold p8;rw[decide_eq_true_eq];constructor
  ·rintro⟨a,b,c,d,o1,o2,o3,o4⟩;exact⟨⟨a,b,k,hk,h1,by omega,o1,o2,o3⟩,o4⟩
  ·rintro⟨⟨a,b,j,hj,hf,hji,o1,o2,o3⟩,o4⟩;obtain rfl:j=k:=by omega
   exact⟨a,b,by omega,by omega,o1,o2,o3,o4⟩
theorem GS7(nxt:Int)(l:List Zo):(∀i (h:i<l.length),H8 nxt l l[i] i=true)↔∀i (h:i<l.length),bi4 l nxt l[i] i:=by
 have hd:∀i (h:i<l.length),H8 nxt l l[i] i=true↔al4 l nxt l[i] i/\ao4 nxt l l[i] i=true:=fun i h=>by
  unfold H8 al4;simp only[jB,beq_iff_eq,decide_eq_true_eq,Ed7];constructor
  ·rintro⟨a,b,c,d,e,⟨f,g⟩,k⟩;exact⟨⟨a,b,c,d,e,f,g⟩,k⟩
  ·rintro⟨⟨a,b,c,d,e,f,g⟩,k⟩;exact⟨a,b,c,d,e,⟨f,g⟩,k⟩
 constructor
 ·intro H i hi;obtain⟨h1,h2⟩:=(hd i hi).1 (H i hi);refine⟨h1,?_⟩;unfold ao4 at h2;split at h2
  ·rename_i e;exact .inl ⟨e,(Ee7 _).1 h2⟩
  ·split at h2
   ·rename_i _ e
    obtain⟨a,b⟩:=(CW7 ..).1 h2;exact .inr (.inl ⟨e,a,b⟩)
   ·split at h2
    ·rename_i _ _ e
     obtain⟨a,b⟩:=(CX7 ..).1 h2;refine .inr (.inr (.inl ⟨e,a,?_⟩));unfold D9 at b;split at b
     ·omega
     ·omega
    ·split at h2
     ·rename_i _ _ _ e;exact .inr (.inr (.inr ⟨e,(Ef7 _).1 h2⟩))
     ·cases h2
 ·intro H i hi;obtain⟨h1,h2⟩:=H i hi;refine(hd i hi).2 ⟨h1,?_⟩;unfold ao4
  rcases h2 with ⟨e,h2⟩|⟨e,a,b⟩|⟨e,a,b⟩|⟨e,h2⟩
  ·rw[if_pos e];exact(Ee7 _).2 h2
  ·rw[if_neg (by omega),if_pos e];exact(CW7 ..).2 ⟨a,b⟩
  ·rw[if_neg (by omega),if_neg (by omega),if_pos e];refine(CX7 ..).2 ⟨a,?_⟩;unfold D9;obtain⟨_,_,k,hk,hf,_⟩:=a;have hk1:=(H k hk).1.1
   rcases Aw7 l l[i].new with ⟨q1,_⟩|⟨j,hj,q1,q2,_⟩
   ·omega
   ·obtain rfl:j=k:=by omega
    rw[if_neg (by omega),b];rfl
  ·rw[if_neg (by omega),if_neg (by omega),if_neg (by omega),if_pos e];exact(Ef7 _).2 h2
def aC4(m:Mp):Bool:=D7 m.ver&&(D7 m.nxt&&(decide (1<=m.zs.length)&&decide (m.zs.length<=16)))
theorem Cb7(m:Mp):(aC4 m=true/\C8 m.zs ⟨#[]⟩ true=true/\∀i (h:i<m.zs.length),H8 m.nxt m.zs m.zs[i] i=true)↔p7 m:=by
 unfold aC4 p7;simp only[jB,Ed7,decide_eq_true_eq];rw[<-Fx7,<-GS7];constructor
 ·rintro⟨⟨⟨a,b⟩,⟨c,d⟩,e,f⟩,g,h⟩;exact⟨a,b,c,d,f,h,g⟩
 ·rintro⟨a,b,c,d,f,h,g⟩;refine⟨⟨⟨a,b⟩,⟨c,d⟩,?_,f⟩,g,h⟩
  cases hz:m.zs with
  | nil=>
   rw[hz]at g
   cases g
  | cons z l=>simp
abbrev kI(z:Int):Value:=.I z
theorem mI:KeyOk Tryz.prog 3 kI:=KeyOk.int Tryz.underlying3
theorem tII:A7 Tryz.prog 59=some (3,3):=by kernel_rfl
theorem zI0:w6 Tryz.prog 3=some (.I 0):=by kernel_rfl
theorem An7{n:Int}{r:Bool}(h:D7 n=r)(W w:World)(R:List HP)(hS:St W R w):
  Calls Tryz.prog 60 #[.I n] w fun e w'=>e=.returned (.bool r)/\St W R w':=by
 subst h;unfold D7;go_enter Tryz.func60,Tryz.ntmps60
 cases h1:decide (1<=n)with
 | false=>
  go_wp2_with(first|go_big_skip);go_ret;exact⟨rfl,hS⟩
 | true=>
  go_wp2_with(first|go_big_skip);go_ret;exact⟨rfl,hS⟩
abbrev zV(z0:Int)(z1 z2:ByteArray)(z3 z4 z5 z6:Int)(z7:ByteArray)(z8:Int):Value:=.agg #[.I z0,.string z1,.string z2,.I z3,.I z4,.I z5,.I z6,.string z7,.I z8]
section
variable{z0:Int}{z1 z2:ByteArray}{z3 z4 z5 z6:Int}{z7:ByteArray}{z8:Int}{r:Bool}
theorem Eg7(h:aA4 ⟨z0,z1,z2,z3,z4,z5,z6,z7,z8⟩=r)(c i:Value)(W w:World)(R:List HP)(hS:St W R w):
  Calls Tryz.prog 62 #[c,zV z0 z1 z2 z3 z4 z5 z6 z7 z8,i] w fun e w'=>e=.returned (.bool r)/\St W R w':=by
 subst h;unfold aA4;simp only;go_enter Tryz.func62,Tryz.ntmps62
 cases h1:z6==0 with
 | false=>
  go_wp2_with(first|go_big_skip|refine zbx hS ?_;clear hS;intro bO w hS|refine zl1 hS ?_);go_ret;exact⟨rfl,hS.drop⟩
 | true=>
  cases h2:z7.toList==[]with
  | false=>
   go_wp2_with(first|go_big_skip|refine zbx hS ?_;clear hS;intro bO w hS|refine zl1 hS ?_);go_ret;exact⟨rfl,hS.drop⟩
  | true=>
   go_wp2_with(first|go_big_skip|refine zbx hS ?_;clear hS;intro bO w hS|refine zl1 hS ?_);go_ret;exact⟨rfl,hS.drop⟩
theorem Eh7(h:aB4 ⟨z0,z1,z2,z3,z4,z5,z6,z7,z8⟩=r)(c i:Value)(W w:World)(R:List HP)(hS:St W R w):
  Calls Tryz.prog 65 #[c,zV z0 z1 z2 z3 z4 z5 z6 z7 z8,i] w fun e w'=>e=.returned (.bool r)/\St W R w':=by
 subst h;unfold aB4;simp only;go_enter Tryz.func65,Tryz.ntmps65
 cases h1:decide (1<=z6)with
 | false=>
  go_wp2_with(first|go_big_skip|refine zbx hS ?_;clear hS;intro bO w hS|refine zl1 hS ?_);go_ret;exact⟨rfl,hS.drop⟩
 | true=>
  cases h2:decide (z6<=1048576)with
  | false=>
   go_wp2_with(first|go_big_skip|refine zbx hS ?_;clear hS;intro bO w hS|refine zl1 hS ?_);go_ret;exact⟨rfl,hS.drop⟩
  | true=>
   cases h3:z6==z3 with
   | true=>
    have h3':(z6 != z3)=false:=by unfold bne;rw[h3];rfl
    go_wp2_with(first|go_big_skip|refine zbx hS ?_;clear hS;intro bO w hS|refine zl1 hS ?_);go_ret;exact⟨rfl,hS.drop⟩
   | false=>
    have h3':(z6 != z3)=true:=by unfold bne;rw[h3];rfl
    cases h4:z7.toList==[]with
    | false=>
     go_wp2_with(first|go_big_skip|refine zbx hS ?_;clear hS;intro bO w hS|refine zl1 hS ?_);go_ret;exact⟨rfl,hS.drop⟩
    | true=>
     go_wp2_with(first|go_big_skip|refine zbx hS ?_;clear hS;intro bO w hS|refine zl1 hS ?_);go_ret;exact⟨rfl,hS.drop⟩
theorem Fn7(z:Zo)(B:Nat)(id:Int)(W w:World)(R:List HP)(hS:St W (blk B [.I id] 3::R) w):
  Calls Tryz.prog 80 #[.agg z.cells.toArray,.P B] w fun e w'=>e=.returned (.bool (z.id==id))/\St W (blk B [.I id] 3::R) w':=by
 obtain⟨z0,z1,z2,z3,z4,z5,z6,z7,z8⟩:=z;simp only[Zo.cells];go_enter Tryz.func80,Tryz.ntmps80;go_wp2_with(first|go_big_skip|refine zbx hS ?_;clear hS;intro bO w hS|refine zl1 hS ?_);go_ret;exact⟨rfl,hS.drop⟩
end
theorem GT7{l:List Zo}{n:Int}{k:Nat}(h:k<l.length):ai4 (l.drop k) n k=if l[k].id=n then(k:Int)else ai4 (l.drop (k+1)) n (k+1):=by rw[List.drop_eq_getElem_cons h,ai4]
def bV4(W:World)(L:List HP)(l:List Zo)(id:Int)(v:Value)(w:World):Prop:=
 ∃k:Nat,v=.I k/\k<=l.length/\ai4 (l.drop k) id k=m5 l id/\St W L w
theorem EG7{zs:List Zo}{v:Value}{V:World}(hv:d6 Zo.cells 9 V v zs)(B:Nat)(id:Int)(W w:World)(R:List HP)(hS:St W (blk B [.I id] 3::Old V::R) w):
  Calls Tryz.prog 79 #[v,.func (.func 80) #[] #[.P B]] w fun e w'=>e=.returned (.I (m5 zs id))/\St W (blk B [.I id] 3::Old V::R) w':=by
 obtain⟨a,cap,rfl,h63,hact⟩:=hv;have Hat:=jH hact;clear hact;go_enter Tryz.func79,Tryz.ntmps79;go_wp2_with(first|go_big_skip)
 go_loopw [8] (fun v wr=>bV4 W (blk B [.I id] 3::Old V::R) zs id v wr) (fun v _=>zs.length-(intOf v).toNat)
 case atStart=>exact⟨0,rfl,Nat.zero_le _,rfl,hS⟩
 case round=>
  clear hS;obtain⟨k,rfl,hk,hF,hS⟩:=hrel;by_cases hkn:k<zs.length
  case neg=>
   have d1:decide (k<zs.length)=false:=decide_eq_false hkn;have e1:m5 zs id = -1:=by rw[List.drop_eq_nil_of_le (by omega)]at hF;exact hF.symm
   clear hF;have E1:=jH e1;clear e1 hk;go_wp2_with(first|go_big_skip);go_ret;rw[E1.out];exact⟨rfl,hS⟩
  have d1:decide (k<zs.length)=true:=decide_eq_true hkn;rw[GT7 hkn]at hF;obtain⟨pb,poff,rfl,hall⟩:=Hat.out k hkn;generalize zs[k]=z at hF hall;obtain⟨z0,z1,z2,z3,z4,z5,z6,z7,z8⟩:=z;simp only[Zo.cells]at hall hF;have HF:=jH hF;clear hF hk
  cases hb:z0==id with
  | true=>
   have e1:=HF.out;rw[if_pos (by simpa using hb)]at e1;have E1:=jH e1;clear e1 HF;go_wp2_with(first|go_big_skip|refine zlN hS ?_ (vs:=[.I z0,.string z1,.string z2,.I z3,.I z4,.I z5,.I z6,.string z7,.I z8]) (hc:=by exact a7.old (by exact b8) hall)|go_at_call 80;refine(Fn7 ⟨z0,z1,z2,z3,z4,z5,z6,z7,z8⟩ B id W _ _ hS).mono ?_;clear hS;rintro e w ⟨rfl,hS⟩);go_ret;rw[<-E1.out];exact⟨rfl,hS⟩
  | false=>
   have e1:=HF.out;rw[if_neg (by simpa using hb)]at e1;have E1:=jH e1;clear e1 HF;go_wp2_with(first|go_big_skip|refine zlN hS ?_ (vs:=[.I z0,.string z1,.string z2,.I z3,.I z4,.I z5,.I z6,.string z7,.I z8]) (hc:=by exact a7.old (by exact b8) hall)|go_at_call 80;refine(Fn7 ⟨z0,z1,z2,z3,z4,z5,z6,z7,z8⟩ B id W _ _ hS).mono ?_;clear hS;rintro e w ⟨rfl,hS⟩);go_roundw
   case rel=>exact⟨k+1,rfl,hkn,E1.out,hS⟩
   case measure=>simp[intOf];omega
theorem Af7{zs:List Zo}{v:Value}{V:World}(hv:d6 Zo.cells 9 V v zs)(ver nxt id:Int){k:Int}(hk:m5 zs id=k)(W w:World)(R R':List HP)(ht:Take R (Old V) R')(hS:St W R w):
  Calls Tryz.prog 66 #[.agg #[.I ver,.I nxt,v],.I id] w fun e w'=>e=.returned (.I k)/\St W R w':=by
 subst hk
 suffices h:∀R' w,St W (Old V::R') w->Calls Tryz.prog 66 #[.agg #[.I ver,.I nxt,v],.I id] w fun e w'=>e=.returned (.I (m5 zs id))/\St W (Old V::R') w' by refine(h _ _ (hS.take ht)).mono ?_;rintro e w' ⟨rfl,h2⟩;exact⟨rfl,h2.back ht⟩
 clear hS ht;intro R w hS;have Hv:=jH hv;obtain⟨a,cap,rfl,_,_⟩:=hv;go_enter Tryz.func66,Tryz.ntmps66;go_wp2_with(first|go_big_skip|(fail_if_success (have:=mB1));(refine zbx hS ?_;clear hS;have mB1:Nat:=0;intro bO w hS)|(have:=mB1);refine zbx hS ?_ (v:=.I id) (l:=[.I id]);clear hS;intro B w hS|refine zl1 hS ?_|go_at_call 79;refine(EG7 Hv.out B id W _ _ (hS.s (blk B _ _::Old V::R))).mono ?_;clear hS;rintro e w ⟨rfl,hS⟩);go_ret;exact⟨rfl,hS.drop⟩
end Go.Proofs.YtjcfifkjbaffnaaGreat
end
