/-
  Requests, replies, places compared field by field. For all of them.
  What may be requested: isPlace, rest, counts, sends, orders, cancels, bare. For every request.
  What may be requested: of each kind, through the table of its functions. For every request.
-/
import Derived.Test.YtlmhakmoioogaaaGreatEconPlaysM5
import Derived.Test.YtlmhakmoioogaaaGreatEconPlaysM29
import Derived.Laws.StructEq
set_option maxHeartbeats 16000000
set_option maxRecDepth 100000
set_option linter.unusedSimpArgs false
set_option linter.unusedVariables false
section
namespace Go.Proofs.YtlmhakmoioogaaaGreat
open Go.RowKit Go.Sl
theorem eqPlace(k u k2 u2:ByteArray)(d:Nat)(w:World):(Op.equalIn (d+2) 26 (.agg #[.string k,.string u]) (.agg #[.string k2,.string u2])).run Tryz.prog w=.ok (k.toList==k2.toList&&u.toList==u2.toList) w:=by
 have u9:=Tryz.underlying9
 have a9:=Tryz.isAgg9
 have z9:=Tryz.sizeOf9
 have hs:Tryz.prog.stoodInHeld 26=false:=by kernel_rfl
 rw[Op.equalIn]
 simp only[Sem.run_bind,run_underlying Tryz.underlying26,Result.andThen_ok,run_program,hs,Bool.false_eq_true,if_false]
 rw[←Array.forIn_toList]
 simp only[List.forIn_cons,List.forIn_nil]
 go_simp
 by_cases h1:k.toList=k2.toList <;> by_cases h2:u.toList=u2.toList <;> simp[h1,h2]
def Opn.eqB(o q:Opn):Bool:=
 decide (o.kind=q.kind)&&(decide (o.client=q.client)&&(decide (o.seq=q.seq)&&(decide (o.ak.toList=q.ak.toList)&&(decide (o.aw.toList=q.aw.toList)&&(decide (o.tk.toList=q.tk.toList)&&(decide (o.tw.toList=q.tw.toList) &&
  (decide (o.item=q.item)&&(decide (o.cnt=q.cnt)&&(decide (o.price=q.price)&&(decide (o.buy=q.buy)&&decide (o.id=q.id)))))))))))
theorem eqReq(o q:Opn)(w:World):(Op.equalIn 10000 207 (.agg o.cells.toArray) (.agg q.cells.toArray)).run Tryz.prog w=.ok (o.eqB q) w:=by
 have u9:=Tryz.underlying9
 have a9:=Tryz.isAgg9
 have z9:=Tryz.sizeOf9
 have u3:=Tryz.underlying3
 have a3:=Tryz.isAgg3
 have z3:=Tryz.sizeOf3
 have u4:=Tryz.underlying4
 have a4:=Tryz.isAgg4
 have z4:=Tryz.sizeOf4
 have u5:=Tryz.underlying26
 have a5:=Tryz.isAgg26
 have z5:=Tryz.sizeOf26
 have hp:=fun k u k2 u2 w=>eqPlace k u k2 u2 9997 w
 have hs:Tryz.prog.stoodInHeld 207=false:=by kernel_rfl
 obtain⟨o0,o1,o2,o3,o4,o5,o6,o7,o8,o9,o10,o11⟩:=o
 obtain⟨q0,q1,q2,q3,q4,q5,q6,q7,q8,q9,q10,q11⟩:=q
 unfold Opn.eqB Opn.cells
 dsimp only
 rw[Op.equalIn]
 simp only[Sem.run_bind,run_underlying Tryz.underlying207,Result.andThen_ok,run_program,hs,Bool.false_eq_true,if_false]
 rw[←Array.forIn_toList]
 simp only[List.forIn_cons,List.forIn_nil]
 go_simp
 by_cases h:o0=q0
 case neg=>simp[h]
 rw[if_pos h,decide_eq_true h,Bool.true_and]
 clear h
 by_cases h:o1=q1
 case neg=>simp[h]
 rw[if_pos h,decide_eq_true h,Bool.true_and]
 clear h
 by_cases h:o2=q2
 case neg=>simp[h]
 rw[if_pos h,decide_eq_true h,Bool.true_and]
 clear h
 by_cases h:o3.toList=q3.toList
 case neg=>simp[h]
 by_cases h2:o4.toList=q4.toList
 case neg=>simp[h2]
 rw[if_neg (fun f=>f h h2),decide_eq_true h,decide_eq_true h2,Bool.true_and,Bool.true_and]
 clear h h2
 by_cases h:o5.toList=q5.toList
 case neg=>simp[h]
 by_cases h2:o6.toList=q6.toList
 case neg=>simp[h2]
 rw[if_neg (fun f=>f h h2),decide_eq_true h,decide_eq_true h2,Bool.true_and,Bool.true_and]
 clear h h2
 by_cases h:o7=q7
 case neg=>simp[h]
 rw[if_pos h,decide_eq_true h,Bool.true_and]
 clear h
 by_cases h:o8=q8
 case neg=>simp[h]
 rw[if_pos h,decide_eq_true h,Bool.true_and]
 clear h
 by_cases h:o9=q9
 case neg=>simp[h]
 rw[if_pos h,decide_eq_true h,Bool.true_and]
 clear h
 by_cases h:o10=q10
 case neg=>simp[h]
 rw[if_pos h,decide_eq_true h,Bool.true_and]
 clear h
 by_cases h:o11=q11 <;> simp[h]
theorem eqItemsD(d:Nat)(x0 x1 x2 x3 y0 y1 y2 y3:Int)(w:World):(Op.equalIn (d+2) 29 (.agg #[.int .i64 x0,.int .i64 x1,.int .i64 x2,.int .i64 x3]) (.agg #[.int .i64 y0,.int .i64 y1,.int .i64 y2,.int .i64 y3])).run Tryz.prog w=.ok (x0==y0&&(x1==y1&&(x2==y2&&x3==y3))) w:=by
 have u3:=Tryz.underlying3
 have a3:=Tryz.isAgg3
 have z3:=Tryz.sizeOf3
 rw[Op.equalIn]
 simp only[Sem.run_bind,run_underlying Tryz.underlying29,Result.andThen_ok]
 simp only[Std.Legacy.Range.forIn_eq_forIn_range',Std.Legacy.Range.size,Nat.sub_zero,Nat.add_sub_cancel,Nat.div_one,List.range'_succ,List.range'_zero,List.forIn_cons,List.forIn_nil]
 go_simp
 by_cases h1:x0=y0 <;> by_cases h2:x1=y1 <;> by_cases h3:x2=y2 <;> by_cases h4:x3=y3 <;> simp[h1,h2,h3,h4]
def Rpl.eqB(r q:Rpl):Bool:=decide (r.err=q.err)&&(decide (r.id=q.id)&&(r.has.x0==q.has.x0&&(r.has.x1==q.has.x1&&(r.has.x2==q.has.x2&&r.has.x3==q.has.x3))))
theorem eqRpl(r q:Rpl)(w:World):(Op.equalIn 10000 31 (.agg #[.int .i64 r.err,.int .i64 r.id,.int .i64 r.has.x0,.int .i64 r.has.x1,.int .i64 r.has.x2,.int .i64 r.has.x3]) (.agg #[.int .i64 q.err,.int .i64 q.id,.int .i64 q.has.x0,.int .i64 q.has.x1,.int .i64 q.has.x2,.int .i64 q.has.x3])).run Tryz.prog w=.ok (r.eqB q) w:=by
 have u3:=Tryz.underlying3
 have a3:=Tryz.isAgg3
 have z3:=Tryz.sizeOf3
 have u4:=Tryz.underlying27
 have a4:=Tryz.isAgg27
 have z4:=Tryz.sizeOf27
 have u5:=Tryz.underlying29
 have a5:=Tryz.isAgg29
 have z5:=Tryz.sizeOf29
 have hp:=eqItemsD 9997
 have hs:Tryz.prog.stoodInHeld 31=false:=by kernel_rfl
 obtain⟨r0,r1,r2,r3,r4,r5⟩:=r
 obtain⟨q0,q1,q2,q3,q4,q5⟩:=q
 unfold Rpl.eqB
 dsimp only
 rw[Op.equalIn]
 simp only[Sem.run_bind,run_underlying Tryz.underlying31,Result.andThen_ok,run_program,hs,Bool.false_eq_true,if_false]
 rw[←Array.forIn_toList]
 simp only[List.forIn_cons,List.forIn_nil]
 go_simp
 by_cases h:r0=q0
 case neg=>simp[h]
 rw[if_pos h,decide_eq_true h,Bool.true_and]
 clear h
 by_cases h:r1=q1
 case neg=>simp[h]
 rw[if_pos h,decide_eq_true h,Bool.true_and]
 clear h
 by_cases h1:r2=q2 <;> by_cases h2:r3=q3 <;> by_cases h3:r4=q4 <;> by_cases h4:r5=q5 <;> simp[h1,h2,h3,h4]
theorem MK7(k u:ByteArray)(W w:World)(R:List HP)(hS:St W R w):
  Calls Tryz.prog 150 #[.agg #[.string k,.string u]] w fun e w'=>e=.returned (.bool (plcB k u))∧St W R w':=by
 go_enter Tryz.func150,Tryz.ntmps150
 by_cases h1:1≤k.size
 case neg=>
  have e:plcB k u=false:=by unfold plcB whoB;simp;omega
  have d1:decide ((1:Int)≤(k.size:Int))=false:=by simp;omega
  rw[e]
  go_wp2_with(first|go_big_skip|(refine zbx hS ?_;clear hS;intro b w hS)|(refine zl1 hS ?_))
  go_ret
  exact⟨rfl,hS.drop⟩
 have d1:(1:Int)≤(k.size:Int):=by omega
 by_cases h2:k.size≤16
 case neg=>
  have e:plcB k u=false:=by unfold plcB whoB;simp;omega
  have d2:decide ((k.size:Int)≤16)=false:=by simp;omega
  rw[e]
  go_wp2_with(first|go_big_skip|(refine zbx hS ?_;clear hS;intro b w hS)|(refine zl1 hS ?_))
  go_ret
  exact⟨rfl,hS.drop⟩
 have d2:(k.size:Int)≤16:=by omega
 by_cases h3:1≤u.size
 case neg=>
  have e:plcB k u=false:=by unfold plcB whoB;simp;omega
  have d3:decide ((1:Int)≤(u.size:Int))=false:=by simp;omega
  rw[e]
  go_wp2_with(first|go_big_skip|(refine zbx hS ?_;clear hS;intro b w hS)|(refine zl1 hS ?_))
  go_ret
  exact⟨rfl,hS.drop⟩
 have d3:(1:Int)≤(u.size:Int):=by omega
 by_cases h4:u.size≤16
 case neg=>
  have e:plcB k u=false:=by unfold plcB whoB;simp;omega
  have d4:decide ((u.size:Int)≤16)=false:=by simp;omega
  rw[e]
  go_wp2_with(first|(refine zbx hS ?_;clear hS;intro b w hS)|(refine zl1 hS ?_))
  go_ret
  exact⟨rfl,hS.drop⟩
 have d4:(u.size:Int)≤16:=by omega
 have e:plcB k u=true:=by unfold plcB whoB;simp;omega
 rw[e]
 go_wp2_with(first|(refine zbx hS ?_;clear hS;intro b w hS)|(refine zl1 hS ?_))
 go_ret
 exact⟨rfl,hS.drop⟩
theorem Cf7{k u:ByteArray}{r:Bool}(h:plcB k u=r)(W w:World)(R:List HP)(hS:St W R w):
  Calls Tryz.prog 150 #[.agg #[.string k,.string u]] w fun e w'=>e=.returned (.bool r)∧St W R w':=h▸MK7 k u W w R hS
abbrev oV(kd cl sq:Int)(ak aw tk tw:ByteArray)(it ct pr:Int)(bu:Bool)(i:Int):Value:=
 .agg #[.int .i64 kd,.int .i64 cl,.int .i64 sq,.string ak,.string aw,.string tk,.string tw,.int .i64 it,.int .i64 ct,.int .i64 pr,.bool bu,.int .i64 i]
section
variable(kd cl sq:Int)(ak aw tk tw:ByteArray)(it ct pr:Int)(bu:Bool)(i:Int)(W w:World)(R:List HP)
theorem FH7(hS:St W R w):
  Calls Tryz.prog 194 #[oV kd cl sq ak aw tk tw it ct pr bu i] w fun e w'=>e=.returned (oV 0 0 0 ⟨#[]⟩ ⟨#[]⟩ tk tw it ct pr bu i)∧St W R w':=by
 go_enter Tryz.func194,Tryz.ntmps194
 go_wp2_with(first|((fail_if_success (have:=mA));(refine zbx hS ?_;clear hS;have mA:Nat:=0;intro bA w hS))|(refine zal hS ?_;clear hS;intro b w hS)|(refine zs1 hS ?_;clear hS;intro w hS)|(refine zsN hS ?_;clear hS;intro w hS)|(refine zlN hS ?_))
 (apply Ao7;rfl;rfl;rfl;exact hS;decide +kernel;(exact cesS);kernel_rfl)
 exact⟨rfl,hS.drop.drop⟩
end
theorem EW7(u:ByteArray):decide (u.toList=(⟨#[]⟩:ByteArray).toList)=noB u:=by
 rw[Lib.toList_data,Lib.toList_data]
 obtain⟨⟨l⟩⟩:=u
 cases l <;> simp[noB,ByteArray.size]
theorem PV7(tk tw:ByteArray)(it ct pr:Int)(bu:Bool)(i:Int)(w:World):
  (Op.equalIn 10000 207 (oV 0 0 0 ⟨#[]⟩ ⟨#[]⟩ tk tw it ct pr bu i) (oV 0 0 0 ⟨#[]⟩ ⟨#[]⟩ ⟨#[]⟩ ⟨#[]⟩ it ct 0 false 0)).run Tryz.prog w=.ok (noB tk&&(noB tw&&(decide (pr=0)&&(!bu&&decide (i=0))))) w:=by
 have h:=eqReq ⟨0,0,0,⟨#[]⟩,⟨#[]⟩,tk,tw,it,ct,pr,bu,i⟩ ⟨0,0,0,⟨#[]⟩,⟨#[]⟩,⟨#[]⟩,⟨#[]⟩,it,ct,0,false,0⟩ w
 refine h.trans ?_
 unfold Opn.eqB
 simp only[EW7,decide_true,Bool.true_and]
 cases bu <;> rfl
theorem PW7(tk tw:ByteArray)(it ct pr:Int)(bu:Bool)(i:Int)(w:World):
  (Op.equalIn 10000 207 (oV 0 0 0 ⟨#[]⟩ ⟨#[]⟩ tk tw it ct pr bu i) (oV 0 0 0 ⟨#[]⟩ ⟨#[]⟩ ⟨#[]⟩ ⟨#[]⟩ 0 0 0 false 0)).run Tryz.prog w=.ok (noB tk&&(noB tw&&(decide (it=0)&&(decide (ct=0)&&(decide (pr=0)&&(!bu&&decide (i=0))))))) w:=by
 have h:=eqReq ⟨0,0,0,⟨#[]⟩,⟨#[]⟩,tk,tw,it,ct,pr,bu,i⟩ ⟨0,0,0,⟨#[]⟩,⟨#[]⟩,⟨#[]⟩,⟨#[]⟩,0,0,0,false,0⟩ w
 refine h.trans ?_
 unfold Opn.eqB
 simp only[EW7,decide_true,Bool.true_and]
 cases bu <;> rfl
theorem eq_id(tk tw:ByteArray)(it ct pr:Int)(bu:Bool)(i:Int)(w:World):
  (Op.equalIn 10000 207 (oV 0 0 0 ⟨#[]⟩ ⟨#[]⟩ tk tw it ct pr bu i) (oV 0 0 0 ⟨#[]⟩ ⟨#[]⟩ ⟨#[]⟩ ⟨#[]⟩ 0 0 0 false i)).run Tryz.prog w=.ok (noB tk&&(noB tw&&(decide (it=0)&&(decide (ct=0)&&(decide (pr=0)&&!bu))))) w:=by
 have h:=eqReq ⟨0,0,0,⟨#[]⟩,⟨#[]⟩,tk,tw,it,ct,pr,bu,i⟩ ⟨0,0,0,⟨#[]⟩,⟨#[]⟩,⟨#[]⟩,⟨#[]⟩,0,0,0,false,i⟩ w
 refine h.trans ?_
 unfold Opn.eqB
 simp only[EW7,decide_true,Bool.true_and,Bool.and_true]
 cases bu <;> rfl
section
variable(kd cl sq:Int)(ak aw tk tw:ByteArray)(it ct pr:Int)(bu:Bool)(i:Int)(W w:World)(R:List HP)
theorem Di7(hS:St W R w):
  Calls Tryz.prog 145 #[oV kd cl sq ak aw tk tw it ct pr bu i] w fun e w'=>e=.returned (.bool (countsB ⟨kd,cl,sq,ak,aw,tk,tw,it,ct,pr,bu,i⟩))∧St W R w':=by
 go_enter Tryz.func145,Tryz.ntmps145
 by_cases h1:0≤it
 case neg=>
  have e:countsB ⟨kd,cl,sq,ak,aw,tk,tw,it,ct,pr,bu,i⟩=false:=by unfold countsB cntB;simp;omega
  have d1:decide (0≤it)=false:=by simpa using h1
  rw[e]
  go_wp2_with(first|(refine zbx hS ?_;clear hS;intro b w hS))
  refine Aa7 (by kernel_rfl) (by kernel_rfl) hS ?_
  repeat(first|go_big_quiet_skip|(refine zq1 ?_)|(refine qR ?_))
  clear hS
  intro w hS
  go_wp2_with fail
  go_ret
  exact⟨by rfl,hS.drop⟩
 by_cases h2:it<4
 case neg=>
  have e:countsB ⟨kd,cl,sq,ak,aw,tk,tw,it,ct,pr,bu,i⟩=false:=by unfold countsB cntB;simp;omega
  have d2:decide (it<4)=false:=by simpa using h2
  rw[e]
  go_wp2_with(first|(refine zbx hS ?_;clear hS;intro b w hS))
  refine Aa7 (by kernel_rfl) (by kernel_rfl) hS ?_
  repeat(first|go_big_quiet_skip|(refine zq1 ?_)|(refine qR ?_))
  clear hS
  intro w hS
  go_wp2_with fail
  go_ret
  exact⟨by rfl,hS.drop⟩
 by_cases h3:1≤ct
 case neg=>
  have e:countsB ⟨kd,cl,sq,ak,aw,tk,tw,it,ct,pr,bu,i⟩=false:=by unfold countsB cntB;simp;omega
  have d3:decide (1≤ct)=false:=by simpa using h3
  rw[e]
  go_wp2_with(first|(refine zbx hS ?_;clear hS;intro b w hS))
  refine Aa7 (by kernel_rfl) (by kernel_rfl) hS ?_
  repeat(first|go_big_quiet_skip|(refine zq1 ?_)|(refine qR ?_))
  clear hS
  intro w hS
  go_wp2_with fail
  go_ret
  exact⟨by rfl,hS.drop⟩
 by_cases h4:ct≤1048576
 case neg=>
  have e:countsB ⟨kd,cl,sq,ak,aw,tk,tw,it,ct,pr,bu,i⟩=false:=by unfold countsB cntB;simp;omega
  have d4:decide (ct≤1048576)=false:=by simpa using h4
  rw[e]
  go_wp2_with(first|(refine zbx hS ?_;clear hS;intro b w hS))
  refine Aa7 (by kernel_rfl) (by kernel_rfl) hS ?_
  repeat(first|go_big_quiet_skip|(refine zq1 ?_)|(refine qR ?_))
  clear hS
  intro w hS
  go_wp2_with fail
  go_ret
  exact⟨by rfl,hS.drop⟩
 have e:countsB ⟨kd,cl,sq,ak,aw,tk,tw,it,ct,pr,bu,i⟩=(noB tk&&(noB tw&&(decide (pr=0)&&(!bu&&decide (i=0))))):=by unfold countsB cntB restB;simp[h1,h2,h3,h4]
 rw[e]
 go_wp2_with(first|(refine zbx hS ?_;clear hS;intro b w hS))
 refine Aa7 (by kernel_rfl) (by kernel_rfl) hS ?_
 repeat(first|(refine zq1 ?_)|(refine zqN ?_)|(apply As7;rfl;(intro w;apply Af7;(with_reducible rfl);decide +kernel;(focus(simp only[fD,fI,fJ,Act.eval,fE,fF,fG,fH,fK];try rfl)));(intro w hS;exact FH7 _ _ _ _ _ _ _ _ _ _ _ _ W w _ hS);(refine frS ?_))|((with_reducible apply Pl7);(with_reducible rfl);rfl;rfl;rfl;kernel_rfl;exact PV7 tk tw it ct pr bu i;(refine frS ?_))|(refine qR ?_))
 clear hS
 intro w hS
 go_wp2_with fail
 go_ret
 exact⟨by rfl,hS.drop⟩
end
end Go.Proofs.YtlmhakmoioogaaaGreat
end
section
namespace Go.Sl
open Go.RowKit
section
variable{P:Program}{a:Act}{o:Oper}
theorem Bc7{x:Operand}{f:FuncId}{xs:Array Operand}{ats:Array TypeId}{args:Array Value}(w:World)(ho:o.op=.call { callee:=.value x,args:=xs,argTypes:=ats })(hf:a.eval x=.func (.func f) #[] #[])(hb:hasBody P f=true)(hx:xs.map a.eval=args):
  (execOp a.eval o).run P w=.ok (.enter f args) w:=by
 unfold execOp
 simp only[ho,resolve,Sem.run_bind,hf,Deferred.ofValue,hx,Sem.run_pure,Result.andThen_ok]
 simp[invoke,Bm7 hb]
end
section
variable{P:Program}{ops:Array Oper}{Q:Exit→Act→World→Prop}{a:Act}{w:World}{rest:List Oper}{o:Oper}
def isNilF:Value→Option Bool
 | .nilFunc=>some true
 | .func _ _ _=>some false
 | _=>none
theorem Cr7{t t2:TypeId}{ps rs:Array TypeId}{vd:Bool}{x y:Operand}{v:Value}{r:Bool}(ho:o.op=.binOp .eql t x y t2)(hg:Region.wanted o (yielded ops a.tmps)=true)(hx:a.eval x=v)(hy:a.eval y=.nilFunc)(hv:isNilF v=some r)(ht:P.underlying t=some (.func ps rs vd))
  (h:wpList P ops Q rest (a.put o.dst (.bool r)) w):wpList P ops Q (o::rest) a w:=by
 refine Al7 hg (v:=.bool r) (w':=w) ?_ h
 have h1:(binOp .eql t v .nilFunc).run P w=.ok (.bool r) w:=by
  have h:∀d:Nat,(Op.equalIn (d+1) t v .nilFunc).run P w=.ok r w:=fun d=>by
   cases v <;> simp only[isNilF,Option.some.injEq,reduceCtorEq]at hv
   all_goals
    subst hv
    simp[Op.equalIn,run_underlying ht]
  cases v <;> simp only[isNilF,Option.some.injEq,reduceCtorEq]at hv
  all_goals
   simp only[binOp]
   simp[Op.equal,Op.maxDepth,h 9999]
 unfold execOp
 simp[ho,hx,hy,eqGuard,h1]
end
end Go.Sl
namespace Go.Proofs.YtlmhakmoioogaaaGreat
open Go.RowKit Go.Sl
section
variable{kd cl sq:Int}{ak aw tk tw:ByteArray}{it ct pr:Int}{bu:Bool}{i:Int}{r:Bool}
theorem Id7(h:countsB ⟨kd,cl,sq,ak,aw,tk,tw,it,ct,pr,bu,i⟩=r)(W w:World)(R:List HP)(hS:St W R w):
  Calls Tryz.prog 145 #[oV kd cl sq ak aw tk tw it ct pr bu i] w fun e w'=>e=.returned (.bool r)∧St W R w':=h▸Di7 kd cl sq ak aw tk tw it ct pr bu i W w R hS
end
section
variable(kd cl sq:Int)(ak aw tk tw:ByteArray)(it ct pr:Int)(bu:Bool)(i:Int)(W w:World)(R:List HP)
theorem Lf7(hS:St W R w):
  Calls Tryz.prog 146 #[oV kd cl sq ak aw tk tw it ct pr bu i] w fun e w'=>e=.returned (.bool (sendsB ⟨kd,cl,sq,ak,aw,tk,tw,it,ct,pr,bu,i⟩))∧St W R w':=by
 go_enter Tryz.func146,Tryz.ntmps146
 have hc:countsB ⟨kd,cl,sq,ak,aw,⟨#[]⟩,⟨#[]⟩,it,ct,pr,bu,i⟩=(cntB ⟨kd,cl,sq,ak,aw,tk,tw,it,ct,pr,bu,i⟩&&(decide (pr=0)&&(!bu&&decide (i=0)))):=rfl
 cases hp:plcB tk tw with
 | false=>
  have e:sendsB ⟨kd,cl,sq,ak,aw,tk,tw,it,ct,pr,bu,i⟩=false:=by unfold sendsB;rw[hp];rfl
  rw[e]
  go_wp2_with(first|go_big_skip|(refine zbx hS ?_;clear hS;intro b w hS)|(refine zal hS ?_;clear hS;intro b w hS)|(refine zlN hS ?_)|(refine zlN hS ?_ (vs:=[.string tk,.string tw]) (hc:=by first|exact Cells.here rfl|exact Cells.there (Cells.here rfl)))|(refine zsN hS ?_;clear hS;intro w hS)|(go_at_call 150;refine(Cf7 hp W _ _ hS).mono ?_;clear hS;rintro e w ⟨rfl,hS⟩))
  go_ret
  exact⟨rfl,hS.drop.drop⟩
 | true=>
  have e:sendsB ⟨kd,cl,sq,ak,aw,tk,tw,it,ct,pr,bu,i⟩=(cntB ⟨kd,cl,sq,ak,aw,tk,tw,it,ct,pr,bu,i⟩&&(decide (pr=0)&&(!bu&&decide (i=0)))):=by unfold sendsB;rw[hp];rfl
  rw[e]
  go_wp2_with(first|(refine zbx hS ?_;clear hS;intro b w hS)|(refine zal hS ?_;clear hS;intro b w hS)|(refine zlN hS ?_)|(refine zlN hS ?_ (vs:=[.string tk,.string tw]) (hc:=by first|exact Cells.here rfl|exact Cells.there (Cells.here rfl)))|(refine zsN hS ?_;clear hS;intro w hS)|(go_at_call 150;refine(Cf7 hp W _ _ hS).mono ?_;clear hS;rintro e w ⟨rfl,hS⟩)|(go_at_call 145;refine(Id7 hc W _ _ hS).mono ?_;clear hS;rintro e w ⟨rfl,hS⟩))
  go_ret
  exact⟨rfl,hS.drop.drop⟩
theorem Jh7(hS:St W R w):
  Calls Tryz.prog 147 #[oV kd cl sq ak aw tk tw it ct pr bu i] w fun e w'=>e=.returned (.bool (ordersB ⟨kd,cl,sq,ak,aw,tk,tw,it,ct,pr,bu,i⟩))∧St W R w':=by
 go_enter Tryz.func147,Tryz.ntmps147
 have hc:countsB ⟨kd,cl,sq,ak,aw,tk,tw,it,ct,0,false,i⟩=(cntB ⟨kd,cl,sq,ak,aw,tk,tw,it,ct,pr,bu,i⟩&&(noB tk&&(noB tw&&decide (i=0)))):=by unfold countsB restB;simp[cntB]
 by_cases h1:1≤it
 case neg=>
  have e:ordersB ⟨kd,cl,sq,ak,aw,tk,tw,it,ct,pr,bu,i⟩=false:=by unfold ordersB;simp[h1]
  have d1:decide (1≤it)=false:=by simpa using h1
  rw[e]
  go_wp2_with(first|go_big_skip|(refine zbx hS ?_;clear hS;intro b w hS)|(refine zl1 hS ?_)|(refine zs1 hS ?_;clear hS;intro w hS))
  go_ret
  exact⟨rfl,hS.drop⟩
 by_cases h2:1≤pr
 case neg=>
  have e:ordersB ⟨kd,cl,sq,ak,aw,tk,tw,it,ct,pr,bu,i⟩=false:=by unfold ordersB;simp[h2]
  have d2:decide (1≤pr)=false:=by simpa using h2
  rw[e]
  go_wp2_with(first|go_big_skip|(refine zbx hS ?_;clear hS;intro b w hS)|(refine zl1 hS ?_)|(refine zs1 hS ?_;clear hS;intro w hS))
  go_ret
  exact⟨rfl,hS.drop⟩
 by_cases h3:pr≤1024
 case neg=>
  have e:ordersB ⟨kd,cl,sq,ak,aw,tk,tw,it,ct,pr,bu,i⟩=false:=by unfold ordersB;simp[h3]
  have d3:decide (pr≤1024)=false:=by simpa using h3
  rw[e]
  go_wp2_with(first|go_big_skip|(refine zbx hS ?_;clear hS;intro b w hS)|(refine zl1 hS ?_)|(refine zs1 hS ?_;clear hS;intro w hS))
  go_ret
  exact⟨rfl,hS.drop⟩
 have e:ordersB ⟨kd,cl,sq,ak,aw,tk,tw,it,ct,pr,bu,i⟩=(cntB ⟨kd,cl,sq,ak,aw,tk,tw,it,ct,pr,bu,i⟩&&(noB tk&&(noB tw&&decide (i=0)))):=by unfold ordersB;simp[h1,h2,h3]
 rw[e]
 go_wp2_with(first|(refine zbx hS ?_;clear hS;intro b w hS)|(refine zl1 hS ?_)|(refine zlN hS ?_)|(refine zs1 hS ?_;clear hS;intro w hS)|(go_at_call 145;refine(Id7 hc W _ _ hS).mono ?_;clear hS;rintro e w ⟨rfl,hS⟩))
 go_ret
 exact⟨rfl,hS.drop⟩
theorem Ie7(hS:St W R w):
  Calls Tryz.prog 148 #[oV kd cl sq ak aw tk tw it ct pr bu i] w fun e w'=>e=.returned (.bool (cancelsB ⟨kd,cl,sq,ak,aw,tk,tw,it,ct,pr,bu,i⟩))∧St W R w':=by
 go_enter Tryz.func148,Tryz.ntmps148
 by_cases h1:1≤i
 case neg=>
  have e:cancelsB ⟨kd,cl,sq,ak,aw,tk,tw,it,ct,pr,bu,i⟩=false:=by unfold cancelsB;simp[h1]
  have d1:decide (1≤i)=false:=by simpa using h1
  rw[e]
  go_wp2_with(first|(refine zbx hS ?_;clear hS;intro b w hS))
  refine Aa7 (by kernel_rfl) (by kernel_rfl) hS ?_
  repeat(first|go_big_quiet_skip|(refine zq1 ?_)|(refine qR ?_))
  clear hS
  intro w hS
  go_wp2_with fail
  go_ret
  exact⟨rfl,hS.drop⟩
 by_cases h2:i≤1099511627776
 case neg=>
  have e:cancelsB ⟨kd,cl,sq,ak,aw,tk,tw,it,ct,pr,bu,i⟩=false:=by unfold cancelsB;simp[h2]
  have d2:decide (i≤1099511627776)=false:=by simpa using h2
  rw[e]
  go_wp2_with(first|(refine zbx hS ?_;clear hS;intro b w hS))
  refine Aa7 (by kernel_rfl) (by kernel_rfl) hS ?_
  repeat(first|go_big_quiet_skip|(refine zq1 ?_)|(refine qR ?_))
  clear hS
  intro w hS
  go_wp2_with fail
  go_ret
  exact⟨rfl,hS.drop⟩
 have e:cancelsB ⟨kd,cl,sq,ak,aw,tk,tw,it,ct,pr,bu,i⟩=(noB tk&&(noB tw&&(decide (it=0)&&(decide (ct=0)&&(decide (pr=0)&&!bu))))):=by unfold cancelsB;simp[h1,h2]
 rw[e]
 go_wp2_with(first|(refine zbx hS ?_;clear hS;intro b w hS))
 refine Aa7 (by kernel_rfl) (by kernel_rfl) hS ?_
 repeat(first|(refine zq1 ?_)|(refine zqN ?_)|(apply As7;rfl;(intro w;apply Af7;(with_reducible rfl);decide +kernel;(focus(simp only[fD,fI,fJ,Act.eval,fE,fF,fG,fH,fK];try rfl)));(intro w hS;exact FH7 _ _ _ _ _ _ _ _ _ _ _ _ W w _ hS);(refine frS ?_))|((with_reducible apply Pl7);(with_reducible rfl);rfl;rfl;rfl;kernel_rfl;exact eq_id tk tw it ct pr bu i;(refine frS ?_))|(refine qR ?_))
 clear hS
 intro w hS
 go_wp2_with fail
 go_ret
 exact⟨rfl,hS.drop⟩
theorem If7(hS:St W R w):
  Calls Tryz.prog 149 #[oV kd cl sq ak aw tk tw it ct pr bu i] w fun e w'=>e=.returned (.bool (bareB ⟨kd,cl,sq,ak,aw,tk,tw,it,ct,pr,bu,i⟩))∧St W R w':=by
 go_enter Tryz.func149,Tryz.ntmps149
 go_wp2_with(first|(refine zbx hS ?_;clear hS;intro b w hS)|(refine zlN hS ?_)|(go_at_call 194;refine(FH7 kd cl sq ak aw tk tw it ct pr bu i W _ _ hS).mono ?_;clear hS;rintro e w ⟨rfl,hS⟩)|((with_reducible apply BT7);(with_reducible rfl);rfl;rfl;rfl;kernel_rfl;exact PW7 tk tw it ct pr bu i;(refine frS ?_)))
 go_ret
 exact⟨rfl,hS.drop⟩
end
end Go.Proofs.YtlmhakmoioogaaaGreat
end
