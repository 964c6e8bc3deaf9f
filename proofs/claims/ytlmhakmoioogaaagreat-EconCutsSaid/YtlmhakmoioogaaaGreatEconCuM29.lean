/-
  What may be requested.
-/
import Derived.Test.YtlmhakmoioogaaaGreatEconCuM5
import Derived.Test.YtlmhakmoioogaaaGreatEconCuM28
set_option maxHeartbeats 16000000
set_option maxRecDepth 100000
set_option linter.unusedSimpArgs false
set_option linter.unusedVariables false
section
namespace Go.Proofs.YtlmhakmoioogaaaGreat
open Go.RowKit Go.Sl
theorem Oc7(k u:ByteArray)(W w:World)(R:List HP)(hS:St W R w):
  Calls Tryz.prog 150 #[.agg #[.string k,.string u]] w fun e w'=>e=.returned (.bool (aL4 k u))/\St W R w':=by
 go_enter Tryz.func150,Tryz.ntmps150;by_cases h1:1<=k.size
 case neg=>
  have e:aL4 k u=false:=by unfold aL4 B8;simp;omega
  have d1:decide ((1:Int)<=(k.size:Int))=false:=by simp;omega
  rw[e];go_wp2_with(first|go_big_skip|refine zbx hS ?_;clear hS;intro b w hS|refine zl1 hS ?_);go_ret;exact⟨rfl,hS.drop⟩
 have d1:(1:Int)<=(k.size:Int):=by omega
 by_cases h2:k.size<=16
 case neg=>
  have e:aL4 k u=false:=by unfold aL4 B8;simp;omega
  have d2:decide ((k.size:Int)<=16)=false:=by simp;omega
  rw[e];go_wp2_with(first|go_big_skip|refine zbx hS ?_;clear hS;intro b w hS|refine zl1 hS ?_);go_ret;exact⟨rfl,hS.drop⟩
 have d2:(k.size:Int)<=16:=by omega
 by_cases h3:1<=u.size
 case neg=>
  have e:aL4 k u=false:=by unfold aL4 B8;simp;omega
  have d3:decide ((1:Int)<=(u.size:Int))=false:=by simp;omega
  rw[e];go_wp2_with(first|go_big_skip|refine zbx hS ?_;clear hS;intro b w hS|refine zl1 hS ?_);go_ret;exact⟨rfl,hS.drop⟩
 have d3:(1:Int)<=(u.size:Int):=by omega
 by_cases h4:u.size<=16
 case neg=>
  have e:aL4 k u=false:=by unfold aL4 B8;simp;omega
  have d4:decide ((u.size:Int)<=16)=false:=by simp;omega
  rw[e];go_wp2_with(first|refine zbx hS ?_;clear hS;intro b w hS|refine zl1 hS ?_);go_ret;exact⟨rfl,hS.drop⟩
 have d4:(u.size:Int)<=16:=by omega
 have e:aL4 k u=true:=by unfold aL4 B8;simp;omega
 rw[e];go_wp2_with(first|refine zbx hS ?_;clear hS;intro b w hS|refine zl1 hS ?_);go_ret;exact⟨rfl,hS.drop⟩
theorem Ct7{k u:ByteArray}{r:Bool}(h:aL4 k u=r)(W w:World)(R:List HP)(hS:St W R w):
  Calls Tryz.prog 150 #[.agg #[.string k,.string u]] w fun e w'=>e=.returned (.bool r)/\St W R w':=h▸Oc7 k u W w R hS
abbrev oV(kd cl sq:Int)(ak aw tk tw:ByteArray)(it ct pr:Int)(bu:Bool)(i:Int):Value:=
 .agg #[.I kd,.I cl,.I sq,.string ak,.string aw,.string tk,.string tw,.I it,.I ct,.I pr,.bool bu,.I i]
section
variable(kd cl sq:Int)(ak aw tk tw:ByteArray)(it ct pr:Int)(bu:Bool)(i:Int)(W w:World)(R:List HP)
theorem Gp7(hS:St W R w):
  Calls Tryz.prog 194 #[oV kd cl sq ak aw tk tw it ct pr bu i] w fun e w'=>e=.returned (oV 0 0 0 ⟨#[]⟩ ⟨#[]⟩ tk tw it ct pr bu i)/\St W R w':=by
 go_enter Tryz.func194,Tryz.ntmps194;go_wp2_with(first|(fail_if_success (have:=mA));(refine zbx hS ?_;clear hS;have mA:Nat:=0;intro bA w hS)|refine zal hS ?_;clear hS;intro b w hS|refine zs1 hS ?_;clear hS;intro w hS|refine zsN hS ?_;clear hS;intro w hS|refine zlN hS ?_);apply As7;rfl;rfl;rfl;exact hS;decide +kernel;(exact n9);kernel_rfl;exact⟨rfl,hS.drop.drop⟩
end
theorem FA7(u:ByteArray):decide (u.toList=(⟨#[]⟩:ByteArray).toList)=noB u:=by
 rw[Lib.toList_data,Lib.toList_data];obtain⟨⟨l⟩⟩:=u
 cases l <;> simp[noB,ByteArray.size]
theorem RB7(tk tw:ByteArray)(it ct pr:Int)(bu:Bool)(i:Int)(w:World):
  (Op.equalIn 10000 207 (oV 0 0 0 ⟨#[]⟩ ⟨#[]⟩ tk tw it ct pr bu i) (oV 0 0 0 ⟨#[]⟩ ⟨#[]⟩ ⟨#[]⟩ ⟨#[]⟩ it ct 0 false 0)).run Tryz.prog w=.ok (noB tk&&(noB tw&&(decide (pr=0)&&(!bu&&decide (i=0))))) w:=by
 have h:=ey4 ⟨0,0,0,⟨#[]⟩,⟨#[]⟩,tk,tw,it,ct,pr,bu,i⟩ ⟨0,0,0,⟨#[]⟩,⟨#[]⟩,⟨#[]⟩,⟨#[]⟩,it,ct,0,false,0⟩ w;refine h.trans ?_;unfold Opn.eqB;simp only[FA7,decide_true,Bool.true_and]
 cases bu <;> rfl
theorem RC7(tk tw:ByteArray)(it ct pr:Int)(bu:Bool)(i:Int)(w:World):
  (Op.equalIn 10000 207 (oV 0 0 0 ⟨#[]⟩ ⟨#[]⟩ tk tw it ct pr bu i) (oV 0 0 0 ⟨#[]⟩ ⟨#[]⟩ ⟨#[]⟩ ⟨#[]⟩ 0 0 0 false 0)).run Tryz.prog w=.ok (noB tk&&(noB tw&&(decide (it=0)&&(decide (ct=0)&&(decide (pr=0)&&(!bu&&decide (i=0))))))) w:=by
 have h:=ey4 ⟨0,0,0,⟨#[]⟩,⟨#[]⟩,tk,tw,it,ct,pr,bu,i⟩ ⟨0,0,0,⟨#[]⟩,⟨#[]⟩,⟨#[]⟩,⟨#[]⟩,0,0,0,false,0⟩ w;refine h.trans ?_;unfold Opn.eqB;simp only[FA7,decide_true,Bool.true_and]
 cases bu <;> rfl
theorem gn4(tk tw:ByteArray)(it ct pr:Int)(bu:Bool)(i:Int)(w:World):
  (Op.equalIn 10000 207 (oV 0 0 0 ⟨#[]⟩ ⟨#[]⟩ tk tw it ct pr bu i) (oV 0 0 0 ⟨#[]⟩ ⟨#[]⟩ ⟨#[]⟩ ⟨#[]⟩ 0 0 0 false i)).run Tryz.prog w=.ok (noB tk&&(noB tw&&(decide (it=0)&&(decide (ct=0)&&(decide (pr=0)&&!bu))))) w:=by
 have h:=ey4 ⟨0,0,0,⟨#[]⟩,⟨#[]⟩,tk,tw,it,ct,pr,bu,i⟩ ⟨0,0,0,⟨#[]⟩,⟨#[]⟩,⟨#[]⟩,⟨#[]⟩,0,0,0,false,i⟩ w;refine h.trans ?_;unfold Opn.eqB;simp only[FA7,decide_true,Bool.true_and,Bool.and_true]
 cases bu <;> rfl
section
variable(kd cl sq:Int)(ak aw tk tw:ByteArray)(it ct pr:Int)(bu:Bool)(i:Int)(W w:World)(R:List HP)
theorem DE7(hS:St W R w):
  Calls Tryz.prog 145 #[oV kd cl sq ak aw tk tw it ct pr bu i] w fun e w'=>e=.returned (.bool (t8 ⟨kd,cl,sq,ak,aw,tk,tw,it,ct,pr,bu,i⟩))/\St W R w':=by
 go_enter Tryz.func145,Tryz.ntmps145;by_cases h1:0<=it
 case neg=>
  have e:t8 ⟨kd,cl,sq,ak,aw,tk,tw,it,ct,pr,bu,i⟩=false:=by unfold t8 H8;simp;omega
  have d1:decide (0<=it)=false:=by simpa using h1
  rw[e];go_wp2_with(first|refine zbx hS ?_;clear hS;intro b w hS);refine Aa7 (by kernel_rfl) (by kernel_rfl) hS ?_
  repeat(first|go_big_quiet_skip|refine zq1 ?_|refine qR ?_)
  clear hS;intro w hS;go_wp2_with fail;go_ret;exact⟨by rfl,hS.drop⟩
 by_cases h2:it<4
 case neg=>
  have e:t8 ⟨kd,cl,sq,ak,aw,tk,tw,it,ct,pr,bu,i⟩=false:=by unfold t8 H8;simp;omega
  have d2:decide (it<4)=false:=by simpa using h2
  rw[e];go_wp2_with(first|refine zbx hS ?_;clear hS;intro b w hS);refine Aa7 (by kernel_rfl) (by kernel_rfl) hS ?_
  repeat(first|go_big_quiet_skip|refine zq1 ?_|refine qR ?_)
  clear hS;intro w hS;go_wp2_with fail;go_ret;exact⟨by rfl,hS.drop⟩
 by_cases h3:1<=ct
 case neg=>
  have e:t8 ⟨kd,cl,sq,ak,aw,tk,tw,it,ct,pr,bu,i⟩=false:=by unfold t8 H8;simp;omega
  have d3:decide (1<=ct)=false:=by simpa using h3
  rw[e];go_wp2_with(first|refine zbx hS ?_;clear hS;intro b w hS);refine Aa7 (by kernel_rfl) (by kernel_rfl) hS ?_
  repeat(first|go_big_quiet_skip|refine zq1 ?_|refine qR ?_)
  clear hS;intro w hS;go_wp2_with fail;go_ret;exact⟨by rfl,hS.drop⟩
 by_cases h4:ct<=1048576
 case neg=>
  have e:t8 ⟨kd,cl,sq,ak,aw,tk,tw,it,ct,pr,bu,i⟩=false:=by unfold t8 H8;simp;omega
  have d4:decide (ct<=1048576)=false:=by simpa using h4
  rw[e];go_wp2_with(first|refine zbx hS ?_;clear hS;intro b w hS);refine Aa7 (by kernel_rfl) (by kernel_rfl) hS ?_
  repeat(first|go_big_quiet_skip|refine zq1 ?_|refine qR ?_)
  clear hS;intro w hS;go_wp2_with fail;go_ret;exact⟨by rfl,hS.drop⟩
 have e:t8 ⟨kd,cl,sq,ak,aw,tk,tw,it,ct,pr,bu,i⟩=(noB tk&&(noB tw&&(decide (pr=0)&&(!bu&&decide (i=0))))):=by unfold t8 H8 dU4;simp[h1,h2,h3,h4]
 rw[e];go_wp2_with(first|refine zbx hS ?_;clear hS;intro b w hS);refine Aa7 (by kernel_rfl) (by kernel_rfl) hS ?_
 repeat(first|refine zq1 ?_|refine zqN ?_|apply Ar7;rfl;intro w;apply Ag7;rfl;decide +kernel;(focus(simp only[fD,fI,fJ,Act.eval,fE,fF,fG,fH,fK];try rfl));intro w hS;exact Gp7 _ _ _ _ _ _ _ _ _ _ _ _ W w _ hS;refine frS ?_|(with_reducible apply QP7);rfl;rfl;rfl;rfl;kernel_rfl;exact RB7 tk tw it ct pr bu i;refine frS ?_|refine qR ?_)
 clear hS;intro w hS;go_wp2_with fail;go_ret;exact⟨by rfl,hS.drop⟩
end
end Go.Proofs.YtlmhakmoioogaaaGreat
end
section
namespace Go.Sl
open Go.RowKit
section
variable{P:Program}{a:Act}{o:Oper}
theorem Bm7{x:Operand}{f:FuncId}{xs:Array Operand}{ats:Array TypeId}{args:Array Value}(w:World)(ho:o.op=.call { callee:=.value x,args:=xs,argTypes:=ats })(hf:a.eval x=.func (.func f) #[] #[])(hb:aa4 P f=true)(hx:xs.map a.eval=args):
  (execOp a.eval o).run P w=.ok (.enter f args) w:=by
 unfold execOp;simp only[ho,resolve,Sem.run_bind,hf,Deferred.ofValue,hx,Sem.run_pure,Result.andThen_ok];simp[invoke,BA7 hb]
end
section
variable{P:Program}{ops:Array Oper}{Q:Exit->Act->World->Prop}{a:Act}{w:World}{rest:List Oper}{o:Oper}
def dN4:Value->Option Bool
 | .nilFunc=>some true
 | .func _ _ _=>some false
 | _=>none
theorem CE7{t t2:TypeId}{ps rs:Array TypeId}{vd:Bool}{x y:Operand}{v:Value}{r:Bool}(ho:o.op=.binOp .eql t x y t2)(hg:Region.wanted o (yielded ops a.tmps)=true)(hx:a.eval x=v)(hy:a.eval y=.nilFunc)(hv:dN4 v=some r)(ht:P.underlying t=some (.func ps rs vd))
  (h:wpList P ops Q rest (a.put o.dst (.bool r)) w):wpList P ops Q (o::rest) a w:=by
 refine Ak7 hg (v:=.bool r) (w':=w) ?_ h
 have h1:(binOp .eql t v .nilFunc).run P w=.ok (.bool r) w:=by
  have h:∀d:Nat,(Op.equalIn (d+1) t v .nilFunc).run P w=.ok r w:=fun d=>by
   cases v <;> simp only[dN4,Option.some.injEq,reduceCtorEq]at hv
   all_goals
    subst hv;simp[Op.equalIn,run_underlying ht]
  cases v <;> simp only[dN4,Option.some.injEq,reduceCtorEq]at hv
  all_goals
   simp only[binOp];simp[Op.equal,Op.maxDepth,h 9999]
 unfold execOp;simp[ho,hx,hy,eqGuard,h1]
end
end Go.Sl
namespace Go.Proofs.YtlmhakmoioogaaaGreat
open Go.RowKit Go.Sl
section
variable{kd cl sq:Int}{ak aw tk tw:ByteArray}{it ct pr:Int}{bu:Bool}{i:Int}{r:Bool}
theorem IU7(h:t8 ⟨kd,cl,sq,ak,aw,tk,tw,it,ct,pr,bu,i⟩=r)(W w:World)(R:List HP)(hS:St W R w):
  Calls Tryz.prog 145 #[oV kd cl sq ak aw tk tw it ct pr bu i] w fun e w'=>e=.returned (.bool r)/\St W R w':=h▸DE7 kd cl sq ak aw tk tw it ct pr bu i W w R hS
end
section
variable(kd cl sq:Int)(ak aw tk tw:ByteArray)(it ct pr:Int)(bu:Bool)(i:Int)(W w:World)(R:List HP)
theorem Mr7(hS:St W R w):
  Calls Tryz.prog 146 #[oV kd cl sq ak aw tk tw it ct pr bu i] w fun e w'=>e=.returned (.bool (N7 ⟨kd,cl,sq,ak,aw,tk,tw,it,ct,pr,bu,i⟩))/\St W R w':=by
 go_enter Tryz.func146,Tryz.ntmps146;have hc:t8 ⟨kd,cl,sq,ak,aw,⟨#[]⟩,⟨#[]⟩,it,ct,pr,bu,i⟩=(H8 ⟨kd,cl,sq,ak,aw,tk,tw,it,ct,pr,bu,i⟩&&(decide (pr=0)&&(!bu&&decide (i=0)))):=rfl
 cases hp:aL4 tk tw with
 | false=>
  have e:N7 ⟨kd,cl,sq,ak,aw,tk,tw,it,ct,pr,bu,i⟩=false:=by unfold N7;rw[hp];rfl
  rw[e];go_wp2_with(first|go_big_skip|refine zbx hS ?_;clear hS;intro b w hS|refine zal hS ?_;clear hS;intro b w hS|refine zlN hS ?_|refine zlN hS ?_ (vs:=[.string tk,.string tw]) (hc:=by first|exact i5.here rfl|exact i5.there (i5.here rfl))|refine zsN hS ?_;clear hS;intro w hS|go_at_call 150;refine(Ct7 hp W _ _ hS).mono ?_;clear hS;rintro e w ⟨rfl,hS⟩);go_ret;exact⟨rfl,hS.drop.drop⟩
 | true=>
  have e:N7 ⟨kd,cl,sq,ak,aw,tk,tw,it,ct,pr,bu,i⟩=(H8 ⟨kd,cl,sq,ak,aw,tk,tw,it,ct,pr,bu,i⟩&&(decide (pr=0)&&(!bu&&decide (i=0)))):=by unfold N7;rw[hp];rfl
  rw[e];go_wp2_with(first|refine zbx hS ?_;clear hS;intro b w hS|refine zal hS ?_;clear hS;intro b w hS|refine zlN hS ?_|refine zlN hS ?_ (vs:=[.string tk,.string tw]) (hc:=by first|exact i5.here rfl|exact i5.there (i5.here rfl))|refine zsN hS ?_;clear hS;intro w hS|go_at_call 150;refine(Ct7 hp W _ _ hS).mono ?_;clear hS;rintro e w ⟨rfl,hS⟩|go_at_call 145;refine(IU7 hc W _ _ hS).mono ?_;clear hS;rintro e w ⟨rfl,hS⟩);go_ret;exact⟨rfl,hS.drop.drop⟩
theorem Ke7(hS:St W R w):
  Calls Tryz.prog 147 #[oV kd cl sq ak aw tk tw it ct pr bu i] w fun e w'=>e=.returned (.bool (I8 ⟨kd,cl,sq,ak,aw,tk,tw,it,ct,pr,bu,i⟩))/\St W R w':=by
 go_enter Tryz.func147,Tryz.ntmps147;have hc:t8 ⟨kd,cl,sq,ak,aw,tk,tw,it,ct,0,false,i⟩=(H8 ⟨kd,cl,sq,ak,aw,tk,tw,it,ct,pr,bu,i⟩&&(noB tk&&(noB tw&&decide (i=0)))):=by unfold t8 dU4;simp[H8]
 by_cases h1:1<=it
 case neg=>
  have e:I8 ⟨kd,cl,sq,ak,aw,tk,tw,it,ct,pr,bu,i⟩=false:=by unfold I8;simp[h1]
  have d1:decide (1<=it)=false:=by simpa using h1
  rw[e];go_wp2_with(first|go_big_skip|refine zbx hS ?_;clear hS;intro b w hS|refine zl1 hS ?_|refine zs1 hS ?_;clear hS;intro w hS);go_ret;exact⟨rfl,hS.drop⟩
 by_cases h2:1<=pr
 case neg=>
  have e:I8 ⟨kd,cl,sq,ak,aw,tk,tw,it,ct,pr,bu,i⟩=false:=by unfold I8;simp[h2]
  have d2:decide (1<=pr)=false:=by simpa using h2
  rw[e];go_wp2_with(first|go_big_skip|refine zbx hS ?_;clear hS;intro b w hS|refine zl1 hS ?_|refine zs1 hS ?_;clear hS;intro w hS);go_ret;exact⟨rfl,hS.drop⟩
 by_cases h3:pr<=1024
 case neg=>
  have e:I8 ⟨kd,cl,sq,ak,aw,tk,tw,it,ct,pr,bu,i⟩=false:=by unfold I8;simp[h3]
  have d3:decide (pr<=1024)=false:=by simpa using h3
  rw[e];go_wp2_with(first|go_big_skip|refine zbx hS ?_;clear hS;intro b w hS|refine zl1 hS ?_|refine zs1 hS ?_;clear hS;intro w hS);go_ret;exact⟨rfl,hS.drop⟩
 have e:I8 ⟨kd,cl,sq,ak,aw,tk,tw,it,ct,pr,bu,i⟩=(H8 ⟨kd,cl,sq,ak,aw,tk,tw,it,ct,pr,bu,i⟩&&(noB tk&&(noB tw&&decide (i=0)))):=by unfold I8;simp[h1,h2,h3]
 rw[e];go_wp2_with(first|refine zbx hS ?_;clear hS;intro b w hS|refine zl1 hS ?_|refine zlN hS ?_|refine zs1 hS ?_;clear hS;intro w hS|go_at_call 145;refine(IU7 hc W _ _ hS).mono ?_;clear hS;rintro e w ⟨rfl,hS⟩);go_ret;exact⟨rfl,hS.drop⟩
theorem IV7(hS:St W R w):
  Calls Tryz.prog 148 #[oV kd cl sq ak aw tk tw it ct pr bu i] w fun e w'=>e=.returned (.bool (G7 ⟨kd,cl,sq,ak,aw,tk,tw,it,ct,pr,bu,i⟩))/\St W R w':=by
 go_enter Tryz.func148,Tryz.ntmps148;by_cases h1:1<=i
 case neg=>
  have e:G7 ⟨kd,cl,sq,ak,aw,tk,tw,it,ct,pr,bu,i⟩=false:=by unfold G7;simp[h1]
  have d1:decide (1<=i)=false:=by simpa using h1
  rw[e];go_wp2_with(first|refine zbx hS ?_;clear hS;intro b w hS);refine Aa7 (by kernel_rfl) (by kernel_rfl) hS ?_
  repeat(first|go_big_quiet_skip|refine zq1 ?_|refine qR ?_)
  clear hS;intro w hS;go_wp2_with fail;go_ret;exact⟨rfl,hS.drop⟩
 by_cases h2:i<=1099511627776
 case neg=>
  have e:G7 ⟨kd,cl,sq,ak,aw,tk,tw,it,ct,pr,bu,i⟩=false:=by unfold G7;simp[h2]
  have d2:decide (i<=1099511627776)=false:=by simpa using h2
  rw[e];go_wp2_with(first|refine zbx hS ?_;clear hS;intro b w hS);refine Aa7 (by kernel_rfl) (by kernel_rfl) hS ?_
  repeat(first|go_big_quiet_skip|refine zq1 ?_|refine qR ?_)
  clear hS;intro w hS;go_wp2_with fail;go_ret;exact⟨rfl,hS.drop⟩
 have e:G7 ⟨kd,cl,sq,ak,aw,tk,tw,it,ct,pr,bu,i⟩=(noB tk&&(noB tw&&(decide (it=0)&&(decide (ct=0)&&(decide (pr=0)&&!bu))))):=by unfold G7;simp[h1,h2]
 rw[e];go_wp2_with(first|refine zbx hS ?_;clear hS;intro b w hS);refine Aa7 (by kernel_rfl) (by kernel_rfl) hS ?_
 repeat(first|refine zq1 ?_|refine zqN ?_|apply Ar7;rfl;intro w;apply Ag7;rfl;decide +kernel;(focus(simp only[fD,fI,fJ,Act.eval,fE,fF,fG,fH,fK];try rfl));intro w hS;exact Gp7 _ _ _ _ _ _ _ _ _ _ _ _ W w _ hS;refine frS ?_|(with_reducible apply QP7);rfl;rfl;rfl;rfl;kernel_rfl;exact gn4 tk tw it ct pr bu i;refine frS ?_|refine qR ?_)
 clear hS;intro w hS;go_wp2_with fail;go_ret;exact⟨rfl,hS.drop⟩
theorem IW7(hS:St W R w):
  Calls Tryz.prog 149 #[oV kd cl sq ak aw tk tw it ct pr bu i] w fun e w'=>e=.returned (.bool (co4 ⟨kd,cl,sq,ak,aw,tk,tw,it,ct,pr,bu,i⟩))/\St W R w':=by
 go_enter Tryz.func149,Tryz.ntmps149;go_wp2_with(first|refine zbx hS ?_;clear hS;intro b w hS|refine zlN hS ?_|go_at_call 194;refine(Gp7 kd cl sq ak aw tk tw it ct pr bu i W _ _ hS).mono ?_;clear hS;rintro e w ⟨rfl,hS⟩|(with_reducible apply Cg7);rfl;rfl;rfl;rfl;kernel_rfl;exact RC7 tk tw it ct pr bu i;refine frS ?_);go_ret;exact⟨rfl,hS.drop⟩
end
section
variable(kd cl sq:Int)(ak aw tk tw:ByteArray)(it ct pr:Int)(bu:Bool)(i:Int)(W w:World)(R:List HP)
theorem Od7(hS:St W R w):
  Calls Tryz.prog 85 #[oV kd cl sq ak aw tk tw it ct pr bu i] w fun e w'=>e=.returned (.bool (w8 ⟨kd,cl,sq,ak,aw,tk,tw,it,ct,pr,bu,i⟩))/\St W R w':=by
 go_enter Tryz.func85,Tryz.ntmps85;by_cases hk:kd=1\/kd=2\/kd=3\/kd=4\/kd=5\/kd=6\/kd=7
 case neg=>
  have e:w8 ⟨kd,cl,sq,ak,aw,tk,tw,it,ct,pr,bu,i⟩=false:=by unfold w8 J9;simp only[not_or]at hk;obtain⟨k1,k2,k3,k4,k5,k6,k7⟩:=hk;simp[k1,k2,k3,k4,k5,k6,k7]
  rw[e];by_cases h0:kd<0
  ·go_wp2_with(first|go_big_skip|refine zbx hS ?_;clear hS;intro b w hS|refine zal hS ?_;clear hS;intro b2 w hS|refine zsN hS ?_;clear hS;intro w hS|refine zl1 hS ?_);go_ret;exact⟨rfl,hS.drop.drop⟩
  ·have d0:decide (kd<0)=false:=by simpa using h0
   by_cases h8:8<=kd
   ·go_wp2_with(first|go_big_skip|refine zbx hS ?_;clear hS;intro b w hS|refine zal hS ?_;clear hS;intro b2 w hS|refine zsN hS ?_;clear hS;intro w hS|refine zl1 hS ?_);go_ret;exact⟨rfl,hS.drop.drop⟩
   ·obtain rfl:kd=0:=by omega
    clear d0 h0 h8 hk e;go_wp2_with(first|refine zbx hS ?_;clear hS;intro b w hS|refine zal hS ?_;clear hS;intro b2 w hS|refine zsN hS ?_;clear hS;intro w hS|refine zl1 hS ?_|(with_reducible apply CE7);rfl;rfl;rfl;rfl;rfl;exact Tryz.underlying206;refine frS ?_);go_ret;exact⟨rfl,hS.drop.drop⟩
 by_cases h1:1<=cl
 case neg=>
  have d1:decide (1<=cl)=false:=by simpa using h1
  have e:w8 ⟨kd,cl,sq,ak,aw,tk,tw,it,ct,pr,bu,i⟩=false:=by unfold w8 F8;simp[h1]
  rw[e];clear e
  rcases hk with rfl|rfl|rfl|rfl|rfl|rfl|rfl
  all_goals
   go_wp2_with(first|refine zbx hS ?_;clear hS;intro b w hS|refine zal hS ?_;clear hS;intro b2 w hS|refine zsN hS ?_;clear hS;intro w hS|refine zl1 hS ?_|(with_reducible apply CE7);rfl;rfl;rfl;rfl;rfl;exact Tryz.underlying206;refine frS ?_);refine Aa7 (by kernel_rfl) (by kernel_rfl) hS ?_
   repeat(first|go_big_quiet_skip|refine zq1 ?_|refine qR ?_)
   clear hS;intro w hS;go_wp2_with fail;go_ret;exact⟨rfl,hS.drop.drop⟩
 by_cases h2:cl<=1048576
 case neg=>
  have d2:decide (cl<=1048576)=false:=by simpa using h2
  have e:w8 ⟨kd,cl,sq,ak,aw,tk,tw,it,ct,pr,bu,i⟩=false:=by unfold w8 F8;simp[h2]
  rw[e];clear e
  rcases hk with rfl|rfl|rfl|rfl|rfl|rfl|rfl
  all_goals
   go_wp2_with(first|refine zbx hS ?_;clear hS;intro b w hS|refine zal hS ?_;clear hS;intro b2 w hS|refine zsN hS ?_;clear hS;intro w hS|refine zl1 hS ?_|(with_reducible apply CE7);rfl;rfl;rfl;rfl;rfl;exact Tryz.underlying206;refine frS ?_);refine Aa7 (by kernel_rfl) (by kernel_rfl) hS ?_
   repeat(first|go_big_quiet_skip|refine zq1 ?_|refine qR ?_)
   clear hS;intro w hS;go_wp2_with fail;go_ret;exact⟨rfl,hS.drop.drop⟩
 by_cases h3:1<=sq
 case neg=>
  have d3:decide (1<=sq)=false:=by simpa using h3
  have e:w8 ⟨kd,cl,sq,ak,aw,tk,tw,it,ct,pr,bu,i⟩=false:=by unfold w8 F8;simp[h3]
  rw[e];clear e
  rcases hk with rfl|rfl|rfl|rfl|rfl|rfl|rfl
  all_goals
   go_wp2_with(first|refine zbx hS ?_;clear hS;intro b w hS|refine zal hS ?_;clear hS;intro b2 w hS|refine zsN hS ?_;clear hS;intro w hS|refine zl1 hS ?_|(with_reducible apply CE7);rfl;rfl;rfl;rfl;rfl;exact Tryz.underlying206;refine frS ?_);refine Aa7 (by kernel_rfl) (by kernel_rfl) hS ?_
   repeat(first|go_big_quiet_skip|refine zq1 ?_|refine qR ?_)
   clear hS;intro w hS;go_wp2_with fail;go_ret;exact⟨rfl,hS.drop.drop⟩
 by_cases h4:sq<=1099511627776
 case neg=>
  have d4:decide (sq<=1099511627776)=false:=by simpa using h4
  have e:w8 ⟨kd,cl,sq,ak,aw,tk,tw,it,ct,pr,bu,i⟩=false:=by unfold w8 F8;simp[h4]
  rw[e];clear e
  rcases hk with rfl|rfl|rfl|rfl|rfl|rfl|rfl
  all_goals
   go_wp2_with(first|refine zbx hS ?_;clear hS;intro b w hS|refine zal hS ?_;clear hS;intro b2 w hS|refine zsN hS ?_;clear hS;intro w hS|refine zl1 hS ?_|(with_reducible apply CE7);rfl;rfl;rfl;rfl;rfl;exact Tryz.underlying206;refine frS ?_);refine Aa7 (by kernel_rfl) (by kernel_rfl) hS ?_
   repeat(first|go_big_quiet_skip|refine zq1 ?_|refine qR ?_)
   clear hS;intro w hS;go_wp2_with fail;go_ret;exact⟨rfl,hS.drop.drop⟩
 cases hp:aL4 ak aw with
 | false=>
  skip
  have e:w8 ⟨kd,cl,sq,ak,aw,tk,tw,it,ct,pr,bu,i⟩=false:=by unfold w8 F8;simp[hp]
  rw[e];clear e
  rcases hk with rfl|rfl|rfl|rfl|rfl|rfl|rfl
  all_goals
   go_wp2_with(first|refine zbx hS ?_;clear hS;intro b w hS|refine zal hS ?_;clear hS;intro b2 w hS|refine zsN hS ?_;clear hS;intro w hS|refine zl1 hS ?_|(with_reducible apply CE7);rfl;rfl;rfl;rfl;rfl;exact Tryz.underlying206;refine frS ?_);refine Aa7 (by kernel_rfl) (by kernel_rfl) hS ?_
   repeat(first|go_big_quiet_skip|refine zq1 ?_|refine zqN ?_ (hc:=by first|exact i5.here (vs:=[.string ak,.string aw]) rfl|exact i5.there (i5.here (vs:=[.string ak,.string aw]) rfl))|apply Ar7;rfl;intro w;apply Ag7;rfl;decide +kernel;(focus(simp only[fD,fI,fJ,Act.eval,fE,fF,fG,fH,fK];try rfl));intro w hS;exact Ct7 hp W w _ hS;refine frS ?_|refine qR ?_)
   clear hS;intro w hS;go_wp2_with fail;go_ret;exact⟨rfl,hS.drop.drop⟩
 | true=>
  have hh:(decide (1<=cl)&&(decide (cl<=1048576)&&(decide (1<=sq)&&(decide (sq<=1099511627776)&&aL4 ak aw))))=true:=by simp[h1,h2,h3,h4,hp]
  rcases hk with rfl|rfl|rfl|rfl|rfl|rfl|rfl
  ·skip
   have e:w8 ⟨1,cl,sq,ak,aw,tk,tw,it,ct,pr,bu,i⟩=t8 ⟨1,cl,sq,ak,aw,tk,tw,it,ct,pr,bu,i⟩:=by unfold w8;rw[show F8 ⟨1,cl,sq,ak,aw,tk,tw,it,ct,pr,bu,i⟩=true from hh];rfl
   rw[e];clear e;go_wp2_with(first|refine zbx hS ?_;clear hS;intro b w hS|refine zal hS ?_;clear hS;intro b2 w hS|refine zsN hS ?_;clear hS;intro w hS|refine zl1 hS ?_|(with_reducible apply CE7);rfl;rfl;rfl;rfl;rfl;exact Tryz.underlying206;refine frS ?_);refine Aa7 (by kernel_rfl) (by kernel_rfl) hS ?_
   repeat(first|refine zq1 ?_|refine zqN ?_|refine zqN ?_ (hc:=by first|exact i5.here (vs:=[.string ak,.string aw]) rfl|exact i5.there (i5.here (vs:=[.string ak,.string aw]) rfl))|apply Ar7;rfl;intro w;apply Ag7;rfl;decide +kernel;(focus(simp only[fD,fI,fJ,Act.eval,fE,fF,fG,fH,fK];try rfl));intro w hS;exact Ct7 hp W w _ hS;refine frS ?_|apply Ar7;rfl;intro w;apply Bm7;rfl;rfl;decide +kernel;(focus(simp only[fD,fI,fJ,Act.eval,fE,fF,fG,fH,fK];try rfl));intro w hS;exact DE7 _ _ _ _ _ _ _ _ _ _ _ _ W w _ hS;refine frS ?_|refine qR ?_)
   clear hS;intro w hS;go_wp2_with fail;go_ret;exact⟨rfl,hS.drop.drop⟩
  ·skip
   have e:w8 ⟨2,cl,sq,ak,aw,tk,tw,it,ct,pr,bu,i⟩=N7 ⟨2,cl,sq,ak,aw,tk,tw,it,ct,pr,bu,i⟩:=by unfold w8;rw[show F8 ⟨2,cl,sq,ak,aw,tk,tw,it,ct,pr,bu,i⟩=true from hh];rfl
   rw[e];clear e;go_wp2_with(first|refine zbx hS ?_;clear hS;intro b w hS|refine zal hS ?_;clear hS;intro b2 w hS|refine zsN hS ?_;clear hS;intro w hS|refine zl1 hS ?_|(with_reducible apply CE7);rfl;rfl;rfl;rfl;rfl;exact Tryz.underlying206;refine frS ?_);refine Aa7 (by kernel_rfl) (by kernel_rfl) hS ?_
   repeat(first|refine zq1 ?_|refine zqN ?_|refine zqN ?_ (hc:=by first|exact i5.here (vs:=[.string ak,.string aw]) rfl|exact i5.there (i5.here (vs:=[.string ak,.string aw]) rfl))|apply Ar7;rfl;intro w;apply Ag7;rfl;decide +kernel;(focus(simp only[fD,fI,fJ,Act.eval,fE,fF,fG,fH,fK];try rfl));intro w hS;exact Ct7 hp W w _ hS;refine frS ?_|apply Ar7;rfl;intro w;apply Bm7;rfl;rfl;decide +kernel;(focus(simp only[fD,fI,fJ,Act.eval,fE,fF,fG,fH,fK];try rfl));intro w hS;exact Mr7 _ _ _ _ _ _ _ _ _ _ _ _ W w _ hS;refine frS ?_|refine qR ?_)
   clear hS;intro w hS;go_wp2_with fail;go_ret;exact⟨rfl,hS.drop.drop⟩
  ·skip
   have e:w8 ⟨3,cl,sq,ak,aw,tk,tw,it,ct,pr,bu,i⟩=I8 ⟨3,cl,sq,ak,aw,tk,tw,it,ct,pr,bu,i⟩:=by unfold w8;rw[show F8 ⟨3,cl,sq,ak,aw,tk,tw,it,ct,pr,bu,i⟩=true from hh];rfl
   rw[e];clear e;go_wp2_with(first|refine zbx hS ?_;clear hS;intro b w hS|refine zal hS ?_;clear hS;intro b2 w hS|refine zsN hS ?_;clear hS;intro w hS|refine zl1 hS ?_|(with_reducible apply CE7);rfl;rfl;rfl;rfl;rfl;exact Tryz.underlying206;refine frS ?_);refine Aa7 (by kernel_rfl) (by kernel_rfl) hS ?_
   repeat(first|refine zq1 ?_|refine zqN ?_|refine zqN ?_ (hc:=by first|exact i5.here (vs:=[.string ak,.string aw]) rfl|exact i5.there (i5.here (vs:=[.string ak,.string aw]) rfl))|apply Ar7;rfl;intro w;apply Ag7;rfl;decide +kernel;(focus(simp only[fD,fI,fJ,Act.eval,fE,fF,fG,fH,fK];try rfl));intro w hS;exact Ct7 hp W w _ hS;refine frS ?_|apply Ar7;rfl;intro w;apply Bm7;rfl;rfl;decide +kernel;(focus(simp only[fD,fI,fJ,Act.eval,fE,fF,fG,fH,fK];try rfl));intro w hS;exact Ke7 _ _ _ _ _ _ _ _ _ _ _ _ W w _ hS;refine frS ?_|refine qR ?_)
   clear hS;intro w hS;go_wp2_with fail;go_ret;exact⟨rfl,hS.drop.drop⟩
  ·skip
   have e:w8 ⟨4,cl,sq,ak,aw,tk,tw,it,ct,pr,bu,i⟩=G7 ⟨4,cl,sq,ak,aw,tk,tw,it,ct,pr,bu,i⟩:=by unfold w8;rw[show F8 ⟨4,cl,sq,ak,aw,tk,tw,it,ct,pr,bu,i⟩=true from hh];rfl
   rw[e];clear e;go_wp2_with(first|refine zbx hS ?_;clear hS;intro b w hS|refine zal hS ?_;clear hS;intro b2 w hS|refine zsN hS ?_;clear hS;intro w hS|refine zl1 hS ?_|(with_reducible apply CE7);rfl;rfl;rfl;rfl;rfl;exact Tryz.underlying206;refine frS ?_);refine Aa7 (by kernel_rfl) (by kernel_rfl) hS ?_
   repeat(first|refine zq1 ?_|refine zqN ?_|refine zqN ?_ (hc:=by first|exact i5.here (vs:=[.string ak,.string aw]) rfl|exact i5.there (i5.here (vs:=[.string ak,.string aw]) rfl))|apply Ar7;rfl;intro w;apply Ag7;rfl;decide +kernel;(focus(simp only[fD,fI,fJ,Act.eval,fE,fF,fG,fH,fK];try rfl));intro w hS;exact Ct7 hp W w _ hS;refine frS ?_|apply Ar7;rfl;intro w;apply Bm7;rfl;rfl;decide +kernel;(focus(simp only[fD,fI,fJ,Act.eval,fE,fF,fG,fH,fK];try rfl));intro w hS;exact IV7 _ _ _ _ _ _ _ _ _ _ _ _ W w _ hS;refine frS ?_|refine qR ?_)
   clear hS;intro w hS;go_wp2_with fail;go_ret;exact⟨rfl,hS.drop.drop⟩
  ·skip
   have e:w8 ⟨5,cl,sq,ak,aw,tk,tw,it,ct,pr,bu,i⟩=co4 ⟨5,cl,sq,ak,aw,tk,tw,it,ct,pr,bu,i⟩:=by unfold w8;rw[show F8 ⟨5,cl,sq,ak,aw,tk,tw,it,ct,pr,bu,i⟩=true from hh];rfl
   rw[e];clear e;go_wp2_with(first|refine zbx hS ?_;clear hS;intro b w hS|refine zal hS ?_;clear hS;intro b2 w hS|refine zsN hS ?_;clear hS;intro w hS|refine zl1 hS ?_|(with_reducible apply CE7);rfl;rfl;rfl;rfl;rfl;exact Tryz.underlying206;refine frS ?_);refine Aa7 (by kernel_rfl) (by kernel_rfl) hS ?_
   repeat(first|refine zq1 ?_|refine zqN ?_|refine zqN ?_ (hc:=by first|exact i5.here (vs:=[.string ak,.string aw]) rfl|exact i5.there (i5.here (vs:=[.string ak,.string aw]) rfl))|apply Ar7;rfl;intro w;apply Ag7;rfl;decide +kernel;(focus(simp only[fD,fI,fJ,Act.eval,fE,fF,fG,fH,fK];try rfl));intro w hS;exact Ct7 hp W w _ hS;refine frS ?_|apply Ar7;rfl;intro w;apply Bm7;rfl;rfl;decide +kernel;(focus(simp only[fD,fI,fJ,Act.eval,fE,fF,fG,fH,fK];try rfl));intro w hS;exact IW7 _ _ _ _ _ _ _ _ _ _ _ _ W w _ hS;refine frS ?_|refine qR ?_)
   clear hS;intro w hS;go_wp2_with fail;go_ret;exact⟨rfl,hS.drop.drop⟩
  ·skip
   have e:w8 ⟨6,cl,sq,ak,aw,tk,tw,it,ct,pr,bu,i⟩=t8 ⟨6,cl,sq,ak,aw,tk,tw,it,ct,pr,bu,i⟩:=by unfold w8;rw[show F8 ⟨6,cl,sq,ak,aw,tk,tw,it,ct,pr,bu,i⟩=true from hh];rfl
   rw[e];clear e;go_wp2_with(first|refine zbx hS ?_;clear hS;intro b w hS|refine zal hS ?_;clear hS;intro b2 w hS|refine zsN hS ?_;clear hS;intro w hS|refine zl1 hS ?_|(with_reducible apply CE7);rfl;rfl;rfl;rfl;rfl;exact Tryz.underlying206;refine frS ?_);refine Aa7 (by kernel_rfl) (by kernel_rfl) hS ?_
   repeat(first|refine zq1 ?_|refine zqN ?_|refine zqN ?_ (hc:=by first|exact i5.here (vs:=[.string ak,.string aw]) rfl|exact i5.there (i5.here (vs:=[.string ak,.string aw]) rfl))|apply Ar7;rfl;intro w;apply Ag7;rfl;decide +kernel;(focus(simp only[fD,fI,fJ,Act.eval,fE,fF,fG,fH,fK];try rfl));intro w hS;exact Ct7 hp W w _ hS;refine frS ?_|apply Ar7;rfl;intro w;apply Bm7;rfl;rfl;decide +kernel;(focus(simp only[fD,fI,fJ,Act.eval,fE,fF,fG,fH,fK];try rfl));intro w hS;exact DE7 _ _ _ _ _ _ _ _ _ _ _ _ W w _ hS;refine frS ?_|refine qR ?_)
   clear hS;intro w hS;go_wp2_with fail;go_ret;exact⟨rfl,hS.drop.drop⟩
  ·skip
   have e:w8 ⟨7,cl,sq,ak,aw,tk,tw,it,ct,pr,bu,i⟩=co4 ⟨7,cl,sq,ak,aw,tk,tw,it,ct,pr,bu,i⟩:=by unfold w8;rw[show F8 ⟨7,cl,sq,ak,aw,tk,tw,it,ct,pr,bu,i⟩=true from hh];rfl
   rw[e];clear e;go_wp2_with(first|refine zbx hS ?_;clear hS;intro b w hS|refine zal hS ?_;clear hS;intro b2 w hS|refine zsN hS ?_;clear hS;intro w hS|refine zl1 hS ?_|(with_reducible apply CE7);rfl;rfl;rfl;rfl;rfl;exact Tryz.underlying206;refine frS ?_);refine Aa7 (by kernel_rfl) (by kernel_rfl) hS ?_
   repeat(first|refine zq1 ?_|refine zqN ?_|refine zqN ?_ (hc:=by first|exact i5.here (vs:=[.string ak,.string aw]) rfl|exact i5.there (i5.here (vs:=[.string ak,.string aw]) rfl))|apply Ar7;rfl;intro w;apply Ag7;rfl;decide +kernel;(focus(simp only[fD,fI,fJ,Act.eval,fE,fF,fG,fH,fK];try rfl));intro w hS;exact Ct7 hp W w _ hS;refine frS ?_|apply Ar7;rfl;intro w;apply Bm7;rfl;rfl;decide +kernel;(focus(simp only[fD,fI,fJ,Act.eval,fE,fF,fG,fH,fK];try rfl));intro w hS;exact IW7 _ _ _ _ _ _ _ _ _ _ _ _ W w _ hS;refine frS ?_|refine qR ?_)
   clear hS;intro w hS;go_wp2_with fail;go_ret;exact⟨rfl,hS.drop.drop⟩
end
theorem CL7{kd cl sq:Int}{ak aw tk tw:ByteArray}{it ct pr:Int}{bu:Bool}{i:Int}{r:Bool}(h:w8 ⟨kd,cl,sq,ak,aw,tk,tw,it,ct,pr,bu,i⟩=r)(W w:World)(R:List HP)(hS:St W R w):
  Calls Tryz.prog 85 #[oV kd cl sq ak aw tk tw it ct pr bu i] w fun e w'=>e=.returned (.bool r)/\St W R w':=h▸Od7 kd cl sq ak aw tk tw it ct pr bu i W w R hS
theorem eW4(a b:Int×Int)(w:World):(Op.equal 94 (eW a) (eW b)).run Tryz.prog w=.ok (decide (a=b)) w:=by
 have u3:=Tryz.underlying3;have a3:=Tryz.isAgg3;have z3:=Tryz.sizeOf3;have hs:Tryz.prog.stoodInHeld 94=false:=by kernel_rfl
 obtain⟨a0,a1⟩:=a;obtain⟨b0,b1⟩:=b
 have h:∀d:Nat,(Op.equalIn (d+2) 94 (eW (a0,a1)) (eW (b0,b1))).run Tryz.prog w=.ok (decide ((a0,a1)=(b0,b1))) w:=fun d=>by
  rw[Op.equalIn];simp only[Sem.run_bind,run_underlying Tryz.underlying94,Result.andThen_ok,run_program,hs,Bool.false_eq_true,if_false];rw[<-Array.forIn_toList];simp only[List.forIn_cons,List.forIn_nil]
  go_simp
  by_cases h1:a0=b0 <;> by_cases h2:a1=b1 <;> simp[h1,h2]
 exact h 9998
theorem eA4(e:Bool)(a:Int×Int)(w:World):(Instr.checkKey e 10000 94 (eW a)).run Tryz.prog w=.ok () w:=by
 have u3:=Tryz.underlying3;have a3:=Tryz.isAgg3;have z3:=Tryz.sizeOf3;have h1:∀(d:Nat) (x:Int),(Instr.checkKey e (d+1) 3 (.I x)).run Tryz.prog w=.ok () w:=fun d x=>by rw[Instr.checkKey];simp[run_underlying u3]
 have h:∀d:Nat,(Instr.checkKey e (d+2) 94 (eW a)).run Tryz.prog w=.ok () w:=fun d=>by
  rw[Instr.checkKey];simp only[Sem.run_bind,run_underlying Tryz.underlying94,Result.andThen_ok];rw[<-Array.forIn_toList];simp only[List.forIn_cons,List.forIn_nil]
  go_simp
 exact h 9998
theorem kW:KeyOk Tryz.prog 94 eW:=KeyOk.deep Tryz.underlying94 (fun _ _=>rfl) eA4 eW4 (fun k=>by simp[Instr.sameBits])
theorem kEi:KeyOk Tryz.prog 3 eI:=KeyOk.int Tryz.underlying3
theorem mV:D6 Tryz.prog 79=some (9,100):=by kernel_rfl
theorem mS:D6 Tryz.prog 80=some (3,90):=by kernel_rfl
theorem mT:D6 Tryz.prog 81=some (94,40):=by kernel_rfl
theorem mAr:D6 Tryz.prog 82=some (94,4):=by kernel_rfl
theorem zV:I6 Tryz.prog 100=some (.pointer none):=by kernel_rfl
theorem zS:I6 Tryz.prog 90=some (eSs (0,rp0)):=by kernel_rfl
theorem zT:I6 Tryz.prog 40=some (eTn ⟨0,0,⟨#[]⟩,⟨#[]⟩,⟨#[]⟩,⟨#[]⟩,0,0⟩):=by kernel_rfl
theorem zA:I6 Tryz.prog 4=some (.bool false):=by kernel_rfl
theorem Gq7(W w:World)(R:List HP)(hS:St W R w):
  Calls Tryz.prog 15 #[] w fun e w'=>∃eb,e=.returned (.P eb)/\St W (ecP eb ec0::R) w':=by
 go_enter Tryz.func15,Tryz.ntmps15;go_wp2_with(first|(with_reducible apply DS7 (t:=79) eS eN hS);rfl;rfl;clear hS;intro m1 w hS;refine frS ?_|(with_reducible apply DS7 (t:=80) eI eSs hS);rfl;rfl;clear hS;intro m2 w hS;refine frS ?_|(with_reducible apply DS7 (t:=81) eW eTn hS);rfl;rfl;clear hS;intro m3 w hS;refine frS ?_|(with_reducible apply DS7 (t:=82) eW eU hS);rfl;rfl;clear hS;intro m4 w hS;refine frS ?_|refine zbx hS ?_;clear hS;intro eb w hS);go_ret;have hS1:St W (j8 []::_) w:=St.shutS [] hS;exact⟨eb,rfl,K9 (E:=[]) (e:=ec0) (m1:=m1) (m2:=m2) (m3:=m3) (m4:=m4) (List.Perm.refl _) (hS1.s (blk eb _ _::d8 eS eN m1 []::j8 []::d8 eI eSs m2 []::d8 eW eTn m3 []::d8 eW eU m4 []::R))⟩
abbrev ebB(eb m1 m2 m3 m4:Nat):HP:=blk eb [.map (some m1),.map (some m2),.map (some m3),.map (some m4)] 84
def vAt(E:Ev)(k:ByteArray):Vs:=((i9 E k).map (·.2)).getD vs0
theorem RD7(eb m1 m2 m3 m4:Nat)(E:Ev)(k:ByteArray)(W w:World)(R:List HP)(hS:St W (ebB eb m1 m2 m3 m4::d8 eS eN m1 (i7 E)::j8 E::R) w):
  Calls Tryz.prog 101 #[.P eb,.string k] w fun e w'=>∃vb,e=.returned (.P vb) /\
   St W (ebB eb m1 m2 m3 m4::d8 eS eN m1 (i7 ((k,(vb,vAt E k))::j6 E k))::H6 vb (vAt E k)::j8 (j6 E k)::R) w':=by
 have hnd:(E.map (·.1)).Nodup:=by rw[<-AR7];exact A5 hS.drop
 cases hg:i9 E k with
 | some x=>
  obtain⟨vb,V⟩:=x;have hgl:i9 (i7 E) k=some vb:=by rw[BP7,hg];rfl
  have hv:vAt E k=V:=by unfold vAt;rw[hg];rfl
  have hp:=Bt7 hnd hg;rw[hv];go_enter Tryz.func101,Tryz.ntmps101;go_wp2_with(first|go_big_skip|(with_reducible apply BW7 (ek:=eS) (ev:=eN) (k:=k) hS);rfl;rfl;rfl;rfl;exact i6;exact mV;exact kS;exact zV;exact hgl;refine frS ?_|refine zl1 hS ?_);go_ret;refine⟨vb,rfl,?_⟩;have h1:=I7 (hp.map fun x=>(x.1,x.2.1)) hS.swap;have h2:St W (j8 E::d8 eS eN m1 (i7 ((k,(vb,V))::j6 E k))::ebB eb m1 m2 m3 m4::R) w:=h1.s _;have h3:=bW4 (aE4 hp h2);exact h3.s (ebB eb m1 m2 m3 m4::d8 eS eN m1 _::H6 vb V::j8 (j6 E k)::R)
 | none=>
  have hgl:i9 (i7 E) k=none:=by rw[BP7,hg];rfl
  have hv:vAt E k=vs0:=by unfold vAt;rw[hg];rfl
  have hd:j6 E k=E:=Bk7 (AP7 hg);rw[hv,hd];go_enter Tryz.func101,Tryz.ntmps101;go_wp2_with(first|go_big_skip|(with_reducible apply DU7 (ek:=eS) (ev:=eN) (k:=k) hS);rfl;rfl;rfl;rfl;exact i6;exact mV;exact kS;exact zV;exact hgl;refine frS ?_|refine zl1 hS ?_|go_at_call 162;refine(NE7 W _ _ hS).mono ?_;clear hS;rintro e w ⟨vb,mb,bb,rfl,hS⟩|((with_reducible apply Bg7 (ek:=eS) (ev:=eN) (k:=k) (u:=vb) hS);rfl;rfl;rfl;rfl;exact i6;(focus(rfl));exact mV;exact kS;clear hS;intro w hS;try(refine frS ?_)));go_ret;refine⟨vb,rfl,?_⟩;rw[Lo7,hd]at hS;have h1:St W (w5 vb mb bb [] [] 1 (ebB eb m1 m2 m3 m4::d8 eS eN m1 ((k,vb)::i7 E)::j8 E::R)) w:=hS.s _;have h2:=aC4 (V:=vs0) h1;have h3:=h2.s (ebB eb m1 m2 m3 m4::d8 eS eN m1 ((k,vb)::i7 E)::H6 vb vs0::j8 E::R);exact h3
end Go.Proofs.YtlmhakmoioogaaaGreat
end
