/-
  What may be requested.
-/
import Derived.Test.YtienbkdjkjbelaaGreatJuTM5
import Derived.Test.YtienbkdjkjbelaaGreatJuTM21
set_option maxHeartbeats 16000000
set_option maxRecDepth 100000
set_option linter.unusedSimpArgs false
set_option linter.unusedVariables false
section
namespace Go.Proofs.YtienbkdjkjbelaaGreat
open Go.RowKit Go.Sl
theorem Mj7(k u:ByteArray)(W w:World)(R:List HP)(hS:St W R w):
  Calls Tryz.prog 143 #[.agg #[.string k,.string u]] w fun e w'=>e=.returned (.bool (az4 k u))/\St W R w':=by
 go_enter Tryz.func143,Tryz.ntmps143;by_cases h1:1<=k.size
 case neg=>
  have e:az4 k u=false:=by unfold az4 C6;simp;omega
  have d1:decide ((1:Int)<=(k.size:Int))=false:=by simp;omega
  rw[e];go_wp2_with(first|go_big_skip|refine zbx hS ?_;clear hS;intro b w hS|refine zl1 hS ?_);go_ret;exact⟨rfl,hS.drop⟩
 have d1:(1:Int)<=(k.size:Int):=by omega
 by_cases h2:k.size<=16
 case neg=>
  have e:az4 k u=false:=by unfold az4 C6;simp;omega
  have d2:decide ((k.size:Int)<=16)=false:=by simp;omega
  rw[e];go_wp2_with(first|go_big_skip|refine zbx hS ?_;clear hS;intro b w hS|refine zl1 hS ?_);go_ret;exact⟨rfl,hS.drop⟩
 have d2:(k.size:Int)<=16:=by omega
 by_cases h3:1<=u.size
 case neg=>
  have e:az4 k u=false:=by unfold az4 C6;simp;omega
  have d3:decide ((1:Int)<=(u.size:Int))=false:=by simp;omega
  rw[e];go_wp2_with(first|go_big_skip|refine zbx hS ?_;clear hS;intro b w hS|refine zl1 hS ?_);go_ret;exact⟨rfl,hS.drop⟩
 have d3:(1:Int)<=(u.size:Int):=by omega
 by_cases h4:u.size<=16
 case neg=>
  have e:az4 k u=false:=by unfold az4 C6;simp;omega
  have d4:decide ((u.size:Int)<=16)=false:=by simp;omega
  rw[e];go_wp2_with(first|refine zbx hS ?_;clear hS;intro b w hS|refine zl1 hS ?_);go_ret;exact⟨rfl,hS.drop⟩
 have d4:(u.size:Int)<=16:=by omega
 have e:az4 k u=true:=by unfold az4 C6;simp;omega
 rw[e];go_wp2_with(first|refine zbx hS ?_;clear hS;intro b w hS|refine zl1 hS ?_);go_ret;exact⟨rfl,hS.drop⟩
theorem BU7{k u:ByteArray}{r:Bool}(h:az4 k u=r)(W w:World)(R:List HP)(hS:St W R w):
  Calls Tryz.prog 143 #[.agg #[.string k,.string u]] w fun e w'=>e=.returned (.bool r)/\St W R w':=h▸Mj7 k u W w R hS
abbrev oV(kd cl sq:Int)(ak aw tk tw:ByteArray)(it ct pr:Int)(bu:Bool)(i:Int):Value:=
 .agg #[.I kd,.I cl,.I sq,.string ak,.string aw,.string tk,.string tw,.I it,.I ct,.I pr,.bool bu,.I i]
section
variable(kd cl sq:Int)(ak aw tk tw:ByteArray)(it ct pr:Int)(bu:Bool)(i:Int)(W w:World)(R:List HP)
theorem Fs7(hS:St W R w):
  Calls Tryz.prog 184 #[oV kd cl sq ak aw tk tw it ct pr bu i] w fun e w'=>e=.returned (oV 0 0 0 ⟨#[]⟩ ⟨#[]⟩ tk tw it ct pr bu i)/\St W R w':=by
 go_enter Tryz.func184,Tryz.ntmps184;go_wp2_with(first|(fail_if_success (have:=mA));(refine zbx hS ?_;clear hS;have mA:Nat:=0;intro bA w hS)|refine zal hS ?_;clear hS;intro b w hS|refine zs1 hS ?_;clear hS;intro w hS|refine zsN hS ?_;clear hS;intro w hS|refine zlN hS ?_);apply Ap7;rfl;rfl;rfl;exact hS;decide +kernel;(exact r6);kernel_rfl;exact⟨rfl,hS.drop.drop⟩
end
theorem EK7(u:ByteArray):decide (u.toList=(⟨#[]⟩:ByteArray).toList)=noB u:=by
 rw[Lib.toList_data,Lib.toList_data];obtain⟨⟨l⟩⟩:=u
 cases l <;> simp[noB,ByteArray.size]
theorem Qc7(tk tw:ByteArray)(it ct pr:Int)(bu:Bool)(i:Int)(w:World):
  (Op.equalIn 10000 234 (oV 0 0 0 ⟨#[]⟩ ⟨#[]⟩ tk tw it ct pr bu i) (oV 0 0 0 ⟨#[]⟩ ⟨#[]⟩ ⟨#[]⟩ ⟨#[]⟩ it ct 0 false 0)).run Tryz.prog w=.ok (noB tk&&(noB tw&&(decide (pr=0)&&(!bu&&decide (i=0))))) w:=by
 have h:=dQ4 ⟨0,0,0,⟨#[]⟩,⟨#[]⟩,tk,tw,it,ct,pr,bu,i⟩ ⟨0,0,0,⟨#[]⟩,⟨#[]⟩,⟨#[]⟩,⟨#[]⟩,it,ct,0,false,0⟩ w;refine h.trans ?_;unfold Opn.eqB;simp only[EK7,decide_true,Bool.true_and]
 cases bu <;> rfl
theorem Qd7(tk tw:ByteArray)(it ct pr:Int)(bu:Bool)(i:Int)(w:World):
  (Op.equalIn 10000 234 (oV 0 0 0 ⟨#[]⟩ ⟨#[]⟩ tk tw it ct pr bu i) (oV 0 0 0 ⟨#[]⟩ ⟨#[]⟩ ⟨#[]⟩ ⟨#[]⟩ 0 0 0 false 0)).run Tryz.prog w=.ok (noB tk&&(noB tw&&(decide (it=0)&&(decide (ct=0)&&(decide (pr=0)&&(!bu&&decide (i=0))))))) w:=by
 have h:=dQ4 ⟨0,0,0,⟨#[]⟩,⟨#[]⟩,tk,tw,it,ct,pr,bu,i⟩ ⟨0,0,0,⟨#[]⟩,⟨#[]⟩,⟨#[]⟩,⟨#[]⟩,0,0,0,false,0⟩ w;refine h.trans ?_;unfold Opn.eqB;simp only[EK7,decide_true,Bool.true_and]
 cases bu <;> rfl
theorem fw4(tk tw:ByteArray)(it ct pr:Int)(bu:Bool)(i:Int)(w:World):
  (Op.equalIn 10000 234 (oV 0 0 0 ⟨#[]⟩ ⟨#[]⟩ tk tw it ct pr bu i) (oV 0 0 0 ⟨#[]⟩ ⟨#[]⟩ ⟨#[]⟩ ⟨#[]⟩ 0 0 0 false i)).run Tryz.prog w=.ok (noB tk&&(noB tw&&(decide (it=0)&&(decide (ct=0)&&(decide (pr=0)&&!bu))))) w:=by
 have h:=dQ4 ⟨0,0,0,⟨#[]⟩,⟨#[]⟩,tk,tw,it,ct,pr,bu,i⟩ ⟨0,0,0,⟨#[]⟩,⟨#[]⟩,⟨#[]⟩,⟨#[]⟩,0,0,0,false,i⟩ w;refine h.trans ?_;unfold Opn.eqB;simp only[EK7,decide_true,Bool.true_and,Bool.and_true]
 cases bu <;> rfl
section
variable(kd cl sq:Int)(ak aw tk tw:ByteArray)(it ct pr:Int)(bu:Bool)(i:Int)(W w:World)(R:List HP)
theorem CW7(hS:St W R w):
  Calls Tryz.prog 138 #[oV kd cl sq ak aw tk tw it ct pr bu i] w fun e w'=>e=.returned (.bool (s7 ⟨kd,cl,sq,ak,aw,tk,tw,it,ct,pr,bu,i⟩))/\St W R w':=by
 go_enter Tryz.func138,Tryz.ntmps138;by_cases h1:0<=it
 case neg=>
  have e:s7 ⟨kd,cl,sq,ak,aw,tk,tw,it,ct,pr,bu,i⟩=false:=by unfold s7 H5;simp;omega
  have d1:decide (0<=it)=false:=by simpa using h1
  rw[e];go_wp2_with(first|refine zbx hS ?_;clear hS;intro b w hS);refine Aa7 (by kernel_rfl) (by kernel_rfl) hS ?_
  repeat(first|go_big_quiet_skip|refine zq1 ?_|refine qR ?_)
  clear hS;intro w hS;go_wp2_with fail;go_ret;exact⟨by rfl,hS.drop⟩
 by_cases h2:it<4
 case neg=>
  have e:s7 ⟨kd,cl,sq,ak,aw,tk,tw,it,ct,pr,bu,i⟩=false:=by unfold s7 H5;simp;omega
  have d2:decide (it<4)=false:=by simpa using h2
  rw[e];go_wp2_with(first|refine zbx hS ?_;clear hS;intro b w hS);refine Aa7 (by kernel_rfl) (by kernel_rfl) hS ?_
  repeat(first|go_big_quiet_skip|refine zq1 ?_|refine qR ?_)
  clear hS;intro w hS;go_wp2_with fail;go_ret;exact⟨by rfl,hS.drop⟩
 by_cases h3:1<=ct
 case neg=>
  have e:s7 ⟨kd,cl,sq,ak,aw,tk,tw,it,ct,pr,bu,i⟩=false:=by unfold s7 H5;simp;omega
  have d3:decide (1<=ct)=false:=by simpa using h3
  rw[e];go_wp2_with(first|refine zbx hS ?_;clear hS;intro b w hS);refine Aa7 (by kernel_rfl) (by kernel_rfl) hS ?_
  repeat(first|go_big_quiet_skip|refine zq1 ?_|refine qR ?_)
  clear hS;intro w hS;go_wp2_with fail;go_ret;exact⟨by rfl,hS.drop⟩
 by_cases h4:ct<=1048576
 case neg=>
  have e:s7 ⟨kd,cl,sq,ak,aw,tk,tw,it,ct,pr,bu,i⟩=false:=by unfold s7 H5;simp;omega
  have d4:decide (ct<=1048576)=false:=by simpa using h4
  rw[e];go_wp2_with(first|refine zbx hS ?_;clear hS;intro b w hS);refine Aa7 (by kernel_rfl) (by kernel_rfl) hS ?_
  repeat(first|go_big_quiet_skip|refine zq1 ?_|refine qR ?_)
  clear hS;intro w hS;go_wp2_with fail;go_ret;exact⟨by rfl,hS.drop⟩
 have e:s7 ⟨kd,cl,sq,ak,aw,tk,tw,it,ct,pr,bu,i⟩=(noB tk&&(noB tw&&(decide (pr=0)&&(!bu&&decide (i=0))))):=by unfold s7 H5 dq4;simp[h1,h2,h3,h4]
 rw[e];go_wp2_with(first|refine zbx hS ?_;clear hS;intro b w hS);refine Aa7 (by kernel_rfl) (by kernel_rfl) hS ?_
 repeat(first|refine zq1 ?_|refine zqN ?_|apply At7;rfl;intro w;apply Ah7;rfl;decide +kernel;(focus(simp only[fD,fI,fJ,Act.eval,fE,fF,fG,fH,fK];try rfl));intro w hS;exact Fs7 _ _ _ _ _ _ _ _ _ _ _ _ W w _ hS;refine frS ?_|(with_reducible apply Pr7);rfl;rfl;rfl;rfl;kernel_rfl;exact Qc7 tk tw it ct pr bu i;refine frS ?_|refine qR ?_)
 clear hS;intro w hS;go_wp2_with fail;go_ret;exact⟨by rfl,hS.drop⟩
end
end Go.Proofs.YtienbkdjkjbelaaGreat
end
section
namespace Go.Sl
open Go.RowKit
section
variable{P:Program}{a:Act}{o:Oper}
theorem AU7{x:Operand}{f:FuncId}{xs:Array Operand}{ats:Array TypeId}{args:Array Value}(w:World)(ho:o.op=.call { callee:=.value x,args:=xs,argTypes:=ats })(hf:a.eval x=.func (.func f) #[] #[])(hb:O6 P f=true)(hx:xs.map a.eval=args):
  (execOp a.eval o).run P w=.ok (.enter f args) w:=by
 unfold execOp;simp only[ho,resolve,Sem.run_bind,hf,Deferred.ofValue,hx,Sem.run_pure,Result.andThen_ok];simp[invoke,Bc7 hb]
end
section
variable{P:Program}{ops:Array Oper}{Q:Exit->Act->World->Prop}{a:Act}{w:World}{rest:List Oper}{o:Oper}
def dj4:Value->Option Bool
 | .nilFunc=>some true
 | .func _ _ _=>some false
 | _=>none
theorem Cb7{t t2:TypeId}{ps rs:Array TypeId}{vd:Bool}{x y:Operand}{v:Value}{r:Bool}(ho:o.op=.binOp .eql t x y t2)(hg:Region.wanted o (yielded ops a.tmps)=true)(hx:a.eval x=v)(hy:a.eval y=.nilFunc)(hv:dj4 v=some r)(ht:P.underlying t=some (.func ps rs vd))
  (h:wpList P ops Q rest (a.put o.dst (.bool r)) w):wpList P ops Q (o::rest) a w:=by
 refine Am7 hg (v:=.bool r) (w':=w) ?_ h
 have h1:(binOp .eql t v .nilFunc).run P w=.ok (.bool r) w:=by
  have h:∀d:Nat,(Op.equalIn (d+1) t v .nilFunc).run P w=.ok r w:=fun d=>by
   cases v <;> simp only[dj4,Option.some.injEq,reduceCtorEq]at hv
   all_goals
    subst hv;simp[Op.equalIn,run_underlying ht]
  cases v <;> simp only[dj4,Option.some.injEq,reduceCtorEq]at hv
  all_goals
   simp only[binOp];simp[Op.equal,Op.maxDepth,h 9999]
 unfold execOp;simp[ho,hx,hy,eqGuard,h1]
end
end Go.Sl
namespace Go.Proofs.YtienbkdjkjbelaaGreat
open Go.RowKit Go.Sl
section
variable{kd cl sq:Int}{ak aw tk tw:ByteArray}{it ct pr:Int}{bu:Bool}{i:Int}{r:Bool}
theorem HA7(h:s7 ⟨kd,cl,sq,ak,aw,tk,tw,it,ct,pr,bu,i⟩=r)(W w:World)(R:List HP)(hS:St W R w):
  Calls Tryz.prog 138 #[oV kd cl sq ak aw tk tw it ct pr bu i] w fun e w'=>e=.returned (.bool r)/\St W R w':=h▸CW7 kd cl sq ak aw tk tw it ct pr bu i W w R hS
end
section
variable(kd cl sq:Int)(ak aw tk tw:ByteArray)(it ct pr:Int)(bu:Bool)(i:Int)(W w:World)(R:List HP)
theorem KA7(hS:St W R w):
  Calls Tryz.prog 139 #[oV kd cl sq ak aw tk tw it ct pr bu i] w fun e w'=>e=.returned (.bool (M6 ⟨kd,cl,sq,ak,aw,tk,tw,it,ct,pr,bu,i⟩))/\St W R w':=by
 go_enter Tryz.func139,Tryz.ntmps139;have hc:s7 ⟨kd,cl,sq,ak,aw,⟨#[]⟩,⟨#[]⟩,it,ct,pr,bu,i⟩=(H5 ⟨kd,cl,sq,ak,aw,tk,tw,it,ct,pr,bu,i⟩&&(decide (pr=0)&&(!bu&&decide (i=0)))):=rfl
 cases hp:az4 tk tw with
 | false=>
  have e:M6 ⟨kd,cl,sq,ak,aw,tk,tw,it,ct,pr,bu,i⟩=false:=by unfold M6;rw[hp];rfl
  rw[e];go_wp2_with(first|go_big_skip|refine zbx hS ?_;clear hS;intro b w hS|refine zal hS ?_;clear hS;intro b w hS|refine zlN hS ?_|refine zlN hS ?_ (vs:=[.string tk,.string tw]) (hc:=by first|exact d8.here rfl|exact d8.there (d8.here rfl))|refine zsN hS ?_;clear hS;intro w hS|go_at_call 143;refine(BU7 hp W _ _ hS).mono ?_;clear hS;rintro e w ⟨rfl,hS⟩);go_ret;exact⟨rfl,hS.drop.drop⟩
 | true=>
  have e:M6 ⟨kd,cl,sq,ak,aw,tk,tw,it,ct,pr,bu,i⟩=(H5 ⟨kd,cl,sq,ak,aw,tk,tw,it,ct,pr,bu,i⟩&&(decide (pr=0)&&(!bu&&decide (i=0)))):=by unfold M6;rw[hp];rfl
  rw[e];go_wp2_with(first|refine zbx hS ?_;clear hS;intro b w hS|refine zal hS ?_;clear hS;intro b w hS|refine zlN hS ?_|refine zlN hS ?_ (vs:=[.string tk,.string tw]) (hc:=by first|exact d8.here rfl|exact d8.there (d8.here rfl))|refine zsN hS ?_;clear hS;intro w hS|go_at_call 143;refine(BU7 hp W _ _ hS).mono ?_;clear hS;rintro e w ⟨rfl,hS⟩|go_at_call 138;refine(HA7 hc W _ _ hS).mono ?_;clear hS;rintro e w ⟨rfl,hS⟩);go_ret;exact⟨rfl,hS.drop.drop⟩
theorem IF7(hS:St W R w):
  Calls Tryz.prog 140 #[oV kd cl sq ak aw tk tw it ct pr bu i] w fun e w'=>e=.returned (.bool (H9 ⟨kd,cl,sq,ak,aw,tk,tw,it,ct,pr,bu,i⟩))/\St W R w':=by
 go_enter Tryz.func140,Tryz.ntmps140;have hc:s7 ⟨kd,cl,sq,ak,aw,tk,tw,it,ct,0,false,i⟩=(H5 ⟨kd,cl,sq,ak,aw,tk,tw,it,ct,pr,bu,i⟩&&(noB tk&&(noB tw&&decide (i=0)))):=by unfold s7 dq4;simp[H5]
 by_cases h1:1<=it
 case neg=>
  have e:H9 ⟨kd,cl,sq,ak,aw,tk,tw,it,ct,pr,bu,i⟩=false:=by unfold H9;simp[h1]
  have d1:decide (1<=it)=false:=by simpa using h1
  rw[e];go_wp2_with(first|go_big_skip|refine zbx hS ?_;clear hS;intro b w hS|refine zl1 hS ?_|refine zs1 hS ?_;clear hS;intro w hS);go_ret;exact⟨rfl,hS.drop⟩
 by_cases h2:1<=pr
 case neg=>
  have e:H9 ⟨kd,cl,sq,ak,aw,tk,tw,it,ct,pr,bu,i⟩=false:=by unfold H9;simp[h2]
  have d2:decide (1<=pr)=false:=by simpa using h2
  rw[e];go_wp2_with(first|go_big_skip|refine zbx hS ?_;clear hS;intro b w hS|refine zl1 hS ?_|refine zs1 hS ?_;clear hS;intro w hS);go_ret;exact⟨rfl,hS.drop⟩
 by_cases h3:pr<=1024
 case neg=>
  have e:H9 ⟨kd,cl,sq,ak,aw,tk,tw,it,ct,pr,bu,i⟩=false:=by unfold H9;simp[h3]
  have d3:decide (pr<=1024)=false:=by simpa using h3
  rw[e];go_wp2_with(first|go_big_skip|refine zbx hS ?_;clear hS;intro b w hS|refine zl1 hS ?_|refine zs1 hS ?_;clear hS;intro w hS);go_ret;exact⟨rfl,hS.drop⟩
 have e:H9 ⟨kd,cl,sq,ak,aw,tk,tw,it,ct,pr,bu,i⟩=(H5 ⟨kd,cl,sq,ak,aw,tk,tw,it,ct,pr,bu,i⟩&&(noB tk&&(noB tw&&decide (i=0)))):=by unfold H9;simp[h1,h2,h3]
 rw[e];go_wp2_with(first|refine zbx hS ?_;clear hS;intro b w hS|refine zl1 hS ?_|refine zlN hS ?_|refine zs1 hS ?_;clear hS;intro w hS|go_at_call 138;refine(HA7 hc W _ _ hS).mono ?_;clear hS;rintro e w ⟨rfl,hS⟩);go_ret;exact⟨rfl,hS.drop⟩
theorem HB7(hS:St W R w):
  Calls Tryz.prog 141 #[oV kd cl sq ak aw tk tw it ct pr bu i] w fun e w'=>e=.returned (.bool (G6 ⟨kd,cl,sq,ak,aw,tk,tw,it,ct,pr,bu,i⟩))/\St W R w':=by
 go_enter Tryz.func141,Tryz.ntmps141;by_cases h1:1<=i
 case neg=>
  have e:G6 ⟨kd,cl,sq,ak,aw,tk,tw,it,ct,pr,bu,i⟩=false:=by unfold G6;simp[h1]
  have d1:decide (1<=i)=false:=by simpa using h1
  rw[e];go_wp2_with(first|refine zbx hS ?_;clear hS;intro b w hS);refine Aa7 (by kernel_rfl) (by kernel_rfl) hS ?_
  repeat(first|go_big_quiet_skip|refine zq1 ?_|refine qR ?_)
  clear hS;intro w hS;go_wp2_with fail;go_ret;exact⟨rfl,hS.drop⟩
 by_cases h2:i<=1099511627776
 case neg=>
  have e:G6 ⟨kd,cl,sq,ak,aw,tk,tw,it,ct,pr,bu,i⟩=false:=by unfold G6;simp[h2]
  have d2:decide (i<=1099511627776)=false:=by simpa using h2
  rw[e];go_wp2_with(first|refine zbx hS ?_;clear hS;intro b w hS);refine Aa7 (by kernel_rfl) (by kernel_rfl) hS ?_
  repeat(first|go_big_quiet_skip|refine zq1 ?_|refine qR ?_)
  clear hS;intro w hS;go_wp2_with fail;go_ret;exact⟨rfl,hS.drop⟩
 have e:G6 ⟨kd,cl,sq,ak,aw,tk,tw,it,ct,pr,bu,i⟩=(noB tk&&(noB tw&&(decide (it=0)&&(decide (ct=0)&&(decide (pr=0)&&!bu))))):=by unfold G6;simp[h1,h2]
 rw[e];go_wp2_with(first|refine zbx hS ?_;clear hS;intro b w hS);refine Aa7 (by kernel_rfl) (by kernel_rfl) hS ?_
 repeat(first|refine zq1 ?_|refine zqN ?_|apply At7;rfl;intro w;apply Ah7;rfl;decide +kernel;(focus(simp only[fD,fI,fJ,Act.eval,fE,fF,fG,fH,fK];try rfl));intro w hS;exact Fs7 _ _ _ _ _ _ _ _ _ _ _ _ W w _ hS;refine frS ?_|(with_reducible apply Pr7);rfl;rfl;rfl;rfl;kernel_rfl;exact fw4 tk tw it ct pr bu i;refine frS ?_|refine qR ?_)
 clear hS;intro w hS;go_wp2_with fail;go_ret;exact⟨rfl,hS.drop⟩
theorem HC7(hS:St W R w):
  Calls Tryz.prog 142 #[oV kd cl sq ak aw tk tw it ct pr bu i] w fun e w'=>e=.returned (.bool (bZ4 ⟨kd,cl,sq,ak,aw,tk,tw,it,ct,pr,bu,i⟩))/\St W R w':=by
 go_enter Tryz.func142,Tryz.ntmps142;go_wp2_with(first|refine zbx hS ?_;clear hS;intro b w hS|refine zlN hS ?_|go_at_call 184;refine(Fs7 kd cl sq ak aw tk tw it ct pr bu i W _ _ hS).mono ?_;clear hS;rintro e w ⟨rfl,hS⟩|(with_reducible apply Cm7);rfl;rfl;rfl;rfl;kernel_rfl;exact Qd7 tk tw it ct pr bu i;refine frS ?_);go_ret;exact⟨rfl,hS.drop⟩
end
section
variable(kd cl sq:Int)(ak aw tk tw:ByteArray)(it ct pr:Int)(bu:Bool)(i:Int)(W w:World)(R:List HP)
theorem Mk7(hS:St W R w):
  Calls Tryz.prog 108 #[oV kd cl sq ak aw tk tw it ct pr bu i] w fun e w'=>e=.returned (.bool (w6 ⟨kd,cl,sq,ak,aw,tk,tw,it,ct,pr,bu,i⟩))/\St W R w':=by
 go_enter Tryz.func108,Tryz.ntmps108;by_cases hk:kd=1\/kd=2\/kd=3\/kd=4\/kd=5\/kd=6\/kd=7
 case neg=>
  have e:w6 ⟨kd,cl,sq,ak,aw,tk,tw,it,ct,pr,bu,i⟩=false:=by unfold w6 J6;simp only[not_or]at hk;obtain⟨k1,k2,k3,k4,k5,k6,k7⟩:=hk;simp[k1,k2,k3,k4,k5,k6,k7]
  rw[e];by_cases h0:kd<0
  ·go_wp2_with(first|go_big_skip|refine zbx hS ?_;clear hS;intro b w hS|refine zal hS ?_;clear hS;intro b2 w hS|refine zsN hS ?_;clear hS;intro w hS|refine zl1 hS ?_);go_ret;exact⟨rfl,hS.drop.drop⟩
  ·have d0:decide (kd<0)=false:=by simpa using h0
   by_cases h8:8<=kd
   ·go_wp2_with(first|go_big_skip|refine zbx hS ?_;clear hS;intro b w hS|refine zal hS ?_;clear hS;intro b2 w hS|refine zsN hS ?_;clear hS;intro w hS|refine zl1 hS ?_);go_ret;exact⟨rfl,hS.drop.drop⟩
   ·obtain rfl:kd=0:=by omega
    clear d0 h0 h8 hk e;go_wp2_with(first|refine zbx hS ?_;clear hS;intro b w hS|refine zal hS ?_;clear hS;intro b2 w hS|refine zsN hS ?_;clear hS;intro w hS|refine zl1 hS ?_|(with_reducible apply Cb7);rfl;rfl;rfl;rfl;rfl;exact Tryz.underlying233;refine frS ?_);go_ret;exact⟨rfl,hS.drop.drop⟩
 by_cases h1:1<=cl
 case neg=>
  have d1:decide (1<=cl)=false:=by simpa using h1
  have e:w6 ⟨kd,cl,sq,ak,aw,tk,tw,it,ct,pr,bu,i⟩=false:=by unfold w6 G5;simp[h1]
  rw[e];clear e
  rcases hk with rfl|rfl|rfl|rfl|rfl|rfl|rfl
  all_goals
   go_wp2_with(first|refine zbx hS ?_;clear hS;intro b w hS|refine zal hS ?_;clear hS;intro b2 w hS|refine zsN hS ?_;clear hS;intro w hS|refine zl1 hS ?_|(with_reducible apply Cb7);rfl;rfl;rfl;rfl;rfl;exact Tryz.underlying233;refine frS ?_);refine Aa7 (by kernel_rfl) (by kernel_rfl) hS ?_
   repeat(first|go_big_quiet_skip|refine zq1 ?_|refine qR ?_)
   clear hS;intro w hS;go_wp2_with fail;go_ret;exact⟨rfl,hS.drop.drop⟩
 by_cases h2:cl<=1048576
 case neg=>
  have d2:decide (cl<=1048576)=false:=by simpa using h2
  have e:w6 ⟨kd,cl,sq,ak,aw,tk,tw,it,ct,pr,bu,i⟩=false:=by unfold w6 G5;simp[h2]
  rw[e];clear e
  rcases hk with rfl|rfl|rfl|rfl|rfl|rfl|rfl
  all_goals
   go_wp2_with(first|refine zbx hS ?_;clear hS;intro b w hS|refine zal hS ?_;clear hS;intro b2 w hS|refine zsN hS ?_;clear hS;intro w hS|refine zl1 hS ?_|(with_reducible apply Cb7);rfl;rfl;rfl;rfl;rfl;exact Tryz.underlying233;refine frS ?_);refine Aa7 (by kernel_rfl) (by kernel_rfl) hS ?_
   repeat(first|go_big_quiet_skip|refine zq1 ?_|refine qR ?_)
   clear hS;intro w hS;go_wp2_with fail;go_ret;exact⟨rfl,hS.drop.drop⟩
 by_cases h3:1<=sq
 case neg=>
  have d3:decide (1<=sq)=false:=by simpa using h3
  have e:w6 ⟨kd,cl,sq,ak,aw,tk,tw,it,ct,pr,bu,i⟩=false:=by unfold w6 G5;simp[h3]
  rw[e];clear e
  rcases hk with rfl|rfl|rfl|rfl|rfl|rfl|rfl
  all_goals
   go_wp2_with(first|refine zbx hS ?_;clear hS;intro b w hS|refine zal hS ?_;clear hS;intro b2 w hS|refine zsN hS ?_;clear hS;intro w hS|refine zl1 hS ?_|(with_reducible apply Cb7);rfl;rfl;rfl;rfl;rfl;exact Tryz.underlying233;refine frS ?_);refine Aa7 (by kernel_rfl) (by kernel_rfl) hS ?_
   repeat(first|go_big_quiet_skip|refine zq1 ?_|refine qR ?_)
   clear hS;intro w hS;go_wp2_with fail;go_ret;exact⟨rfl,hS.drop.drop⟩
 by_cases h4:sq<=1099511627776
 case neg=>
  have d4:decide (sq<=1099511627776)=false:=by simpa using h4
  have e:w6 ⟨kd,cl,sq,ak,aw,tk,tw,it,ct,pr,bu,i⟩=false:=by unfold w6 G5;simp[h4]
  rw[e];clear e
  rcases hk with rfl|rfl|rfl|rfl|rfl|rfl|rfl
  all_goals
   go_wp2_with(first|refine zbx hS ?_;clear hS;intro b w hS|refine zal hS ?_;clear hS;intro b2 w hS|refine zsN hS ?_;clear hS;intro w hS|refine zl1 hS ?_|(with_reducible apply Cb7);rfl;rfl;rfl;rfl;rfl;exact Tryz.underlying233;refine frS ?_);refine Aa7 (by kernel_rfl) (by kernel_rfl) hS ?_
   repeat(first|go_big_quiet_skip|refine zq1 ?_|refine qR ?_)
   clear hS;intro w hS;go_wp2_with fail;go_ret;exact⟨rfl,hS.drop.drop⟩
 cases hp:az4 ak aw with
 | false=>
  skip
  have e:w6 ⟨kd,cl,sq,ak,aw,tk,tw,it,ct,pr,bu,i⟩=false:=by unfold w6 G5;simp[hp]
  rw[e];clear e
  rcases hk with rfl|rfl|rfl|rfl|rfl|rfl|rfl
  all_goals
   go_wp2_with(first|refine zbx hS ?_;clear hS;intro b w hS|refine zal hS ?_;clear hS;intro b2 w hS|refine zsN hS ?_;clear hS;intro w hS|refine zl1 hS ?_|(with_reducible apply Cb7);rfl;rfl;rfl;rfl;rfl;exact Tryz.underlying233;refine frS ?_);refine Aa7 (by kernel_rfl) (by kernel_rfl) hS ?_
   repeat(first|go_big_quiet_skip|refine zq1 ?_|refine zqN ?_ (hc:=by first|exact d8.here (vs:=[.string ak,.string aw]) rfl|exact d8.there (d8.here (vs:=[.string ak,.string aw]) rfl))|apply At7;rfl;intro w;apply Ah7;rfl;decide +kernel;(focus(simp only[fD,fI,fJ,Act.eval,fE,fF,fG,fH,fK];try rfl));intro w hS;exact BU7 hp W w _ hS;refine frS ?_|refine qR ?_)
   clear hS;intro w hS;go_wp2_with fail;go_ret;exact⟨rfl,hS.drop.drop⟩
 | true=>
  have hh:(decide (1<=cl)&&(decide (cl<=1048576)&&(decide (1<=sq)&&(decide (sq<=1099511627776)&&az4 ak aw))))=true:=by simp[h1,h2,h3,h4,hp]
  rcases hk with rfl|rfl|rfl|rfl|rfl|rfl|rfl
  ·skip
   have e:w6 ⟨1,cl,sq,ak,aw,tk,tw,it,ct,pr,bu,i⟩=s7 ⟨1,cl,sq,ak,aw,tk,tw,it,ct,pr,bu,i⟩:=by unfold w6;rw[show G5 ⟨1,cl,sq,ak,aw,tk,tw,it,ct,pr,bu,i⟩=true from hh];rfl
   rw[e];clear e;go_wp2_with(first|refine zbx hS ?_;clear hS;intro b w hS|refine zal hS ?_;clear hS;intro b2 w hS|refine zsN hS ?_;clear hS;intro w hS|refine zl1 hS ?_|(with_reducible apply Cb7);rfl;rfl;rfl;rfl;rfl;exact Tryz.underlying233;refine frS ?_);refine Aa7 (by kernel_rfl) (by kernel_rfl) hS ?_
   repeat(first|refine zq1 ?_|refine zqN ?_|refine zqN ?_ (hc:=by first|exact d8.here (vs:=[.string ak,.string aw]) rfl|exact d8.there (d8.here (vs:=[.string ak,.string aw]) rfl))|apply At7;rfl;intro w;apply Ah7;rfl;decide +kernel;(focus(simp only[fD,fI,fJ,Act.eval,fE,fF,fG,fH,fK];try rfl));intro w hS;exact BU7 hp W w _ hS;refine frS ?_|apply At7;rfl;intro w;apply AU7;rfl;rfl;decide +kernel;(focus(simp only[fD,fI,fJ,Act.eval,fE,fF,fG,fH,fK];try rfl));intro w hS;exact CW7 _ _ _ _ _ _ _ _ _ _ _ _ W w _ hS;refine frS ?_|refine qR ?_)
   clear hS;intro w hS;go_wp2_with fail;go_ret;exact⟨rfl,hS.drop.drop⟩
  ·skip
   have e:w6 ⟨2,cl,sq,ak,aw,tk,tw,it,ct,pr,bu,i⟩=M6 ⟨2,cl,sq,ak,aw,tk,tw,it,ct,pr,bu,i⟩:=by unfold w6;rw[show G5 ⟨2,cl,sq,ak,aw,tk,tw,it,ct,pr,bu,i⟩=true from hh];rfl
   rw[e];clear e;go_wp2_with(first|refine zbx hS ?_;clear hS;intro b w hS|refine zal hS ?_;clear hS;intro b2 w hS|refine zsN hS ?_;clear hS;intro w hS|refine zl1 hS ?_|(with_reducible apply Cb7);rfl;rfl;rfl;rfl;rfl;exact Tryz.underlying233;refine frS ?_);refine Aa7 (by kernel_rfl) (by kernel_rfl) hS ?_
   repeat(first|refine zq1 ?_|refine zqN ?_|refine zqN ?_ (hc:=by first|exact d8.here (vs:=[.string ak,.string aw]) rfl|exact d8.there (d8.here (vs:=[.string ak,.string aw]) rfl))|apply At7;rfl;intro w;apply Ah7;rfl;decide +kernel;(focus(simp only[fD,fI,fJ,Act.eval,fE,fF,fG,fH,fK];try rfl));intro w hS;exact BU7 hp W w _ hS;refine frS ?_|apply At7;rfl;intro w;apply AU7;rfl;rfl;decide +kernel;(focus(simp only[fD,fI,fJ,Act.eval,fE,fF,fG,fH,fK];try rfl));intro w hS;exact KA7 _ _ _ _ _ _ _ _ _ _ _ _ W w _ hS;refine frS ?_|refine qR ?_)
   clear hS;intro w hS;go_wp2_with fail;go_ret;exact⟨rfl,hS.drop.drop⟩
  ·skip
   have e:w6 ⟨3,cl,sq,ak,aw,tk,tw,it,ct,pr,bu,i⟩=H9 ⟨3,cl,sq,ak,aw,tk,tw,it,ct,pr,bu,i⟩:=by unfold w6;rw[show G5 ⟨3,cl,sq,ak,aw,tk,tw,it,ct,pr,bu,i⟩=true from hh];rfl
   rw[e];clear e;go_wp2_with(first|refine zbx hS ?_;clear hS;intro b w hS|refine zal hS ?_;clear hS;intro b2 w hS|refine zsN hS ?_;clear hS;intro w hS|refine zl1 hS ?_|(with_reducible apply Cb7);rfl;rfl;rfl;rfl;rfl;exact Tryz.underlying233;refine frS ?_);refine Aa7 (by kernel_rfl) (by kernel_rfl) hS ?_
   repeat(first|refine zq1 ?_|refine zqN ?_|refine zqN ?_ (hc:=by first|exact d8.here (vs:=[.string ak,.string aw]) rfl|exact d8.there (d8.here (vs:=[.string ak,.string aw]) rfl))|apply At7;rfl;intro w;apply Ah7;rfl;decide +kernel;(focus(simp only[fD,fI,fJ,Act.eval,fE,fF,fG,fH,fK];try rfl));intro w hS;exact BU7 hp W w _ hS;refine frS ?_|apply At7;rfl;intro w;apply AU7;rfl;rfl;decide +kernel;(focus(simp only[fD,fI,fJ,Act.eval,fE,fF,fG,fH,fK];try rfl));intro w hS;exact IF7 _ _ _ _ _ _ _ _ _ _ _ _ W w _ hS;refine frS ?_|refine qR ?_)
   clear hS;intro w hS;go_wp2_with fail;go_ret;exact⟨rfl,hS.drop.drop⟩
  ·skip
   have e:w6 ⟨4,cl,sq,ak,aw,tk,tw,it,ct,pr,bu,i⟩=G6 ⟨4,cl,sq,ak,aw,tk,tw,it,ct,pr,bu,i⟩:=by unfold w6;rw[show G5 ⟨4,cl,sq,ak,aw,tk,tw,it,ct,pr,bu,i⟩=true from hh];rfl
   rw[e];clear e;go_wp2_with(first|refine zbx hS ?_;clear hS;intro b w hS|refine zal hS ?_;clear hS;intro b2 w hS|refine zsN hS ?_;clear hS;intro w hS|refine zl1 hS ?_|(with_reducible apply Cb7);rfl;rfl;rfl;rfl;rfl;exact Tryz.underlying233;refine frS ?_);refine Aa7 (by kernel_rfl) (by kernel_rfl) hS ?_
   repeat(first|refine zq1 ?_|refine zqN ?_|refine zqN ?_ (hc:=by first|exact d8.here (vs:=[.string ak,.string aw]) rfl|exact d8.there (d8.here (vs:=[.string ak,.string aw]) rfl))|apply At7;rfl;intro w;apply Ah7;rfl;decide +kernel;(focus(simp only[fD,fI,fJ,Act.eval,fE,fF,fG,fH,fK];try rfl));intro w hS;exact BU7 hp W w _ hS;refine frS ?_|apply At7;rfl;intro w;apply AU7;rfl;rfl;decide +kernel;(focus(simp only[fD,fI,fJ,Act.eval,fE,fF,fG,fH,fK];try rfl));intro w hS;exact HB7 _ _ _ _ _ _ _ _ _ _ _ _ W w _ hS;refine frS ?_|refine qR ?_)
   clear hS;intro w hS;go_wp2_with fail;go_ret;exact⟨rfl,hS.drop.drop⟩
  ·skip
   have e:w6 ⟨5,cl,sq,ak,aw,tk,tw,it,ct,pr,bu,i⟩=bZ4 ⟨5,cl,sq,ak,aw,tk,tw,it,ct,pr,bu,i⟩:=by unfold w6;rw[show G5 ⟨5,cl,sq,ak,aw,tk,tw,it,ct,pr,bu,i⟩=true from hh];rfl
   rw[e];clear e;go_wp2_with(first|refine zbx hS ?_;clear hS;intro b w hS|refine zal hS ?_;clear hS;intro b2 w hS|refine zsN hS ?_;clear hS;intro w hS|refine zl1 hS ?_|(with_reducible apply Cb7);rfl;rfl;rfl;rfl;rfl;exact Tryz.underlying233;refine frS ?_);refine Aa7 (by kernel_rfl) (by kernel_rfl) hS ?_
   repeat(first|refine zq1 ?_|refine zqN ?_|refine zqN ?_ (hc:=by first|exact d8.here (vs:=[.string ak,.string aw]) rfl|exact d8.there (d8.here (vs:=[.string ak,.string aw]) rfl))|apply At7;rfl;intro w;apply Ah7;rfl;decide +kernel;(focus(simp only[fD,fI,fJ,Act.eval,fE,fF,fG,fH,fK];try rfl));intro w hS;exact BU7 hp W w _ hS;refine frS ?_|apply At7;rfl;intro w;apply AU7;rfl;rfl;decide +kernel;(focus(simp only[fD,fI,fJ,Act.eval,fE,fF,fG,fH,fK];try rfl));intro w hS;exact HC7 _ _ _ _ _ _ _ _ _ _ _ _ W w _ hS;refine frS ?_|refine qR ?_)
   clear hS;intro w hS;go_wp2_with fail;go_ret;exact⟨rfl,hS.drop.drop⟩
  ·skip
   have e:w6 ⟨6,cl,sq,ak,aw,tk,tw,it,ct,pr,bu,i⟩=s7 ⟨6,cl,sq,ak,aw,tk,tw,it,ct,pr,bu,i⟩:=by unfold w6;rw[show G5 ⟨6,cl,sq,ak,aw,tk,tw,it,ct,pr,bu,i⟩=true from hh];rfl
   rw[e];clear e;go_wp2_with(first|refine zbx hS ?_;clear hS;intro b w hS|refine zal hS ?_;clear hS;intro b2 w hS|refine zsN hS ?_;clear hS;intro w hS|refine zl1 hS ?_|(with_reducible apply Cb7);rfl;rfl;rfl;rfl;rfl;exact Tryz.underlying233;refine frS ?_);refine Aa7 (by kernel_rfl) (by kernel_rfl) hS ?_
   repeat(first|refine zq1 ?_|refine zqN ?_|refine zqN ?_ (hc:=by first|exact d8.here (vs:=[.string ak,.string aw]) rfl|exact d8.there (d8.here (vs:=[.string ak,.string aw]) rfl))|apply At7;rfl;intro w;apply Ah7;rfl;decide +kernel;(focus(simp only[fD,fI,fJ,Act.eval,fE,fF,fG,fH,fK];try rfl));intro w hS;exact BU7 hp W w _ hS;refine frS ?_|apply At7;rfl;intro w;apply AU7;rfl;rfl;decide +kernel;(focus(simp only[fD,fI,fJ,Act.eval,fE,fF,fG,fH,fK];try rfl));intro w hS;exact CW7 _ _ _ _ _ _ _ _ _ _ _ _ W w _ hS;refine frS ?_|refine qR ?_)
   clear hS;intro w hS;go_wp2_with fail;go_ret;exact⟨rfl,hS.drop.drop⟩
  ·skip
   have e:w6 ⟨7,cl,sq,ak,aw,tk,tw,it,ct,pr,bu,i⟩=bZ4 ⟨7,cl,sq,ak,aw,tk,tw,it,ct,pr,bu,i⟩:=by unfold w6;rw[show G5 ⟨7,cl,sq,ak,aw,tk,tw,it,ct,pr,bu,i⟩=true from hh];rfl
   rw[e];clear e;go_wp2_with(first|refine zbx hS ?_;clear hS;intro b w hS|refine zal hS ?_;clear hS;intro b2 w hS|refine zsN hS ?_;clear hS;intro w hS|refine zl1 hS ?_|(with_reducible apply Cb7);rfl;rfl;rfl;rfl;rfl;exact Tryz.underlying233;refine frS ?_);refine Aa7 (by kernel_rfl) (by kernel_rfl) hS ?_
   repeat(first|refine zq1 ?_|refine zqN ?_|refine zqN ?_ (hc:=by first|exact d8.here (vs:=[.string ak,.string aw]) rfl|exact d8.there (d8.here (vs:=[.string ak,.string aw]) rfl))|apply At7;rfl;intro w;apply Ah7;rfl;decide +kernel;(focus(simp only[fD,fI,fJ,Act.eval,fE,fF,fG,fH,fK];try rfl));intro w hS;exact BU7 hp W w _ hS;refine frS ?_|apply At7;rfl;intro w;apply AU7;rfl;rfl;decide +kernel;(focus(simp only[fD,fI,fJ,Act.eval,fE,fF,fG,fH,fK];try rfl));intro w hS;exact HC7 _ _ _ _ _ _ _ _ _ _ _ _ W w _ hS;refine frS ?_|refine qR ?_)
   clear hS;intro w hS;go_wp2_with fail;go_ret;exact⟨rfl,hS.drop.drop⟩
end
theorem Ch7{kd cl sq:Int}{ak aw tk tw:ByteArray}{it ct pr:Int}{bu:Bool}{i:Int}{r:Bool}(h:w6 ⟨kd,cl,sq,ak,aw,tk,tw,it,ct,pr,bu,i⟩=r)(W w:World)(R:List HP)(hS:St W R w):
  Calls Tryz.prog 108 #[oV kd cl sq ak aw tk tw it ct pr bu i] w fun e w'=>e=.returned (.bool r)/\St W R w':=h▸Mk7 kd cl sq ak aw tk tw it ct pr bu i W w R hS
theorem ej4(a b:Int×Int)(w:World):(Op.equal 127 (eW a) (eW b)).run Tryz.prog w=.ok (decide (a=b)) w:=by
 have u3:=Tryz.underlying3;have a3:=Tryz.isAgg3;have z3:=Tryz.sizeOf3;have hs:Tryz.prog.stoodInHeld 127=false:=by kernel_rfl
 obtain⟨a0,a1⟩:=a;obtain⟨b0,b1⟩:=b
 have h:∀d:Nat,(Op.equalIn (d+2) 127 (eW (a0,a1)) (eW (b0,b1))).run Tryz.prog w=.ok (decide ((a0,a1)=(b0,b1))) w:=fun d=>by
  rw[Op.equalIn];simp only[Sem.run_bind,run_underlying Tryz.underlying127,Result.andThen_ok,run_program,hs,Bool.false_eq_true,if_false];rw[<-Array.forIn_toList];simp only[List.forIn_cons,List.forIn_nil]
  go_simp
  by_cases h1:a0=b0 <;> by_cases h2:a1=b1 <;> simp[h1,h2]
 exact h 9998
theorem dS4(e:Bool)(a:Int×Int)(w:World):(Instr.checkKey e 10000 127 (eW a)).run Tryz.prog w=.ok () w:=by
 have u3:=Tryz.underlying3;have a3:=Tryz.isAgg3;have z3:=Tryz.sizeOf3;have h1:∀(d:Nat) (x:Int),(Instr.checkKey e (d+1) 3 (.I x)).run Tryz.prog w=.ok () w:=fun d x=>by rw[Instr.checkKey];simp[run_underlying u3]
 have h:∀d:Nat,(Instr.checkKey e (d+2) 127 (eW a)).run Tryz.prog w=.ok () w:=fun d=>by
  rw[Instr.checkKey];simp only[Sem.run_bind,run_underlying Tryz.underlying127,Result.andThen_ok];rw[<-Array.forIn_toList];simp only[List.forIn_cons,List.forIn_nil]
  go_simp
 exact h 9998
theorem kW:KeyOk Tryz.prog 127 eW:=KeyOk.deep Tryz.underlying127 (fun _ _=>rfl) dS4 ej4 (fun k=>by simp[Instr.sameBits])
theorem kEi:KeyOk Tryz.prog 3 eI:=KeyOk.int Tryz.underlying3
theorem mV:E8 Tryz.prog 107=some (9,114):=by kernel_rfl
theorem mS:E8 Tryz.prog 108=some (3,121):=by kernel_rfl
theorem mT:E8 Tryz.prog 109=some (127,97):=by kernel_rfl
theorem mAr:E8 Tryz.prog 110=some (127,4):=by kernel_rfl
theorem zV:E9 Tryz.prog 114=some (.pointer none):=by kernel_rfl
theorem zS:E9 Tryz.prog 121=some (eSs (0,rp0)):=by kernel_rfl
theorem zT:E9 Tryz.prog 97=some (eTn ⟨0,0,⟨#[]⟩,⟨#[]⟩,⟨#[]⟩,⟨#[]⟩,0,0⟩):=by kernel_rfl
theorem zA:E9 Tryz.prog 4=some (.bool false):=by kernel_rfl
theorem Ft7(W w:World)(R:List HP)(hS:St W R w):
  Calls Tryz.prog 26 #[] w fun e w'=>∃eb,e=.returned (.P eb)/\St W (ecP eb ec0::R) w':=by
 go_enter Tryz.func26,Tryz.ntmps26;go_wp2_with(first|(with_reducible apply CC7 (t:=107) eS eN hS);rfl;rfl;clear hS;intro m1 w hS;refine frS ?_|(with_reducible apply CC7 (t:=108) eI eSs hS);rfl;rfl;clear hS;intro m2 w hS;refine frS ?_|(with_reducible apply CC7 (t:=109) eW eTn hS);rfl;rfl;clear hS;intro m3 w hS;refine frS ?_|(with_reducible apply CC7 (t:=110) eW eU hS);rfl;rfl;clear hS;intro m4 w hS;refine frS ?_|refine zbx hS ?_;clear hS;intro eb w hS);go_ret;have hS1:St W (l9 []::_) w:=St.shutS [] hS;exact⟨eb,rfl,bu4 (E:=[]) (e:=ec0) (m1:=m1) (m2:=m2) (m3:=m3) (m4:=m4) (List.Perm.refl _) (hS1.s (blk eb _ _::d9 eS eN m1 []::l9 []::d9 eI eSs m2 []::d9 eW eTn m3 []::d9 eW eU m4 []::R))⟩
abbrev ebB(eb m1 m2 m3 m4:Nat):HP:=blk eb [.map (some m1),.map (some m2),.map (some m3),.map (some m4)] 112
def vAt(E:Ev)(k:ByteArray):Vs:=((j6 E k).map (·.2)).getD vs0
theorem Qe7(eb m1 m2 m3 m4:Nat)(E:Ev)(k:ByteArray)(W w:World)(R:List HP)(hS:St W (ebB eb m1 m2 m3 m4::d9 eS eN m1 (j9 E)::l9 E::R) w):
  Calls Tryz.prog 109 #[.P eb,.string k] w fun e w'=>∃vb,e=.returned (.P vb) /\
   St W (ebB eb m1 m2 m3 m4::d9 eS eN m1 (j9 ((k,(vb,vAt E k))::i9 E k))::I7 vb (vAt E k)::l9 (i9 E k)::R) w':=by
 have hnd:(E.map (·.1)).Nodup:=by rw[<-AH7];exact H7 hS.drop
 cases hg:j6 E k with
 | some x=>
  obtain⟨vb,V⟩:=x;have hgl:j6 (j9 E) k=some vb:=by rw[CL7,hg];rfl
  have hv:vAt E k=V:=by unfold vAt;rw[hg];rfl
  have hp:=Bq7 hnd hg;rw[hv];go_enter Tryz.func109,Tryz.ntmps109;go_wp2_with(first|go_big_skip|(with_reducible apply Dn7 (ek:=eS) (ev:=eN) (k:=k) hS);rfl;rfl;rfl;rfl;exact i7;exact mV;exact kS;exact zV;exact hgl;refine frS ?_|refine zl1 hS ?_);go_ret;refine⟨vb,rfl,?_⟩;have h1:=dI4 (hp.map fun x=>(x.1,x.2.1)) hS.swap;have h2:St W (l9 E::d9 eS eN m1 (j9 ((k,(vb,V))::i9 E k))::ebB eb m1 m2 m3 m4::R) w:=h1.s _;have h3:=cr4 (bi4 hp h2);exact h3.s (ebB eb m1 m2 m3 m4::d9 eS eN m1 _::I7 vb V::l9 (i9 E k)::R)
 | none=>
  have hgl:j6 (j9 E) k=none:=by rw[CL7,hg];rfl
  have hv:vAt E k=vs0:=by unfold vAt;rw[hg];rfl
  have hd:i9 E k=E:=By7 (Bz7 hg);rw[hv,hd];go_enter Tryz.func109,Tryz.ntmps109;go_wp2_with(first|go_big_skip|(with_reducible apply Fc7 (ek:=eS) (ev:=eN) (k:=k) hS);rfl;rfl;rfl;rfl;exact i7;exact mV;exact kS;exact zV;exact hgl;refine frS ?_|refine zl1 hS ?_|go_at_call 144;refine(LW7 W _ _ hS).mono ?_;clear hS;rintro e w ⟨vb,mb,bb,rfl,hS⟩|((with_reducible apply BA7 (ek:=eS) (ev:=eN) (k:=k) (u:=vb) hS);rfl;rfl;rfl;rfl;exact i7;(focus(rfl));exact mV;exact kS;clear hS;intro w hS;try(refine frS ?_)));go_ret;refine⟨vb,rfl,?_⟩;rw[JJ7,hd]at hS;have h1:St W (w5 vb mb bb [] [] 1 (ebB eb m1 m2 m3 m4::d9 eS eN m1 ((k,vb)::j9 E)::l9 E::R)) w:=hS.s _;have h2:=aI4 (V:=vs0) h1;have h3:=h2.s (ebB eb m1 m2 m3 m4::d9 eS eN m1 ((k,vb)::j9 E)::I7 vb vs0::l9 E::R);exact h3
end Go.Proofs.YtienbkdjkjbelaaGreat
end
