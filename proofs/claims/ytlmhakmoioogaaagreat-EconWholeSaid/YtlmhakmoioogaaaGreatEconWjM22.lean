/-
  What may be requested.
-/
import Derived.Test.YtlmhakmoioogaaaGreatEconWjM5
import Derived.Test.YtlmhakmoioogaaaGreatEconWjM21
set_option maxHeartbeats 16000000
set_option maxRecDepth 100000
set_option linter.unusedSimpArgs false
set_option linter.unusedVariables false
section
namespace Go.Sl
open Go.RowKit
section
variable{P:Program}{a:Act}{o:Oper}
theorem Bl7{x:Operand}{f:FuncId}{xs:Array Operand}{ats:Array TypeId}{args:Array Value}(w:World)(ho:o.op=.call { callee:=.value x,args:=xs,argTypes:=ats })(hf:a.eval x=.func (.func f) #[] #[])(hb:ab4 P f=true)(hx:xs.map a.eval=args):
  (execOp a.eval o).run P w=.ok (.enter f args) w:=by
 unfold execOp;simp only[ho,resolve,Sem.run_bind,hf,Deferred.ofValue,hx,Sem.run_pure,Result.andThen_ok];simp[invoke,BA7 hb]
end
section
variable{P:Program}{ops:Array Oper}{Q:Exit->Act->World->Prop}{a:Act}{w:World}{rest:List Oper}{o:Oper}
def dN4:Value->Option Bool
 | .nilFunc=>some true
 | .func _ _ _=>some false
 | _=>none
theorem CA7{t t2:TypeId}{ps rs:Array TypeId}{vd:Bool}{x y:Operand}{v:Value}{r:Bool}(ho:o.op=.binOp .eql t x y t2)(hg:Region.wanted o (yielded ops a.tmps)=true)(hx:a.eval x=v)(hy:a.eval y=.nilFunc)(hv:dN4 v=some r)(ht:P.underlying t=some (.func ps rs vd))
  (h:wpList P ops Q rest (a.put o.dst (.bool r)) w):wpList P ops Q (o::rest) a w:=by
 refine Aj7 hg (v:=.bool r) (w':=w) ?_ h
 have h1:(binOp .eql t v .nilFunc).run P w=.ok (.bool r) w:=by
  have h:∀d:Nat,(Op.equalIn (d+1) t v .nilFunc).run P w=.ok r w:=fun d=>by
   cases v <;> simp only[dN4,Option.some.injEq,reduceCtorEq]at hv
   all_goals
    subst hv;simp[Op.equalIn,run_underlying ht]
  cases v <;> simp only[dN4,Option.some.injEq,reduceCtorEq]at hv
  all_goals
   simp only[binOp];simp[Op.equal,Op.maxDepth,h 9999]
 unfold execOp;simp[ho,hx,hy,eqGuard,h1]
end
end Go.Sl
namespace Go.Proofs.YtlmhakmoioogaaaGreat
open Go.RowKit Go.Sl
section
variable{kd cl sq:Int}{ak aw tk tw:ByteArray}{it ct pr:Int}{bu:Bool}{i:Int}{r:Bool}
theorem IK7(h:s9 ⟨kd,cl,sq,ak,aw,tk,tw,it,ct,pr,bu,i⟩=r)(W w:World)(R:List HP)(hS:St W R w):
  Calls Tryz.prog 145 #[oV kd cl sq ak aw tk tw it ct pr bu i] w fun e w'=>e=.returned (.bool r)/\St W R w':=h▸DB7 kd cl sq ak aw tk tw it ct pr bu i W w R hS
end
section
variable(kd cl sq:Int)(ak aw tk tw:ByteArray)(it ct pr:Int)(bu:Bool)(i:Int)(W w:World)(R:List HP)
theorem Ml7(hS:St W R w):
  Calls Tryz.prog 146 #[oV kd cl sq ak aw tk tw it ct pr bu i] w fun e w'=>e=.returned (.bool (N6 ⟨kd,cl,sq,ak,aw,tk,tw,it,ct,pr,bu,i⟩))/\St W R w':=by
 go_enter Tryz.func146,Tryz.ntmps146;have hc:s9 ⟨kd,cl,sq,ak,aw,⟨#[]⟩,⟨#[]⟩,it,ct,pr,bu,i⟩=(G9 ⟨kd,cl,sq,ak,aw,tk,tw,it,ct,pr,bu,i⟩&&(decide (pr=0)&&(!bu&&decide (i=0)))):=rfl
 cases hp:aK4 tk tw with
 | false=>
  have e:N6 ⟨kd,cl,sq,ak,aw,tk,tw,it,ct,pr,bu,i⟩=false:=by unfold N6;rw[hp];rfl
  rw[e];go_wp2_with(first|go_big_skip|(refine zbx hS ?_;clear hS;intro b w hS)|(refine zal hS ?_;clear hS;intro b w hS)|(refine zlN hS ?_)|(refine zlN hS ?_ (vs:=[.string tk,.string tw]) (hc:=by first|exact i5.here rfl|exact i5.there (i5.here rfl)))|(refine zsN hS ?_;clear hS;intro w hS)|(go_at_call 150;refine(Cs7 hp W _ _ hS).mono ?_;clear hS;rintro e w ⟨rfl,hS⟩));go_ret
  exact⟨rfl,hS.drop.drop⟩
 | true=>
  have e:N6 ⟨kd,cl,sq,ak,aw,tk,tw,it,ct,pr,bu,i⟩=(G9 ⟨kd,cl,sq,ak,aw,tk,tw,it,ct,pr,bu,i⟩&&(decide (pr=0)&&(!bu&&decide (i=0)))):=by unfold N6;rw[hp];rfl
  rw[e];go_wp2_with(first|(refine zbx hS ?_;clear hS;intro b w hS)|(refine zal hS ?_;clear hS;intro b w hS)|(refine zlN hS ?_)|(refine zlN hS ?_ (vs:=[.string tk,.string tw]) (hc:=by first|exact i5.here rfl|exact i5.there (i5.here rfl)))|(refine zsN hS ?_;clear hS;intro w hS)|(go_at_call 150;refine(Cs7 hp W _ _ hS).mono ?_;clear hS;rintro e w ⟨rfl,hS⟩)|(go_at_call 145;refine(IK7 hc W _ _ hS).mono ?_;clear hS;rintro e w ⟨rfl,hS⟩));go_ret
  exact⟨rfl,hS.drop.drop⟩
theorem JV7(hS:St W R w):
  Calls Tryz.prog 147 #[oV kd cl sq ak aw tk tw it ct pr bu i] w fun e w'=>e=.returned (.bool (I5 ⟨kd,cl,sq,ak,aw,tk,tw,it,ct,pr,bu,i⟩))/\St W R w':=by
 go_enter Tryz.func147,Tryz.ntmps147;have hc:s9 ⟨kd,cl,sq,ak,aw,tk,tw,it,ct,0,false,i⟩=(G9 ⟨kd,cl,sq,ak,aw,tk,tw,it,ct,pr,bu,i⟩&&(noB tk&&(noB tw&&decide (i=0)))):=by unfold s9 dU4;simp[G9]
 by_cases h1:1<=it
 case neg=>
  have e:I5 ⟨kd,cl,sq,ak,aw,tk,tw,it,ct,pr,bu,i⟩=false:=by unfold I5;simp[h1]
  have d1:decide (1<=it)=false:=by simpa using h1
  rw[e];go_wp2_with(first|go_big_skip|(refine zbx hS ?_;clear hS;intro b w hS)|(refine zl1 hS ?_)|(refine zs1 hS ?_;clear hS;intro w hS));go_ret
  exact⟨rfl,hS.drop⟩
 by_cases h2:1<=pr
 case neg=>
  have e:I5 ⟨kd,cl,sq,ak,aw,tk,tw,it,ct,pr,bu,i⟩=false:=by unfold I5;simp[h2]
  have d2:decide (1<=pr)=false:=by simpa using h2
  rw[e];go_wp2_with(first|go_big_skip|(refine zbx hS ?_;clear hS;intro b w hS)|(refine zl1 hS ?_)|(refine zs1 hS ?_;clear hS;intro w hS));go_ret
  exact⟨rfl,hS.drop⟩
 by_cases h3:pr<=1024
 case neg=>
  have e:I5 ⟨kd,cl,sq,ak,aw,tk,tw,it,ct,pr,bu,i⟩=false:=by unfold I5;simp[h3]
  have d3:decide (pr<=1024)=false:=by simpa using h3
  rw[e];go_wp2_with(first|go_big_skip|(refine zbx hS ?_;clear hS;intro b w hS)|(refine zl1 hS ?_)|(refine zs1 hS ?_;clear hS;intro w hS));go_ret
  exact⟨rfl,hS.drop⟩
 have e:I5 ⟨kd,cl,sq,ak,aw,tk,tw,it,ct,pr,bu,i⟩=(G9 ⟨kd,cl,sq,ak,aw,tk,tw,it,ct,pr,bu,i⟩&&(noB tk&&(noB tw&&decide (i=0)))):=by unfold I5;simp[h1,h2,h3]
 rw[e];go_wp2_with(first|(refine zbx hS ?_;clear hS;intro b w hS)|(refine zl1 hS ?_)|(refine zlN hS ?_)|(refine zs1 hS ?_;clear hS;intro w hS)|(go_at_call 145;refine(IK7 hc W _ _ hS).mono ?_;clear hS;rintro e w ⟨rfl,hS⟩));go_ret
 exact⟨rfl,hS.drop⟩
theorem IL7(hS:St W R w):
  Calls Tryz.prog 148 #[oV kd cl sq ak aw tk tw it ct pr bu i] w fun e w'=>e=.returned (.bool (F9 ⟨kd,cl,sq,ak,aw,tk,tw,it,ct,pr,bu,i⟩))/\St W R w':=by
 go_enter Tryz.func148,Tryz.ntmps148
 by_cases h1:1<=i
 case neg=>
  have e:F9 ⟨kd,cl,sq,ak,aw,tk,tw,it,ct,pr,bu,i⟩=false:=by unfold F9;simp[h1]
  have d1:decide (1<=i)=false:=by simpa using h1
  rw[e];go_wp2_with(first|(refine zbx hS ?_;clear hS;intro b w hS));refine Aa7 (by kernel_rfl) (by kernel_rfl) hS ?_
  repeat(first|go_big_quiet_skip|(refine zq1 ?_)|(refine qR ?_))
  clear hS;intro w hS;go_wp2_with fail;go_ret
  exact⟨rfl,hS.drop⟩
 by_cases h2:i<=1099511627776
 case neg=>
  have e:F9 ⟨kd,cl,sq,ak,aw,tk,tw,it,ct,pr,bu,i⟩=false:=by unfold F9;simp[h2]
  have d2:decide (i<=1099511627776)=false:=by simpa using h2
  rw[e];go_wp2_with(first|(refine zbx hS ?_;clear hS;intro b w hS));refine Aa7 (by kernel_rfl) (by kernel_rfl) hS ?_
  repeat(first|go_big_quiet_skip|(refine zq1 ?_)|(refine qR ?_))
  clear hS;intro w hS;go_wp2_with fail;go_ret
  exact⟨rfl,hS.drop⟩
 have e:F9 ⟨kd,cl,sq,ak,aw,tk,tw,it,ct,pr,bu,i⟩=(noB tk&&(noB tw&&(decide (it=0)&&(decide (ct=0)&&(decide (pr=0)&&!bu))))):=by unfold F9;simp[h1,h2]
 rw[e];go_wp2_with(first|(refine zbx hS ?_;clear hS;intro b w hS));refine Aa7 (by kernel_rfl) (by kernel_rfl) hS ?_
 repeat(first|(refine zq1 ?_)|(refine zqN ?_)|(apply Ar7;rfl;(intro w;apply Ag7;rfl;decide +kernel;(focus(simp only[fD,fI,fJ,Act.eval,fE,fF,fG,fH,fK];try rfl)));(intro w hS;exact Gh7 _ _ _ _ _ _ _ _ _ _ _ _ W w _ hS);(refine frS ?_))|((with_reducible apply QN7);rfl;rfl;rfl;rfl;kernel_rfl;exact ga4 tk tw it ct pr bu i;(refine frS ?_))|(refine qR ?_))
 clear hS;intro w hS;go_wp2_with fail;go_ret
 exact⟨rfl,hS.drop⟩
theorem IM7(hS:St W R w):
  Calls Tryz.prog 149 #[oV kd cl sq ak aw tk tw it ct pr bu i] w fun e w'=>e=.returned (.bool (cn4 ⟨kd,cl,sq,ak,aw,tk,tw,it,ct,pr,bu,i⟩))/\St W R w':=by
 go_enter Tryz.func149,Tryz.ntmps149;go_wp2_with(first|(refine zbx hS ?_;clear hS;intro b w hS)|(refine zlN hS ?_)|(go_at_call 194;refine(Gh7 kd cl sq ak aw tk tw it ct pr bu i W _ _ hS).mono ?_;clear hS;rintro e w ⟨rfl,hS⟩)|((with_reducible apply Cg7);rfl;rfl;rfl;rfl;kernel_rfl;exact Rt7 tk tw it ct pr bu i;(refine frS ?_)));go_ret
 exact⟨rfl,hS.drop⟩
end
section
variable(kd cl sq:Int)(ak aw tk tw:ByteArray)(it ct pr:Int)(bu:Bool)(i:Int)(W w:World)(R:List HP)
theorem NP7(hS:St W R w):
  Calls Tryz.prog 85 #[oV kd cl sq ak aw tk tw it ct pr bu i] w fun e w'=>e=.returned (.bool (w7 ⟨kd,cl,sq,ak,aw,tk,tw,it,ct,pr,bu,i⟩))/\St W R w':=by
 go_enter Tryz.func85,Tryz.ntmps85
 by_cases hk:kd=1\/kd=2\/kd=3\/kd=4\/kd=5\/kd=6\/kd=7
 case neg=>
  have e:w7 ⟨kd,cl,sq,ak,aw,tk,tw,it,ct,pr,bu,i⟩=false:=by
   unfold w7 J6;simp only[not_or]at hk;obtain⟨k1,k2,k3,k4,k5,k6,k7⟩:=hk;simp[k1,k2,k3,k4,k5,k6,k7]
  rw[e]
  by_cases h0:kd<0
  ·go_wp2_with(first|go_big_skip|(refine zbx hS ?_;clear hS;intro b w hS)|(refine zal hS ?_;clear hS;intro b2 w hS)|(refine zsN hS ?_;clear hS;intro w hS)|(refine zl1 hS ?_));go_ret
   exact⟨rfl,hS.drop.drop⟩
  ·have d0:decide (kd<0)=false:=by simpa using h0
   by_cases h8:8<=kd
   ·go_wp2_with(first|go_big_skip|(refine zbx hS ?_;clear hS;intro b w hS)|(refine zal hS ?_;clear hS;intro b2 w hS)|(refine zsN hS ?_;clear hS;intro w hS)|(refine zl1 hS ?_));go_ret
    exact⟨rfl,hS.drop.drop⟩
   ·obtain rfl:kd=0:=by omega
    clear d0 h0 h8 hk e;go_wp2_with(first|(refine zbx hS ?_;clear hS;intro b w hS)|(refine zal hS ?_;clear hS;intro b2 w hS)|(refine zsN hS ?_;clear hS;intro w hS)|(refine zl1 hS ?_)|((with_reducible apply CA7);rfl;rfl;rfl;rfl;rfl;exact Tryz.underlying206;(refine frS ?_)));go_ret
    exact⟨rfl,hS.drop.drop⟩
 by_cases h1:1<=cl
 case neg=>
  have d1:decide (1<=cl)=false:=by simpa using h1
  have e:w7 ⟨kd,cl,sq,ak,aw,tk,tw,it,ct,pr,bu,i⟩=false:=by unfold w7 F6;simp[h1]
  rw[e];clear e
  rcases hk with rfl|rfl|rfl|rfl|rfl|rfl|rfl
  all_goals
   go_wp2_with(first|(refine zbx hS ?_;clear hS;intro b w hS)|(refine zal hS ?_;clear hS;intro b2 w hS)|(refine zsN hS ?_;clear hS;intro w hS)|(refine zl1 hS ?_)|((with_reducible apply CA7);rfl;rfl;rfl;rfl;rfl;exact Tryz.underlying206;(refine frS ?_)));refine Aa7 (by kernel_rfl) (by kernel_rfl) hS ?_
   repeat(first|go_big_quiet_skip|(refine zq1 ?_)|(refine qR ?_))
   clear hS;intro w hS;go_wp2_with fail;go_ret
   exact⟨rfl,hS.drop.drop⟩
 by_cases h2:cl<=1048576
 case neg=>
  have d2:decide (cl<=1048576)=false:=by simpa using h2
  have e:w7 ⟨kd,cl,sq,ak,aw,tk,tw,it,ct,pr,bu,i⟩=false:=by unfold w7 F6;simp[h2]
  rw[e];clear e
  rcases hk with rfl|rfl|rfl|rfl|rfl|rfl|rfl
  all_goals
   go_wp2_with(first|(refine zbx hS ?_;clear hS;intro b w hS)|(refine zal hS ?_;clear hS;intro b2 w hS)|(refine zsN hS ?_;clear hS;intro w hS)|(refine zl1 hS ?_)|((with_reducible apply CA7);rfl;rfl;rfl;rfl;rfl;exact Tryz.underlying206;(refine frS ?_)));refine Aa7 (by kernel_rfl) (by kernel_rfl) hS ?_
   repeat(first|go_big_quiet_skip|(refine zq1 ?_)|(refine qR ?_))
   clear hS;intro w hS;go_wp2_with fail;go_ret
   exact⟨rfl,hS.drop.drop⟩
 by_cases h3:1<=sq
 case neg=>
  have d3:decide (1<=sq)=false:=by simpa using h3
  have e:w7 ⟨kd,cl,sq,ak,aw,tk,tw,it,ct,pr,bu,i⟩=false:=by unfold w7 F6;simp[h3]
  rw[e];clear e
  rcases hk with rfl|rfl|rfl|rfl|rfl|rfl|rfl
  all_goals
   go_wp2_with(first|(refine zbx hS ?_;clear hS;intro b w hS)|(refine zal hS ?_;clear hS;intro b2 w hS)|(refine zsN hS ?_;clear hS;intro w hS)|(refine zl1 hS ?_)|((with_reducible apply CA7);rfl;rfl;rfl;rfl;rfl;exact Tryz.underlying206;(refine frS ?_)));refine Aa7 (by kernel_rfl) (by kernel_rfl) hS ?_
   repeat(first|go_big_quiet_skip|(refine zq1 ?_)|(refine qR ?_))
   clear hS;intro w hS;go_wp2_with fail;go_ret
   exact⟨rfl,hS.drop.drop⟩
 by_cases h4:sq<=1099511627776
 case neg=>
  have d4:decide (sq<=1099511627776)=false:=by simpa using h4
  have e:w7 ⟨kd,cl,sq,ak,aw,tk,tw,it,ct,pr,bu,i⟩=false:=by unfold w7 F6;simp[h4]
  rw[e];clear e
  rcases hk with rfl|rfl|rfl|rfl|rfl|rfl|rfl
  all_goals
   go_wp2_with(first|(refine zbx hS ?_;clear hS;intro b w hS)|(refine zal hS ?_;clear hS;intro b2 w hS)|(refine zsN hS ?_;clear hS;intro w hS)|(refine zl1 hS ?_)|((with_reducible apply CA7);rfl;rfl;rfl;rfl;rfl;exact Tryz.underlying206;(refine frS ?_)));refine Aa7 (by kernel_rfl) (by kernel_rfl) hS ?_
   repeat(first|go_big_quiet_skip|(refine zq1 ?_)|(refine qR ?_))
   clear hS;intro w hS;go_wp2_with fail;go_ret
   exact⟨rfl,hS.drop.drop⟩
 cases hp:aK4 ak aw with
 | false=>
  skip
  have e:w7 ⟨kd,cl,sq,ak,aw,tk,tw,it,ct,pr,bu,i⟩=false:=by unfold w7 F6;simp[hp]
  rw[e];clear e
  rcases hk with rfl|rfl|rfl|rfl|rfl|rfl|rfl
  all_goals
   go_wp2_with(first|(refine zbx hS ?_;clear hS;intro b w hS)|(refine zal hS ?_;clear hS;intro b2 w hS)|(refine zsN hS ?_;clear hS;intro w hS)|(refine zl1 hS ?_)|((with_reducible apply CA7);rfl;rfl;rfl;rfl;rfl;exact Tryz.underlying206;(refine frS ?_)));refine Aa7 (by kernel_rfl) (by kernel_rfl) hS ?_
   repeat(first|go_big_quiet_skip|(refine zq1 ?_)|(refine zqN ?_ (hc:=by first|exact i5.here (vs:=[.string ak,.string aw]) rfl|exact i5.there (i5.here (vs:=[.string ak,.string aw]) rfl)))|(apply Ar7;rfl;(intro w;apply Ag7;rfl;decide +kernel;(focus(simp only[fD,fI,fJ,Act.eval,fE,fF,fG,fH,fK];try rfl)));(intro w hS;exact Cs7 hp W w _ hS);(refine frS ?_))|(refine qR ?_))
   clear hS;intro w hS;go_wp2_with fail;go_ret
   exact⟨rfl,hS.drop.drop⟩
 | true=>
  have hh:(decide (1<=cl)&&(decide (cl<=1048576)&&(decide (1<=sq)&&(decide (sq<=1099511627776)&&aK4 ak aw))))=true:=by simp[h1,h2,h3,h4,hp]
  rcases hk with rfl|rfl|rfl|rfl|rfl|rfl|rfl
  ·skip
   have e:w7 ⟨1,cl,sq,ak,aw,tk,tw,it,ct,pr,bu,i⟩=s9 ⟨1,cl,sq,ak,aw,tk,tw,it,ct,pr,bu,i⟩:=by unfold w7;rw[show F6 ⟨1,cl,sq,ak,aw,tk,tw,it,ct,pr,bu,i⟩=true from hh];rfl
   rw[e];clear e;go_wp2_with(first|(refine zbx hS ?_;clear hS;intro b w hS)|(refine zal hS ?_;clear hS;intro b2 w hS)|(refine zsN hS ?_;clear hS;intro w hS)|(refine zl1 hS ?_)|((with_reducible apply CA7);rfl;rfl;rfl;rfl;rfl;exact Tryz.underlying206;(refine frS ?_)));refine Aa7 (by kernel_rfl) (by kernel_rfl) hS ?_
   repeat(first|(refine zq1 ?_)|(refine zqN ?_)|(refine zqN ?_ (hc:=by first|exact i5.here (vs:=[.string ak,.string aw]) rfl|exact i5.there (i5.here (vs:=[.string ak,.string aw]) rfl)))|(apply Ar7;rfl;(intro w;apply Ag7;rfl;decide +kernel;(focus(simp only[fD,fI,fJ,Act.eval,fE,fF,fG,fH,fK];try rfl)));(intro w hS;exact Cs7 hp W w _ hS);(refine frS ?_))|(apply Ar7;rfl;(intro w;apply Bl7;rfl;rfl;decide +kernel;(focus(simp only[fD,fI,fJ,Act.eval,fE,fF,fG,fH,fK];try rfl)));(intro w hS;exact DB7 _ _ _ _ _ _ _ _ _ _ _ _ W w _ hS);(refine frS ?_))|(refine qR ?_))
   clear hS;intro w hS;go_wp2_with fail;go_ret
   exact⟨rfl,hS.drop.drop⟩
  ·skip
   have e:w7 ⟨2,cl,sq,ak,aw,tk,tw,it,ct,pr,bu,i⟩=N6 ⟨2,cl,sq,ak,aw,tk,tw,it,ct,pr,bu,i⟩:=by unfold w7;rw[show F6 ⟨2,cl,sq,ak,aw,tk,tw,it,ct,pr,bu,i⟩=true from hh];rfl
   rw[e];clear e;go_wp2_with(first|(refine zbx hS ?_;clear hS;intro b w hS)|(refine zal hS ?_;clear hS;intro b2 w hS)|(refine zsN hS ?_;clear hS;intro w hS)|(refine zl1 hS ?_)|((with_reducible apply CA7);rfl;rfl;rfl;rfl;rfl;exact Tryz.underlying206;(refine frS ?_)));refine Aa7 (by kernel_rfl) (by kernel_rfl) hS ?_
   repeat(first|(refine zq1 ?_)|(refine zqN ?_)|(refine zqN ?_ (hc:=by first|exact i5.here (vs:=[.string ak,.string aw]) rfl|exact i5.there (i5.here (vs:=[.string ak,.string aw]) rfl)))|(apply Ar7;rfl;(intro w;apply Ag7;rfl;decide +kernel;(focus(simp only[fD,fI,fJ,Act.eval,fE,fF,fG,fH,fK];try rfl)));(intro w hS;exact Cs7 hp W w _ hS);(refine frS ?_))|(apply Ar7;rfl;(intro w;apply Bl7;rfl;rfl;decide +kernel;(focus(simp only[fD,fI,fJ,Act.eval,fE,fF,fG,fH,fK];try rfl)));(intro w hS;exact Ml7 _ _ _ _ _ _ _ _ _ _ _ _ W w _ hS);(refine frS ?_))|(refine qR ?_))
   clear hS;intro w hS;go_wp2_with fail;go_ret
   exact⟨rfl,hS.drop.drop⟩
  ·skip
   have e:w7 ⟨3,cl,sq,ak,aw,tk,tw,it,ct,pr,bu,i⟩=I5 ⟨3,cl,sq,ak,aw,tk,tw,it,ct,pr,bu,i⟩:=by unfold w7;rw[show F6 ⟨3,cl,sq,ak,aw,tk,tw,it,ct,pr,bu,i⟩=true from hh];rfl
   rw[e];clear e;go_wp2_with(first|(refine zbx hS ?_;clear hS;intro b w hS)|(refine zal hS ?_;clear hS;intro b2 w hS)|(refine zsN hS ?_;clear hS;intro w hS)|(refine zl1 hS ?_)|((with_reducible apply CA7);rfl;rfl;rfl;rfl;rfl;exact Tryz.underlying206;(refine frS ?_)));refine Aa7 (by kernel_rfl) (by kernel_rfl) hS ?_
   repeat(first|(refine zq1 ?_)|(refine zqN ?_)|(refine zqN ?_ (hc:=by first|exact i5.here (vs:=[.string ak,.string aw]) rfl|exact i5.there (i5.here (vs:=[.string ak,.string aw]) rfl)))|(apply Ar7;rfl;(intro w;apply Ag7;rfl;decide +kernel;(focus(simp only[fD,fI,fJ,Act.eval,fE,fF,fG,fH,fK];try rfl)));(intro w hS;exact Cs7 hp W w _ hS);(refine frS ?_))|(apply Ar7;rfl;(intro w;apply Bl7;rfl;rfl;decide +kernel;(focus(simp only[fD,fI,fJ,Act.eval,fE,fF,fG,fH,fK];try rfl)));(intro w hS;exact JV7 _ _ _ _ _ _ _ _ _ _ _ _ W w _ hS);(refine frS ?_))|(refine qR ?_))
   clear hS;intro w hS;go_wp2_with fail;go_ret
   exact⟨rfl,hS.drop.drop⟩
  ·skip
   have e:w7 ⟨4,cl,sq,ak,aw,tk,tw,it,ct,pr,bu,i⟩=F9 ⟨4,cl,sq,ak,aw,tk,tw,it,ct,pr,bu,i⟩:=by unfold w7;rw[show F6 ⟨4,cl,sq,ak,aw,tk,tw,it,ct,pr,bu,i⟩=true from hh];rfl
   rw[e];clear e;go_wp2_with(first|(refine zbx hS ?_;clear hS;intro b w hS)|(refine zal hS ?_;clear hS;intro b2 w hS)|(refine zsN hS ?_;clear hS;intro w hS)|(refine zl1 hS ?_)|((with_reducible apply CA7);rfl;rfl;rfl;rfl;rfl;exact Tryz.underlying206;(refine frS ?_)));refine Aa7 (by kernel_rfl) (by kernel_rfl) hS ?_
   repeat(first|(refine zq1 ?_)|(refine zqN ?_)|(refine zqN ?_ (hc:=by first|exact i5.here (vs:=[.string ak,.string aw]) rfl|exact i5.there (i5.here (vs:=[.string ak,.string aw]) rfl)))|(apply Ar7;rfl;(intro w;apply Ag7;rfl;decide +kernel;(focus(simp only[fD,fI,fJ,Act.eval,fE,fF,fG,fH,fK];try rfl)));(intro w hS;exact Cs7 hp W w _ hS);(refine frS ?_))|(apply Ar7;rfl;(intro w;apply Bl7;rfl;rfl;decide +kernel;(focus(simp only[fD,fI,fJ,Act.eval,fE,fF,fG,fH,fK];try rfl)));(intro w hS;exact IL7 _ _ _ _ _ _ _ _ _ _ _ _ W w _ hS);(refine frS ?_))|(refine qR ?_))
   clear hS;intro w hS;go_wp2_with fail;go_ret
   exact⟨rfl,hS.drop.drop⟩
  ·skip
   have e:w7 ⟨5,cl,sq,ak,aw,tk,tw,it,ct,pr,bu,i⟩=cn4 ⟨5,cl,sq,ak,aw,tk,tw,it,ct,pr,bu,i⟩:=by unfold w7;rw[show F6 ⟨5,cl,sq,ak,aw,tk,tw,it,ct,pr,bu,i⟩=true from hh];rfl
   rw[e];clear e;go_wp2_with(first|(refine zbx hS ?_;clear hS;intro b w hS)|(refine zal hS ?_;clear hS;intro b2 w hS)|(refine zsN hS ?_;clear hS;intro w hS)|(refine zl1 hS ?_)|((with_reducible apply CA7);rfl;rfl;rfl;rfl;rfl;exact Tryz.underlying206;(refine frS ?_)));refine Aa7 (by kernel_rfl) (by kernel_rfl) hS ?_
   repeat(first|(refine zq1 ?_)|(refine zqN ?_)|(refine zqN ?_ (hc:=by first|exact i5.here (vs:=[.string ak,.string aw]) rfl|exact i5.there (i5.here (vs:=[.string ak,.string aw]) rfl)))|(apply Ar7;rfl;(intro w;apply Ag7;rfl;decide +kernel;(focus(simp only[fD,fI,fJ,Act.eval,fE,fF,fG,fH,fK];try rfl)));(intro w hS;exact Cs7 hp W w _ hS);(refine frS ?_))|(apply Ar7;rfl;(intro w;apply Bl7;rfl;rfl;decide +kernel;(focus(simp only[fD,fI,fJ,Act.eval,fE,fF,fG,fH,fK];try rfl)));(intro w hS;exact IM7 _ _ _ _ _ _ _ _ _ _ _ _ W w _ hS);(refine frS ?_))|(refine qR ?_))
   clear hS;intro w hS;go_wp2_with fail;go_ret
   exact⟨rfl,hS.drop.drop⟩
  ·skip
   have e:w7 ⟨6,cl,sq,ak,aw,tk,tw,it,ct,pr,bu,i⟩=s9 ⟨6,cl,sq,ak,aw,tk,tw,it,ct,pr,bu,i⟩:=by unfold w7;rw[show F6 ⟨6,cl,sq,ak,aw,tk,tw,it,ct,pr,bu,i⟩=true from hh];rfl
   rw[e];clear e;go_wp2_with(first|(refine zbx hS ?_;clear hS;intro b w hS)|(refine zal hS ?_;clear hS;intro b2 w hS)|(refine zsN hS ?_;clear hS;intro w hS)|(refine zl1 hS ?_)|((with_reducible apply CA7);rfl;rfl;rfl;rfl;rfl;exact Tryz.underlying206;(refine frS ?_)));refine Aa7 (by kernel_rfl) (by kernel_rfl) hS ?_
   repeat(first|(refine zq1 ?_)|(refine zqN ?_)|(refine zqN ?_ (hc:=by first|exact i5.here (vs:=[.string ak,.string aw]) rfl|exact i5.there (i5.here (vs:=[.string ak,.string aw]) rfl)))|(apply Ar7;rfl;(intro w;apply Ag7;rfl;decide +kernel;(focus(simp only[fD,fI,fJ,Act.eval,fE,fF,fG,fH,fK];try rfl)));(intro w hS;exact Cs7 hp W w _ hS);(refine frS ?_))|(apply Ar7;rfl;(intro w;apply Bl7;rfl;rfl;decide +kernel;(focus(simp only[fD,fI,fJ,Act.eval,fE,fF,fG,fH,fK];try rfl)));(intro w hS;exact DB7 _ _ _ _ _ _ _ _ _ _ _ _ W w _ hS);(refine frS ?_))|(refine qR ?_))
   clear hS;intro w hS;go_wp2_with fail;go_ret
   exact⟨rfl,hS.drop.drop⟩
  ·skip
   have e:w7 ⟨7,cl,sq,ak,aw,tk,tw,it,ct,pr,bu,i⟩=cn4 ⟨7,cl,sq,ak,aw,tk,tw,it,ct,pr,bu,i⟩:=by unfold w7;rw[show F6 ⟨7,cl,sq,ak,aw,tk,tw,it,ct,pr,bu,i⟩=true from hh];rfl
   rw[e];clear e;go_wp2_with(first|(refine zbx hS ?_;clear hS;intro b w hS)|(refine zal hS ?_;clear hS;intro b2 w hS)|(refine zsN hS ?_;clear hS;intro w hS)|(refine zl1 hS ?_)|((with_reducible apply CA7);rfl;rfl;rfl;rfl;rfl;exact Tryz.underlying206;(refine frS ?_)));refine Aa7 (by kernel_rfl) (by kernel_rfl) hS ?_
   repeat(first|(refine zq1 ?_)|(refine zqN ?_)|(refine zqN ?_ (hc:=by first|exact i5.here (vs:=[.string ak,.string aw]) rfl|exact i5.there (i5.here (vs:=[.string ak,.string aw]) rfl)))|(apply Ar7;rfl;(intro w;apply Ag7;rfl;decide +kernel;(focus(simp only[fD,fI,fJ,Act.eval,fE,fF,fG,fH,fK];try rfl)));(intro w hS;exact Cs7 hp W w _ hS);(refine frS ?_))|(apply Ar7;rfl;(intro w;apply Bl7;rfl;rfl;decide +kernel;(focus(simp only[fD,fI,fJ,Act.eval,fE,fF,fG,fH,fK];try rfl)));(intro w hS;exact IM7 _ _ _ _ _ _ _ _ _ _ _ _ W w _ hS);(refine frS ?_))|(refine qR ?_))
   clear hS;intro w hS;go_wp2_with fail;go_ret
   exact⟨rfl,hS.drop.drop⟩
end
theorem CK7{kd cl sq:Int}{ak aw tk tw:ByteArray}{it ct pr:Int}{bu:Bool}{i:Int}{r:Bool}(h:w7 ⟨kd,cl,sq,ak,aw,tk,tw,it,ct,pr,bu,i⟩=r)(W w:World)(R:List HP)(hS:St W R w):
  Calls Tryz.prog 85 #[oV kd cl sq ak aw tk tw it ct pr bu i] w fun e w'=>e=.returned (.bool r)/\St W R w':=h▸NP7 kd cl sq ak aw tk tw it ct pr bu i W w R hS
theorem eL4(a b:Int×Int)(w:World):(Op.equal 94 (eW a) (eW b)).run Tryz.prog w=.ok (decide (a=b)) w:=by
 have u3:=Tryz.underlying3;have a3:=Tryz.isAgg3;have z3:=Tryz.sizeOf3;have hs:Tryz.prog.stoodInHeld 94=false:=by kernel_rfl
 obtain⟨a0,a1⟩:=a;obtain⟨b0,b1⟩:=b
 have h:∀d:Nat,(Op.equalIn (d+2) 94 (eW (a0,a1)) (eW (b0,b1))).run Tryz.prog w=.ok (decide ((a0,a1)=(b0,b1))) w:=fun d=>by
  rw[Op.equalIn];simp only[Sem.run_bind,run_underlying Tryz.underlying94,Result.andThen_ok,run_program,hs,Bool.false_eq_true,if_false];rw[<-Array.forIn_toList];simp only[List.forIn_cons,List.forIn_nil]
  go_simp
  by_cases h1:a0=b0 <;> by_cases h2:a1=b1 <;> simp[h1,h2]
 exact h 9998
theorem er4(e:Bool)(a:Int×Int)(w:World):(Instr.checkKey e 10000 94 (eW a)).run Tryz.prog w=.ok () w:=by
 have u3:=Tryz.underlying3;have a3:=Tryz.isAgg3;have z3:=Tryz.sizeOf3
 have h1:∀(d:Nat) (x:Int),(Instr.checkKey e (d+1) 3 (.I x)).run Tryz.prog w=.ok () w:=fun d x=>by
  rw[Instr.checkKey];simp[run_underlying u3]
 have h:∀d:Nat,(Instr.checkKey e (d+2) 94 (eW a)).run Tryz.prog w=.ok () w:=fun d=>by
  rw[Instr.checkKey];simp only[Sem.run_bind,run_underlying Tryz.underlying94,Result.andThen_ok];rw[<-Array.forIn_toList];simp only[List.forIn_cons,List.forIn_nil]
  go_simp
 exact h 9998
theorem kW:KeyOk Tryz.prog 94 eW:=KeyOk.deep Tryz.underlying94 (fun _ _=>rfl) er4 eL4 (fun k=>by simp[Instr.sameBits])
theorem kEi:KeyOk Tryz.prog 3 eI:=KeyOk.int Tryz.underlying3
theorem mV:C9 Tryz.prog 79=some (9,100):=by kernel_rfl
theorem mS:C9 Tryz.prog 80=some (3,90):=by kernel_rfl
theorem mT:C9 Tryz.prog 81=some (94,40):=by kernel_rfl
theorem mAr:C9 Tryz.prog 82=some (94,4):=by kernel_rfl
theorem zV:H7 Tryz.prog 100=some (.pointer none):=by kernel_rfl
theorem zS:H7 Tryz.prog 90=some (eSs (0,rp0)):=by kernel_rfl
theorem zT:H7 Tryz.prog 40=some (eTn ⟨0,0,⟨#[]⟩,⟨#[]⟩,⟨#[]⟩,⟨#[]⟩,0,0⟩):=by kernel_rfl
theorem zA:H7 Tryz.prog 4=some (.bool false):=by kernel_rfl
theorem Gi7(W w:World)(R:List HP)(hS:St W R w):
  Calls Tryz.prog 15 #[] w fun e w'=>∃eb,e=.returned (.pointer (jP eb))/\St W (ecP eb ec0::R) w':=by
 go_enter Tryz.func15,Tryz.ntmps15;go_wp2_with(first|((with_reducible apply DR7 (t:=79) eS eN hS);rfl;rfl;clear hS;intro m1 w hS;(refine frS ?_))|((with_reducible apply DR7 (t:=80) eI eSs hS);rfl;rfl;clear hS;intro m2 w hS;(refine frS ?_))|((with_reducible apply DR7 (t:=81) eW eTn hS);rfl;rfl;clear hS;intro m3 w hS;(refine frS ?_))|((with_reducible apply DR7 (t:=82) eW eU hS);rfl;rfl;clear hS;intro m4 w hS;(refine frS ?_))|(refine zbx hS ?_;clear hS;intro eb w hS));go_ret;have hS1:St W (j8 []::_) w:=St.shutS [] hS
 exact⟨eb,rfl,K6 (E:=[]) (e:=ec0) (m1:=m1) (m2:=m2) (m3:=m3) (m4:=m4) (List.Perm.refl _) (hS1.s (blk eb _ _::d8 eS eN m1 []::j8 []::d8 eI eSs m2 []::d8 eW eTn m3 []::d8 eW eU m4 []::R))⟩
abbrev ebB(eb m1 m2 m3 m4:Nat):HP:=blk eb [.map (some m1),.map (some m2),.map (some m3),.map (some m4)] 84
def vAt(E:Ev)(k:ByteArray):Vs:=((i9 E k).map (·.2)).getD vs0
theorem Ru7(eb m1 m2 m3 m4:Nat)(E:Ev)(k:ByteArray)(W w:World)(R:List HP)(hS:St W (ebB eb m1 m2 m3 m4::d8 eS eN m1 (i7 E)::j8 E::R) w):
  Calls Tryz.prog 101 #[.pointer (jP eb),.string k] w fun e w'=>∃vb,e=.returned (.pointer (jP vb)) /\
   St W (ebB eb m1 m2 m3 m4::d8 eS eN m1 (i7 ((k,(vb,vAt E k))::j5 E k))::G6 vb (vAt E k)::j8 (j5 E k)::R) w':=by
 have hnd:(E.map (·.1)).Nodup:=by rw[<-AP7];exact u6 hS.drop
 cases hg:i9 E k with
 | some x=>
  obtain⟨vb,V⟩:=x;have hgl:i9 (i7 E) k=some vb:=by rw[BL7,hg];rfl
  have hv:vAt E k=V:=by unfold vAt;rw[hg];rfl
  have hp:=Bs7 hnd hg;rw[hv];go_enter Tryz.func101,Tryz.ntmps101;go_wp2_with(first|go_big_skip|((with_reducible apply BU7 (ek:=eS) (ev:=eN) (k:=k) hS);rfl;rfl;rfl;rfl;(exact i6);exact mV;exact kS;exact zV;exact hgl;(refine frS ?_))|(refine zl1 hS ?_));go_ret;refine⟨vb,rfl,?_⟩;have h1:=H8 (hp.map fun x=>(x.1,x.2.1)) hS.swap;have h2:St W (j8 E::d8 eS eN m1 (i7 ((k,(vb,V))::j5 E k))::ebB eb m1 m2 m3 m4::R) w:=h1.s _;have h3:=bU4 (aE4 hp h2)
  exact h3.s (ebB eb m1 m2 m3 m4::d8 eS eN m1 _::G6 vb V::j8 (j5 E k)::R)
 | none=>
  have hgl:i9 (i7 E) k=none:=by rw[BL7,hg];rfl
  have hv:vAt E k=vs0:=by unfold vAt;rw[hg];rfl
  have hd:j5 E k=E:=Bj7 (AO7 hg);rw[hv,hd];go_enter Tryz.func101,Tryz.ntmps101;go_wp2_with(first|go_big_skip|((with_reducible apply DT7 (ek:=eS) (ev:=eN) (k:=k) hS);rfl;rfl;rfl;rfl;(exact i6);exact mV;exact kS;exact zV;exact hgl;(refine frS ?_))|(refine zl1 hS ?_)|(go_at_call 162;refine(NE7 W _ _ hS).mono ?_;clear hS;rintro e w ⟨vb,mb,bb,rfl,hS⟩)|((with_reducible apply Bf7 (ek:=eS) (ev:=eN) (k:=k) (u:=vb) hS);rfl;rfl;rfl;rfl;(exact i6);(focus(rfl));exact mV;exact kS;clear hS;intro w hS;try(refine frS ?_)));go_ret;refine⟨vb,rfl,?_⟩;rw[Lk7,hd]at hS;have h1:St W (t8 vb mb bb [] [] 1 (ebB eb m1 m2 m3 m4::d8 eS eN m1 ((k,vb)::i7 E)::j8 E::R)) w:=hS.s _;have h2:=aC4 (V:=vs0) h1;have h3:=h2.s (ebB eb m1 m2 m3 m4::d8 eS eN m1 ((k,vb)::i7 E)::G6 vb vs0::j8 E::R)
  exact h3
theorem JW7(vb:Nat)(V:Vs){N:Nat}(hw:PsW V.ps N)(hN:N<=1000000000)(W w:World)(R:List HP)(hS:St W (G6 vb V::R) w):
  Calls Tryz.prog 107 #[.pointer (jP vb)] w fun e w'=>e=.returned (.bool (A5 V))/\St W (G6 vb V::R) w':=by
 obtain⟨mb,bb,hS⟩:=aZ4 hS;have hl:=Cr7 V.ps;have hl32:=BZ7 hS.drop.drop;have hpl:=hw.len;go_enter Tryz.func107,Tryz.ntmps107
 by_cases h0:V.ps.length+V.L.length=0
 ·have d0:(((hdL V.ps).length:Int)+(V.L.length:Int)==0)=true:=by simp;omega
  have e:A5 V=(V.n==1):=by
   unfold A5;rw[decide_eq_true (show V.ps.length=0 by omega),decide_eq_true (show V.L.length=0 by omega)];simp;rw[Bool.eq_iff_iff];simp
  rw[e];go_wp2_with(first|(go_at_call 124;refine(Do7 vb mb bb V.ps V.L V.n hw hN W _ _ hS).mono ?_;clear hS;rintro e w ⟨a,c,a2,c2,rfl,hS⟩));go_ret
  exact⟨rfl,aC4 (hS.s _)⟩
 ·have d0:(((hdL V.ps).length:Int)+(V.L.length:Int)==0)=false:=by simp;omega
  have e:A5 V=false:=by
   cases hn:A5 V with
   | false=>rfl
   | true=>exact absurd (by rw[HE7 hn];rfl) h0
  rw[e];go_wp2_with(first|(go_at_call 124;refine(Do7 vb mb bb V.ps V.L V.n hw hN W _ _ hS).mono ?_;clear hS;rintro e w ⟨a,c,a2,c2,rfl,hS⟩));go_ret
  exact⟨rfl,aC4 (hS.s _)⟩
theorem IN7{V:Vs}{r:Bool}(h:A5 V=r)(vb:Nat){N:Nat}(hw:PsW V.ps N)(hN:N<=1000000000)(W w:World)(R:List HP)(hS:St W (G6 vb V::R) w):
  Calls Tryz.prog 107 #[.pointer (jP vb)] w fun e w'=>e=.returned (.bool r)/\St W (G6 vb V::R) w':=h▸JW7 vb V hw hN W w R hS
def cK4(E:Ev)(k:ByteArray):Ev:=match i9 E k with
 | none=>E
 | some x=>if A5 x.2=true then j5 E k else E
theorem Bb7(eb m1 m2 m3 m4:Nat)(E:Ev)(k:ByteArray){N:Nat}(hw:∀x∈E,PsW x.2.2.ps N)(hN:N<=1000000000)(W w:World)(R:List HP)(hS:St W (ebB eb m1 m2 m3 m4::d8 eS eN m1 (i7 E)::j8 E::R) w):
  Calls Tryz.prog 43 #[.pointer (jP eb),.string k] w fun e w'=>e=.returned (.tuple #[])/\St W (ebB eb m1 m2 m3 m4::d8 eS eN m1 (i7 (cK4 E k))::j8 (cK4 E k)::R) w':=by
 have hnd:(E.map (·.1)).Nodup:=by rw[<-AP7];exact u6 hS.drop
 cases hg:i9 E k with
 | none=>
  have hgl:i9 (i7 E) k=none:=by rw[BL7,hg];rfl
  have e:cK4 E k=E:=by unfold cK4;rw[hg]
  rw[e];go_enter Tryz.func43,Tryz.ntmps43;go_wp2_with(first|((with_reducible apply DT7 (ek:=eS) (ev:=eN) (k:=k) hS);rfl;rfl;rfl;rfl;(exact i6);exact mV;exact kS;exact zV;exact hgl;(refine frS ?_))|(refine zl1 hS ?_));go_end0
  exact⟨rfl,hS⟩
 | some x=>
  obtain⟨vb,V⟩:=x;have hgl:i9 (i7 E) k=some vb:=by rw[BL7,hg];rfl
  have hp:=Bs7 hnd hg;have Hw:=jH (hw _ (AF7 hg));have hS1:St W (j8 E::ebB eb m1 m2 m3 m4::d8 eS eN m1 (i7 E)::R) w:=hS.s _;have hS2:=bU4 (aE4 hp hS1);clear hS hS1;have hS:=hS2;clear hS2 hw
  cases hn:A5 V with
  | true=>
   have e:cK4 E k=j5 E k:=by unfold cK4;rw[hg];exact if_pos hn
   rw[e];go_enter Tryz.func43,Tryz.ntmps43;go_wp2_with(first|((with_reducible apply BU7 (ek:=eS) (ev:=eN) (k:=k) hS);rfl;rfl;rfl;rfl;(exact i6);exact mV;exact kS;exact zV;exact hgl;(refine frS ?_))|(refine zl1 hS ?_)|(go_at_call 107;refine(IN7 hn vb Hw.out hN W _ _ (hS.s (G6 vb V::ebB eb m1 m2 m3 m4::d8 eS eN m1 (i7 E)::j8 (j5 E k)::R))).mono ?_;clear hS;rintro e w ⟨rfl,hS⟩)|((with_reducible apply JH7 (ek:=eS) (ev:=eN) (k:=k) hS);rfl;rfl;rfl;rfl;(exact i6);exact mV;exact kS;clear hS;intro w hS;try(refine frS ?_)));go_end0;rw[Lk7]at hS
   exact⟨rfl,hS.s _⟩
  | false=>
   have e:cK4 E k=E:=by unfold cK4;rw[hg];exact if_neg (by rw[hn];exact Bool.noConfusion)
   rw[e];go_enter Tryz.func43,Tryz.ntmps43;go_wp2_with(first|((with_reducible apply BU7 (ek:=eS) (ev:=eN) (k:=k) hS);rfl;rfl;rfl;rfl;(exact i6);exact mV;exact kS;exact zV;exact hgl;(refine frS ?_))|(refine zl1 hS ?_)|(go_at_call 107;refine(IN7 hn vb Hw.out hN W _ _ (hS.s (G6 vb V::ebB eb m1 m2 m3 m4::d8 eS eN m1 (i7 E)::j8 (j5 E k)::R))).mono ?_;clear hS;rintro e w ⟨rfl,hS⟩));go_end0;have h1:=aE4 hp.symm (cp4 (x:=(k,(vb,V))) (hS.s (G6 vb V::j8 (j5 E k)::ebB eb m1 m2 m3 m4::d8 eS eN m1 (i7 E)::R)))
   exact⟨rfl,h1.s _⟩
theorem Rv7{it ct x0 x1 x2 x3:Int}(h:r7 it ct=⟨x0,x1,x2,x3⟩)(h0:0<=it)(h4:it<4)(c0:1<=ct)(c1:ct<=1048576)(W w:World)(R:List HP)(hS:St W R w):
  Calls Tryz.prog 165 #[.I it,.I ct] w fun e w'=>e=.returned (.tuple #[.agg #[.I x0,.I x1,.I x2,.I x3],.bool true])/\St W R w':=by
 have d1:decide (ct<0)=false:=by simp;omega
 have d2:decide (1152921504606846976<ct)=false:=by simp;omega
 go_enter Tryz.func165,Tryz.ntmps165;have hk:it=0\/it=1\/it=2\/it=3:=by omega
 clear h0 h4
 rcases hk with rfl|rfl|rfl|rfl
 all_goals
  simp only[r7,aT4,it0,It.mk.injEq,Int.reduceEq,if_true,if_false]at h;obtain⟨rfl,rfl,rfl,rfl⟩:=h;go_wp2_with(first|((fail_if_success (have:=gA));(refine zal hS ?_;clear hS;have gA:Nat:=0;intro b1 w hS))|((have:=gA);(refine zal hS ?_;clear hS;intro b2 w hS))|(refine zlN hS ?_)|(refine zsN hS ?_;clear hS;intro w hS)|(refine zs1 hS ?_;clear hS;intro w hS));(apply Ac7;rfl;rfl;rfl;rfl;exact hS;decide +kernel;(exact n9);kernel_rfl)
  exact⟨rfl,hS.drop.drop⟩
theorem Fv7{kd cl sq:Int}{ak aw tk tw:ByteArray}{it ct pr:Int}{bu:Bool}{i:Int}{x0 x1 x2 x3:Int}(h:r7 it ct=⟨x0,x1,x2,x3⟩)(h0:0<=it)(h4:it<4)(c0:1<=ct)(c1:ct<=1048576)(W w:World)(R:List HP)(hS:St W R w):
  Calls Tryz.prog 103 #[oV kd cl sq ak aw tk tw it ct pr bu i] w fun e w'=>e=.returned (.agg #[.I x0,.I x1,.I x2,.I x3])/\St W R w':=by
 go_enter Tryz.func103,Tryz.ntmps103;go_wp2_with(first|(refine zbx hS ?_;clear hS;intro b w hS)|((fail_if_success (have:=gA));(refine zal hS ?_;clear hS;have gA:Nat:=0;intro b1 w hS))|((have:=gA);(refine zal hS ?_;clear hS;intro b2 w hS))|(refine zl1 hS ?_)|(refine zlN hS ?_)|(refine zsN hS ?_;clear hS;intro w hS)|(go_at_call 165;refine(Rv7 h h0 h4 c0 c1 W _ _ hS).mono ?_;clear hS;rintro e w ⟨rfl,hS⟩));(apply As7;rfl;rfl;rfl;exact hS;decide +kernel;(exact n9);kernel_rfl)
 exact⟨rfl,hS.drop.drop.drop⟩
end Go.Proofs.YtlmhakmoioogaaaGreat
end
