/-
  May of a request. For every request.
  An economy's maps: what their keys are, what is zero; New; the vault at a key. For every economy.
  Is a vault none; a vault that is none is taken out; so many of an item. For every economy.
-/
import Derived.Test.YtlmhakmoioogaaaGreatEconPlaysM5
import Derived.Test.YtlmhakmoioogaaaGreatEconPlaysM30
set_option maxHeartbeats 16000000
set_option maxRecDepth 100000
set_option linter.unusedSimpArgs false
set_option linter.unusedVariables false
section
namespace Go.Proofs.YtlmhakmoioogaaaGreat
open Go.RowKit Go.Sl
section
variable(kd cl sq:Int)(ak aw tk tw:ByteArray)(it ct pr:Int)(bu:Bool)(i:Int)(W w:World)(R:List HP)
theorem ML7(hS:St W R w):
  Calls Tryz.prog 85 #[oV kd cl sq ak aw tk tw it ct pr bu i] w fun e w'=>e=.returned (.bool (mayO ⟨kd,cl,sq,ak,aw,tk,tw,it,ct,pr,bu,i⟩))∧St W R w':=by
 go_enter Tryz.func85,Tryz.ntmps85
 by_cases hk:kd=1∨kd=2∨kd=3∨kd=4∨kd=5∨kd=6∨kd=7
 case neg=>
  have e:mayO ⟨kd,cl,sq,ak,aw,tk,tw,it,ct,pr,bu,i⟩=false:=by
   unfold mayO kindB
   simp only[not_or]at hk
   obtain⟨k1,k2,k3,k4,k5,k6,k7⟩:=hk
   simp[k1,k2,k3,k4,k5,k6,k7]
  rw[e]
  by_cases h0:kd<0
  ·go_wp2_with(first|go_big_skip|(refine zbx hS ?_;clear hS;intro b w hS)|(refine zal hS ?_;clear hS;intro b2 w hS)|(refine zsN hS ?_;clear hS;intro w hS)|(refine zl1 hS ?_))
   go_ret
   exact⟨rfl,hS.drop.drop⟩
  ·have d0:decide (kd<0)=false:=by simpa using h0
   by_cases h8:8≤kd
   ·go_wp2_with(first|go_big_skip|(refine zbx hS ?_;clear hS;intro b w hS)|(refine zal hS ?_;clear hS;intro b2 w hS)|(refine zsN hS ?_;clear hS;intro w hS)|(refine zl1 hS ?_))
    go_ret
    exact⟨rfl,hS.drop.drop⟩
   ·obtain rfl:kd=0:=by omega
    clear d0 h0 h8 hk e
    go_wp2_with(first|(refine zbx hS ?_;clear hS;intro b w hS)|(refine zal hS ?_;clear hS;intro b2 w hS)|(refine zsN hS ?_;clear hS;intro w hS)|(refine zl1 hS ?_)|((with_reducible apply Cr7);(with_reducible rfl);rfl;rfl;rfl;rfl;exact Tryz.underlying206;(refine frS ?_)))
    go_ret
    exact⟨rfl,hS.drop.drop⟩
 by_cases h1:1≤cl
 case neg=>
  have d1:decide (1≤cl)=false:=by simpa using h1
  have e:mayO ⟨kd,cl,sq,ak,aw,tk,tw,it,ct,pr,bu,i⟩=false:=by unfold mayO headB;simp[h1]
  rw[e]
  clear e
  rcases hk with rfl|rfl|rfl|rfl|rfl|rfl|rfl
  all_goals
   go_wp2_with(first|(refine zbx hS ?_;clear hS;intro b w hS)|(refine zal hS ?_;clear hS;intro b2 w hS)|(refine zsN hS ?_;clear hS;intro w hS)|(refine zl1 hS ?_)|((with_reducible apply Cr7);(with_reducible rfl);rfl;rfl;rfl;rfl;exact Tryz.underlying206;(refine frS ?_)))
   refine Aa7 (by kernel_rfl) (by kernel_rfl) hS ?_
   repeat(first|go_big_quiet_skip|(refine zq1 ?_)|(refine qR ?_))
   clear hS
   intro w hS
   go_wp2_with fail
   go_ret
   exact⟨rfl,hS.drop.drop⟩
 by_cases h2:cl≤1048576
 case neg=>
  have d2:decide (cl≤1048576)=false:=by simpa using h2
  have e:mayO ⟨kd,cl,sq,ak,aw,tk,tw,it,ct,pr,bu,i⟩=false:=by unfold mayO headB;simp[h2]
  rw[e]
  clear e
  rcases hk with rfl|rfl|rfl|rfl|rfl|rfl|rfl
  all_goals
   go_wp2_with(first|(refine zbx hS ?_;clear hS;intro b w hS)|(refine zal hS ?_;clear hS;intro b2 w hS)|(refine zsN hS ?_;clear hS;intro w hS)|(refine zl1 hS ?_)|((with_reducible apply Cr7);(with_reducible rfl);rfl;rfl;rfl;rfl;exact Tryz.underlying206;(refine frS ?_)))
   refine Aa7 (by kernel_rfl) (by kernel_rfl) hS ?_
   repeat(first|go_big_quiet_skip|(refine zq1 ?_)|(refine qR ?_))
   clear hS
   intro w hS
   go_wp2_with fail
   go_ret
   exact⟨rfl,hS.drop.drop⟩
 by_cases h3:1≤sq
 case neg=>
  have d3:decide (1≤sq)=false:=by simpa using h3
  have e:mayO ⟨kd,cl,sq,ak,aw,tk,tw,it,ct,pr,bu,i⟩=false:=by unfold mayO headB;simp[h3]
  rw[e]
  clear e
  rcases hk with rfl|rfl|rfl|rfl|rfl|rfl|rfl
  all_goals
   go_wp2_with(first|(refine zbx hS ?_;clear hS;intro b w hS)|(refine zal hS ?_;clear hS;intro b2 w hS)|(refine zsN hS ?_;clear hS;intro w hS)|(refine zl1 hS ?_)|((with_reducible apply Cr7);(with_reducible rfl);rfl;rfl;rfl;rfl;exact Tryz.underlying206;(refine frS ?_)))
   refine Aa7 (by kernel_rfl) (by kernel_rfl) hS ?_
   repeat(first|go_big_quiet_skip|(refine zq1 ?_)|(refine qR ?_))
   clear hS
   intro w hS
   go_wp2_with fail
   go_ret
   exact⟨rfl,hS.drop.drop⟩
 by_cases h4:sq≤1099511627776
 case neg=>
  have d4:decide (sq≤1099511627776)=false:=by simpa using h4
  have e:mayO ⟨kd,cl,sq,ak,aw,tk,tw,it,ct,pr,bu,i⟩=false:=by unfold mayO headB;simp[h4]
  rw[e]
  clear e
  rcases hk with rfl|rfl|rfl|rfl|rfl|rfl|rfl
  all_goals
   go_wp2_with(first|(refine zbx hS ?_;clear hS;intro b w hS)|(refine zal hS ?_;clear hS;intro b2 w hS)|(refine zsN hS ?_;clear hS;intro w hS)|(refine zl1 hS ?_)|((with_reducible apply Cr7);(with_reducible rfl);rfl;rfl;rfl;rfl;exact Tryz.underlying206;(refine frS ?_)))
   refine Aa7 (by kernel_rfl) (by kernel_rfl) hS ?_
   repeat(first|go_big_quiet_skip|(refine zq1 ?_)|(refine qR ?_))
   clear hS
   intro w hS
   go_wp2_with fail
   go_ret
   exact⟨rfl,hS.drop.drop⟩
 cases hp:plcB ak aw with
 | false=>
  skip
  have e:mayO ⟨kd,cl,sq,ak,aw,tk,tw,it,ct,pr,bu,i⟩=false:=by unfold mayO headB;simp[hp]
  rw[e]
  clear e
  rcases hk with rfl|rfl|rfl|rfl|rfl|rfl|rfl
  all_goals
   go_wp2_with(first|(refine zbx hS ?_;clear hS;intro b w hS)|(refine zal hS ?_;clear hS;intro b2 w hS)|(refine zsN hS ?_;clear hS;intro w hS)|(refine zl1 hS ?_)|((with_reducible apply Cr7);(with_reducible rfl);rfl;rfl;rfl;rfl;exact Tryz.underlying206;(refine frS ?_)))
   refine Aa7 (by kernel_rfl) (by kernel_rfl) hS ?_
   repeat(first|go_big_quiet_skip|(refine zq1 ?_)|(refine zqN ?_ (hc:=by first|exact Cells.here (vs:=[.string ak,.string aw]) rfl|exact Cells.there (Cells.here (vs:=[.string ak,.string aw]) rfl)))|(apply As7;rfl;(intro w;apply Af7;(with_reducible rfl);decide +kernel;(focus(simp only[fD,fI,fJ,Act.eval,fE,fF,fG,fH,fK];try rfl)));(intro w hS;exact Cf7 hp W w _ hS);(refine frS ?_))|(refine qR ?_))
   clear hS
   intro w hS
   go_wp2_with fail
   go_ret
   exact⟨rfl,hS.drop.drop⟩
 | true=>
  have hh:(decide (1≤cl)&&(decide (cl≤1048576)&&(decide (1≤sq)&&(decide (sq≤1099511627776)&&plcB ak aw))))=true:=by simp[h1,h2,h3,h4,hp]
  rcases hk with rfl|rfl|rfl|rfl|rfl|rfl|rfl
  ·skip
   have e:mayO ⟨1,cl,sq,ak,aw,tk,tw,it,ct,pr,bu,i⟩=countsB ⟨1,cl,sq,ak,aw,tk,tw,it,ct,pr,bu,i⟩:=by unfold mayO;rw[show headB ⟨1,cl,sq,ak,aw,tk,tw,it,ct,pr,bu,i⟩=true from hh];rfl
   rw[e]
   clear e
   go_wp2_with(first|(refine zbx hS ?_;clear hS;intro b w hS)|(refine zal hS ?_;clear hS;intro b2 w hS)|(refine zsN hS ?_;clear hS;intro w hS)|(refine zl1 hS ?_)|((with_reducible apply Cr7);(with_reducible rfl);rfl;rfl;rfl;rfl;exact Tryz.underlying206;(refine frS ?_)))
   refine Aa7 (by kernel_rfl) (by kernel_rfl) hS ?_
   repeat(first|(refine zq1 ?_)|(refine zqN ?_)|(refine zqN ?_ (hc:=by first|exact Cells.here (vs:=[.string ak,.string aw]) rfl|exact Cells.there (Cells.here (vs:=[.string ak,.string aw]) rfl)))|(apply As7;rfl;(intro w;apply Af7;(with_reducible rfl);decide +kernel;(focus(simp only[fD,fI,fJ,Act.eval,fE,fF,fG,fH,fK];try rfl)));(intro w hS;exact Cf7 hp W w _ hS);(refine frS ?_))|(apply As7;rfl;(intro w;apply Bc7;(with_reducible rfl);rfl;decide +kernel;(focus(simp only[fD,fI,fJ,Act.eval,fE,fF,fG,fH,fK];try rfl)));(intro w hS;exact Di7 _ _ _ _ _ _ _ _ _ _ _ _ W w _ hS);(refine frS ?_))|(refine qR ?_))
   clear hS
   intro w hS
   go_wp2_with fail
   go_ret
   exact⟨rfl,hS.drop.drop⟩
  ·skip
   have e:mayO ⟨2,cl,sq,ak,aw,tk,tw,it,ct,pr,bu,i⟩=sendsB ⟨2,cl,sq,ak,aw,tk,tw,it,ct,pr,bu,i⟩:=by unfold mayO;rw[show headB ⟨2,cl,sq,ak,aw,tk,tw,it,ct,pr,bu,i⟩=true from hh];rfl
   rw[e]
   clear e
   go_wp2_with(first|(refine zbx hS ?_;clear hS;intro b w hS)|(refine zal hS ?_;clear hS;intro b2 w hS)|(refine zsN hS ?_;clear hS;intro w hS)|(refine zl1 hS ?_)|((with_reducible apply Cr7);(with_reducible rfl);rfl;rfl;rfl;rfl;exact Tryz.underlying206;(refine frS ?_)))
   refine Aa7 (by kernel_rfl) (by kernel_rfl) hS ?_
   repeat(first|(refine zq1 ?_)|(refine zqN ?_)|(refine zqN ?_ (hc:=by first|exact Cells.here (vs:=[.string ak,.string aw]) rfl|exact Cells.there (Cells.here (vs:=[.string ak,.string aw]) rfl)))|(apply As7;rfl;(intro w;apply Af7;(with_reducible rfl);decide +kernel;(focus(simp only[fD,fI,fJ,Act.eval,fE,fF,fG,fH,fK];try rfl)));(intro w hS;exact Cf7 hp W w _ hS);(refine frS ?_))|(apply As7;rfl;(intro w;apply Bc7;(with_reducible rfl);rfl;decide +kernel;(focus(simp only[fD,fI,fJ,Act.eval,fE,fF,fG,fH,fK];try rfl)));(intro w hS;exact Lf7 _ _ _ _ _ _ _ _ _ _ _ _ W w _ hS);(refine frS ?_))|(refine qR ?_))
   clear hS
   intro w hS
   go_wp2_with fail
   go_ret
   exact⟨rfl,hS.drop.drop⟩
  ·skip
   have e:mayO ⟨3,cl,sq,ak,aw,tk,tw,it,ct,pr,bu,i⟩=ordersB ⟨3,cl,sq,ak,aw,tk,tw,it,ct,pr,bu,i⟩:=by unfold mayO;rw[show headB ⟨3,cl,sq,ak,aw,tk,tw,it,ct,pr,bu,i⟩=true from hh];rfl
   rw[e]
   clear e
   go_wp2_with(first|(refine zbx hS ?_;clear hS;intro b w hS)|(refine zal hS ?_;clear hS;intro b2 w hS)|(refine zsN hS ?_;clear hS;intro w hS)|(refine zl1 hS ?_)|((with_reducible apply Cr7);(with_reducible rfl);rfl;rfl;rfl;rfl;exact Tryz.underlying206;(refine frS ?_)))
   refine Aa7 (by kernel_rfl) (by kernel_rfl) hS ?_
   repeat(first|(refine zq1 ?_)|(refine zqN ?_)|(refine zqN ?_ (hc:=by first|exact Cells.here (vs:=[.string ak,.string aw]) rfl|exact Cells.there (Cells.here (vs:=[.string ak,.string aw]) rfl)))|(apply As7;rfl;(intro w;apply Af7;(with_reducible rfl);decide +kernel;(focus(simp only[fD,fI,fJ,Act.eval,fE,fF,fG,fH,fK];try rfl)));(intro w hS;exact Cf7 hp W w _ hS);(refine frS ?_))|(apply As7;rfl;(intro w;apply Bc7;(with_reducible rfl);rfl;decide +kernel;(focus(simp only[fD,fI,fJ,Act.eval,fE,fF,fG,fH,fK];try rfl)));(intro w hS;exact Jh7 _ _ _ _ _ _ _ _ _ _ _ _ W w _ hS);(refine frS ?_))|(refine qR ?_))
   clear hS
   intro w hS
   go_wp2_with fail
   go_ret
   exact⟨rfl,hS.drop.drop⟩
  ·skip
   have e:mayO ⟨4,cl,sq,ak,aw,tk,tw,it,ct,pr,bu,i⟩=cancelsB ⟨4,cl,sq,ak,aw,tk,tw,it,ct,pr,bu,i⟩:=by unfold mayO;rw[show headB ⟨4,cl,sq,ak,aw,tk,tw,it,ct,pr,bu,i⟩=true from hh];rfl
   rw[e]
   clear e
   go_wp2_with(first|(refine zbx hS ?_;clear hS;intro b w hS)|(refine zal hS ?_;clear hS;intro b2 w hS)|(refine zsN hS ?_;clear hS;intro w hS)|(refine zl1 hS ?_)|((with_reducible apply Cr7);(with_reducible rfl);rfl;rfl;rfl;rfl;exact Tryz.underlying206;(refine frS ?_)))
   refine Aa7 (by kernel_rfl) (by kernel_rfl) hS ?_
   repeat(first|(refine zq1 ?_)|(refine zqN ?_)|(refine zqN ?_ (hc:=by first|exact Cells.here (vs:=[.string ak,.string aw]) rfl|exact Cells.there (Cells.here (vs:=[.string ak,.string aw]) rfl)))|(apply As7;rfl;(intro w;apply Af7;(with_reducible rfl);decide +kernel;(focus(simp only[fD,fI,fJ,Act.eval,fE,fF,fG,fH,fK];try rfl)));(intro w hS;exact Cf7 hp W w _ hS);(refine frS ?_))|(apply As7;rfl;(intro w;apply Bc7;(with_reducible rfl);rfl;decide +kernel;(focus(simp only[fD,fI,fJ,Act.eval,fE,fF,fG,fH,fK];try rfl)));(intro w hS;exact Ie7 _ _ _ _ _ _ _ _ _ _ _ _ W w _ hS);(refine frS ?_))|(refine qR ?_))
   clear hS
   intro w hS
   go_wp2_with fail
   go_ret
   exact⟨rfl,hS.drop.drop⟩
  ·skip
   have e:mayO ⟨5,cl,sq,ak,aw,tk,tw,it,ct,pr,bu,i⟩=bareB ⟨5,cl,sq,ak,aw,tk,tw,it,ct,pr,bu,i⟩:=by unfold mayO;rw[show headB ⟨5,cl,sq,ak,aw,tk,tw,it,ct,pr,bu,i⟩=true from hh];rfl
   rw[e]
   clear e
   go_wp2_with(first|(refine zbx hS ?_;clear hS;intro b w hS)|(refine zal hS ?_;clear hS;intro b2 w hS)|(refine zsN hS ?_;clear hS;intro w hS)|(refine zl1 hS ?_)|((with_reducible apply Cr7);(with_reducible rfl);rfl;rfl;rfl;rfl;exact Tryz.underlying206;(refine frS ?_)))
   refine Aa7 (by kernel_rfl) (by kernel_rfl) hS ?_
   repeat(first|(refine zq1 ?_)|(refine zqN ?_)|(refine zqN ?_ (hc:=by first|exact Cells.here (vs:=[.string ak,.string aw]) rfl|exact Cells.there (Cells.here (vs:=[.string ak,.string aw]) rfl)))|(apply As7;rfl;(intro w;apply Af7;(with_reducible rfl);decide +kernel;(focus(simp only[fD,fI,fJ,Act.eval,fE,fF,fG,fH,fK];try rfl)));(intro w hS;exact Cf7 hp W w _ hS);(refine frS ?_))|(apply As7;rfl;(intro w;apply Bc7;(with_reducible rfl);rfl;decide +kernel;(focus(simp only[fD,fI,fJ,Act.eval,fE,fF,fG,fH,fK];try rfl)));(intro w hS;exact If7 _ _ _ _ _ _ _ _ _ _ _ _ W w _ hS);(refine frS ?_))|(refine qR ?_))
   clear hS
   intro w hS
   go_wp2_with fail
   go_ret
   exact⟨rfl,hS.drop.drop⟩
  ·skip
   have e:mayO ⟨6,cl,sq,ak,aw,tk,tw,it,ct,pr,bu,i⟩=countsB ⟨6,cl,sq,ak,aw,tk,tw,it,ct,pr,bu,i⟩:=by unfold mayO;rw[show headB ⟨6,cl,sq,ak,aw,tk,tw,it,ct,pr,bu,i⟩=true from hh];rfl
   rw[e]
   clear e
   go_wp2_with(first|(refine zbx hS ?_;clear hS;intro b w hS)|(refine zal hS ?_;clear hS;intro b2 w hS)|(refine zsN hS ?_;clear hS;intro w hS)|(refine zl1 hS ?_)|((with_reducible apply Cr7);(with_reducible rfl);rfl;rfl;rfl;rfl;exact Tryz.underlying206;(refine frS ?_)))
   refine Aa7 (by kernel_rfl) (by kernel_rfl) hS ?_
   repeat(first|(refine zq1 ?_)|(refine zqN ?_)|(refine zqN ?_ (hc:=by first|exact Cells.here (vs:=[.string ak,.string aw]) rfl|exact Cells.there (Cells.here (vs:=[.string ak,.string aw]) rfl)))|(apply As7;rfl;(intro w;apply Af7;(with_reducible rfl);decide +kernel;(focus(simp only[fD,fI,fJ,Act.eval,fE,fF,fG,fH,fK];try rfl)));(intro w hS;exact Cf7 hp W w _ hS);(refine frS ?_))|(apply As7;rfl;(intro w;apply Bc7;(with_reducible rfl);rfl;decide +kernel;(focus(simp only[fD,fI,fJ,Act.eval,fE,fF,fG,fH,fK];try rfl)));(intro w hS;exact Di7 _ _ _ _ _ _ _ _ _ _ _ _ W w _ hS);(refine frS ?_))|(refine qR ?_))
   clear hS
   intro w hS
   go_wp2_with fail
   go_ret
   exact⟨rfl,hS.drop.drop⟩
  ·skip
   have e:mayO ⟨7,cl,sq,ak,aw,tk,tw,it,ct,pr,bu,i⟩=bareB ⟨7,cl,sq,ak,aw,tk,tw,it,ct,pr,bu,i⟩:=by unfold mayO;rw[show headB ⟨7,cl,sq,ak,aw,tk,tw,it,ct,pr,bu,i⟩=true from hh];rfl
   rw[e]
   clear e
   go_wp2_with(first|(refine zbx hS ?_;clear hS;intro b w hS)|(refine zal hS ?_;clear hS;intro b2 w hS)|(refine zsN hS ?_;clear hS;intro w hS)|(refine zl1 hS ?_)|((with_reducible apply Cr7);(with_reducible rfl);rfl;rfl;rfl;rfl;exact Tryz.underlying206;(refine frS ?_)))
   refine Aa7 (by kernel_rfl) (by kernel_rfl) hS ?_
   repeat(first|(refine zq1 ?_)|(refine zqN ?_)|(refine zqN ?_ (hc:=by first|exact Cells.here (vs:=[.string ak,.string aw]) rfl|exact Cells.there (Cells.here (vs:=[.string ak,.string aw]) rfl)))|(apply As7;rfl;(intro w;apply Af7;(with_reducible rfl);decide +kernel;(focus(simp only[fD,fI,fJ,Act.eval,fE,fF,fG,fH,fK];try rfl)));(intro w hS;exact Cf7 hp W w _ hS);(refine frS ?_))|(apply As7;rfl;(intro w;apply Bc7;(with_reducible rfl);rfl;decide +kernel;(focus(simp only[fD,fI,fJ,Act.eval,fE,fF,fG,fH,fK];try rfl)));(intro w hS;exact If7 _ _ _ _ _ _ _ _ _ _ _ _ W w _ hS);(refine frS ?_))|(refine qR ?_))
   clear hS
   intro w hS
   go_wp2_with fail
   go_ret
   exact⟨rfl,hS.drop.drop⟩
end
theorem Cy7{kd cl sq:Int}{ak aw tk tw:ByteArray}{it ct pr:Int}{bu:Bool}{i:Int}{r:Bool}(h:mayO ⟨kd,cl,sq,ak,aw,tk,tw,it,ct,pr,bu,i⟩=r)(W w:World)(R:List HP)(hS:St W R w):
  Calls Tryz.prog 85 #[oV kd cl sq ak aw tk tw it ct pr bu i] w fun e w'=>e=.returned (.bool r)∧St W R w':=h▸ML7 kd cl sq ak aw tk tw it ct pr bu i W w R hS
theorem eqWhich(a b:Int×Int)(w:World):(Op.equal 94 (eW a) (eW b)).run Tryz.prog w=.ok (decide (a=b)) w:=by
 have u3:=Tryz.underlying3
 have a3:=Tryz.isAgg3
 have z3:=Tryz.sizeOf3
 have hs:Tryz.prog.stoodInHeld 94=false:=by kernel_rfl
 obtain⟨a0,a1⟩:=a
 obtain⟨b0,b1⟩:=b
 have h:∀d:Nat,(Op.equalIn (d+2) 94 (eW (a0,a1)) (eW (b0,b1))).run Tryz.prog w=.ok (decide ((a0,a1)=(b0,b1))) w:=fun d=>by
  rw[Op.equalIn]
  simp only[Sem.run_bind,run_underlying Tryz.underlying94,Result.andThen_ok,run_program,hs,Bool.false_eq_true,if_false]
  rw[←Array.forIn_toList]
  simp only[List.forIn_cons,List.forIn_nil]
  go_simp
  by_cases h1:a0=b0 <;> by_cases h2:a1=b1 <;> simp[h1,h2]
 exact h 9998
theorem chkWhich(e:Bool)(a:Int×Int)(w:World):(Instr.checkKey e 10000 94 (eW a)).run Tryz.prog w=.ok () w:=by
 have u3:=Tryz.underlying3
 have a3:=Tryz.isAgg3
 have z3:=Tryz.sizeOf3
 have h1:∀(d:Nat) (x:Int),(Instr.checkKey e (d+1) 3 (.int .i64 x)).run Tryz.prog w=.ok () w:=fun d x=>by
  rw[Instr.checkKey]
  simp[run_underlying u3]
 have h:∀d:Nat,(Instr.checkKey e (d+2) 94 (eW a)).run Tryz.prog w=.ok () w:=fun d=>by
  rw[Instr.checkKey]
  simp only[Sem.run_bind,run_underlying Tryz.underlying94,Result.andThen_ok]
  rw[←Array.forIn_toList]
  simp only[List.forIn_cons,List.forIn_nil]
  go_simp
 exact h 9998
theorem kW:KeyOk Tryz.prog 94 eW:=KeyOk.deep Tryz.underlying94 (fun _ _=>rfl) chkWhich eqWhich (fun k=>by simp[Instr.sameBits])
theorem kEi:KeyOk Tryz.prog 3 eI:=KeyOk.int Tryz.underlying3
theorem mV:tyMap Tryz.prog 79=some (9,100):=by kernel_rfl
theorem mS:tyMap Tryz.prog 80=some (3,90):=by kernel_rfl
theorem mT:tyMap Tryz.prog 81=some (94,40):=by kernel_rfl
theorem mAr:tyMap Tryz.prog 82=some (94,4):=by kernel_rfl
theorem zV:tyZeroV Tryz.prog 100=some (.pointer none):=by kernel_rfl
theorem zS:tyZeroV Tryz.prog 90=some (eSs (0,rp0)):=by kernel_rfl
theorem zT:tyZeroV Tryz.prog 40=some (eTn ⟨0,0,⟨#[]⟩,⟨#[]⟩,⟨#[]⟩,⟨#[]⟩,0,0⟩):=by kernel_rfl
theorem zA:tyZeroV Tryz.prog 4=some (.bool false):=by kernel_rfl
theorem Ig7(W w:World)(R:List HP)(hS:St W R w):
  Calls Tryz.prog 15 #[] w fun e w'=>∃eb,e=.returned (.pointer (some ⟨eb,0,none⟩))∧St W (ecP eb ec0::R) w':=by
 go_enter Tryz.func15,Tryz.ntmps15
 go_wp2_with(first|((with_reducible apply Dv7 (t:=79) eS eN hS);(with_reducible rfl);rfl;clear hS;intro m1 w hS;(refine frS ?_))|((with_reducible apply Dv7 (t:=80) eI eSs hS);(with_reducible rfl);rfl;clear hS;intro m2 w hS;(refine frS ?_))|((with_reducible apply Dv7 (t:=81) eW eTn hS);(with_reducible rfl);rfl;clear hS;intro m3 w hS;(refine frS ?_))|((with_reducible apply Dv7 (t:=82) eW eU hS);(with_reducible rfl);rfl;clear hS;intro m4 w hS;(refine frS ?_))|(refine zbx hS ?_;clear hS;intro eb w hS))
 go_ret
 have hS1:St W (vauP []::_) w:=St.shutS [] hS
 exact⟨eb,rfl,ecShut (E:=[]) (e:=ec0) (m1:=m1) (m2:=m2) (m3:=m3) (m4:=m4) (List.Perm.refl _) (hS1.s (blk eb _ _::amap eS eN m1 []::vauP []::amap eI eSs m2 []::amap eW eTn m3 []::amap eW eU m4 []::R))⟩
abbrev ebB(eb m1 m2 m3 m4:Nat):HP:=blk eb [.map (some m1),.map (some m2),.map (some m3),.map (some m4)] 84
def vAt(E:Ev)(k:ByteArray):Vs:=((getL E k).map (·.2)).getD vs0
theorem PX7(eb m1 m2 m3 m4:Nat)(E:Ev)(k:ByteArray)(W w:World)(R:List HP)(hS:St W (ebB eb m1 m2 m3 m4::amap eS eN m1 (ptrsE E)::vauP E::R) w):
  Calls Tryz.prog 101 #[.pointer (some ⟨eb,0,none⟩),.string k] w fun e w'=>∃vb,e=.returned (.pointer (some ⟨vb,0,none⟩)) ∧
   St W (ebB eb m1 m2 m3 m4::amap eS eN m1 (ptrsE ((k,(vb,vAt E k))::delL E k))::vaultP vb (vAt E k)::vauP (delL E k)::R) w':=by
 have hnd:(E.map (·.1)).Nodup:=by rw[←AM7];exact amapKeys hS.drop
 cases hg:getL E k with
 | some x=>
  obtain⟨vb,V⟩:=x
  have hgl:getL (ptrsE E) k=some vb:=by rw[Cx7,hg];rfl
  have hv:vAt E k=V:=by unfold vAt;rw[hg];rfl
  have hp:=Bl7 hnd hg
  rw[hv]
  go_enter Tryz.func101,Tryz.ntmps101
  go_wp2_with(first|go_big_skip|((with_reducible apply Cj7 (ek:=eS) (ev:=eN) (k:=k) hS);(with_reducible rfl);rfl;rfl;rfl;(exact takeS);exact mV;exact kS;exact zV;exact hgl;(refine frS ?_))|(refine zl1 hS ?_))
  go_ret
  refine⟨vb,rfl,?_⟩
  have h1:=amapPerm (hp.map fun x=>(x.1,x.2.1)) hS.swap
  have h2:St W (vauP E::amap eS eN m1 (ptrsE ((k,(vb,V))::delL E k))::ebB eb m1 m2 m3 m4::R) w:=h1.s _
  have h3:=vauOpen (vauPerm hp h2)
  exact h3.s (ebB eb m1 m2 m3 m4::amap eS eN m1 _::vaultP vb V::vauP (delL E k)::R)
 | none=>
  have hgl:getL (ptrsE E) k=none:=by rw[Cx7,hg];rfl
  have hv:vAt E k=vs0:=by unfold vAt;rw[hg];rfl
  have hd:delL E k=E:=BG7 (BH7 hg)
  rw[hv,hd]
  go_enter Tryz.func101,Tryz.ntmps101
  go_wp2_with(first|go_big_skip|((with_reducible apply Fm7 (ek:=eS) (ev:=eN) (k:=k) hS);(with_reducible rfl);rfl;rfl;rfl;(exact takeS);exact mV;exact kS;exact zV;exact hgl;(refine frS ?_))|(refine zl1 hS ?_)|(go_at_call 162;refine(Mo7 W _ _ hS).mono ?_;clear hS;rintro e w ⟨vb,mb,bb,rfl,hS⟩)|((with_reducible apply Cd7 (ek:=eS) (ev:=eN) (k:=k) (u:=vb) hS);(with_reducible rfl);rfl;rfl;rfl;(exact takeS);(focus(rfl));exact mV;exact kS;clear hS;intro w hS;try(refine frS ?_)))
  go_ret
  refine⟨vb,rfl,?_⟩
  rw[Kp7,hd]at hS
  have h1:St W (vaultL vb mb bb [] [] 1 (ebB eb m1 m2 m3 m4::amap eS eN m1 ((k,vb)::ptrsE E)::vauP E::R)) w:=hS.s _
  have h2:=vaultShut (V:=vs0) h1
  have h3:=h2.s (ebB eb m1 m2 m3 m4::amap eS eN m1 ((k,vb)::ptrsE E)::vaultP vb vs0::vauP E::R)
  exact h3
theorem Ji7(vb:Nat)(V:Vs){N:Nat}(hw:PsW V.ps N)(hN:N≤1000000000)(W w:World)(R:List HP)(hS:St W (vaultP vb V::R) w):
  Calls Tryz.prog 107 #[.pointer (some ⟨vb,0,none⟩)] w fun e w'=>e=.returned (.bool (noneV V))∧St W (vaultP vb V::R) w':=by
 obtain⟨mb,bb,hS⟩:=vaultOpen hS
 have hl:=Ce7 V.ps
 have hl32:=BM7 hS.drop.drop
 have hpl:=hw.len
 go_enter Tryz.func107,Tryz.ntmps107
 by_cases h0:V.ps.length+V.L.length=0
 ·have d0:(((hdL V.ps).length:Int)+(V.L.length:Int)==0)=true:=by simp;omega
  have e:noneV V=(V.n==1):=by
   unfold noneV
   rw[decide_eq_true (show V.ps.length=0 by omega),decide_eq_true (show V.L.length=0 by omega)]
   simp
   rw[Bool.eq_iff_iff]
   simp
  rw[e]
  go_wp2_with(first|(go_at_call 124;refine(CX7 vb mb bb V.ps V.L V.n hw hN W _ _ hS).mono ?_;clear hS;rintro e w ⟨a,c,a2,c2,rfl,hS⟩))
  go_ret
  exact⟨rfl,vaultShut (hS.s _)⟩
 ·have d0:(((hdL V.ps).length:Int)+(V.L.length:Int)==0)=false:=by simp;omega
  have e:noneV V=false:=by
   cases hn:noneV V with
   | false=>rfl
   | true=>exact absurd (by rw[GV7 hn];rfl) h0
  rw[e]
  go_wp2_with(first|(go_at_call 124;refine(CX7 vb mb bb V.ps V.L V.n hw hN W _ _ hS).mono ?_;clear hS;rintro e w ⟨a,c,a2,c2,rfl,hS⟩))
  go_ret
  exact⟨rfl,vaultShut (hS.s _)⟩
theorem Ih7{V:Vs}{r:Bool}(h:noneV V=r)(vb:Nat){N:Nat}(hw:PsW V.ps N)(hN:N≤1000000000)(W w:World)(R:List HP)(hS:St W (vaultP vb V::R) w):
  Calls Tryz.prog 107 #[.pointer (some ⟨vb,0,none⟩)] w fun e w'=>e=.returned (.bool r)∧St W (vaultP vb V::R) w':=h▸Ji7 vb V hw hN W w R hS
def tidE(E:Ev)(k:ByteArray):Ev:=match getL E k with
 | none=>E
 | some x=>if noneV x.2=true then delL E k else E
theorem AU7(eb m1 m2 m3 m4:Nat)(E:Ev)(k:ByteArray){N:Nat}(hw:∀x∈E,PsW x.2.2.ps N)(hN:N≤1000000000)(W w:World)(R:List HP)(hS:St W (ebB eb m1 m2 m3 m4::amap eS eN m1 (ptrsE E)::vauP E::R) w):
  Calls Tryz.prog 43 #[.pointer (some ⟨eb,0,none⟩),.string k] w fun e w'=>e=.returned (.tuple #[])∧St W (ebB eb m1 m2 m3 m4::amap eS eN m1 (ptrsE (tidE E k))::vauP (tidE E k)::R) w':=by
 have hnd:(E.map (·.1)).Nodup:=by rw[←AM7];exact amapKeys hS.drop
 cases hg:getL E k with
 | none=>
  have hgl:getL (ptrsE E) k=none:=by rw[Cx7,hg];rfl
  have e:tidE E k=E:=by unfold tidE;rw[hg]
  rw[e]
  go_enter Tryz.func43,Tryz.ntmps43
  go_wp2_with(first|((with_reducible apply Fm7 (ek:=eS) (ev:=eN) (k:=k) hS);(with_reducible rfl);rfl;rfl;rfl;(exact takeS);exact mV;exact kS;exact zV;exact hgl;(refine frS ?_))|(refine zl1 hS ?_))
  go_end0
  exact⟨rfl,hS⟩
 | some x=>
  obtain⟨vb,V⟩:=x
  have hgl:getL (ptrsE E) k=some vb:=by rw[Cx7,hg];rfl
  have hp:=Bl7 hnd hg
  have Hw:=Lib.hid (hw _ (AK7 hg))
  have hS1:St W (vauP E::ebB eb m1 m2 m3 m4::amap eS eN m1 (ptrsE E)::R) w:=hS.s _
  have hS2:=vauOpen (vauPerm hp hS1)
  clear hS hS1
  have hS:=hS2
  clear hS2 hw
  cases hn:noneV V with
  | true=>
   have e:tidE E k=delL E k:=by unfold tidE;rw[hg];exact if_pos hn
   rw[e]
   go_enter Tryz.func43,Tryz.ntmps43
   go_wp2_with(first|((with_reducible apply Cj7 (ek:=eS) (ev:=eN) (k:=k) hS);(with_reducible rfl);rfl;rfl;rfl;(exact takeS);exact mV;exact kS;exact zV;exact hgl;(refine frS ?_))|(refine zl1 hS ?_)|(go_at_call 107;refine(Ih7 hn vb Hw.out hN W _ _ (hS.s (vaultP vb V::ebB eb m1 m2 m3 m4::amap eS eN m1 (ptrsE E)::vauP (delL E k)::R))).mono ?_;clear hS;rintro e w ⟨rfl,hS⟩)|((with_reducible apply IL7 (ek:=eS) (ev:=eN) (k:=k) hS);(with_reducible rfl);rfl;rfl;rfl;(exact takeS);exact mV;exact kS;clear hS;intro w hS;try(refine frS ?_)))
   go_end0
   rw[Kp7]at hS
   exact⟨rfl,hS.s _⟩
  | false=>
   have e:tidE E k=E:=by unfold tidE;rw[hg];exact if_neg (by rw[hn];exact Bool.noConfusion)
   rw[e]
   go_enter Tryz.func43,Tryz.ntmps43
   go_wp2_with(first|((with_reducible apply Cj7 (ek:=eS) (ev:=eN) (k:=k) hS);(with_reducible rfl);rfl;rfl;rfl;(exact takeS);exact mV;exact kS;exact zV;exact hgl;(refine frS ?_))|(refine zl1 hS ?_)|(go_at_call 107;refine(Ih7 hn vb Hw.out hN W _ _ (hS.s (vaultP vb V::ebB eb m1 m2 m3 m4::amap eS eN m1 (ptrsE E)::vauP (delL E k)::R))).mono ?_;clear hS;rintro e w ⟨rfl,hS⟩))
   go_end0
   have h1:=vauPerm hp.symm (vauShut (x:=(k,(vb,V))) (hS.s (vaultP vb V::vauP (delL E k)::ebB eb m1 m2 m3 m4::amap eS eN m1 (ptrsE E)::R)))
   exact⟨rfl,h1.s _⟩
theorem PY7{it ct x0 x1 x2 x3:Int}(h:oneI it ct=⟨x0,x1,x2,x3⟩)(h0:0≤it)(h4:it<4)(c0:1≤ct)(c1:ct≤1048576)(W w:World)(R:List HP)(hS:St W R w):
  Calls Tryz.prog 165 #[.int .i64 it,.int .i64 ct] w fun e w'=>e=.returned (.tuple #[.agg #[.int .i64 x0,.int .i64 x1,.int .i64 x2,.int .i64 x3],.bool true])∧St W R w':=by
 have d1:decide (ct<0)=false:=by simp;omega
 have d2:decide (1152921504606846976<ct)=false:=by simp;omega
 go_enter Tryz.func165,Tryz.ntmps165
 have hk:it=0∨it=1∨it=2∨it=3:=by omega
 clear h0 h4
 rcases hk with rfl|rfl|rfl|rfl
 all_goals
  simp only[oneI,setK,it0,It.mk.injEq,Int.reduceEq,if_true,if_false]at h
  obtain⟨rfl,rfl,rfl,rfl⟩:=h
  go_wp2_with(first|((fail_if_success (have:=gA));(refine zal hS ?_;clear hS;have gA:Nat:=0;intro b1 w hS))|((have:=gA);(refine zal hS ?_;clear hS;intro b2 w hS))|(refine zlN hS ?_)|(refine zsN hS ?_;clear hS;intro w hS)|(refine zs1 hS ?_;clear hS;intro w hS))
  (apply Ac7;rfl;rfl;rfl;rfl;exact hS;decide +kernel;(exact cesS);kernel_rfl)
  exact⟨rfl,hS.drop.drop⟩
theorem EX7{kd cl sq:Int}{ak aw tk tw:ByteArray}{it ct pr:Int}{bu:Bool}{i:Int}{x0 x1 x2 x3:Int}(h:oneI it ct=⟨x0,x1,x2,x3⟩)(h0:0≤it)(h4:it<4)(c0:1≤ct)(c1:ct≤1048576)(W w:World)(R:List HP)(hS:St W R w):
  Calls Tryz.prog 103 #[oV kd cl sq ak aw tk tw it ct pr bu i] w fun e w'=>e=.returned (.agg #[.int .i64 x0,.int .i64 x1,.int .i64 x2,.int .i64 x3])∧St W R w':=by
 go_enter Tryz.func103,Tryz.ntmps103
 go_wp2_with(first|(refine zbx hS ?_;clear hS;intro b w hS)|((fail_if_success (have:=gA));(refine zal hS ?_;clear hS;have gA:Nat:=0;intro b1 w hS))|((have:=gA);(refine zal hS ?_;clear hS;intro b2 w hS))|(refine zl1 hS ?_)|(refine zlN hS ?_)|(refine zsN hS ?_;clear hS;intro w hS)|(go_at_call 165;refine(PY7 h h0 h4 c0 c1 W _ _ hS).mono ?_;clear hS;rintro e w ⟨rfl,hS⟩))
 (apply Ao7;rfl;rfl;rfl;exact hS;decide +kernel;(exact cesS);kernel_rfl)
 exact⟨rfl,hS.drop.drop.drop⟩
end Go.Proofs.YtlmhakmoioogaaaGreat
end
