/-
  May of a request.
-/
import Derived.Test.YtienbkdjkjbelaaGreatJuRM5
import Derived.Test.YtienbkdjkjbelaaGreatJuRM23
set_option maxHeartbeats 16000000
set_option maxRecDepth 100000
set_option linter.unusedSimpArgs false
set_option linter.unusedVariables false
section
namespace Go.Proofs.YtienbkdjkjbelaaGreat
open Go.RowKit Go.Sl
section
variable(kd cl sq:Int)(ak aw tk tw:ByteArray)(it ct pr:Int)(bu:Bool)(i:Int)(W w:World)(R:List HP)
theorem Kq7(hS:St W R w):
  Calls Tryz.prog 108 #[oV kd cl sq ak aw tk tw it ct pr bu i] w fun e w'=>e=.returned (.bool (t6 ⟨kd,cl,sq,ak,aw,tk,tw,it,ct,pr,bu,i⟩))/\St W R w':=by
 go_enter Tryz.func108,Tryz.ntmps108;by_cases hk:kd=1\/kd=2\/kd=3\/kd=4\/kd=5\/kd=6\/kd=7
 case neg=>
  have e:t6 ⟨kd,cl,sq,ak,aw,tk,tw,it,ct,pr,bu,i⟩=false:=by unfold t6 G7;simp only[not_or]at hk;obtain⟨k1,k2,k3,k4,k5,k6,k7⟩:=hk;simp[k1,k2,k3,k4,k5,k6,k7]
  rw[e];by_cases h0:kd<0
  ·go_wp2_with(first|go_big_skip|refine zbx hS ?_;clear hS;intro b w hS|refine zal hS ?_;clear hS;intro b2 w hS|refine zsN hS ?_;clear hS;intro w hS|refine zl1 hS ?_);go_ret;exact⟨rfl,hS.drop.drop⟩
  ·have d0:decide (kd<0)=false:=by simpa using h0
   by_cases h8:8<=kd
   ·go_wp2_with(first|go_big_skip|refine zbx hS ?_;clear hS;intro b w hS|refine zal hS ?_;clear hS;intro b2 w hS|refine zsN hS ?_;clear hS;intro w hS|refine zl1 hS ?_);go_ret;exact⟨rfl,hS.drop.drop⟩
   ·obtain rfl:kd=0:=by omega
    clear d0 h0 h8 hk e;go_wp2_with(first|refine zbx hS ?_;clear hS;intro b w hS|refine zal hS ?_;clear hS;intro b2 w hS|refine zsN hS ?_;clear hS;intro w hS|refine zl1 hS ?_|(with_reducible apply BS7);rfl;rfl;rfl;rfl;rfl;exact Tryz.underlying233;refine frS ?_);go_ret;exact⟨rfl,hS.drop.drop⟩
 by_cases h1:1<=cl
 case neg=>
  have d1:decide (1<=cl)=false:=by simpa using h1
  have e:t6 ⟨kd,cl,sq,ak,aw,tk,tw,it,ct,pr,bu,i⟩=false:=by unfold t6 D7;simp[h1]
  rw[e];clear e
  rcases hk with rfl|rfl|rfl|rfl|rfl|rfl|rfl
  all_goals
   go_wp2_with(first|refine zbx hS ?_;clear hS;intro b w hS|refine zal hS ?_;clear hS;intro b2 w hS|refine zsN hS ?_;clear hS;intro w hS|refine zl1 hS ?_|(with_reducible apply BS7);rfl;rfl;rfl;rfl;rfl;exact Tryz.underlying233;refine frS ?_);refine Aa7 (by kernel_rfl) (by kernel_rfl) hS ?_
   repeat(first|go_big_quiet_skip|refine zq1 ?_|refine qR ?_)
   clear hS;intro w hS;go_wp2_with fail;go_ret;exact⟨rfl,hS.drop.drop⟩
 by_cases h2:cl<=1048576
 case neg=>
  have d2:decide (cl<=1048576)=false:=by simpa using h2
  have e:t6 ⟨kd,cl,sq,ak,aw,tk,tw,it,ct,pr,bu,i⟩=false:=by unfold t6 D7;simp[h2]
  rw[e];clear e
  rcases hk with rfl|rfl|rfl|rfl|rfl|rfl|rfl
  all_goals
   go_wp2_with(first|refine zbx hS ?_;clear hS;intro b w hS|refine zal hS ?_;clear hS;intro b2 w hS|refine zsN hS ?_;clear hS;intro w hS|refine zl1 hS ?_|(with_reducible apply BS7);rfl;rfl;rfl;rfl;rfl;exact Tryz.underlying233;refine frS ?_);refine Aa7 (by kernel_rfl) (by kernel_rfl) hS ?_
   repeat(first|go_big_quiet_skip|refine zq1 ?_|refine qR ?_)
   clear hS;intro w hS;go_wp2_with fail;go_ret;exact⟨rfl,hS.drop.drop⟩
 by_cases h3:1<=sq
 case neg=>
  have d3:decide (1<=sq)=false:=by simpa using h3
  have e:t6 ⟨kd,cl,sq,ak,aw,tk,tw,it,ct,pr,bu,i⟩=false:=by unfold t6 D7;simp[h3]
  rw[e];clear e
  rcases hk with rfl|rfl|rfl|rfl|rfl|rfl|rfl
  all_goals
   go_wp2_with(first|refine zbx hS ?_;clear hS;intro b w hS|refine zal hS ?_;clear hS;intro b2 w hS|refine zsN hS ?_;clear hS;intro w hS|refine zl1 hS ?_|(with_reducible apply BS7);rfl;rfl;rfl;rfl;rfl;exact Tryz.underlying233;refine frS ?_);refine Aa7 (by kernel_rfl) (by kernel_rfl) hS ?_
   repeat(first|go_big_quiet_skip|refine zq1 ?_|refine qR ?_)
   clear hS;intro w hS;go_wp2_with fail;go_ret;exact⟨rfl,hS.drop.drop⟩
 by_cases h4:sq<=1099511627776
 case neg=>
  have d4:decide (sq<=1099511627776)=false:=by simpa using h4
  have e:t6 ⟨kd,cl,sq,ak,aw,tk,tw,it,ct,pr,bu,i⟩=false:=by unfold t6 D7;simp[h4]
  rw[e];clear e
  rcases hk with rfl|rfl|rfl|rfl|rfl|rfl|rfl
  all_goals
   go_wp2_with(first|refine zbx hS ?_;clear hS;intro b w hS|refine zal hS ?_;clear hS;intro b2 w hS|refine zsN hS ?_;clear hS;intro w hS|refine zl1 hS ?_|(with_reducible apply BS7);rfl;rfl;rfl;rfl;rfl;exact Tryz.underlying233;refine frS ?_);refine Aa7 (by kernel_rfl) (by kernel_rfl) hS ?_
   repeat(first|go_big_quiet_skip|refine zq1 ?_|refine qR ?_)
   clear hS;intro w hS;go_wp2_with fail;go_ret;exact⟨rfl,hS.drop.drop⟩
 cases hp:af4 ak aw with
 | false=>
  skip
  have e:t6 ⟨kd,cl,sq,ak,aw,tk,tw,it,ct,pr,bu,i⟩=false:=by unfold t6 D7;simp[hp]
  rw[e];clear e
  rcases hk with rfl|rfl|rfl|rfl|rfl|rfl|rfl
  all_goals
   go_wp2_with(first|refine zbx hS ?_;clear hS;intro b w hS|refine zal hS ?_;clear hS;intro b2 w hS|refine zsN hS ?_;clear hS;intro w hS|refine zl1 hS ?_|(with_reducible apply BS7);rfl;rfl;rfl;rfl;rfl;exact Tryz.underlying233;refine frS ?_);refine Aa7 (by kernel_rfl) (by kernel_rfl) hS ?_
   repeat(first|go_big_quiet_skip|refine zq1 ?_|refine zqN ?_ (hc:=by first|exact d8.here (vs:=[.string ak,.string aw]) rfl|exact d8.there (d8.here (vs:=[.string ak,.string aw]) rfl))|apply As7;rfl;intro w;apply Aj7;rfl;decide +kernel;(focus(simp only[fD,fI,fJ,Act.eval,fE,fF,fG,fH,fK];try rfl));intro w hS;exact BJ7 hp W w _ hS;refine frS ?_|refine qR ?_)
   clear hS;intro w hS;go_wp2_with fail;go_ret;exact⟨rfl,hS.drop.drop⟩
 | true=>
  have hh:(decide (1<=cl)&&(decide (cl<=1048576)&&(decide (1<=sq)&&(decide (sq<=1099511627776)&&af4 ak aw))))=true:=by simp[h1,h2,h3,h4,hp]
  rcases hk with rfl|rfl|rfl|rfl|rfl|rfl|rfl
  ·skip
   have e:t6 ⟨1,cl,sq,ak,aw,tk,tw,it,ct,pr,bu,i⟩=r7 ⟨1,cl,sq,ak,aw,tk,tw,it,ct,pr,bu,i⟩:=by unfold t6;rw[show D7 ⟨1,cl,sq,ak,aw,tk,tw,it,ct,pr,bu,i⟩=true from hh];rfl
   rw[e];clear e;go_wp2_with(first|refine zbx hS ?_;clear hS;intro b w hS|refine zal hS ?_;clear hS;intro b2 w hS|refine zsN hS ?_;clear hS;intro w hS|refine zl1 hS ?_|(with_reducible apply BS7);rfl;rfl;rfl;rfl;rfl;exact Tryz.underlying233;refine frS ?_);refine Aa7 (by kernel_rfl) (by kernel_rfl) hS ?_
   repeat(first|refine zq1 ?_|refine zqN ?_|refine zqN ?_ (hc:=by first|exact d8.here (vs:=[.string ak,.string aw]) rfl|exact d8.there (d8.here (vs:=[.string ak,.string aw]) rfl))|apply As7;rfl;intro w;apply Aj7;rfl;decide +kernel;(focus(simp only[fD,fI,fJ,Act.eval,fE,fF,fG,fH,fK];try rfl));intro w hS;exact BJ7 hp W w _ hS;refine frS ?_|apply As7;rfl;intro w;apply AO7;rfl;rfl;decide +kernel;(focus(simp only[fD,fI,fJ,Act.eval,fE,fF,fG,fH,fK];try rfl));intro w hS;exact CD7 _ _ _ _ _ _ _ _ _ _ _ _ W w _ hS;refine frS ?_|refine qR ?_)
   clear hS;intro w hS;go_wp2_with fail;go_ret;exact⟨rfl,hS.drop.drop⟩
  ·skip
   have e:t6 ⟨2,cl,sq,ak,aw,tk,tw,it,ct,pr,bu,i⟩=K6 ⟨2,cl,sq,ak,aw,tk,tw,it,ct,pr,bu,i⟩:=by unfold t6;rw[show D7 ⟨2,cl,sq,ak,aw,tk,tw,it,ct,pr,bu,i⟩=true from hh];rfl
   rw[e];clear e;go_wp2_with(first|refine zbx hS ?_;clear hS;intro b w hS|refine zal hS ?_;clear hS;intro b2 w hS|refine zsN hS ?_;clear hS;intro w hS|refine zl1 hS ?_|(with_reducible apply BS7);rfl;rfl;rfl;rfl;rfl;exact Tryz.underlying233;refine frS ?_);refine Aa7 (by kernel_rfl) (by kernel_rfl) hS ?_
   repeat(first|refine zq1 ?_|refine zqN ?_|refine zqN ?_ (hc:=by first|exact d8.here (vs:=[.string ak,.string aw]) rfl|exact d8.there (d8.here (vs:=[.string ak,.string aw]) rfl))|apply As7;rfl;intro w;apply Aj7;rfl;decide +kernel;(focus(simp only[fD,fI,fJ,Act.eval,fE,fF,fG,fH,fK];try rfl));intro w hS;exact BJ7 hp W w _ hS;refine frS ?_|apply As7;rfl;intro w;apply AO7;rfl;rfl;decide +kernel;(focus(simp only[fD,fI,fJ,Act.eval,fE,fF,fG,fH,fK];try rfl));intro w hS;exact Jc7 _ _ _ _ _ _ _ _ _ _ _ _ W w _ hS;refine frS ?_|refine qR ?_)
   clear hS;intro w hS;go_wp2_with fail;go_ret;exact⟨rfl,hS.drop.drop⟩
  ·skip
   have e:t6 ⟨3,cl,sq,ak,aw,tk,tw,it,ct,pr,bu,i⟩=F7 ⟨3,cl,sq,ak,aw,tk,tw,it,ct,pr,bu,i⟩:=by unfold t6;rw[show D7 ⟨3,cl,sq,ak,aw,tk,tw,it,ct,pr,bu,i⟩=true from hh];rfl
   rw[e];clear e;go_wp2_with(first|refine zbx hS ?_;clear hS;intro b w hS|refine zal hS ?_;clear hS;intro b2 w hS|refine zsN hS ?_;clear hS;intro w hS|refine zl1 hS ?_|(with_reducible apply BS7);rfl;rfl;rfl;rfl;rfl;exact Tryz.underlying233;refine frS ?_);refine Aa7 (by kernel_rfl) (by kernel_rfl) hS ?_
   repeat(first|refine zq1 ?_|refine zqN ?_|refine zqN ?_ (hc:=by first|exact d8.here (vs:=[.string ak,.string aw]) rfl|exact d8.there (d8.here (vs:=[.string ak,.string aw]) rfl))|apply As7;rfl;intro w;apply Aj7;rfl;decide +kernel;(focus(simp only[fD,fI,fJ,Act.eval,fE,fF,fG,fH,fK];try rfl));intro w hS;exact BJ7 hp W w _ hS;refine frS ?_|apply As7;rfl;intro w;apply AO7;rfl;rfl;decide +kernel;(focus(simp only[fD,fI,fJ,Act.eval,fE,fF,fG,fH,fK];try rfl));intro w hS;exact HC7 _ _ _ _ _ _ _ _ _ _ _ _ W w _ hS;refine frS ?_|refine qR ?_)
   clear hS;intro w hS;go_wp2_with fail;go_ret;exact⟨rfl,hS.drop.drop⟩
  ·skip
   have e:t6 ⟨4,cl,sq,ak,aw,tk,tw,it,ct,pr,bu,i⟩=D8 ⟨4,cl,sq,ak,aw,tk,tw,it,ct,pr,bu,i⟩:=by unfold t6;rw[show D7 ⟨4,cl,sq,ak,aw,tk,tw,it,ct,pr,bu,i⟩=true from hh];rfl
   rw[e];clear e;go_wp2_with(first|refine zbx hS ?_;clear hS;intro b w hS|refine zal hS ?_;clear hS;intro b2 w hS|refine zsN hS ?_;clear hS;intro w hS|refine zl1 hS ?_|(with_reducible apply BS7);rfl;rfl;rfl;rfl;rfl;exact Tryz.underlying233;refine frS ?_);refine Aa7 (by kernel_rfl) (by kernel_rfl) hS ?_
   repeat(first|refine zq1 ?_|refine zqN ?_|refine zqN ?_ (hc:=by first|exact d8.here (vs:=[.string ak,.string aw]) rfl|exact d8.there (d8.here (vs:=[.string ak,.string aw]) rfl))|apply As7;rfl;intro w;apply Aj7;rfl;decide +kernel;(focus(simp only[fD,fI,fJ,Act.eval,fE,fF,fG,fH,fK];try rfl));intro w hS;exact BJ7 hp W w _ hS;refine frS ?_|apply As7;rfl;intro w;apply AO7;rfl;rfl;decide +kernel;(focus(simp only[fD,fI,fJ,Act.eval,fE,fF,fG,fH,fK];try rfl));intro w hS;exact GN7 _ _ _ _ _ _ _ _ _ _ _ _ W w _ hS;refine frS ?_|refine qR ?_)
   clear hS;intro w hS;go_wp2_with fail;go_ret;exact⟨rfl,hS.drop.drop⟩
  ·skip
   have e:t6 ⟨5,cl,sq,ak,aw,tk,tw,it,ct,pr,bu,i⟩=bs4 ⟨5,cl,sq,ak,aw,tk,tw,it,ct,pr,bu,i⟩:=by unfold t6;rw[show D7 ⟨5,cl,sq,ak,aw,tk,tw,it,ct,pr,bu,i⟩=true from hh];rfl
   rw[e];clear e;go_wp2_with(first|refine zbx hS ?_;clear hS;intro b w hS|refine zal hS ?_;clear hS;intro b2 w hS|refine zsN hS ?_;clear hS;intro w hS|refine zl1 hS ?_|(with_reducible apply BS7);rfl;rfl;rfl;rfl;rfl;exact Tryz.underlying233;refine frS ?_);refine Aa7 (by kernel_rfl) (by kernel_rfl) hS ?_
   repeat(first|refine zq1 ?_|refine zqN ?_|refine zqN ?_ (hc:=by first|exact d8.here (vs:=[.string ak,.string aw]) rfl|exact d8.there (d8.here (vs:=[.string ak,.string aw]) rfl))|apply As7;rfl;intro w;apply Aj7;rfl;decide +kernel;(focus(simp only[fD,fI,fJ,Act.eval,fE,fF,fG,fH,fK];try rfl));intro w hS;exact BJ7 hp W w _ hS;refine frS ?_|apply As7;rfl;intro w;apply AO7;rfl;rfl;decide +kernel;(focus(simp only[fD,fI,fJ,Act.eval,fE,fF,fG,fH,fK];try rfl));intro w hS;exact GO7 _ _ _ _ _ _ _ _ _ _ _ _ W w _ hS;refine frS ?_|refine qR ?_)
   clear hS;intro w hS;go_wp2_with fail;go_ret;exact⟨rfl,hS.drop.drop⟩
  ·skip
   have e:t6 ⟨6,cl,sq,ak,aw,tk,tw,it,ct,pr,bu,i⟩=r7 ⟨6,cl,sq,ak,aw,tk,tw,it,ct,pr,bu,i⟩:=by unfold t6;rw[show D7 ⟨6,cl,sq,ak,aw,tk,tw,it,ct,pr,bu,i⟩=true from hh];rfl
   rw[e];clear e;go_wp2_with(first|refine zbx hS ?_;clear hS;intro b w hS|refine zal hS ?_;clear hS;intro b2 w hS|refine zsN hS ?_;clear hS;intro w hS|refine zl1 hS ?_|(with_reducible apply BS7);rfl;rfl;rfl;rfl;rfl;exact Tryz.underlying233;refine frS ?_);refine Aa7 (by kernel_rfl) (by kernel_rfl) hS ?_
   repeat(first|refine zq1 ?_|refine zqN ?_|refine zqN ?_ (hc:=by first|exact d8.here (vs:=[.string ak,.string aw]) rfl|exact d8.there (d8.here (vs:=[.string ak,.string aw]) rfl))|apply As7;rfl;intro w;apply Aj7;rfl;decide +kernel;(focus(simp only[fD,fI,fJ,Act.eval,fE,fF,fG,fH,fK];try rfl));intro w hS;exact BJ7 hp W w _ hS;refine frS ?_|apply As7;rfl;intro w;apply AO7;rfl;rfl;decide +kernel;(focus(simp only[fD,fI,fJ,Act.eval,fE,fF,fG,fH,fK];try rfl));intro w hS;exact CD7 _ _ _ _ _ _ _ _ _ _ _ _ W w _ hS;refine frS ?_|refine qR ?_)
   clear hS;intro w hS;go_wp2_with fail;go_ret;exact⟨rfl,hS.drop.drop⟩
  ·skip
   have e:t6 ⟨7,cl,sq,ak,aw,tk,tw,it,ct,pr,bu,i⟩=bs4 ⟨7,cl,sq,ak,aw,tk,tw,it,ct,pr,bu,i⟩:=by unfold t6;rw[show D7 ⟨7,cl,sq,ak,aw,tk,tw,it,ct,pr,bu,i⟩=true from hh];rfl
   rw[e];clear e;go_wp2_with(first|refine zbx hS ?_;clear hS;intro b w hS|refine zal hS ?_;clear hS;intro b2 w hS|refine zsN hS ?_;clear hS;intro w hS|refine zl1 hS ?_|(with_reducible apply BS7);rfl;rfl;rfl;rfl;rfl;exact Tryz.underlying233;refine frS ?_);refine Aa7 (by kernel_rfl) (by kernel_rfl) hS ?_
   repeat(first|refine zq1 ?_|refine zqN ?_|refine zqN ?_ (hc:=by first|exact d8.here (vs:=[.string ak,.string aw]) rfl|exact d8.there (d8.here (vs:=[.string ak,.string aw]) rfl))|apply As7;rfl;intro w;apply Aj7;rfl;decide +kernel;(focus(simp only[fD,fI,fJ,Act.eval,fE,fF,fG,fH,fK];try rfl));intro w hS;exact BJ7 hp W w _ hS;refine frS ?_|apply As7;rfl;intro w;apply AO7;rfl;rfl;decide +kernel;(focus(simp only[fD,fI,fJ,Act.eval,fE,fF,fG,fH,fK];try rfl));intro w hS;exact GO7 _ _ _ _ _ _ _ _ _ _ _ _ W w _ hS;refine frS ?_|refine qR ?_)
   clear hS;intro w hS;go_wp2_with fail;go_ret;exact⟨rfl,hS.drop.drop⟩
end
theorem BW7{kd cl sq:Int}{ak aw tk tw:ByteArray}{it ct pr:Int}{bu:Bool}{i:Int}{r:Bool}(h:t6 ⟨kd,cl,sq,ak,aw,tk,tw,it,ct,pr,bu,i⟩=r)(W w:World)(R:List HP)(hS:St W R w):
  Calls Tryz.prog 108 #[oV kd cl sq ak aw tk tw it ct pr bu i] w fun e w'=>e=.returned (.bool r)/\St W R w':=h▸Kq7 kd cl sq ak aw tk tw it ct pr bu i W w R hS
theorem dq4(a b:Int×Int)(w:World):(Op.equal 127 (eW a) (eW b)).run Tryz.prog w=.ok (decide (a=b)) w:=by
 have u3:=Tryz.underlying3;have a3:=Tryz.isAgg3;have z3:=Tryz.sizeOf3;have hs:Tryz.prog.stoodInHeld 127=false:=by kernel_rfl
 obtain⟨a0,a1⟩:=a;obtain⟨b0,b1⟩:=b
 have h:∀d:Nat,(Op.equalIn (d+2) 127 (eW (a0,a1)) (eW (b0,b1))).run Tryz.prog w=.ok (decide ((a0,a1)=(b0,b1))) w:=fun d=>by
  rw[Op.equalIn];simp only[Sem.run_bind,run_underlying Tryz.underlying127,Result.andThen_ok,run_program,hs,Bool.false_eq_true,if_false];rw[<-Array.forIn_toList];simp only[List.forIn_cons,List.forIn_nil]
  go_simp
  by_cases h1:a0=b0 <;> by_cases h2:a1=b1 <;> simp[h1,h2]
 exact h 9998
theorem db4(e:Bool)(a:Int×Int)(w:World):(Instr.checkKey e 10000 127 (eW a)).run Tryz.prog w=.ok () w:=by
 have u3:=Tryz.underlying3;have a3:=Tryz.isAgg3;have z3:=Tryz.sizeOf3;have h1:∀(d:Nat) (x:Int),(Instr.checkKey e (d+1) 3 (.I x)).run Tryz.prog w=.ok () w:=fun d x=>by rw[Instr.checkKey];simp[run_underlying u3]
 have h:∀d:Nat,(Instr.checkKey e (d+2) 127 (eW a)).run Tryz.prog w=.ok () w:=fun d=>by
  rw[Instr.checkKey];simp only[Sem.run_bind,run_underlying Tryz.underlying127,Result.andThen_ok];rw[<-Array.forIn_toList];simp only[List.forIn_cons,List.forIn_nil]
  go_simp
 exact h 9998
theorem kW:KeyOk Tryz.prog 127 eW:=KeyOk.deep Tryz.underlying127 (fun _ _=>rfl) db4 dq4 (fun k=>by simp[Instr.sameBits])
theorem kEi:KeyOk Tryz.prog 3 eI:=KeyOk.int Tryz.underlying3
theorem mV:F6 Tryz.prog 107=some (9,114):=by kernel_rfl
theorem mS:F6 Tryz.prog 108=some (3,121):=by kernel_rfl
theorem mT:F6 Tryz.prog 109=some (127,97):=by kernel_rfl
theorem mAr:F6 Tryz.prog 110=some (127,4):=by kernel_rfl
theorem zV:C7 Tryz.prog 114=some (.pointer none):=by kernel_rfl
theorem zS:C7 Tryz.prog 121=some (eSs (0,rp0)):=by kernel_rfl
theorem zT:C7 Tryz.prog 97=some (eTn ⟨0,0,⟨#[]⟩,⟨#[]⟩,⟨#[]⟩,⟨#[]⟩,0,0⟩):=by kernel_rfl
theorem zA:C7 Tryz.prog 4=some (.bool false):=by kernel_rfl
theorem GP7(W w:World)(R:List HP)(hS:St W R w):
  Calls Tryz.prog 26 #[] w fun e w'=>∃eb,e=.returned (.P eb)/\St W (ecP eb ec0::R) w':=by
 go_enter Tryz.func26,Tryz.ntmps26;go_wp2_with(first|(with_reducible apply Cm7 (t:=107) eS eN hS);rfl;rfl;clear hS;intro m1 w hS;refine frS ?_|(with_reducible apply Cm7 (t:=108) eI eSs hS);rfl;rfl;clear hS;intro m2 w hS;refine frS ?_|(with_reducible apply Cm7 (t:=109) eW eTn hS);rfl;rfl;clear hS;intro m3 w hS;refine frS ?_|(with_reducible apply Cm7 (t:=110) eW eU hS);rfl;rfl;clear hS;intro m4 w hS;refine frS ?_|refine zbx hS ?_;clear hS;intro eb w hS);go_ret;have hS1:St W (m6 []::_) w:=St.shutS [] hS;exact⟨eb,rfl,cA4 (E:=[]) (e:=ec0) (m1:=m1) (m2:=m2) (m3:=m3) (m4:=m4) (List.Perm.refl _) (hS1.s (blk eb _ _::d9 eS eN m1 []::m6 []::d9 eI eSs m2 []::d9 eW eTn m3 []::d9 eW eU m4 []::R))⟩
abbrev ebB(eb m1 m2 m3 m4:Nat):HP:=blk eb [.map (some m1),.map (some m2),.map (some m3),.map (some m4)] 112
def vAt(E:Ev)(k:ByteArray):Vs:=((j5 E k).map (·.2)).getD vs0
theorem NC7(eb m1 m2 m3 m4:Nat)(E:Ev)(k:ByteArray)(W w:World)(R:List HP)(hS:St W (ebB eb m1 m2 m3 m4::d9 eS eN m1 (j9 E)::m6 E::R) w):
  Calls Tryz.prog 109 #[.P eb,.string k] w fun e w'=>∃vb,e=.returned (.P vb) /\
   St W (ebB eb m1 m2 m3 m4::d9 eS eN m1 (j9 ((k,(vb,vAt E k))::i9 E k))::F8 vb (vAt E k)::m6 (i9 E k)::R) w':=by
 have hnd:(E.map (·.1)).Nodup:=by rw[<-AD7];exact H6 hS.drop
 cases hg:j5 E k with
 | some x=>
  obtain⟨vb,V⟩:=x;have hgl:j5 (j9 E) k=some vb:=by rw[Cv7,hg];rfl
  have hv:vAt E k=V:=by unfold vAt;rw[hg];rfl
  have hp:=BV7 hnd hg;rw[hv];go_enter Tryz.func109,Tryz.ntmps109;go_wp2_with(first|go_big_skip|(with_reducible apply En7 (ek:=eS) (ev:=eN) (k:=k) hS);rfl;rfl;rfl;rfl;exact i7;exact mV;exact kS;exact zV;exact hgl;refine frS ?_|refine zl1 hS ?_);go_ret;refine⟨vb,rfl,?_⟩;have h1:=cT4 (hp.map fun x=>(x.1,x.2.1)) hS.swap;have h2:St W (m6 E::d9 eS eN m1 (j9 ((k,(vb,V))::i9 E k))::ebB eb m1 m2 m3 m4::R) w:=h1.s _;have h3:=ch4 (bt4 hp h2);exact h3.s (ebB eb m1 m2 m3 m4::d9 eS eN m1 _::F8 vb V::m6 (i9 E k)::R)
 | none=>
  have hgl:j5 (j9 E) k=none:=by rw[Cv7,hg];rfl
  have hv:vAt E k=vs0:=by unfold vAt;rw[hg];rfl
  have hd:i9 E k=E:=BI7 (BO7 hg);rw[hv,hd];go_enter Tryz.func109,Tryz.ntmps109;go_wp2_with(first|go_big_skip|(with_reducible apply Gr7 (ek:=eS) (ev:=eN) (k:=k) hS);rfl;rfl;rfl;rfl;exact i7;exact mV;exact kS;exact zV;exact hgl;refine frS ?_|refine zl1 hS ?_|go_at_call 144;refine(Kb7 W _ _ hS).mono ?_;clear hS;rintro e w ⟨vb,mb,bb,rfl,hS⟩|((with_reducible apply Bq7 (ek:=eS) (ev:=eN) (k:=k) (u:=vb) hS);rfl;rfl;rfl;rfl;exact i7;(focus(rfl));exact mV;exact kS;clear hS;intro w hS;try(refine frS ?_)));go_ret;refine⟨vb,rfl,?_⟩;rw[Ir7,hd]at hS;have h1:St W (w6 vb mb bb [] [] 1 (ebB eb m1 m2 m3 m4::d9 eS eN m1 ((k,vb)::j9 E)::m6 E::R)) w:=hS.s _;have h2:=aC4 (V:=vs0) h1;have h3:=h2.s (ebB eb m1 m2 m3 m4::d9 eS eN m1 ((k,vb)::j9 E)::F8 vb vs0::m6 E::R);exact h3
theorem HD7(vb:Nat)(V:Vs){N:Nat}(hw:PsW V.ps N)(hN:N<=1000000000)(W w:World)(R:List HP)(hS:St W (F8 vb V::R) w):
  Calls Tryz.prog 116 #[.P vb] w fun e w'=>e=.returned (.bool (w7 V))/\St W (F8 vb V::R) w':=by
 obtain⟨mb,bb,hS⟩:=bG4 hS;have hl:=ED7 V.ps;have hl32:=CX7 hS.drop.drop;have hpl:=hw.len;go_enter Tryz.func116,Tryz.ntmps116;by_cases h0:V.ps.length+V.L.length=0
 ·have d0:(((hdL V.ps).length:Int)+(V.L.length:Int)==0)=true:=by simp;omega
  have e:w7 V=(V.n==1):=by unfold w7;rw[decide_eq_true (show V.ps.length=0 by omega),decide_eq_true (show V.L.length=0 by omega)];simp;rw[Bool.eq_iff_iff];simp
  rw[e];go_wp2_with(first|go_at_call 83;refine(Fk7 vb mb bb V.ps V.L V.n hw hN W _ _ hS).mono ?_;clear hS;rintro e w ⟨a,c,a2,c2,rfl,hS⟩);go_ret;exact⟨rfl,aC4 (hS.s _)⟩
 ·have d0:(((hdL V.ps).length:Int)+(V.L.length:Int)==0)=false:=by simp;omega
  have e:w7 V=false:=by
   cases hn:w7 V with
   | false=>rfl
   | true=>exact absurd (by rw[Ma7 hn];rfl) h0
  rw[e];go_wp2_with(first|go_at_call 83;refine(Fk7 vb mb bb V.ps V.L V.n hw hN W _ _ hS).mono ?_;clear hS;rintro e w ⟨a,c,a2,c2,rfl,hS⟩);go_ret;exact⟨rfl,aC4 (hS.s _)⟩
theorem GQ7{V:Vs}{r:Bool}(h:w7 V=r)(vb:Nat){N:Nat}(hw:PsW V.ps N)(hN:N<=1000000000)(W w:World)(R:List HP)(hS:St W (F8 vb V::R) w):
  Calls Tryz.prog 116 #[.P vb] w fun e w'=>e=.returned (.bool r)/\St W (F8 vb V::R) w':=h▸HD7 vb V hw hN W w R hS
def bN4(E:Ev)(k:ByteArray):Ev:=match j5 E k with
 | none=>E
 | some x=>if w7 x.2=true then i9 E k else E
theorem AH7(eb m1 m2 m3 m4:Nat)(E:Ev)(k:ByteArray){N:Nat}(hw:∀x∈E,PsW x.2.2.ps N)(hN:N<=1000000000)(W w:World)(R:List HP)(hS:St W (ebB eb m1 m2 m3 m4::d9 eS eN m1 (j9 E)::m6 E::R) w):
  Calls Tryz.prog 72 #[.P eb,.string k] w fun e w'=>e=.returned (.tuple #[])/\St W (ebB eb m1 m2 m3 m4::d9 eS eN m1 (j9 (bN4 E k))::m6 (bN4 E k)::R) w':=by
 have hnd:(E.map (·.1)).Nodup:=by rw[<-AD7];exact H6 hS.drop
 cases hg:j5 E k with
 | none=>
  have hgl:j5 (j9 E) k=none:=by rw[Cv7,hg];rfl
  have e:bN4 E k=E:=by unfold bN4;rw[hg]
  rw[e];go_enter Tryz.func72,Tryz.ntmps72;go_wp2_with(first|(with_reducible apply Gr7 (ek:=eS) (ev:=eN) (k:=k) hS);rfl;rfl;rfl;rfl;exact i7;exact mV;exact kS;exact zV;exact hgl;refine frS ?_|refine zl1 hS ?_);go_end0;exact⟨rfl,hS⟩
 | some x=>
  obtain⟨vb,V⟩:=x;have hgl:j5 (j9 E) k=some vb:=by rw[Cv7,hg];rfl
  have hp:=BV7 hnd hg;have Hw:=jH (hw _ (Az7 hg));have hS1:St W (m6 E::ebB eb m1 m2 m3 m4::d9 eS eN m1 (j9 E)::R) w:=hS.s _;have hS2:=ch4 (bt4 hp hS1);clear hS hS1;have hS:=hS2;clear hS2 hw
  cases hn:w7 V with
  | true=>
   have e:bN4 E k=i9 E k:=by unfold bN4;rw[hg];exact if_pos hn
   rw[e];go_enter Tryz.func72,Tryz.ntmps72;go_wp2_with(first|(with_reducible apply En7 (ek:=eS) (ev:=eN) (k:=k) hS);rfl;rfl;rfl;rfl;exact i7;exact mV;exact kS;exact zV;exact hgl;refine frS ?_|refine zl1 hS ?_|go_at_call 116;refine(GQ7 hn vb Hw.out hN W _ _ (hS.s (F8 vb V::ebB eb m1 m2 m3 m4::d9 eS eN m1 (j9 E)::m6 (i9 E k)::R))).mono ?_;clear hS;rintro e w ⟨rfl,hS⟩|((with_reducible apply Hp7 (ek:=eS) (ev:=eN) (k:=k) hS);rfl;rfl;rfl;rfl;exact i7;exact mV;exact kS;clear hS;intro w hS;try(refine frS ?_)));go_end0;rw[Ir7]at hS;exact⟨rfl,hS.s _⟩
  | false=>
   have e:bN4 E k=E:=by unfold bN4;rw[hg];exact if_neg (by rw[hn];exact Bool.noConfusion)
   rw[e];go_enter Tryz.func72,Tryz.ntmps72;go_wp2_with(first|(with_reducible apply En7 (ek:=eS) (ev:=eN) (k:=k) hS);rfl;rfl;rfl;rfl;exact i7;exact mV;exact kS;exact zV;exact hgl;refine frS ?_|refine zl1 hS ?_|go_at_call 116;refine(GQ7 hn vb Hw.out hN W _ _ (hS.s (F8 vb V::ebB eb m1 m2 m3 m4::d9 eS eN m1 (j9 E)::m6 (i9 E k)::R))).mono ?_;clear hS;rintro e w ⟨rfl,hS⟩);go_end0;have h1:=bt4 hp.symm (ci4 (x:=(k,(vb,V))) (hS.s (F8 vb V::m6 (i9 E k)::ebB eb m1 m2 m3 m4::d9 eS eN m1 (j9 E)::R)));exact⟨rfl,h1.s _⟩
theorem ND7{it ct x0 x1 x2 x3:Int}(h:r9 it ct=⟨x0,x1,x2,x3⟩)(h0:0<=it)(h4:it<4)(c0:1<=ct)(c1:ct<=1048576)(W w:World)(R:List HP)(hS:St W R w):
  Calls Tryz.prog 31 #[.I it,.I ct] w fun e w'=>e=.returned (.tuple #[.agg #[.I x0,.I x1,.I x2,.I x3],.bool true])/\St W R w':=by
 have d1:decide (ct<0)=false:=by simp;omega
 have d2:decide (1152921504606846976<ct)=false:=by simp;omega
 go_enter Tryz.func31,Tryz.ntmps31;have hk:it=0\/it=1\/it=2\/it=3:=by omega
 clear h0 h4
 rcases hk with rfl|rfl|rfl|rfl
 all_goals
  simp only[r9,ap4,it0,It.mk.injEq,Int.reduceEq,if_true,if_false]at h;obtain⟨rfl,rfl,rfl,rfl⟩:=h;go_wp2_with(first|(fail_if_success (have:=gA));(refine zal hS ?_;clear hS;have gA:Nat:=0;intro b1 w hS)|(have:=gA);refine zal hS ?_;clear hS;intro b2 w hS|refine zlN hS ?_|refine zsN hS ?_;clear hS;intro w hS|refine zs1 hS ?_;clear hS;intro w hS);apply Ac7;rfl;rfl;rfl;rfl;exact hS;decide +kernel;(exact m8);kernel_rfl;exact⟨rfl,hS.drop.drop⟩
theorem Ef7{kd cl sq:Int}{ak aw tk tw:ByteArray}{it ct pr:Int}{bu:Bool}{i:Int}{x0 x1 x2 x3:Int}(h:r9 it ct=⟨x0,x1,x2,x3⟩)(h0:0<=it)(h4:it<4)(c0:1<=ct)(c1:ct<=1048576)(W w:World)(R:List HP)(hS:St W R w):
  Calls Tryz.prog 111 #[oV kd cl sq ak aw tk tw it ct pr bu i] w fun e w'=>e=.returned (.agg #[.I x0,.I x1,.I x2,.I x3])/\St W R w':=by
 go_enter Tryz.func111,Tryz.ntmps111;go_wp2_with(first|refine zbx hS ?_;clear hS;intro b w hS|(fail_if_success (have:=gA));(refine zal hS ?_;clear hS;have gA:Nat:=0;intro b1 w hS)|(have:=gA);refine zal hS ?_;clear hS;intro b2 w hS|refine zl1 hS ?_|refine zlN hS ?_|refine zsN hS ?_;clear hS;intro w hS|go_at_call 31;refine(ND7 h h0 h4 c0 c1 W _ _ hS).mono ?_;clear hS;rintro e w ⟨rfl,hS⟩);apply Am7;rfl;rfl;rfl;exact hS;decide +kernel;(exact m8);kernel_rfl;exact⟨rfl,hS.drop.drop.drop⟩
end Go.Proofs.YtienbkdjkjbelaaGreat
end
