/-
  May of a request.
-/
import Derived.Test.YtlmhakmoioogaaaGreatEconDcM4
import Derived.Test.YtlmhakmoioogaaaGreatEconDcM15
set_option maxHeartbeats 16000000
set_option maxRecDepth 100000
set_option linter.unusedSimpArgs false
set_option linter.unusedVariables false
section
namespace Go.Proofs.YtlmhakmoioogaaaGreat
open Go.RowKit Go.Sl
section
variable(kd cl sq:Int)(ak aw tk tw:ByteArray)(it ct pr:Int)(bu:Bool)(i:Int)(W w:World)(R:List HP)
theorem Of7(hS:St W R w):
  Calls Tryz.prog 85 #[oV kd cl sq ak aw tk tw it ct pr bu i] w fun e w'=>e=.returned (.bool (A8 ⟨kd,cl,sq,ak,aw,tk,tw,it,ct,pr,bu,i⟩))/\St W R w':=by
 go_enter Tryz.func85,Tryz.ntmps85;by_cases hk:kd=1\/kd=2\/kd=3\/kd=4\/kd=5\/kd=6\/kd=7
 case neg=>
  have e:A8 ⟨kd,cl,sq,ak,aw,tk,tw,it,ct,pr,bu,i⟩=false:=by unfold A8 L8;simp only[not_or]at hk;obtain⟨k1,k2,k3,k4,k5,k6,k7⟩:=hk;simp[k1,k2,k3,k4,k5,k6,k7]
  rw[e];by_cases h0:kd<0
  ·go_wp2_with(first|go_big_skip|refine zbx hS ?_;clear hS;intro b w hS|refine zal hS ?_;clear hS;intro b2 w hS|refine zsN hS ?_;clear hS;intro w hS|refine zl1 hS ?_);go_ret;exact⟨rfl,hS.drop.drop⟩
  ·have d0:decide (kd<0)=false:=by simpa using h0
   by_cases h8:8<=kd
   ·go_wp2_with(first|go_big_skip|refine zbx hS ?_;clear hS;intro b w hS|refine zal hS ?_;clear hS;intro b2 w hS|refine zsN hS ?_;clear hS;intro w hS|refine zl1 hS ?_);go_ret;exact⟨rfl,hS.drop.drop⟩
   ·obtain rfl:kd=0:=by omega
    clear d0 h0 h8 hk e;go_wp2_with(first|refine zbx hS ?_;clear hS;intro b w hS|refine zal hS ?_;clear hS;intro b2 w hS|refine zsN hS ?_;clear hS;intro w hS|refine zl1 hS ?_|(with_reducible apply CR7);rfl;rfl;rfl;rfl;rfl;exact Tryz.underlying206;refine frS ?_);go_ret;exact⟨rfl,hS.drop.drop⟩
 by_cases h1:1<=cl
 case neg=>
  have d1:decide (1<=cl)=false:=by simpa using h1
  have e:A8 ⟨kd,cl,sq,ak,aw,tk,tw,it,ct,pr,bu,i⟩=false:=by unfold A8 G6;simp[h1]
  rw[e];clear e
  rcases hk with rfl|rfl|rfl|rfl|rfl|rfl|rfl
  all_goals
   go_wp2_with(first|refine zbx hS ?_;clear hS;intro b w hS|refine zal hS ?_;clear hS;intro b2 w hS|refine zsN hS ?_;clear hS;intro w hS|refine zl1 hS ?_|(with_reducible apply CR7);rfl;rfl;rfl;rfl;rfl;exact Tryz.underlying206;refine frS ?_);refine Aa7 (by kernel_rfl) (by kernel_rfl) hS ?_
   repeat(first|go_big_quiet_skip|refine zq1 ?_|refine qR ?_)
   clear hS;intro w hS;go_wp2_with fail;go_ret;exact⟨rfl,hS.drop.drop⟩
 by_cases h2:cl<=1048576
 case neg=>
  have d2:decide (cl<=1048576)=false:=by simpa using h2
  have e:A8 ⟨kd,cl,sq,ak,aw,tk,tw,it,ct,pr,bu,i⟩=false:=by unfold A8 G6;simp[h2]
  rw[e];clear e
  rcases hk with rfl|rfl|rfl|rfl|rfl|rfl|rfl
  all_goals
   go_wp2_with(first|refine zbx hS ?_;clear hS;intro b w hS|refine zal hS ?_;clear hS;intro b2 w hS|refine zsN hS ?_;clear hS;intro w hS|refine zl1 hS ?_|(with_reducible apply CR7);rfl;rfl;rfl;rfl;rfl;exact Tryz.underlying206;refine frS ?_);refine Aa7 (by kernel_rfl) (by kernel_rfl) hS ?_
   repeat(first|go_big_quiet_skip|refine zq1 ?_|refine qR ?_)
   clear hS;intro w hS;go_wp2_with fail;go_ret;exact⟨rfl,hS.drop.drop⟩
 by_cases h3:1<=sq
 case neg=>
  have d3:decide (1<=sq)=false:=by simpa using h3
  have e:A8 ⟨kd,cl,sq,ak,aw,tk,tw,it,ct,pr,bu,i⟩=false:=by unfold A8 G6;simp[h3]
  rw[e];clear e
  rcases hk with rfl|rfl|rfl|rfl|rfl|rfl|rfl
  all_goals
   go_wp2_with(first|refine zbx hS ?_;clear hS;intro b w hS|refine zal hS ?_;clear hS;intro b2 w hS|refine zsN hS ?_;clear hS;intro w hS|refine zl1 hS ?_|(with_reducible apply CR7);rfl;rfl;rfl;rfl;rfl;exact Tryz.underlying206;refine frS ?_);refine Aa7 (by kernel_rfl) (by kernel_rfl) hS ?_
   repeat(first|go_big_quiet_skip|refine zq1 ?_|refine qR ?_)
   clear hS;intro w hS;go_wp2_with fail;go_ret;exact⟨rfl,hS.drop.drop⟩
 by_cases h4:sq<=1099511627776
 case neg=>
  have d4:decide (sq<=1099511627776)=false:=by simpa using h4
  have e:A8 ⟨kd,cl,sq,ak,aw,tk,tw,it,ct,pr,bu,i⟩=false:=by unfold A8 G6;simp[h4]
  rw[e];clear e
  rcases hk with rfl|rfl|rfl|rfl|rfl|rfl|rfl
  all_goals
   go_wp2_with(first|refine zbx hS ?_;clear hS;intro b w hS|refine zal hS ?_;clear hS;intro b2 w hS|refine zsN hS ?_;clear hS;intro w hS|refine zl1 hS ?_|(with_reducible apply CR7);rfl;rfl;rfl;rfl;rfl;exact Tryz.underlying206;refine frS ?_);refine Aa7 (by kernel_rfl) (by kernel_rfl) hS ?_
   repeat(first|go_big_quiet_skip|refine zq1 ?_|refine qR ?_)
   clear hS;intro w hS;go_wp2_with fail;go_ret;exact⟨rfl,hS.drop.drop⟩
 cases hp:ax4 ak aw with
 | false=>
  skip
  have e:A8 ⟨kd,cl,sq,ak,aw,tk,tw,it,ct,pr,bu,i⟩=false:=by unfold A8 G6;simp[hp]
  rw[e];clear e
  rcases hk with rfl|rfl|rfl|rfl|rfl|rfl|rfl
  all_goals
   go_wp2_with(first|refine zbx hS ?_;clear hS;intro b w hS|refine zal hS ?_;clear hS;intro b2 w hS|refine zsN hS ?_;clear hS;intro w hS|refine zl1 hS ?_|(with_reducible apply CR7);rfl;rfl;rfl;rfl;rfl;exact Tryz.underlying206;refine frS ?_);refine Aa7 (by kernel_rfl) (by kernel_rfl) hS ?_
   repeat(first|go_big_quiet_skip|refine zq1 ?_|refine zqN ?_ (hc:=by first|exact d7.here (vs:=[.string ak,.string aw]) rfl|exact d7.there (d7.here (vs:=[.string ak,.string aw]) rfl))|apply Ag7;rfl;intro w;apply Ad7;rfl;decide +kernel;(focus(simp only[fD,fI,fJ,Act.eval,fE,fF,fG,fH,fK];try rfl));intro w hS;exact CH7 hp W w _ hS;refine frS ?_|refine qR ?_)
   clear hS;intro w hS;go_wp2_with fail;go_ret;exact⟨rfl,hS.drop.drop⟩
 | true=>
  have hh:(decide (1<=cl)&&(decide (cl<=1048576)&&(decide (1<=sq)&&(decide (sq<=1099511627776)&&ax4 ak aw))))=true:=by simp[h1,h2,h3,h4,hp]
  rcases hk with rfl|rfl|rfl|rfl|rfl|rfl|rfl
  ·skip
   have e:A8 ⟨1,cl,sq,ak,aw,tk,tw,it,ct,pr,bu,i⟩=A7 ⟨1,cl,sq,ak,aw,tk,tw,it,ct,pr,bu,i⟩:=by unfold A8;rw[show G6 ⟨1,cl,sq,ak,aw,tk,tw,it,ct,pr,bu,i⟩=true from hh];rfl
   rw[e];clear e;go_wp2_with(first|refine zbx hS ?_;clear hS;intro b w hS|refine zal hS ?_;clear hS;intro b2 w hS|refine zsN hS ?_;clear hS;intro w hS|refine zl1 hS ?_|(with_reducible apply CR7);rfl;rfl;rfl;rfl;rfl;exact Tryz.underlying206;refine frS ?_);refine Aa7 (by kernel_rfl) (by kernel_rfl) hS ?_
   repeat(first|refine zq1 ?_|refine zqN ?_|refine zqN ?_ (hc:=by first|exact d7.here (vs:=[.string ak,.string aw]) rfl|exact d7.there (d7.here (vs:=[.string ak,.string aw]) rfl))|apply Ag7;rfl;intro w;apply Ad7;rfl;decide +kernel;(focus(simp only[fD,fI,fJ,Act.eval,fE,fF,fG,fH,fK];try rfl));intro w hS;exact CH7 hp W w _ hS;refine frS ?_|apply Ag7;rfl;intro w;apply Bz7;rfl;rfl;decide +kernel;(focus(simp only[fD,fI,fJ,Act.eval,fE,fF,fG,fH,fK];try rfl));intro w hS;exact Ed7 _ _ _ _ _ _ _ _ _ _ _ _ W w _ hS;refine frS ?_|refine qR ?_)
   clear hS;intro w hS;go_wp2_with fail;go_ret;exact⟨rfl,hS.drop.drop⟩
  ·skip
   have e:A8 ⟨2,cl,sq,ak,aw,tk,tw,it,ct,pr,bu,i⟩=ac4 ⟨2,cl,sq,ak,aw,tk,tw,it,ct,pr,bu,i⟩:=by unfold A8;rw[show G6 ⟨2,cl,sq,ak,aw,tk,tw,it,ct,pr,bu,i⟩=true from hh];rfl
   rw[e];clear e;go_wp2_with(first|refine zbx hS ?_;clear hS;intro b w hS|refine zal hS ?_;clear hS;intro b2 w hS|refine zsN hS ?_;clear hS;intro w hS|refine zl1 hS ?_|(with_reducible apply CR7);rfl;rfl;rfl;rfl;rfl;exact Tryz.underlying206;refine frS ?_);refine Aa7 (by kernel_rfl) (by kernel_rfl) hS ?_
   repeat(first|refine zq1 ?_|refine zqN ?_|refine zqN ?_ (hc:=by first|exact d7.here (vs:=[.string ak,.string aw]) rfl|exact d7.there (d7.here (vs:=[.string ak,.string aw]) rfl))|apply Ag7;rfl;intro w;apply Ad7;rfl;decide +kernel;(focus(simp only[fD,fI,fJ,Act.eval,fE,fF,fG,fH,fK];try rfl));intro w hS;exact CH7 hp W w _ hS;refine frS ?_|apply Ag7;rfl;intro w;apply Bz7;rfl;rfl;decide +kernel;(focus(simp only[fD,fI,fJ,Act.eval,fE,fF,fG,fH,fK];try rfl));intro w hS;exact MR7 _ _ _ _ _ _ _ _ _ _ _ _ W w _ hS;refine frS ?_|refine qR ?_)
   clear hS;intro w hS;go_wp2_with fail;go_ret;exact⟨rfl,hS.drop.drop⟩
  ·skip
   have e:A8 ⟨3,cl,sq,ak,aw,tk,tw,it,ct,pr,bu,i⟩=M9 ⟨3,cl,sq,ak,aw,tk,tw,it,ct,pr,bu,i⟩:=by unfold A8;rw[show G6 ⟨3,cl,sq,ak,aw,tk,tw,it,ct,pr,bu,i⟩=true from hh];rfl
   rw[e];clear e;go_wp2_with(first|refine zbx hS ?_;clear hS;intro b w hS|refine zal hS ?_;clear hS;intro b2 w hS|refine zsN hS ?_;clear hS;intro w hS|refine zl1 hS ?_|(with_reducible apply CR7);rfl;rfl;rfl;rfl;rfl;exact Tryz.underlying206;refine frS ?_);refine Aa7 (by kernel_rfl) (by kernel_rfl) hS ?_
   repeat(first|refine zq1 ?_|refine zqN ?_|refine zqN ?_ (hc:=by first|exact d7.here (vs:=[.string ak,.string aw]) rfl|exact d7.there (d7.here (vs:=[.string ak,.string aw]) rfl))|apply Ag7;rfl;intro w;apply Ad7;rfl;decide +kernel;(focus(simp only[fD,fI,fJ,Act.eval,fE,fF,fG,fH,fK];try rfl));intro w hS;exact CH7 hp W w _ hS;refine frS ?_|apply Ag7;rfl;intro w;apply Bz7;rfl;rfl;decide +kernel;(focus(simp only[fD,fI,fJ,Act.eval,fE,fF,fG,fH,fK];try rfl));intro w hS;exact Ky7 _ _ _ _ _ _ _ _ _ _ _ _ W w _ hS;refine frS ?_|refine qR ?_)
   clear hS;intro w hS;go_wp2_with fail;go_ret;exact⟨rfl,hS.drop.drop⟩
  ·skip
   have e:A8 ⟨4,cl,sq,ak,aw,tk,tw,it,ct,pr,bu,i⟩=M6 ⟨4,cl,sq,ak,aw,tk,tw,it,ct,pr,bu,i⟩:=by unfold A8;rw[show G6 ⟨4,cl,sq,ak,aw,tk,tw,it,ct,pr,bu,i⟩=true from hh];rfl
   rw[e];clear e;go_wp2_with(first|refine zbx hS ?_;clear hS;intro b w hS|refine zal hS ?_;clear hS;intro b2 w hS|refine zsN hS ?_;clear hS;intro w hS|refine zl1 hS ?_|(with_reducible apply CR7);rfl;rfl;rfl;rfl;rfl;exact Tryz.underlying206;refine frS ?_);refine Aa7 (by kernel_rfl) (by kernel_rfl) hS ?_
   repeat(first|refine zq1 ?_|refine zqN ?_|refine zqN ?_ (hc:=by first|exact d7.here (vs:=[.string ak,.string aw]) rfl|exact d7.there (d7.here (vs:=[.string ak,.string aw]) rfl))|apply Ag7;rfl;intro w;apply Ad7;rfl;decide +kernel;(focus(simp only[fD,fI,fJ,Act.eval,fE,fF,fG,fH,fK];try rfl));intro w hS;exact CH7 hp W w _ hS;refine frS ?_|apply Ag7;rfl;intro w;apply Bz7;rfl;rfl;decide +kernel;(focus(simp only[fD,fI,fJ,Act.eval,fE,fF,fG,fH,fK];try rfl));intro w hS;exact Jy7 _ _ _ _ _ _ _ _ _ _ _ _ W w _ hS;refine frS ?_|refine qR ?_)
   clear hS;intro w hS;go_wp2_with fail;go_ret;exact⟨rfl,hS.drop.drop⟩
  ·skip
   have e:A8 ⟨5,cl,sq,ak,aw,tk,tw,it,ct,pr,bu,i⟩=ch4 ⟨5,cl,sq,ak,aw,tk,tw,it,ct,pr,bu,i⟩:=by unfold A8;rw[show G6 ⟨5,cl,sq,ak,aw,tk,tw,it,ct,pr,bu,i⟩=true from hh];rfl
   rw[e];clear e;go_wp2_with(first|refine zbx hS ?_;clear hS;intro b w hS|refine zal hS ?_;clear hS;intro b2 w hS|refine zsN hS ?_;clear hS;intro w hS|refine zl1 hS ?_|(with_reducible apply CR7);rfl;rfl;rfl;rfl;rfl;exact Tryz.underlying206;refine frS ?_);refine Aa7 (by kernel_rfl) (by kernel_rfl) hS ?_
   repeat(first|refine zq1 ?_|refine zqN ?_|refine zqN ?_ (hc:=by first|exact d7.here (vs:=[.string ak,.string aw]) rfl|exact d7.there (d7.here (vs:=[.string ak,.string aw]) rfl))|apply Ag7;rfl;intro w;apply Ad7;rfl;decide +kernel;(focus(simp only[fD,fI,fJ,Act.eval,fE,fF,fG,fH,fK];try rfl));intro w hS;exact CH7 hp W w _ hS;refine frS ?_|apply Ag7;rfl;intro w;apply Bz7;rfl;rfl;decide +kernel;(focus(simp only[fD,fI,fJ,Act.eval,fE,fF,fG,fH,fK];try rfl));intro w hS;exact Jz7 _ _ _ _ _ _ _ _ _ _ _ _ W w _ hS;refine frS ?_|refine qR ?_)
   clear hS;intro w hS;go_wp2_with fail;go_ret;exact⟨rfl,hS.drop.drop⟩
  ·skip
   have e:A8 ⟨6,cl,sq,ak,aw,tk,tw,it,ct,pr,bu,i⟩=A7 ⟨6,cl,sq,ak,aw,tk,tw,it,ct,pr,bu,i⟩:=by unfold A8;rw[show G6 ⟨6,cl,sq,ak,aw,tk,tw,it,ct,pr,bu,i⟩=true from hh];rfl
   rw[e];clear e;go_wp2_with(first|refine zbx hS ?_;clear hS;intro b w hS|refine zal hS ?_;clear hS;intro b2 w hS|refine zsN hS ?_;clear hS;intro w hS|refine zl1 hS ?_|(with_reducible apply CR7);rfl;rfl;rfl;rfl;rfl;exact Tryz.underlying206;refine frS ?_);refine Aa7 (by kernel_rfl) (by kernel_rfl) hS ?_
   repeat(first|refine zq1 ?_|refine zqN ?_|refine zqN ?_ (hc:=by first|exact d7.here (vs:=[.string ak,.string aw]) rfl|exact d7.there (d7.here (vs:=[.string ak,.string aw]) rfl))|apply Ag7;rfl;intro w;apply Ad7;rfl;decide +kernel;(focus(simp only[fD,fI,fJ,Act.eval,fE,fF,fG,fH,fK];try rfl));intro w hS;exact CH7 hp W w _ hS;refine frS ?_|apply Ag7;rfl;intro w;apply Bz7;rfl;rfl;decide +kernel;(focus(simp only[fD,fI,fJ,Act.eval,fE,fF,fG,fH,fK];try rfl));intro w hS;exact Ed7 _ _ _ _ _ _ _ _ _ _ _ _ W w _ hS;refine frS ?_|refine qR ?_)
   clear hS;intro w hS;go_wp2_with fail;go_ret;exact⟨rfl,hS.drop.drop⟩
  ·skip
   have e:A8 ⟨7,cl,sq,ak,aw,tk,tw,it,ct,pr,bu,i⟩=ch4 ⟨7,cl,sq,ak,aw,tk,tw,it,ct,pr,bu,i⟩:=by unfold A8;rw[show G6 ⟨7,cl,sq,ak,aw,tk,tw,it,ct,pr,bu,i⟩=true from hh];rfl
   rw[e];clear e;go_wp2_with(first|refine zbx hS ?_;clear hS;intro b w hS|refine zal hS ?_;clear hS;intro b2 w hS|refine zsN hS ?_;clear hS;intro w hS|refine zl1 hS ?_|(with_reducible apply CR7);rfl;rfl;rfl;rfl;rfl;exact Tryz.underlying206;refine frS ?_);refine Aa7 (by kernel_rfl) (by kernel_rfl) hS ?_
   repeat(first|refine zq1 ?_|refine zqN ?_|refine zqN ?_ (hc:=by first|exact d7.here (vs:=[.string ak,.string aw]) rfl|exact d7.there (d7.here (vs:=[.string ak,.string aw]) rfl))|apply Ag7;rfl;intro w;apply Ad7;rfl;decide +kernel;(focus(simp only[fD,fI,fJ,Act.eval,fE,fF,fG,fH,fK];try rfl));intro w hS;exact CH7 hp W w _ hS;refine frS ?_|apply Ag7;rfl;intro w;apply Bz7;rfl;rfl;decide +kernel;(focus(simp only[fD,fI,fJ,Act.eval,fE,fF,fG,fH,fK];try rfl));intro w hS;exact Jz7 _ _ _ _ _ _ _ _ _ _ _ _ W w _ hS;refine frS ?_|refine qR ?_)
   clear hS;intro w hS;go_wp2_with fail;go_ret;exact⟨rfl,hS.drop.drop⟩
end
theorem BX7{kd cl sq:Int}{ak aw tk tw:ByteArray}{it ct pr:Int}{bu:Bool}{i:Int}{r:Bool}(h:A8 ⟨kd,cl,sq,ak,aw,tk,tw,it,ct,pr,bu,i⟩=r)(W w:World)(R:List HP)(hS:St W R w):
  Calls Tryz.prog 85 #[oV kd cl sq ak aw tk tw it ct pr bu i] w fun e w'=>e=.returned (.bool r)/\St W R w':=h▸Of7 kd cl sq ak aw tk tw it ct pr bu i W w R hS
theorem ez4(a b:Int×Int)(w:World):(Op.equal 94 (eW a) (eW b)).run Tryz.prog w=.ok (decide (a=b)) w:=by
 have u3:=Tryz.underlying3;have a3:=Tryz.isAgg3;have z3:=Tryz.sizeOf3;have hs:Tryz.prog.stoodInHeld 94=false:=by kernel_rfl
 obtain⟨a0,a1⟩:=a;obtain⟨b0,b1⟩:=b
 have h:∀d:Nat,(Op.equalIn (d+2) 94 (eW (a0,a1)) (eW (b0,b1))).run Tryz.prog w=.ok (decide ((a0,a1)=(b0,b1))) w:=fun d=>by
  rw[Op.equalIn];simp only[Sem.run_bind,run_underlying Tryz.underlying94,Result.andThen_ok,run_program,hs,Bool.false_eq_true,if_false];rw[<-Array.forIn_toList];simp only[List.forIn_cons,List.forIn_nil]
  go_simp
  by_cases h1:a0=b0 <;> by_cases h2:a1=b1 <;> simp[h1,h2]
 exact h 9998
theorem eg4(e:Bool)(a:Int×Int)(w:World):(Instr.checkKey e 10000 94 (eW a)).run Tryz.prog w=.ok () w:=by
 have u3:=Tryz.underlying3;have a3:=Tryz.isAgg3;have z3:=Tryz.sizeOf3;have h1:∀(d:Nat) (x:Int),(Instr.checkKey e (d+1) 3 (.I x)).run Tryz.prog w=.ok () w:=fun d x=>by rw[Instr.checkKey];simp[run_underlying u3]
 have h:∀d:Nat,(Instr.checkKey e (d+2) 94 (eW a)).run Tryz.prog w=.ok () w:=fun d=>by
  rw[Instr.checkKey];simp only[Sem.run_bind,run_underlying Tryz.underlying94,Result.andThen_ok];rw[<-Array.forIn_toList];simp only[List.forIn_cons,List.forIn_nil]
  go_simp
 exact h 9998
theorem kW:KeyOk Tryz.prog 94 eW:=KeyOk.deep Tryz.underlying94 (fun _ _=>rfl) eg4 ez4 (fun k=>by simp[Instr.sameBits])
theorem kEi:KeyOk Tryz.prog 3 eI:=KeyOk.int Tryz.underlying3
theorem mV:F5 Tryz.prog 79=some (9,100):=by kernel_rfl
theorem mS:F5 Tryz.prog 80=some (3,90):=by kernel_rfl
theorem mT:F5 Tryz.prog 81=some (94,40):=by kernel_rfl
theorem mAr:F5 Tryz.prog 82=some (94,4):=by kernel_rfl
theorem zV:J8 Tryz.prog 100=some (.pointer none):=by kernel_rfl
theorem zS:J8 Tryz.prog 90=some (eSs (0,rp0)):=by kernel_rfl
theorem zT:J8 Tryz.prog 40=some (eTn ⟨0,0,⟨#[]⟩,⟨#[]⟩,⟨#[]⟩,⟨#[]⟩,0,0⟩):=by kernel_rfl
theorem zA:J8 Tryz.prog 4=some (.bool false):=by kernel_rfl
theorem JA7(W w:World)(R:List HP)(hS:St W R w):
  Calls Tryz.prog 15 #[] w fun e w'=>∃eb,e=.returned (.P eb)/\St W (ecP eb ec0::R) w':=by
 go_enter Tryz.func15,Tryz.ntmps15;go_wp2_with(first|(with_reducible apply Ep7 (t:=79) eS eN hS);rfl;rfl;clear hS;intro m1 w hS;refine frS ?_|(with_reducible apply Ep7 (t:=80) eI eSs hS);rfl;rfl;clear hS;intro m2 w hS;refine frS ?_|(with_reducible apply Ep7 (t:=81) eW eTn hS);rfl;rfl;clear hS;intro m3 w hS;refine frS ?_|(with_reducible apply Ep7 (t:=82) eW eU hS);rfl;rfl;clear hS;intro m4 w hS;refine frS ?_|refine zbx hS ?_;clear hS;intro eb w hS);go_ret;have hS1:St W (j8 []::_) w:=St.shutS [] hS;exact⟨eb,rfl,R6 (E:=[]) (e:=ec0) (m1:=m1) (m2:=m2) (m3:=m3) (m4:=m4) (List.Perm.refl _) (hS1.s (blk eb _ _::c8 eS eN m1 []::j8 []::c8 eI eSs m2 []::c8 eW eTn m3 []::c8 eW eU m4 []::R))⟩
abbrev ebB(eb m1 m2 m3 m4:Nat):HP:=blk eb [.map (some m1),.map (some m2),.map (some m3),.map (some m4)] 84
def vAt(E:Ev)(k:ByteArray):Vs:=((p9 E k).map (·.2)).getD vs0
theorem Sd7(eb m1 m2 m3 m4:Nat)(E:Ev)(k:ByteArray)(W w:World)(R:List HP)(hS:St W (ebB eb m1 m2 m3 m4::c8 eS eN m1 (i8 E)::j8 E::R) w):
  Calls Tryz.prog 101 #[.P eb,.string k] w fun e w'=>∃vb,e=.returned (.P vb) /\
   St W (ebB eb m1 m2 m3 m4::c8 eS eN m1 (i8 ((k,(vb,vAt E k))::l8 E k))::B5 vb (vAt E k)::j8 (l8 E k)::R) w':=by
 have hnd:(E.map (·.1)).Nodup:=by rw[<-Bb7];exact F9 hS.drop
 cases hg:p9 E k with
 | some x=>
  obtain⟨vb,V⟩:=x;have hgl:p9 (i8 E) k=some vb:=by rw[CY7,hg];rfl
  have hv:vAt E k=V:=by unfold vAt;rw[hg];rfl
  have hp:=CX7 hnd hg;rw[hv];go_enter Tryz.func101,Tryz.ntmps101;go_wp2_with(first|go_big_skip|(with_reducible apply Do7 (ek:=eS) (ev:=eN) (k:=k) hS);rfl;rfl;rfl;rfl;exact g8;exact mV;exact kS;exact zV;exact hgl;refine frS ?_|refine zl1 hS ?_);go_ret;refine⟨vb,rfl,?_⟩;have h1:=dS4 (hp.map fun x=>(x.1,x.2.1)) hS.swap;have h2:St W (j8 E::c8 eS eN m1 (i8 ((k,(vb,V))::l8 E k))::ebB eb m1 m2 m3 m4::R) w:=h1.s _;have h3:=bn4 (aq4 hp h2);exact h3.s (ebB eb m1 m2 m3 m4::c8 eS eN m1 _::B5 vb V::j8 (l8 E k)::R)
 | none=>
  have hgl:p9 (i8 E) k=none:=by rw[CY7,hg];rfl
  have hv:vAt E k=vs0:=by unfold vAt;rw[hg];rfl
  have hd:l8 E k=E:=Ec7 (Eq7 hg);rw[hv,hd];go_enter Tryz.func101,Tryz.ntmps101;go_wp2_with(first|go_big_skip|(with_reducible apply Ja7 (ek:=eS) (ev:=eN) (k:=k) hS);rfl;rfl;rfl;rfl;exact g8;exact mV;exact kS;exact zV;exact hgl;refine frS ?_|refine zl1 hS ?_|go_at_call 162;refine(Jq7 W _ _ hS).mono ?_;clear hS;rintro e w ⟨vb,mb,bb,rfl,hS⟩|((with_reducible apply Ba7 (ek:=eS) (ev:=eN) (k:=k) (u:=vb) hS);rfl;rfl;rfl;rfl;exact g8;(focus(rfl));exact mV;exact kS;clear hS;intro w hS;try(refine frS ?_)));go_ret;refine⟨vb,rfl,?_⟩;rw[Im7,hd]at hS;have h1:St W (t8 vb mb bb [] [] 1 (ebB eb m1 m2 m3 m4::c8 eS eN m1 ((k,vb)::i8 E)::j8 E::R)) w:=hS.s _;have h2:=J6 (V:=vs0) h1;have h3:=h2.s (ebB eb m1 m2 m3 m4::c8 eS eN m1 ((k,vb)::i8 E)::B5 vb vs0::j8 E::R);exact h3
theorem Kz7(vb:Nat)(V:Vs){N:Nat}(hw:PsW V.ps N)(hN:N<=1000000000)(W w:World)(R:List HP)(hS:St W (B5 vb V::R) w):
  Calls Tryz.prog 107 #[.P vb] w fun e w'=>e=.returned (.bool (G9 V))/\St W (B5 vb V::R) w':=by
 obtain⟨mb,bb,hS⟩:=ay4 hS;have hl:=BW7 V.ps;have hl32:=BP7 hS.drop.drop;have hpl:=hw.len;go_enter Tryz.func107,Tryz.ntmps107;by_cases h0:V.ps.length+V.L.length=0
 ·have d0:(((hdL V.ps).length:Int)+(V.L.length:Int)==0)=true:=by simp;omega
  have e:G9 V=(V.n==1):=by unfold G9;rw[decide_eq_true (show V.ps.length=0 by omega),decide_eq_true (show V.L.length=0 by omega)];simp;rw[Bool.eq_iff_iff];simp
  rw[e];go_wp2_with(first|go_at_call 124;refine(CQ7 vb mb bb V.ps V.L V.n hw hN W _ _ hS).mono ?_;clear hS;rintro e w ⟨a,c,a2,c2,rfl,hS⟩);go_ret;exact⟨rfl,J6 (hS.s _)⟩
 ·have d0:(((hdL V.ps).length:Int)+(V.L.length:Int)==0)=false:=by simp;omega
  have e:G9 V=false:=by
   cases hn:G9 V with
   | false=>rfl
   | true=>exact absurd (by rw[Qe7 hn];rfl) h0
  rw[e];go_wp2_with(first|go_at_call 124;refine(CQ7 vb mb bb V.ps V.L V.n hw hN W _ _ hS).mono ?_;clear hS;rintro e w ⟨a,c,a2,c2,rfl,hS⟩);go_ret;exact⟨rfl,J6 (hS.s _)⟩
theorem EA7{V:Vs}{r:Bool}(h:G9 V=r)(vb:Nat){N:Nat}(hw:PsW V.ps N)(hN:N<=1000000000)(W w:World)(R:List HP)(hS:St W (B5 vb V::R) w):
  Calls Tryz.prog 107 #[.P vb] w fun e w'=>e=.returned (.bool r)/\St W (B5 vb V::R) w':=h▸Kz7 vb V hw hN W w R hS
def cl4(E:Ev)(k:ByteArray):Ev:=match p9 E k with
 | none=>E
 | some x=>if G9 x.2=true then l8 E k else E
theorem Bk7(eb m1 m2 m3 m4:Nat)(E:Ev)(k:ByteArray){N:Nat}(hw:∀x∈E,PsW x.2.2.ps N)(hN:N<=1000000000)(W w:World)(R:List HP)(hS:St W (ebB eb m1 m2 m3 m4::c8 eS eN m1 (i8 E)::j8 E::R) w):
  Calls Tryz.prog 43 #[.P eb,.string k] w fun e w'=>e=.returned (.tuple #[])/\St W (ebB eb m1 m2 m3 m4::c8 eS eN m1 (i8 (cl4 E k))::j8 (cl4 E k)::R) w':=by
 have hnd:(E.map (·.1)).Nodup:=by rw[<-Bb7];exact F9 hS.drop
 cases hg:p9 E k with
 | none=>
  have hgl:p9 (i8 E) k=none:=by rw[CY7,hg];rfl
  have e:cl4 E k=E:=by unfold cl4;rw[hg]
  rw[e];go_enter Tryz.func43,Tryz.ntmps43;go_wp2_with(first|(with_reducible apply Ja7 (ek:=eS) (ev:=eN) (k:=k) hS);rfl;rfl;rfl;rfl;exact g8;exact mV;exact kS;exact zV;exact hgl;refine frS ?_|refine zl1 hS ?_);go_end0;exact⟨rfl,hS⟩
 | some x=>
  obtain⟨vb,V⟩:=x;have hgl:p9 (i8 E) k=some vb:=by rw[CY7,hg];rfl
  have hp:=CX7 hnd hg;have Hw:=jH (hw _ (Dn7 hg));have hS1:St W (j8 E::ebB eb m1 m2 m3 m4::c8 eS eN m1 (i8 E)::R) w:=hS.s _;have hS2:=bn4 (aq4 hp hS1);clear hS hS1;have hS:=hS2;clear hS2 hw
  cases hn:G9 V with
  | true=>
   have e:cl4 E k=l8 E k:=by unfold cl4;rw[hg];exact if_pos hn
   rw[e];go_enter Tryz.func43,Tryz.ntmps43;go_wp2_with(first|(with_reducible apply Do7 (ek:=eS) (ev:=eN) (k:=k) hS);rfl;rfl;rfl;rfl;exact g8;exact mV;exact kS;exact zV;exact hgl;refine frS ?_|refine zl1 hS ?_|go_at_call 107;refine(EA7 hn vb Hw.out hN W _ _ (hS.s (B5 vb V::ebB eb m1 m2 m3 m4::c8 eS eN m1 (i8 E)::j8 (l8 E k)::R))).mono ?_;clear hS;rintro e w ⟨rfl,hS⟩|((with_reducible apply Kj7 (ek:=eS) (ev:=eN) (k:=k) hS);rfl;rfl;rfl;rfl;exact g8;exact mV;exact kS;clear hS;intro w hS;try(refine frS ?_)));go_end0;rw[Im7]at hS;exact⟨rfl,hS.s _⟩
  | false=>
   have e:cl4 E k=E:=by unfold cl4;rw[hg];exact if_neg (by rw[hn];exact Bool.noConfusion)
   rw[e];go_enter Tryz.func43,Tryz.ntmps43;go_wp2_with(first|(with_reducible apply Do7 (ek:=eS) (ev:=eN) (k:=k) hS);rfl;rfl;rfl;rfl;exact g8;exact mV;exact kS;exact zV;exact hgl;refine frS ?_|refine zl1 hS ?_|go_at_call 107;refine(EA7 hn vb Hw.out hN W _ _ (hS.s (B5 vb V::ebB eb m1 m2 m3 m4::c8 eS eN m1 (i8 E)::j8 (l8 E k)::R))).mono ?_;clear hS;rintro e w ⟨rfl,hS⟩);go_end0;have h1:=aq4 hp.symm (bo4 (x:=(k,(vb,V))) (hS.s (B5 vb V::j8 (l8 E k)::ebB eb m1 m2 m3 m4::c8 eS eN m1 (i8 E)::R)));exact⟨rfl,h1.s _⟩
theorem Se7{it ct x0 x1 x2 x3:Int}(h:P7 it ct=⟨x0,x1,x2,x3⟩)(h0:0<=it)(h4:it<4)(c0:1<=ct)(c1:ct<=1048576)(W w:World)(R:List HP)(hS:St W R w):
  Calls Tryz.prog 165 #[.I it,.I ct] w fun e w'=>e=.returned (.tuple #[.agg #[.I x0,.I x1,.I x2,.I x3],.bool true])/\St W R w':=by
 have d1:decide (ct<0)=false:=by simp;omega
 have d2:decide (1152921504606846976<ct)=false:=by simp;omega
 go_enter Tryz.func165,Tryz.ntmps165;have hk:it=0\/it=1\/it=2\/it=3:=by omega
 clear h0 h4
 rcases hk with rfl|rfl|rfl|rfl
 all_goals
  simp only[P7,bN4,it0,It.mk.injEq,Int.reduceEq,if_true,if_false]at h;obtain⟨rfl,rfl,rfl,rfl⟩:=h;go_wp2_with(first|(fail_if_success (have:=gA));(refine zal hS ?_;clear hS;have gA:Nat:=0;intro b1 w hS)|(have:=gA);refine zal hS ?_;clear hS;intro b2 w hS|refine zlN hS ?_|refine zsN hS ?_;clear hS;intro w hS|refine zs1 hS ?_;clear hS;intro w hS);apply Ab7;rfl;rfl;rfl;rfl;exact hS;decide +kernel;(exact x9);kernel_rfl;exact⟨rfl,hS.drop.drop⟩
theorem FV7{kd cl sq:Int}{ak aw tk tw:ByteArray}{it ct pr:Int}{bu:Bool}{i:Int}{x0 x1 x2 x3:Int}(h:P7 it ct=⟨x0,x1,x2,x3⟩)(h0:0<=it)(h4:it<4)(c0:1<=ct)(c1:ct<=1048576)(W w:World)(R:List HP)(hS:St W R w):
  Calls Tryz.prog 103 #[oV kd cl sq ak aw tk tw it ct pr bu i] w fun e w'=>e=.returned (.agg #[.I x0,.I x1,.I x2,.I x3])/\St W R w':=by
 go_enter Tryz.func103,Tryz.ntmps103;go_wp2_with(first|refine zbx hS ?_;clear hS;intro b w hS|(fail_if_success (have:=gA));(refine zal hS ?_;clear hS;have gA:Nat:=0;intro b1 w hS)|(have:=gA);refine zal hS ?_;clear hS;intro b2 w hS|refine zl1 hS ?_|refine zlN hS ?_|refine zsN hS ?_;clear hS;intro w hS|go_at_call 165;refine(Se7 h h0 h4 c0 c1 W _ _ hS).mono ?_;clear hS;rintro e w ⟨rfl,hS⟩);apply AH7;rfl;rfl;rfl;exact hS;decide +kernel;(exact x9);kernel_rfl;exact⟨rfl,hS.drop.drop.drop⟩
def L5(E:Ev)(i:Nat):Prop:=∀x∈E,VOk x.2.2.ps x.2.2.n i
theorem Qg7{p:Ps}{n:Int}{i j:Nat}(h:VOk p n i)(hij:i<=j):VOk p n j:=⟨h.ok,AI7 h.w (Nat.mul_le_mul_left _ hij),h.n0,by have:=h.n1;omega⟩
theorem Tn7{E:Ev}{i:Nat}(h:L5 E i)(k:ByteArray):VOk (vAt E k).ps (vAt E k).n i:=by
 unfold vAt
 cases hg:p9 E k with
 | none=>exact Qg7 gh4 (Nat.zero_le _)
 | some x=>exact h _ (Dn7 hg)
def evP(eb m1 m2 m3 m4:Nat)(E:Ev):HP:=sats [ebB eb m1 m2 m3 m4,c8 eS eN m1 (i8 E),j8 E]
def atR(v:Value)(eb m1 m2 m3 m4:Nat)(D:Ev)(k:ByteArray)(V:Vs)(i:Nat):HP:=fun f=>∃vb,(v=.P vb/\VOk V.ps V.n i)/\sats [ebB eb m1 m2 m3 m4,c8 eS eN m1 (i8 ((k,(vb,V))::D)),B5 vb V,j8 D] f
section
variable{W w:World}{R:List HP}{eb m1 m2 m3 m4:Nat}{E D:Ev}{k:ByteArray}{V:Vs}{i:Nat}{v:Value}
theorem D9(h:St W (evP eb m1 m2 m3 m4 E::R) w):St W (ebB eb m1 m2 m3 m4::c8 eS eN m1 (i8 E)::j8 E::R) w:=h.openS
theorem F7(h:St W (ebB eb m1 m2 m3 m4::c8 eS eN m1 (i8 E)::j8 E::R) w):St W (evP eb m1 m2 m3 m4 E::R) w:=St.shutS [_,_,_] h
theorem cR4(h:St W (atR v eb m1 m2 m3 m4 D k V i::R) w):∃vb mb bb,v=.P vb/\VOk V.ps V.n i/\St W (t8 vb mb bb V.ps V.L V.n (ebB eb m1 m2 m3 m4::c8 eS eN m1 (i8 ((k,(vb,V))::D))::j8 D::R)) w:=by obtain⟨vb,h⟩:=St.ex h;obtain⟨⟨h1,h2⟩,h⟩:=St.and h;have h3:St W (ebB eb m1 m2 m3 m4::c8 eS eN m1 (i8 ((k,(vb,V))::D))::B5 vb V::j8 D::R) w:=h.openS;obtain⟨mb,bb,h4⟩:=ay4 (h3.s (B5 vb V::ebB eb m1 m2 m3 m4::c8 eS eN m1 (i8 ((k,(vb,V))::D))::j8 D::R));exact⟨vb,mb,bb,h1,h2,h4⟩
theorem cS4{vb mb bb:Nat}{V':Vs}(h1:VOk V'.ps V'.n i)(h:St W (t8 vb mb bb V'.ps V'.L V'.n (ebB eb m1 m2 m3 m4::c8 eS eN m1 (i8 ((k,(vb,V))::D))::j8 D::R)) w):St W (atR (.P vb) eb m1 m2 m3 m4 D k V' i::R) w:=by have h2:=J6 h;refine St.mkEx vb (St.mkAnd ⟨rfl,h1⟩ (St.shutS [_,_,_,_] ?_));have h3:St W (ebB eb m1 m2 m3 m4::c8 eS eN m1 (i8 ((k,(vb,V))::D))::B5 vb V'::j8 D::R) w:=h2.s _;exact h3
theorem cI4(h:St W (atR v eb m1 m2 m3 m4 D k V i::R) w):∃vb,VOk V.ps V.n i/\St W (evP eb m1 m2 m3 m4 ((k,(vb,V))::D)::R) w:=by obtain⟨vb,h⟩:=St.ex h;obtain⟨⟨_,h2⟩,h⟩:=St.and h;have h3:St W (ebB eb m1 m2 m3 m4::c8 eS eN m1 (i8 ((k,(vb,V))::D))::B5 vb V::j8 D::R) w:=h.openS;have h4:=bo4 (x:=(k,(vb,V))) (h3.s (B5 vb V::j8 D::ebB eb m1 m2 m3 m4::c8 eS eN m1 (i8 ((k,(vb,V))::D))::R));exact⟨vb,h2,F7 (h4.s _)⟩
theorem atF(hE:L5 E i){Va:Vs}{Da:Ev}(hV:vAt E k=Va)(hD:l8 E k=Da)(hS:St W (evP eb m1 m2 m3 m4 E::R) w):
  Calls Tryz.prog 101 #[.P eb,.string k] w fun e w'=>∃v,e=.returned v/\St W (atR v eb m1 m2 m3 m4 Da k Va i::R) w':=by
 subst hV hD;refine(Sd7 eb m1 m2 m3 m4 E k W w R (D9 hS)).mono ?_;rintro e w' ⟨vb,rfl,hS⟩;exact⟨_,rfl,St.mkEx vb (St.mkAnd ⟨rfl,Tn7 hE k⟩ (St.shutS [_,_,_,_] hS))⟩
theorem fy4{who:ByteArray}{x0 x1 x2 x3 r:Int}{q:Ps}(hr:bA4 V.ps who ⟨x0,x1,x2,x3⟩=r)(hq:aM4 V.ps who ⟨x0,x1,x2,x3⟩=q)(hS:St W (atR v eb m1 m2 m3 m4 D k V i::R) w):
  Calls Tryz.prog 102 #[v,.string who,.agg #[.I x0,.I x1,.I x2,.I x3]] w fun e w'=>e=.returned (.I r)/\St W (atR v eb m1 m2 m3 m4 D k ⟨q,V.L,V.n⟩ (i+1)::R) w':=by
 obtain⟨vb,mb,bb,rfl,hok,hS⟩:=cR4 hS;refine(Tk7 vb mb bb W w _ hok who ⟨x0,x1,x2,x3⟩ hS).mono ?_;rw[hr,hq];rintro e w' ⟨rfl,h1,hS⟩;exact⟨rfl,cS4 (V':=⟨q,V.L,V.n⟩) h1 hS⟩
theorem eR4{who:ByteArray}{x0 x1 x2 x3 r:Int}{q:Ps}(hr:J9 V.ps who ⟨x0,x1,x2,x3⟩=r)(hq:K6 V.ps who ⟨x0,x1,x2,x3⟩=q)(hS:St W (atR v eb m1 m2 m3 m4 D k V i::R) w):
  Calls Tryz.prog 104 #[v,.string who,.agg #[.I x0,.I x1,.I x2,.I x3]] w fun e w'=>e=.returned (.I r)/\St W (atR v eb m1 m2 m3 m4 D k ⟨q,V.L,V.n⟩ (i+1)::R) w':=by
 obtain⟨vb,mb,bb,rfl,hok,hS⟩:=cR4 hS;refine(RY7 vb mb bb W w _ hok who ⟨x0,x1,x2,x3⟩ hS).mono ?_;rw[hr,hq];rintro e w' ⟨rfl,h1,hS⟩;exact⟨rfl,cS4 (V':=⟨q,V.L,V.n⟩) h1 hS⟩
theorem gi4{oi ot oc op:Int}{ou:ByteArray}{oy:Bool}{r1 r2:Int}{V2:Vs}(h1:(P6 V ⟨oi,ou,oy,ot,oc,op⟩).1=r1)(h2:(P6 V ⟨oi,ou,oy,ot,oc,op⟩).2.1=r2)(h3:(P6 V ⟨oi,ou,oy,ot,oc,op⟩).2.2=V2)(hS:St W (atR v eb m1 m2 m3 m4 D k V i::R) w):
  Calls Tryz.prog 105 #[v,.agg #[.I oi,.string ou,.bool oy,.I ot,.I oc,.I op]] w fun e w'=>e=.returned (.tuple #[.I r1,.I r2])/\St W (atR v eb m1 m2 m3 m4 D k V2 (i+1)::R) w':=by
 obtain⟨vb,mb,bb,rfl,hok,hS⟩:=cR4 hS;refine(RZ7 vb mb bb W w _ hok ⟨oi,ou,oy,ot,oc,op⟩ hS).mono ?_;subst h1 h2 h3;rintro e w' ⟨rfl,h1,hS⟩;exact⟨rfl,cS4 h1 hS⟩
theorem gj4{who:ByteArray}{id r:Int}{V2:Vs}(h1:(P9 V who id).1=r)(h2:(P9 V who id).2=V2)(hS:St W (atR v eb m1 m2 m3 m4 D k V i::R) w):
  Calls Tryz.prog 106 #[v,.string who,.I id] w fun e w'=>e=.returned (.I r)/\St W (atR v eb m1 m2 m3 m4 D k V2 (i+1)::R) w':=by
 obtain⟨vb,mb,bb,rfl,hok,hS⟩:=cR4 hS;obtain⟨p,L,n⟩:=V;have h3:(P9 ⟨p,L,n⟩ who id).2.n=n:=by unfold P9;split <;> rfl
 have e:(P9 ⟨p,L,n⟩ who id).2=⟨(P9 ⟨p,L,n⟩ who id).2.ps,(P9 ⟨p,L,n⟩ who id).2.L,n⟩:=by generalize P9 ⟨p,L,n⟩ who id=z at h3 ⊢;obtain⟨z1,z2,z3,z4⟩:=z;simp only at h3;rw[h3]
 refine(Sa7 vb mb bb W w _ hok who id hS).mono ?_;subst h1 h2;rintro e' w' ⟨rfl,h1,hS⟩;refine⟨rfl,?_⟩;rw[e];exact cS4 (V':=⟨(P9 ⟨p,L,n⟩ who id).2.ps,(P9 ⟨p,L,n⟩ who id).2.L,n⟩) h1 hS
end
abbrev rV(x0 x1:Int)(y0 y1 y2 y3:Int):Value:=.agg #[.I x0,.I x1,.I y0,.I y1,.I y2,.I y3]
theorem Og7{eb m1 m2 m3 m4:Nat}{E:Ev}{i:Nat}(hE:L5 E i)(kd cl sq:Int)(ak aw tk tw:ByteArray)(it ct pr:Int)(bu:Bool)(id:Int)(h0:0<=it)(h4:it<4)(c0:1<=ct)(c1:ct<=1048576){r:Int}{q:Ps}
  (hr:bA4 (vAt E ak).ps aw (P7 it ct)=r) (hq:aM4 (vAt E ak).ps aw (P7 it ct)=q) (W w:World) (R:List HP) (hS:St W (evP eb m1 m2 m3 m4 E::R) w):
  Calls Tryz.prog 36 #[.P eb,oV kd cl sq ak aw tk tw it ct pr bu id] w fun e w'=>∃vb,VOk q (vAt E ak).n (i+1)/\e=.returned (rV r 0 0 0 0 0)/\St W (evP eb m1 m2 m3 m4 ((ak,(vb,⟨q,(vAt E ak).L,(vAt E ak).n⟩))::l8 E ak)::R) w':=by
 obtain⟨V,hV⟩:∃V,vAt E ak=V:=⟨_,rfl⟩
 obtain⟨D,hD⟩:∃D,l8 E ak=D:=⟨_,rfl⟩
 obtain⟨x,hx⟩:∃x,P7 it ct=x:=⟨_,rfl⟩
 obtain⟨x0,x1,x2,x3⟩:=x;rw[hV,hx]at hr hq;rw[hV,hD];have HE:=jH hE;have HV:=jH hV;have HD:=jH hD;have Hx:=jH hx;have Hr:=jH hr;have Hq:=jH hq;clear hE hV hD hx hr hq;go_enter Tryz.func36,Tryz.ntmps36;go_wp2_with(first|refine zbx hS ?_;clear hS;intro bO w hS|refine zal hS ?_;clear hS;intro bR w hS);have hS1:=hS.s (evP eb m1 m2 m3 m4 E::blk bR _ _::blk bO _ _::R);clear hS
 refine rf3 [0,0,2,6,15,0,32,96,0,287,1023,2047,4095] (fun i=>i==4) (fun i=>if i==9 then some (.agg #[.I x0,.I x1,.I x2,.I x3])else if i==10 then some (.I r)else none)
  [⟨some 4,some 10,fun nd=>atR (nd 4) eb m1 m2 m3 m4 D ak V i⟩,⟨some 10,none,fun nd=>atR (nd 4) eb m1 m2 m3 m4 D ak ⟨q,V.L,V.n⟩ (i+1)⟩,⟨some 12,none,fun _=>blk bR [.I r,.I 0,.I 0,.I 0,.I 0,.I 0] 31⟩] [some 4,some 12,none] hS1 ?_
 clear hS1;intro nd;refine cR ?_
 iterate 2 (refine cR ?_)
 (refine zc1 ?_);apply Az7;rfl;rfl;rfl;decide +kernel;(focus(simp only[fD,fI,fJ,Act.eval,fE,fF,fG,fH,fK];try rfl));(intro _;rfl);(intro F w hS;exact atF HE.out HV.out HD.out hS);(refine frS ?_)
 iterate 2 (refine cR ?_)
 (refine zc1 ?_);refine zcN ?_;refine zcv ?_ (hs:=by(intro F w hS;(try clear hS0);exact FV7 Hx.out h0 h4 c0 c1 W w _ hS));refine zcv ?_ (hs:=by(intro F w hS;(try clear hS0);exact fy4 Hr.out Hq.out hS));refine cR ?_;refine zcs ?_;refine Ac7 ?_;intro w hS;have hS2:St W [atR _ eb m1 m2 m3 m4 D ak ⟨q,V.L,V.n⟩ (i+1),blk bR _ _,blk bO _ _,sats R] w:=hS;clear hS;have hS:=hS2.unpack [_,_,_];clear hS2;simp only[jK,jN]at hS;go_wp2_with fail;apply AH7;rfl;rfl;rfl;exact hS;decide +kernel;(exact x9);kernel_rfl;obtain⟨vb,h1,hS3⟩:=cI4 hS;exact⟨vb,h1,rfl,hS3.s _⟩
theorem MS7{eb m1 m2 m3 m4:Nat}{E:Ev}{i:Nat}(hE:L5 E i)(kd cl sq:Int)(ak aw tk tw:ByteArray)(it ct pr:Int)(bu:Bool)(id:Int){r1 r2:Int}{V2:Vs}
  (h1:(P6 (vAt E ak) ⟨0,aw,bu,it,ct,pr⟩).1=r1) (h2:(P6 (vAt E ak) ⟨0,aw,bu,it,ct,pr⟩).2.1=r2) (h3:(P6 (vAt E ak) ⟨0,aw,bu,it,ct,pr⟩).2.2=V2) (W w:World) (R:List HP) (hS:St W (evP eb m1 m2 m3 m4 E::R) w):
  Calls Tryz.prog 38 #[.P eb,oV kd cl sq ak aw tk tw it ct pr bu id] w fun e w'=>∃vb,VOk V2.ps V2.n (i+1)/\e=.returned (rV r2 r1 0 0 0 0)/\St W (evP eb m1 m2 m3 m4 ((ak,(vb,V2))::l8 E ak)::R) w':=by
 obtain⟨V,hV⟩:∃V,vAt E ak=V:=⟨_,rfl⟩
 obtain⟨D,hD⟩:∃D,l8 E ak=D:=⟨_,rfl⟩
 rw[hV]at h1 h2 h3;rw[hD];have H1:=jH h1;have H2:=jH h2;have H3:=jH h3;clear h1 h2 h3;have HE:=jH hE;have HV:=jH hV;have HD:=jH hD;clear hE hV hD;go_enter Tryz.func38,Tryz.ntmps38;go_wp2_with(first|refine zbx hS ?_;clear hS;intro bO w hS|refine zal hS ?_;clear hS;intro bR w hS);have hS1:=hS.s (evP eb m1 m2 m3 m4 E::blk bR _ _::blk bO _ _::R);clear hS
 refine rf3 [0,0,2,6,15,0,32,96,0,256,0,1024,0,4096,0,16384,65504,131071,262143,524287,524287,1048575,4194303] (fun i=>i==4) (fun i=>if i==17 then some (.tuple #[.I r1,.I r2])else none)
  [⟨some 4,some 17,fun nd=>atR (nd 4) eb m1 m2 m3 m4 D ak V i⟩,⟨some 17,none,fun nd=>atR (nd 4) eb m1 m2 m3 m4 D ak V2 (i+1)⟩] [some 4,none,none] hS1 ?_
 clear hS1;intro nd
 repeat(first|refine zc1 ?_|apply Az7;rfl;rfl;rfl;decide +kernel;(focus(simp only[fD,fI,fJ,Act.eval,fE,fF,fG,fH,fK];try rfl));intro _;rfl;intro F w hS;exact atF HE.out HV.out HD.out hS;refine frS ?_|refine zcv ?_ (hs:=by(intro F w hS;(try clear hS0);exact gi4 H1.out H2.out H3.out hS))|refine cR ?_)
 refine Ac7 ?_;intro w hS;have hS2:St W [atR _ eb m1 m2 m3 m4 D ak V2 (i+1),blk bR _ _,blk bO _ _,sats R] w:=hS;clear hS;have hS:=hS2.unpack [_,_,_];clear hS2;simp only[jK,jN]at hS;go_wp2_with(first|refine zsN hS ?_;clear hS;intro w hS);apply AH7;rfl;rfl;rfl;exact hS;decide +kernel;(exact x9);kernel_rfl;obtain⟨vb,h1,hS3⟩:=cI4 (hS.s (atR _ eb m1 m2 m3 m4 D ak V2 (i+1)::R));exact⟨vb,h1,rfl,hS3⟩
theorem JB7{eb m1 m2 m3 m4:Nat}{E:Ev}{i:Nat}(hE:L5 E i)(kd cl sq:Int)(ak aw tk tw:ByteArray)(it ct pr:Int)(bu:Bool)(id:Int){r:Int}{V2:Vs}
  (h1:(P9 (vAt E ak) aw id).1=r) (h2:(P9 (vAt E ak) aw id).2=V2) (W w:World) (R:List HP) (hS:St W (evP eb m1 m2 m3 m4 E::R) w):
  Calls Tryz.prog 39 #[.P eb,oV kd cl sq ak aw tk tw it ct pr bu id] w fun e w'=>∃vb,VOk V2.ps V2.n (i+1)/\e=.returned (rV r 0 0 0 0 0)/\St W (evP eb m1 m2 m3 m4 ((ak,(vb,V2))::l8 E ak)::R) w':=by
 obtain⟨V,hV⟩:∃V,vAt E ak=V:=⟨_,rfl⟩
 obtain⟨D,hD⟩:∃D,l8 E ak=D:=⟨_,rfl⟩
 rw[hV]at h1 h2;rw[hD];have H1:=jH h1;have H2:=jH h2;clear h1 h2;have HE:=jH hE;have HV:=jH hV;have HD:=jH hD;clear hE hV hD;go_enter Tryz.func39,Tryz.ntmps39;go_wp2_with(first|refine zbx hS ?_;clear hS;intro bO w hS|refine zal hS ?_;clear hS;intro bR w hS);have hS1:=hS.s (evP eb m1 m2 m3 m4 E::blk bR _ _::blk bO _ _::R);clear hS
 refine rf3 [0,0,2,6,15,0,32,96,0,256,1023,2047,4095] (fun i=>i==4) (fun i=>if i==10 then some (.I r)else none)
  [⟨some 4,some 10,fun nd=>atR (nd 4) eb m1 m2 m3 m4 D ak V i⟩,⟨some 10,none,fun nd=>atR (nd 4) eb m1 m2 m3 m4 D ak V2 (i+1)⟩,⟨some 12,none,fun _=>blk bR [.I r,.I 0,.I 0,.I 0,.I 0,.I 0] 31⟩] [some 4,some 12,none] hS1 ?_
 clear hS1;intro nd
 repeat(first|refine zc1 ?_|apply Az7;rfl;rfl;rfl;decide +kernel;(focus(simp only[fD,fI,fJ,Act.eval,fE,fF,fG,fH,fK];try rfl));intro _;rfl;intro F w hS;exact atF HE.out HV.out HD.out hS;refine frS ?_|refine zcv ?_ (hs:=by(intro F w hS;(try clear hS0);exact gj4 H1.out H2.out hS))|refine zcs ?_|refine cR ?_)
 refine Ac7 ?_;intro w hS;have hS2:St W [atR _ eb m1 m2 m3 m4 D ak V2 (i+1),blk bR _ _,blk bO _ _,sats R] w:=hS;clear hS;have hS:=hS2.unpack [_,_,_];clear hS2;simp only[jK,jN]at hS;go_wp2_with fail;apply AH7;rfl;rfl;rfl;exact hS;decide +kernel;(exact x9);kernel_rfl;obtain⟨vb,h1,hS3⟩:=cI4 hS;exact⟨vb,h1,rfl,hS3.s _⟩
theorem KA7{eb m1 m2 m3 m4:Nat}{E:Ev}{i:Nat}(hE:L5 E i)(kd cl sq:Int)(ak aw tk tw:ByteArray)(it ct pr:Int)(bu:Bool)(id:Int)(ar:List ((Int×Int)×Unit))(h0:0<=it)(h4:it<4)(c0:1<=ct)(c1:ct<=1048576){q:Ps}
  (hq:aM4 (vAt E ak).ps aw (P7 it ct)=q) (W w:World) (R:List HP) (hS:St W (evP eb m1 m2 m3 m4 E::c8 eW eU m4 ar::R) w):
  Calls Tryz.prog 41 #[.P eb,oV kd cl sq ak aw tk tw it ct pr bu id] w fun e w'=>∃vb,VOk q (vAt E ak).n (i+1)/\e=.returned (rV 0 0 0 0 0 0) /\
   St W (evP eb m1 m2 m3 m4 ((ak,(vb,⟨q,(vAt E ak).L,(vAt E ak).n⟩))::l8 E ak)::c8 eW eU m4 (((cl,sq),())::l8 ar (cl,sq))::R) w':=by
 obtain⟨V,hV⟩:∃V,vAt E ak=V:=⟨_,rfl⟩
 obtain⟨D,hD⟩:∃D,l8 E ak=D:=⟨_,rfl⟩
 obtain⟨x,hx⟩:∃x,P7 it ct=x:=⟨_,rfl⟩
 obtain⟨x0,x1,x2,x3⟩:=x;rw[hV,hx]at hq;obtain⟨r,hr⟩:∃r,bA4 V.ps aw ⟨x0,x1,x2,x3⟩=r:=⟨_,rfl⟩
 rw[hV,hD];have Hx:=jH hx;have Hr:=jH hr;have Hq:=jH hq;clear hx hr hq;have HE:=jH hE;have HV:=jH hV;have HD:=jH hD;clear hE hV hD;go_enter Tryz.func41,Tryz.ntmps41;go_wp2_with(first|refine zbx hS ?_;clear hS;intro bO w hS|refine zal hS ?_;clear hS;intro bR w hS);have hS1:=hS.s (evP eb m1 m2 m3 m4 E::blk bR _ _::blk bO _ _::c8 eW eU m4 ar::R);clear hS
 refine rf3 [0,0,2,6,15,0,32,96,0,287,1023] (fun i=>i==4) (fun i=>if i==9 then some (.agg #[.I x0,.I x1,.I x2,.I x3])else if i==10 then some (.I r)else none)
  [⟨some 4,some 10,fun nd=>atR (nd 4) eb m1 m2 m3 m4 D ak V i⟩,⟨some 10,none,fun nd=>atR (nd 4) eb m1 m2 m3 m4 D ak ⟨q,V.L,V.n⟩ (i+1)⟩] [some 4,none,none] hS1 ?_
 clear hS1;intro nd
 repeat(first|refine zc1 ?_|refine zcN ?_|apply Az7;rfl;rfl;rfl;decide +kernel;(focus(simp only[fD,fI,fJ,Act.eval,fE,fF,fG,fH,fK];try rfl));intro _;rfl;intro F w hS;exact atF HE.out HV.out HD.out hS;refine frS ?_|refine zcv ?_ (hs:=by(intro F w hS;(try clear hS0);exact FV7 Hx.out h0 h4 c0 c1 W w _ hS))|refine zcv ?_ (hs:=by(intro F w hS;(try clear hS0);exact fy4 Hr.out Hq.out hS))|refine cR ?_)
 refine Ac7 ?_;intro w hS;have hS2:St W [atR _ eb m1 m2 m3 m4 D ak ⟨q,V.L,V.n⟩ (i+1),blk bR _ _,blk bO _ _,sats (c8 eW eU m4 ar::R)] w:=hS;clear hS;have hS:=hS2.unpack [_,_,_];clear hS2;simp only[jK,jN]at hS;obtain⟨vb,h1,hS3⟩:=cI4 hS;clear hS;have H1:=jH h1;clear h1;have hS:=D9 hS3;clear hS3;go_wp2_with fail;refine rt 9 hS ?_
 repeat(first|refine zq1 ?_|refine zqn ?_|refine qR ?_)
 clear hS;intro w hS;simp only[jD,List.drop_zero];go_wp2_with(first|((with_reducible apply Ba7 (ek:=eW) (ev:=eU) (k:=(cl,sq)) (u:=()) hS);rfl;rfl;rfl;rfl;exact g8;(focus(rfl));exact mAr;exact kW;clear hS;intro w hS;try(refine frS ?_))|refine zsN hS ?_;clear hS;intro w hS);apply AH7;rfl;rfl;rfl;exact hS;decide +kernel;(exact x9);kernel_rfl;exact⟨vb,H1.out,rfl,(F7 (hS.s (ebB eb m1 m2 m3 m4::c8 eS eN m1 _::j8 _::c8 eW eU m4 _::R)))⟩
theorem Oh7{eb m1 m2 m3 m4:Nat}{E:Ev}(kd cl sq:Int)(ak aw tk tw:ByteArray)(it ct pr:Int)(bu:Bool)(id:Int)(ts:List ((Int×Int)×Tns))(W w:World)(R:List HP)(hS:St W (evP eb m1 m2 m3 m4 E::c8 eW eTn m3 ts::R) w):
  Calls Tryz.prog 42 #[.P eb,oV kd cl sq ak aw tk tw it ct pr bu id] w fun e w'=>e=.returned (rV 0 0 0 0 0 0)/\St W (evP eb m1 m2 m3 m4 E::c8 eW eTn m3 (l8 ts (cl,sq))::R) w':=by
 have hS1:=D9 hS;clear hS;have hS:=hS1;clear hS1;go_enter Tryz.func42,Tryz.ntmps42;go_wp2_with(first|refine zbx hS ?_;clear hS;intro bO w hS|refine zal hS ?_;clear hS;intro bR w hS);refine rt 9 hS ?_
 repeat(first|refine zq1 ?_|refine zqn ?_|refine qR ?_)
 clear hS;intro w hS;simp only[jD,List.drop_zero];go_wp2_with(first|((with_reducible apply Kj7 (ek:=eW) (ev:=eTn) (k:=(cl,sq)) hS);rfl;rfl;rfl;rfl;exact g8;exact mT;exact kW;clear hS;intro w hS;try(refine frS ?_))|refine zsN hS ?_;clear hS;intro w hS);apply AH7;rfl;rfl;rfl;exact hS;decide +kernel;(exact x9);kernel_rfl;exact⟨rfl,F7 (hS.s (ebB eb m1 m2 m3 m4::c8 eS eN m1 _::j8 _::c8 eW eTn m3 _::R))⟩
end Go.Proofs.YtlmhakmoioogaaaGreat
end
