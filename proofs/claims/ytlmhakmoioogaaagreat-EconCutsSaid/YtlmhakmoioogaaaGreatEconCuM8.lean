/-
  The vault's purses.
-/
import Derived.Test.YtlmhakmoioogaaaGreatEconCuM3
import Derived.Test.YtlmhakmoioogaaaGreatEconCuM4
import Derived.Test.YtlmhakmoioogaaaGreatEconCuM5
import Derived.Test.YtlmhakmoioogaaaGreatEconCuM6
import Derived.Test.YtlmhakmoioogaaaGreatEconCuM7
set_option maxHeartbeats 16000000
set_option maxRecDepth 100000
set_option linter.unusedSimpArgs false
set_option linter.unusedVariables false
section
namespace Go.Sl
open Go.RowKit
section
variable{κ ν:Type}[DecidableEq κ]{P:Program}{t K E:TypeId}{ek:κ->Value}{ev:ν->Value}{W w:World}{L R:List HP}{b:Nat}{l:List (κ×ν)}{ops:Array Oper}{a:Act}{rest:List Oper}{o:Oper}
theorem Nj7{k:κ}{z:Value}{d u:ν}(hd:z=ev d)(hu:(i9 l k).getD d=u):O6 false z ((i9 l k).map ev)=ev u:=by
 subst hu hd
 cases i9 l k <;> rfl
theorem Ir7{Q:Exit->Act->World->Prop}{x y:Operand}{k:κ}{z:Value}(d u:ν)(hS:St W L w)(ho:o.op=.lookup t x y false)(hg:Region.wanted o (yielded ops a.tmps)=true)(hx:a.eval x=.map (some b))(hy:a.eval y=ek k)(hu:Take L (d8 ek ev b l) R)
  (ht:D6 P t=some (K,E)) (hK:KeyOk P K ek) (hz:I6 P E=some z) (hd:z=ev d) (hv:(i9 l k).getD d=u) (h:wpList P ops Q rest (a.put o.dst (ev u)) w):wpList P ops Q (o::rest) a w:=
 Ht7 hS ho hg hx hy hu ht hK hz (by rw[Nj7 hd hv];exact h)
theorem AT7{tb:List Nat}{toks:List Tok}{fresh:Nat->Bool}{pin:Nat->Option Value}{Qf:Act->Prop}{nd:Nat->Value}{i:Nat}{x y:Operand}{k:κ}{z:Value}(d u:ν)(hf:fresh i=false)(hn:ap4 toks i=true)(ho:o.op=.lookup t x y false)(hg:Region.wanted o (yielded ops a.tmps)=true)(hx:a.eval x=.map (some b))(hy:a.eval y=ek k)
  (hu:∀F, ∃R,Take (kpL toks tb i nd++F) (d8 ek ev b l) R) (ht:D6 P t=some (K,E)) (hK:KeyOk P K ek) (hz:I6 P E=some z) (hd:z=ev d) (hv:(i9 l k).getD d=u)
  (h:l7 P W ops tb toks fresh pin Qf nd (i+1) rest (a.put o.dst (ev u))):l7 P W ops tb toks fresh pin Qf nd i (o::rest) a:=
 DQ7 hf hn hg (fun F w hS=>by obtain⟨R,hu⟩:=hu F;unfold execOp;simp[ho,hx,hy,DT7 (hS.take hu) ht hK hz,Nj7 hd hv]) h
end
end Go.Sl
namespace Go.Sl
open Go.RowKit
section
variable{P:Program}{w:World}{ops:Array Oper}{Q:Exit->Act->World->Prop}{a:Act}{rest:List Oper}{o:Oper}
theorem Cg7{t t2:TypeId}{x y:Operand}{xs ys:Array Value}{r:Bool}(ho:o.op=.binOp .eql t x y t2)(hg:Region.wanted o (yielded ops a.tmps)=true)(hx:a.eval x=.agg xs)(hy:a.eval y=.agg ys)(hm:P.eqGuardType P.depth t=false)(hr:∀w:World,(Op.equalIn 10000 t (.agg xs) (.agg ys)).run P w=.ok r w)
  (h:wpList P ops Q rest (a.put o.dst (.bool r)) w):wpList P ops Q (o::rest) a w:=by
 refine Ak7 hg (v:=.bool r) (w':=w) ?_ h;unfold execOp;simp[ho,hx,hy,run_eqGuard_agg w .eql t x y xs ys hm,run_eql_struct,hr]
theorem GS7{t t2:TypeId}{x y:Operand}{xs ys:Array Value}{r:Bool}(ho:o.op=.binOp .neq t x y t2)(hg:Region.wanted o (yielded ops a.tmps)=true)(hx:a.eval x=.agg xs)(hy:a.eval y=.agg ys)(hm:P.eqGuardType P.depth t=false)(hr:∀w:World,(Op.equalIn 10000 t (.agg xs) (.agg ys)).run P w=.ok r w)
  (h:wpList P ops Q rest (a.put o.dst (.bool (!r))) w):wpList P ops Q (o::rest) a w:=by
 refine Ak7 hg (v:=.bool (!r)) (w':=w) ?_ h;unfold execOp;simp[ho,hx,hy,run_eqGuard_agg w .neq t x y xs ys hm,run_neq_struct,hr]
end
end Go.Sl
namespace Go.Proofs.YtlmhakmoioogaaaGreat
open Go.RowKit Go.Sl
theorem eqI(x0 x1 x2 x3 y0 y1 y2 y3:Int)(w:World):(Op.equalIn 10000 29 (.agg #[.I x0,.I x1,.I x2,.I x3]) (.agg #[.I y0,.I y1,.I y2,.I y3])).run Tryz.prog w=.ok (x0==y0&&(x1==y1&&(x2==y2&&x3==y3))) w:=by
 have u3:=Tryz.underlying3;have a3:=Tryz.isAgg3;have z3:=Tryz.sizeOf3;rw[show(10000:Nat)=9999+1 from rfl,Op.equalIn];simp only[Sem.run_bind,run_underlying Tryz.underlying29,Result.andThen_ok];simp only[Std.Legacy.Range.forIn_eq_forIn_range',Std.Legacy.Range.size,Nat.sub_zero,Nat.add_sub_cancel,Nat.div_one,List.range'_succ,List.range'_zero,List.forIn_cons,List.forIn_nil]
 go_simp
 by_cases h1:x0=y0 <;> by_cases h2:x1=y1 <;> by_cases h3:x2=y2 <;> by_cases h4:x3=y3 <;> simp[h1,h2,h3,h4]
abbrev eS(k:ByteArray):Value:=.string k
abbrev eP(i:It):Value:=.agg i.cells.toArray
theorem kS:KeyOk Tryz.prog 9 eS:=KeyOk.str Tryz.underlying9
theorem mP:D6 Tryz.prog 173=some (9,29):=by kernel_rfl
theorem zP:I6 Tryz.prog 29=some (.agg #[.I 0,.I 0,.I 0,.I 0]):=by kernel_rfl
abbrev Ps:=List (ByteArray×It)
def k9(p:Ps)(k:ByteArray):It:=(i9 p k).getD it0
def isZ(i:It):Bool:=decide (i.x0=0)&&(decide (i.x1=0)&&(decide (i.x2=0)&&decide (i.x3=0)))
def H7(p:Ps)(k:ByteArray)(i:It):Ps:=if isZ i=true then j6 p k else(k,i)::j6 p k
section
variable(vb mb:Nat)(p:Ps)(k:ByteArray)(u1 u2:Value)(W w:World)(R:List HP)
theorem Pj7(hS:St W (blk vb [.map (some mb),u1,u2] 176::d8 eS eP mb p::R) w):
  Calls Tryz.prog 47 #[.P vb,.string k] w fun e w'=>e=.returned (eP (k9 p k))/\St W (blk vb [.map (some mb),u1,u2] 176::d8 eS eP mb p::R) w':=by
 obtain⟨x,hx⟩:∃x,k9 p k=x:=⟨_,rfl⟩
 rw[hx];obtain⟨x0,x1,x2,x3⟩:=x;have Hx:=jH hx;clear hx;go_enter Tryz.func47,Tryz.ntmps47;go_wp2_with(first|(with_reducible apply Ir7 (ek:=eS) (ev:=eP) (k:=k) it0 ⟨x0,x1,x2,x3⟩ hS);rfl;rfl;rfl;rfl;exact i6;exact mP;exact kS;exact zP;rfl;exact Hx.out;simp only[Act.put,fA,fB,fC,Nat.reduceAdd,eP,It.cells]|refine zl1 hS ?_|refine zsN hS ?_;clear hS;intro w hS|refine zal hS ?_;clear hS;intro b w hS);apply As7;rfl;rfl;rfl;exact hS;decide +kernel;(exact n9);kernel_rfl;exact⟨rfl,hS.drop⟩
theorem Bh7(i:It)(hS:St W (blk vb [.map (some mb),u1,u2] 176::d8 eS eP mb p::R) w):
  Calls Tryz.prog 164 #[.P vb,.string k,.agg i.cells.toArray] w fun e w'=>e=.returned (.tuple #[])/\St W (blk vb [.map (some mb),u1,u2] 176::d8 eS eP mb (H7 p k i)::R) w':=by
 obtain⟨x0,x1,x2,x3⟩:=i;unfold H7
 cases hz:isZ ⟨x0,x1,x2,x3⟩with
 | true=>
  rw[if_pos rfl];simp only[isZ,jB,decide_eq_true_eq]at hz;obtain⟨rfl,rfl,rfl,rfl⟩:=hz;have h4:(((0:Int)==0)&&(((0:Int)==0)&&(((0:Int)==0)&&((0:Int)==0))))=true:=rfl;simp only[It.cells];go_enter Tryz.func164,Tryz.ntmps164;go_wp2_with(first|(with_reducible apply Cg7);rfl;rfl;rfl;rfl;kernel_rfl;exact eqI _ _ _ _ _ _ _ _;rw[h4];simp only[Act.put,fA,fB,fC,Nat.reduceAdd,eP,It.cells]|((with_reducible apply JI7 (ek:=eS) (ev:=eP) (k:=k) hS);rfl;rfl;rfl;rfl;exact i6;exact mP;exact kS;clear hS;intro w hS;try(simp only[Act.put,fA,fB,fC,Nat.reduceAdd,eP,It.cells]))|refine zl1 hS ?_|refine zlN hS ?_|refine zbx hS ?_;clear hS;intro b w hS);refine bodyPost_ret (results_none rfl _ _ _) rfl ?_;exact⟨rfl,hS.s _⟩
 | false=>
  rw[if_neg (by simp)];have h4:(x0==0&&(x1==0&&(x2==0&&x3==0)))=false:=hz;clear hz;simp only[It.cells];go_enter Tryz.func164,Tryz.ntmps164;go_wp2_with(first|(with_reducible apply Cg7);rfl;rfl;rfl;rfl;kernel_rfl;exact eqI _ _ _ _ _ _ _ _;rw[h4];simp only[Act.put,fA,fB,fC,Nat.reduceAdd,eP,It.cells]|refine zlN hS ?_|refine zbx hS ?_;clear hS;intro b w hS);refine rt 6 hS ?_
  repeat(first|refine zq1 ?_|refine zqN ?_|refine zqn ?_|refine qR ?_)
  clear hS;intro w hS;simp only[jD,List.drop_zero];go_wp2_with(first|((with_reducible apply Bg7 (ek:=eS) (ev:=eP) (k:=k) (u:=⟨x0,x1,x2,x3⟩) hS);rfl;rfl;rfl;rfl;exact i6;(focus(rfl));exact mP;exact kS;clear hS;intro w hS;try(simp only[Act.put,fA,fB,fC,Nat.reduceAdd,eP,It.cells])));go_end0;exact⟨rfl,hS.s _⟩
end
def B8(k:ByteArray):Bool:=decide (1<=k.size)&&decide (k.size<=16)
theorem Ch7(k:ByteArray)(W w:World)(R:List HP)(hS:St W R w):
  Calls Tryz.prog 163 #[.string k] w fun e w'=>e=.returned (.bool (B8 k))/\St W R w':=by
 go_enter Tryz.func163,Tryz.ntmps163;by_cases h1:k.size<1
 ·have e:B8 k=false:=by unfold B8;simp;omega
  have d1:decide ((1:Int)<=(k.size:Int))=false:=by simp;omega
  rw[e];go_wp2_with(fail);go_ret;exact⟨rfl,hS⟩
 ·have d1:(1:Int)<=(k.size:Int):=by omega
  by_cases h2:k.size<=16
  ·have e:B8 k=true:=by unfold B8;simp;omega
   have d2:(k.size:Int)<=16:=by omega
   rw[e];go_wp2_with(fail);go_ret;exact⟨rfl,hS⟩
  ·have e:B8 k=false:=by unfold B8;simp;omega
   have d2:decide ((k.size:Int)<=16)=false:=by simp;omega
   rw[e];go_wp2_with(fail);go_ret;exact⟨rfl,hS⟩
theorem Hu7{l:List It}{s0 s1 s2 s3:Int}(h:C6 l it0=some ⟨s0,s1,s2,s3⟩)(v:Value)(W w:World)(R:List HP)(hS:St W (row v 4 29 l.length (l.flatMap It.cells)::R) w):
  Calls Tryz.prog 58 #[v] w fun e w'=>e=.returned (.tuple #[.agg #[.I s0,.I s1,.I s2,.I s3],.bool true])/\St W R w':=
 (QH7 l v W w R hS).mono fun e w' ⟨he,hS⟩=>⟨by rw[he,bE4,h];rfl,hS.drop⟩
theorem Pk7{l:List It}(h:C6 l it0=none)(v:Value)(W w:World)(R:List HP)(hS:St W (row v 4 29 l.length (l.flatMap It.cells)::R) w):
  Calls Tryz.prog 58 #[v] w fun e w'=>e=.returned (.tuple #[.agg #[.I 0,.I 0,.I 0,.I 0],.bool false])/\St W R w':=
 (QH7 l v W w R hS).mono fun e w' ⟨he,hS⟩=>⟨by rw[he,bE4,h];rfl,hS.drop⟩
theorem Rf7{x0 x1 x2 x3 y0 y1 y2 y3:Int}(h:J8 ⟨x0,x1,x2,x3⟩ ⟨y0,y1,y2,y3⟩=true)(W w:World)(R:List HP)(hS:St W R w):
  Calls Tryz.prog 166 #[.agg #[.I x0,.I x1,.I x2,.I x3],.agg #[.I y0,.I y1,.I y2,.I y3]] w fun e w'=>e=.returned (.tuple #[.agg #[.I (x0-y0),.I (x1-y1),.I (x2-y2),.I (x3-y3)],.bool true])/\St W R w':=
 (QG7 ⟨x0,x1,x2,x3⟩ ⟨y0,y1,y2,y3⟩ W w R hS).mono fun e w' ⟨he,hS⟩=>⟨by rw[he,cl4,h];rfl,hS⟩
theorem Sz7{x0 x1 x2 x3 y0 y1 y2 y3:Int}(h:J8 ⟨x0,x1,x2,x3⟩ ⟨y0,y1,y2,y3⟩=false)(W w:World)(R:List HP)(hS:St W R w):
  Calls Tryz.prog 166 #[.agg #[.I x0,.I x1,.I x2,.I x3],.agg #[.I y0,.I y1,.I y2,.I y3]] w fun e w'=>e=.returned (.tuple #[.agg #[.I 0,.I 0,.I 0,.I 0],.bool false])/\St W R w':=
 (QG7 ⟨x0,x1,x2,x3⟩ ⟨y0,y1,y2,y3⟩ W w R hS).mono fun e w' ⟨he,hS⟩=>⟨by rw[he,cl4,h];rfl,hS⟩
def K7(p:Ps)(k:ByteArray)(i:It):Int:=if B8 k=true/\s9 i=true then(if(C6 [k9 p k,i] it0).isSome=true then 0 else 6)else 1
def F9(p:Ps)(k:ByteArray)(i:It):Ps:=if B8 k=true/\s9 i=true then(match C6 [k9 p k,i] it0 with|some s=>H7 p k s|none=>p)else p
def m9(p:Ps)(k:ByteArray)(i:It):Int:=if B8 k=true/\s9 i=true then(if J8 (k9 p k) i=true then 0 else 14)else 1
def p9(p:Ps)(k:ByteArray)(i:It):Ps:=if B8 k=true/\s9 i=true then(if J8 (k9 p k) i=true then H7 p k (bD4 (k9 p k) i)else p)else p
section
variable(vb mb:Nat)(p:Ps)(k:ByteArray)(u1 u2:Value)(i:It)(W w:World)(R:List HP)
abbrev tB7a:List Nat:=[0,1,3,7,0,31,0,127,255,511,1023,1023,0,6143,16383]
theorem Pl7(hS:St W (blk vb [.map (some mb),u1,u2] 176::d8 eS eP mb p::R) w):
  Calls Tryz.prog 102 #[.P vb,.string k,.agg i.cells.toArray] w fun e w'=>e=.returned (.I (K7 p k i))/\St W (blk vb [.map (some mb),u1,u2] 176::d8 eS eP mb (F9 p k i)::R) w':=by
 obtain⟨x0,x1,x2,x3⟩:=i
 cases hk:B8 k with
 | false=>
  have e1:K7 p k ⟨x0,x1,x2,x3⟩=1:=by simp[K7,hk]
  have e2:F9 p k ⟨x0,x1,x2,x3⟩=p:=by simp[F9,hk]
  rw[e1,e2];clear e1 e2;simp only[It.cells];go_enter Tryz.func102,Tryz.ntmps102;go_wp2_with(first|go_big_skip|go_at_call 163;refine(Ch7 k W _ _ hS).mono ?_;clear hS;rw[hk];rintro e w ⟨rfl,hS⟩|refine zbx hS ?_;clear hS;intro b w hS);go_ret;exact⟨rfl,hS.drop⟩
 | true=>
  cases hi:s9 ⟨x0,x1,x2,x3⟩with
  | false=>
   have e1:K7 p k ⟨x0,x1,x2,x3⟩=1:=by simp[K7,hk,hi]
   have e2:F9 p k ⟨x0,x1,x2,x3⟩=p:=by simp[F9,hk,hi]
   rw[e1,e2];clear e1 e2;simp only[It.cells];go_enter Tryz.func102,Tryz.ntmps102;go_wp2_with(first|go_at_call 163;refine(Ch7 k W _ _ hS).mono ?_;clear hS;rw[hk];rintro e w ⟨rfl,hS⟩|go_at_call 126;refine(aZ4 _ _ _ _ W _ _ hS).mono ?_;clear hS;rw[hi];rintro e w ⟨rfl,hS⟩|refine zlN hS ?_|refine zbx hS ?_;clear hS;intro b w hS);go_ret;exact⟨rfl,hS.drop⟩
  | true=>
   obtain⟨px,hx⟩:∃x,k9 p k=x:=⟨_,rfl⟩
   obtain⟨p0,p1,p2,p3⟩:=px
   cases ha:C6 [⟨p0,p1,p2,p3⟩,⟨x0,x1,x2,x3⟩] it0 with
   | none=>
    have e1:K7 p k ⟨x0,x1,x2,x3⟩=6:=by simp[K7,hk,hi,hx,ha]
    have e2:F9 p k ⟨x0,x1,x2,x3⟩=p:=by simp[F9,hk,hi,hx,ha]
    rw[e1,e2];have Hx:=jH hx;have Ha:=jH ha;clear ha hx e1 e2;simp only[It.cells];go_enter Tryz.func102,Tryz.ntmps102;go_wp2_with(first|go_at_call 163;refine(Ch7 k W _ _ hS).mono ?_;clear hS;rw[hk];rintro e w ⟨rfl,hS⟩|go_at_call 126;refine(aZ4 _ _ _ _ W _ _ hS).mono ?_;clear hS;rw[hi];rintro e w ⟨rfl,hS⟩|refine zlN hS ?_|refine zbx hS ?_;clear hS;intro b w hS);refine rf3 tB7a (fun i=>i==7||i==12) (fun i=>if i==8 then some (.tuple #[.agg #[.I 0,.I 0,.I 0,.I 0],.bool false])else none) [⟨some 7,some 8,fun nd=>row (nd 7) 4 29 2 ([(⟨p0,p1,p2,p3⟩:It),⟨x0,x1,x2,x3⟩].flatMap It.cells)⟩,⟨some 12,some 13,fun nd=>j5 (nd 12) [.I 0,.I 0,.I 0,.I 0] 29⟩,⟨some 13,none,fun nd=>j5 (nd 12) [.I 0,.I 0,.I 0,.I 0] 29⟩] [none,none,none] hS ?_;intro nd
    repeat(first|refine zc1 ?_|refine zcN ?_|refine zcn ?_|apply AT7 (ek:=eS) (ev:=eP) (k:=k) it0 ⟨p0,p1,p2,p3⟩;rfl;kernel_rfl;rfl;rfl;rfl;rfl;intro F;exact⟨_,by exact r6⟩;exact mP;exact kS;exact zP;rfl;exact Hx.out;simp only[Act.put,fA,fB,fC,Nat.reduceAdd,eP,It.cells]|refine cR ?_)
    (apply Bl7;rfl;rfl;rfl;(focus(simp only[fD,fI,fJ,Act.eval,fE,fF,fG,fH,fK];try rfl));exact esS;exact rsS;rfl;rfl;rfl;rfl;rfl;decide;intro _;rfl;rfl;intro _;rfl;refine frS ?_);refine zcv ?_ (hs:=by(intro F w hS;(try clear hS0);exact Pk7 Ha.out _ W w _ hS))
    iterate 3 (refine cR ?_)
    (refine zca ?_);refine zct ?_;refine cR ?_;refine Ad7 ?_;clear hS;intro w hS;have hS2:St W [j5 (nd 12) _ _,blk b _ _,blk vb _ _,d8 eS eP mb p,sats R] w:=hS;clear hS;have hS:=hS2.unpack [_,_,_,_];clear hS2;simp only[jK,jN]at hS;generalize nd 12=v12 at *;have h1:=hS.ptr;clear hS;obtain⟨b2,rfl,hS⟩:=h1;go_wp2_with(fail);go_ret;exact⟨rfl,hS.s _⟩
   | some s=>
    obtain⟨s0,s1,s2,s3⟩:=s;have e1:K7 p k ⟨x0,x1,x2,x3⟩=0:=by simp[K7,hk,hi,hx,ha]
    have e2:F9 p k ⟨x0,x1,x2,x3⟩=H7 p k ⟨s0,s1,s2,s3⟩:=by simp[F9,hk,hi,hx,ha,bD4]
    rw[e1,e2];have Hx:=jH hx;have Ha:=jH ha;clear ha hx e1 e2;simp only[It.cells];go_enter Tryz.func102,Tryz.ntmps102;go_wp2_with(first|go_at_call 163;refine(Ch7 k W _ _ hS).mono ?_;clear hS;rw[hk];rintro e w ⟨rfl,hS⟩|go_at_call 126;refine(aZ4 _ _ _ _ W _ _ hS).mono ?_;clear hS;rw[hi];rintro e w ⟨rfl,hS⟩|refine zlN hS ?_|refine zbx hS ?_;clear hS;intro b w hS);refine rf3 tB7a (fun i=>i==7||i==12) (fun i=>if i==8 then some (.tuple #[.agg #[.I s0,.I s1,.I s2,.I s3],.bool true])else none) [⟨some 7,some 8,fun nd=>row (nd 7) 4 29 2 ([(⟨p0,p1,p2,p3⟩:It),⟨x0,x1,x2,x3⟩].flatMap It.cells)⟩,⟨some 12,some 13,fun nd=>j5 (nd 12) [.I 0,.I 0,.I 0,.I 0] 29⟩,⟨some 13,none,fun nd=>j5 (nd 12) [.I s0,.I s1,.I s2,.I s3] 29⟩] [none,none,none] hS ?_;intro nd
    repeat(first|refine zc1 ?_|refine zcN ?_|refine zcn ?_|apply AT7 (ek:=eS) (ev:=eP) (k:=k) it0 ⟨p0,p1,p2,p3⟩;rfl;kernel_rfl;rfl;rfl;rfl;rfl;intro F;exact⟨_,by exact r6⟩;exact mP;exact kS;exact zP;rfl;exact Hx.out;simp only[Act.put,fA,fB,fC,Nat.reduceAdd,eP,It.cells]|refine cR ?_)
    (apply Bl7;rfl;rfl;rfl;(focus(simp only[fD,fI,fJ,Act.eval,fE,fF,fG,fH,fK];try rfl));exact esS;exact rsS;rfl;rfl;rfl;rfl;rfl;decide;intro _;rfl;rfl;intro _;rfl;refine frS ?_);refine zcv ?_ (hs:=by(intro F w hS;(try clear hS0);exact Hu7 Ha.out _ W w _ hS))
    iterate 3 (refine cR ?_)
    (refine zca ?_);refine zct ?_;refine cR ?_;refine Ad7 ?_;clear hS;intro w hS;have hS2:St W [j5 (nd 12) _ _,blk b _ _,blk vb _ _,d8 eS eP mb p,sats R] w:=hS;clear hS;have hS:=hS2.unpack [_,_,_,_];clear hS2;simp only[jK,jN]at hS;generalize nd 12=v12 at *;have h1:=hS.ptr;clear hS;obtain⟨b2,rfl,hS⟩:=h1;go_wp2_with(first|go_at_call 164;refine(Bh7 vb mb p k u1 u2 W _ R ⟨s0,s1,s2,s3⟩ (hS.s _)).mono ?_;clear hS;rintro e w ⟨rfl,hS⟩|refine zlN hS ?_);go_ret;exact⟨rfl,hS⟩
abbrev tB7b:List Nat:=[0,1,3,7,0,31,0,127,255,511,511,0,3071,8191]
theorem FU7(hS:St W (blk vb [.map (some mb),u1,u2] 176::d8 eS eP mb p::R) w):
  Calls Tryz.prog 104 #[.P vb,.string k,.agg i.cells.toArray] w fun e w'=>e=.returned (.I (m9 p k i))/\St W (blk vb [.map (some mb),u1,u2] 176::d8 eS eP mb (p9 p k i)::R) w':=by
 obtain⟨x0,x1,x2,x3⟩:=i
 cases hk:B8 k with
 | false=>
  have e1:m9 p k ⟨x0,x1,x2,x3⟩=1:=by simp[m9,hk]
  have e2:p9 p k ⟨x0,x1,x2,x3⟩=p:=by simp[p9,hk]
  rw[e1,e2];clear e1 e2;simp only[It.cells];go_enter Tryz.func104,Tryz.ntmps104;go_wp2_with(first|go_big_skip|go_at_call 163;refine(Ch7 k W _ _ hS).mono ?_;clear hS;rw[hk];rintro e w ⟨rfl,hS⟩|refine zbx hS ?_;clear hS;intro b w hS);go_ret;exact⟨rfl,hS.drop⟩
 | true=>
  cases hi:s9 ⟨x0,x1,x2,x3⟩with
  | false=>
   have e1:m9 p k ⟨x0,x1,x2,x3⟩=1:=by simp[m9,hk,hi]
   have e2:p9 p k ⟨x0,x1,x2,x3⟩=p:=by simp[p9,hk,hi]
   rw[e1,e2];clear e1 e2;simp only[It.cells];go_enter Tryz.func104,Tryz.ntmps104;go_wp2_with(first|go_at_call 163;refine(Ch7 k W _ _ hS).mono ?_;clear hS;rw[hk];rintro e w ⟨rfl,hS⟩|go_at_call 126;refine(aZ4 _ _ _ _ W _ _ hS).mono ?_;clear hS;rw[hi];rintro e w ⟨rfl,hS⟩|refine zlN hS ?_|refine zbx hS ?_;clear hS;intro b w hS);go_ret;exact⟨rfl,hS.drop⟩
  | true=>
   obtain⟨px,hx⟩:∃x,k9 p k=x:=⟨_,rfl⟩
   obtain⟨p0,p1,p2,p3⟩:=px
   cases ha:J8 ⟨p0,p1,p2,p3⟩ ⟨x0,x1,x2,x3⟩with
   | false=>
    have e1:m9 p k ⟨x0,x1,x2,x3⟩=14:=by simp[m9,hk,hi,hx,ha]
    have e2:p9 p k ⟨x0,x1,x2,x3⟩=p:=by simp[p9,hk,hi,hx,ha]
    rw[e1,e2];have Hx:=jH hx;have Ha:=jH ha;clear ha hx e1 e2;simp only[It.cells];go_enter Tryz.func104,Tryz.ntmps104;go_wp2_with(first|go_at_call 163;refine(Ch7 k W _ _ hS).mono ?_;clear hS;rw[hk];rintro e w ⟨rfl,hS⟩|go_at_call 126;refine(aZ4 _ _ _ _ W _ _ hS).mono ?_;clear hS;rw[hi];rintro e w ⟨rfl,hS⟩|refine zlN hS ?_|refine zbx hS ?_;clear hS;intro b w hS);refine rf3 tB7b (fun i=>i==11) (fun i=>if i==7 then some (.tuple #[.agg #[.I (0),.I (0),.I (0),.I (0)],.bool false])else none) [⟨some 11,some 12,fun nd=>j5 (nd 11) [.I 0,.I 0,.I 0,.I 0] 29⟩,⟨some 12,none,fun nd=>j5 (nd 11) [.I (0),.I (0),.I (0),.I (0)] 29⟩] [none,none,none] hS ?_;intro nd
    repeat(first|refine zc1 ?_|refine zcN ?_|refine zcn ?_|apply AT7 (ek:=eS) (ev:=eP) (k:=k) it0 ⟨p0,p1,p2,p3⟩;rfl;kernel_rfl;rfl;rfl;rfl;rfl;intro F;exact⟨_,by exact r6⟩;exact mP;exact kS;exact zP;rfl;exact Hx.out;simp only[Act.put,fA,fB,fC,Nat.reduceAdd,eP,It.cells]|refine cR ?_)
    (refine zcv ?_ (hs:=by(intro F w hS;(try clear hS0);exact Sz7 Ha.out W w _ hS)))
    iterate 3 (refine cR ?_)
    (refine zca ?_);refine zct ?_;refine cR ?_;refine Ad7 ?_;clear hS;intro w hS;have hS2:St W [j5 (nd 11) _ _,blk b _ _,blk vb _ _,d8 eS eP mb p,sats R] w:=hS;clear hS;have hS:=hS2.unpack [_,_,_,_];clear hS2;simp only[jK,jN]at hS;generalize nd 11=v12 at *;have h1:=hS.ptr;clear hS;obtain⟨b2,rfl,hS⟩:=h1;go_wp2_with(fail);go_ret;exact⟨rfl,hS.s _⟩
   | true=>
    have e1:m9 p k ⟨x0,x1,x2,x3⟩=0:=by simp[m9,hk,hi,hx,ha]
    have e2:p9 p k ⟨x0,x1,x2,x3⟩=H7 p k ⟨p0-x0,p1-x1,p2-x2,p3-x3⟩:=by simp[p9,hk,hi,hx,ha,bD4]
    rw[e1,e2];have Hx:=jH hx;have Ha:=jH ha;clear ha hx e1 e2;simp only[It.cells];go_enter Tryz.func104,Tryz.ntmps104;go_wp2_with(first|go_at_call 163;refine(Ch7 k W _ _ hS).mono ?_;clear hS;rw[hk];rintro e w ⟨rfl,hS⟩|go_at_call 126;refine(aZ4 _ _ _ _ W _ _ hS).mono ?_;clear hS;rw[hi];rintro e w ⟨rfl,hS⟩|refine zlN hS ?_|refine zbx hS ?_;clear hS;intro b w hS);refine rf3 tB7b (fun i=>i==11) (fun i=>if i==7 then some (.tuple #[.agg #[.I (p0-x0),.I (p1-x1),.I (p2-x2),.I (p3-x3)],.bool true])else none) [⟨some 11,some 12,fun nd=>j5 (nd 11) [.I 0,.I 0,.I 0,.I 0] 29⟩,⟨some 12,none,fun nd=>j5 (nd 11) [.I (p0-x0),.I (p1-x1),.I (p2-x2),.I (p3-x3)] 29⟩] [none,none,none] hS ?_;intro nd
    repeat(first|refine zc1 ?_|refine zcN ?_|refine zcn ?_|apply AT7 (ek:=eS) (ev:=eP) (k:=k) it0 ⟨p0,p1,p2,p3⟩;rfl;kernel_rfl;rfl;rfl;rfl;rfl;intro F;exact⟨_,by exact r6⟩;exact mP;exact kS;exact zP;rfl;exact Hx.out;simp only[Act.put,fA,fB,fC,Nat.reduceAdd,eP,It.cells]|refine cR ?_)
    (refine zcv ?_ (hs:=by(intro F w hS;(try clear hS0);exact Rf7 Ha.out W w _ hS)))
    iterate 3 (refine cR ?_)
    (refine zca ?_);refine zct ?_;refine cR ?_;refine Ad7 ?_;clear hS;intro w hS;have hS2:St W [j5 (nd 11) _ _,blk b _ _,blk vb _ _,d8 eS eP mb p,sats R] w:=hS;clear hS;have hS:=hS2.unpack [_,_,_,_];clear hS2;simp only[jK,jN]at hS;generalize nd 11=v12 at *;have h1:=hS.ptr;clear hS;obtain⟨b2,rfl,hS⟩:=h1;go_wp2_with(first|go_at_call 164;refine(Bh7 vb mb p k u1 u2 W _ R ⟨p0-x0,p1-x1,p2-x2,p3-x3⟩ (hS.s _)).mono ?_;clear hS;rintro e w ⟨rfl,hS⟩|refine zlN hS ?_);go_ret;exact⟨rfl,hS⟩
end
end Go.Proofs.YtlmhakmoioogaaaGreat
end
