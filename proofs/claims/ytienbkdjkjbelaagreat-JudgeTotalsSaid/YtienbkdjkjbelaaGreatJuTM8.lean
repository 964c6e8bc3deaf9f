/-
  The vault's purses.
-/
import Derived.Test.YtienbkdjkjbelaaGreatJuTM3
import Derived.Test.YtienbkdjkjbelaaGreatJuTM4
import Derived.Test.YtienbkdjkjbelaaGreatJuTM5
import Derived.Test.YtienbkdjkjbelaaGreatJuTM6
import Derived.Test.YtienbkdjkjbelaaGreatJuTM7
set_option maxHeartbeats 16000000
set_option maxRecDepth 100000
set_option linter.unusedSimpArgs false
set_option linter.unusedVariables false
section
namespace Go.Sl
open Go.RowKit
section
variable{κ ν:Type}[DecidableEq κ]{P:Program}{t K E:TypeId}{ek:κ->Value}{ev:ν->Value}{W w:World}{L R:List HP}{b:Nat}{l:List (κ×ν)}{ops:Array Oper}{a:Act}{rest:List Oper}{o:Oper}
theorem LB7{k:κ}{z:Value}{d u:ν}(hd:z=ev d)(hu:(j6 l k).getD d=u):ad4 false z ((j6 l k).map ev)=ev u:=by
 subst hu hd
 cases j6 l k <;> rfl
theorem Hf7{Q:Exit->Act->World->Prop}{x y:Operand}{k:κ}{z:Value}(d u:ν)(hS:St W L w)(ho:o.op=.lookup t x y false)(hg:Region.wanted o (yielded ops a.tmps)=true)(hx:a.eval x=.map (some b))(hy:a.eval y=ek k)(hu:Take L (d9 ek ev b l) R)
  (ht:E8 P t=some (K,E)) (hK:KeyOk P K ek) (hz:E9 P E=some z) (hd:z=ev d) (hv:(j6 l k).getD d=u) (h:wpList P ops Q rest (a.put o.dst (ev u)) w):wpList P ops Q (o::rest) a w:=
 Dm7 hS ho hg hx hy hu ht hK hz (by rw[LB7 hd hv];exact h)
theorem AJ7{tb:List Nat}{toks:List Tok}{fresh:Nat->Bool}{pin:Nat->Option Value}{Qf:Act->Prop}{nd:Nat->Value}{i:Nat}{x y:Operand}{k:κ}{z:Value}(d u:ν)(hf:fresh i=false)(hn:au4 toks i=true)(ho:o.op=.lookup t x y false)(hg:Region.wanted o (yielded ops a.tmps)=true)(hx:a.eval x=.map (some b))(hy:a.eval y=ek k)
  (hu:∀F, ∃R,Take (kpL toks tb i nd++F) (d9 ek ev b l) R) (ht:E8 P t=some (K,E)) (hK:KeyOk P K ek) (hz:E9 P E=some z) (hd:z=ev d) (hv:(j6 l k).getD d=u)
  (h:l7 P W ops tb toks fresh pin Qf nd (i+1) rest (a.put o.dst (ev u))):l7 P W ops tb toks fresh pin Qf nd i (o::rest) a:=
 EZ7 hf hn hg (fun F w hS=>by obtain⟨R,hu⟩:=hu F;unfold execOp;simp[ho,hx,hy,Dl7 (hS.take hu) ht hK hz,LB7 hd hv]) h
end
end Go.Sl
namespace Go.Sl
open Go.RowKit
section
variable{P:Program}{w:World}{ops:Array Oper}{Q:Exit->Act->World->Prop}{a:Act}{rest:List Oper}{o:Oper}
theorem Cm7{t t2:TypeId}{x y:Operand}{xs ys:Array Value}{r:Bool}(ho:o.op=.binOp .eql t x y t2)(hg:Region.wanted o (yielded ops a.tmps)=true)(hx:a.eval x=.agg xs)(hy:a.eval y=.agg ys)(hm:P.eqGuardType P.depth t=false)(hr:∀w:World,(Op.equalIn 10000 t (.agg xs) (.agg ys)).run P w=.ok r w)
  (h:wpList P ops Q rest (a.put o.dst (.bool r)) w):wpList P ops Q (o::rest) a w:=by
 refine Am7 hg (v:=.bool r) (w':=w) ?_ h;unfold execOp;simp[ho,hx,hy,run_eqGuard_agg w .eql t x y xs ys hm,run_eql_struct,hr]
theorem Et7{t t2:TypeId}{x y:Operand}{xs ys:Array Value}{r:Bool}(ho:o.op=.binOp .neq t x y t2)(hg:Region.wanted o (yielded ops a.tmps)=true)(hx:a.eval x=.agg xs)(hy:a.eval y=.agg ys)(hm:P.eqGuardType P.depth t=false)(hr:∀w:World,(Op.equalIn 10000 t (.agg xs) (.agg ys)).run P w=.ok r w)
  (h:wpList P ops Q rest (a.put o.dst (.bool (!r))) w):wpList P ops Q (o::rest) a w:=by
 refine Am7 hg (v:=.bool (!r)) (w':=w) ?_ h;unfold execOp;simp[ho,hx,hy,run_eqGuard_agg w .neq t x y xs ys hm,run_neq_struct,hr]
end
end Go.Sl
namespace Go.Proofs.YtienbkdjkjbelaaGreat
open Go.RowKit Go.Sl
theorem eqI(x0 x1 x2 x3 y0 y1 y2 y3:Int)(w:World):(Op.equalIn 10000 34 (.agg #[.I x0,.I x1,.I x2,.I x3]) (.agg #[.I y0,.I y1,.I y2,.I y3])).run Tryz.prog w=.ok (x0==y0&&(x1==y1&&(x2==y2&&x3==y3))) w:=by
 have u3:=Tryz.underlying3;have a3:=Tryz.isAgg3;have z3:=Tryz.sizeOf3;rw[show(10000:Nat)=9999+1 from rfl,Op.equalIn];simp only[Sem.run_bind,run_underlying Tryz.underlying34,Result.andThen_ok];simp only[Std.Legacy.Range.forIn_eq_forIn_range',Std.Legacy.Range.size,Nat.sub_zero,Nat.add_sub_cancel,Nat.div_one,List.range'_succ,List.range'_zero,List.forIn_cons,List.forIn_nil]
 go_simp
 by_cases h1:x0=y0 <;> by_cases h2:x1=y1 <;> by_cases h3:x2=y2 <;> by_cases h4:x3=y3 <;> simp[h1,h2,h3,h4]
abbrev eS(k:ByteArray):Value:=.string k
abbrev eP(i:It):Value:=.agg i.cells.toArray
theorem kS:KeyOk Tryz.prog 9 eS:=KeyOk.str Tryz.underlying9
theorem mP:E8 Tryz.prog 212=some (9,34):=by kernel_rfl
theorem zP:E9 Tryz.prog 34=some (.agg #[.I 0,.I 0,.I 0,.I 0]):=by kernel_rfl
abbrev Ps:=List (ByteArray×It)
def j8(p:Ps)(k:ByteArray):It:=(j6 p k).getD it0
def isZ(i:It):Bool:=decide (i.x0=0)&&(decide (i.x1=0)&&(decide (i.x2=0)&&decide (i.x3=0)))
def G9(p:Ps)(k:ByteArray)(i:It):Ps:=if isZ i=true then i9 p k else(k,i)::i9 p k
section
variable(vb mb:Nat)(p:Ps)(k:ByteArray)(u1 u2:Value)(W w:World)(R:List HP)
theorem NN7(hS:St W (blk vb [.map (some mb),u1,u2] 215::d9 eS eP mb p::R) w):
  Calls Tryz.prog 155 #[.P vb,.string k] w fun e w'=>e=.returned (eP (j8 p k))/\St W (blk vb [.map (some mb),u1,u2] 215::d9 eS eP mb p::R) w':=by
 obtain⟨x,hx⟩:∃x,j8 p k=x:=⟨_,rfl⟩
 rw[hx];obtain⟨x0,x1,x2,x3⟩:=x;have Hx:=jH hx;clear hx;go_enter Tryz.func155,Tryz.ntmps155;go_wp2_with(first|(with_reducible apply Hf7 (ek:=eS) (ev:=eP) (k:=k) it0 ⟨x0,x1,x2,x3⟩ hS);rfl;rfl;rfl;rfl;exact i7;exact mP;exact kS;exact zP;rfl;exact Hx.out;simp only[Act.put,fA,fB,fC,Nat.reduceAdd,eP,It.cells]|refine zl1 hS ?_|refine zsN hS ?_;clear hS;intro w hS|refine zal hS ?_;clear hS;intro b w hS);apply Ap7;rfl;rfl;rfl;exact hS;decide +kernel;(exact r6);kernel_rfl;exact⟨rfl,hS.drop⟩
theorem AR7(i:It)(hS:St W (blk vb [.map (some mb),u1,u2] 215::d9 eS eP mb p::R) w):
  Calls Tryz.prog 146 #[.P vb,.string k,.agg i.cells.toArray] w fun e w'=>e=.returned (.tuple #[])/\St W (blk vb [.map (some mb),u1,u2] 215::d9 eS eP mb (G9 p k i)::R) w':=by
 obtain⟨x0,x1,x2,x3⟩:=i;unfold G9
 cases hz:isZ ⟨x0,x1,x2,x3⟩with
 | true=>
  rw[if_pos rfl];simp only[isZ,jB,decide_eq_true_eq]at hz;obtain⟨rfl,rfl,rfl,rfl⟩:=hz;have h4:(((0:Int)==0)&&(((0:Int)==0)&&(((0:Int)==0)&&((0:Int)==0))))=true:=rfl;simp only[It.cells];go_enter Tryz.func146,Tryz.ntmps146;go_wp2_with(first|(with_reducible apply Cm7);rfl;rfl;rfl;rfl;kernel_rfl;exact eqI _ _ _ _ _ _ _ _;rw[h4];simp only[Act.put,fA,fB,fC,Nat.reduceAdd,eP,It.cells]|((with_reducible apply Is7 (ek:=eS) (ev:=eP) (k:=k) hS);rfl;rfl;rfl;rfl;exact i7;exact mP;exact kS;clear hS;intro w hS;try(simp only[Act.put,fA,fB,fC,Nat.reduceAdd,eP,It.cells]))|refine zl1 hS ?_|refine zlN hS ?_|refine zbx hS ?_;clear hS;intro b w hS);refine bodyPost_ret (results_none rfl _ _ _) rfl ?_;exact⟨rfl,hS.s _⟩
 | false=>
  rw[if_neg (by simp)];have h4:(x0==0&&(x1==0&&(x2==0&&x3==0)))=false:=hz;clear hz;simp only[It.cells];go_enter Tryz.func146,Tryz.ntmps146;go_wp2_with(first|(with_reducible apply Cm7);rfl;rfl;rfl;rfl;kernel_rfl;exact eqI _ _ _ _ _ _ _ _;rw[h4];simp only[Act.put,fA,fB,fC,Nat.reduceAdd,eP,It.cells]|refine zlN hS ?_|refine zbx hS ?_;clear hS;intro b w hS);refine rt 6 hS ?_
  repeat(first|refine zq1 ?_|refine zqN ?_|refine zqn ?_|refine qR ?_)
  clear hS;intro w hS;simp only[jD,List.drop_zero];go_wp2_with(first|((with_reducible apply BA7 (ek:=eS) (ev:=eP) (k:=k) (u:=⟨x0,x1,x2,x3⟩) hS);rfl;rfl;rfl;rfl;exact i7;(focus(rfl));exact mP;exact kS;clear hS;intro w hS;try(simp only[Act.put,fA,fB,fC,Nat.reduceAdd,eP,It.cells])));go_end0;exact⟨rfl,hS.s _⟩
end
def C6(k:ByteArray):Bool:=decide (1<=k.size)&&decide (k.size<=16)
theorem BM7(k:ByteArray)(W w:World)(R:List HP)(hS:St W R w):
  Calls Tryz.prog 145 #[.string k] w fun e w'=>e=.returned (.bool (C6 k))/\St W R w':=by
 go_enter Tryz.func145,Tryz.ntmps145;by_cases h1:k.size<1
 ·have e:C6 k=false:=by unfold C6;simp;omega
  have d1:decide ((1:Int)<=(k.size:Int))=false:=by simp;omega
  rw[e];go_wp2_with(fail);go_ret;exact⟨rfl,hS⟩
 ·have d1:(1:Int)<=(k.size:Int):=by omega
  by_cases h2:k.size<=16
  ·have e:C6 k=true:=by unfold C6;simp;omega
   have d2:(k.size:Int)<=16:=by omega
   rw[e];go_wp2_with(fail);go_ret;exact⟨rfl,hS⟩
  ·have e:C6 k=false:=by unfold C6;simp;omega
   have d2:decide ((k.size:Int)<=16)=false:=by simp;omega
   rw[e];go_wp2_with(fail);go_ret;exact⟨rfl,hS⟩
theorem Go7{l:List It}{s0 s1 s2 s3:Int}(h:B5 l it0=some ⟨s0,s1,s2,s3⟩)(v:Value)(W w:World)(R:List HP)(hS:St W (row v 4 34 l.length (l.flatMap It.cells)::R) w):
  Calls Tryz.prog 32 #[v] w fun e w'=>e=.returned (.tuple #[.agg #[.I s0,.I s1,.I s2,.I s3],.bool true])/\St W R w':=
 (Ln7 l v W w R hS).mono fun e w' ⟨he,hS⟩=>⟨by rw[he,al4,h];rfl,hS.drop⟩
theorem NO7{l:List It}(h:B5 l it0=none)(v:Value)(W w:World)(R:List HP)(hS:St W (row v 4 34 l.length (l.flatMap It.cells)::R) w):
  Calls Tryz.prog 32 #[v] w fun e w'=>e=.returned (.tuple #[.agg #[.I 0,.I 0,.I 0,.I 0],.bool false])/\St W R w':=
 (Ln7 l v W w R hS).mono fun e w' ⟨he,hS⟩=>⟨by rw[he,al4,h];rfl,hS.drop⟩
theorem PO7{x0 x1 x2 x3 y0 y1 y2 y3:Int}(h:J5 ⟨x0,x1,x2,x3⟩ ⟨y0,y1,y2,y3⟩=true)(W w:World)(R:List HP)(hS:St W R w):
  Calls Tryz.prog 147 #[.agg #[.I x0,.I x1,.I x2,.I x3],.agg #[.I y0,.I y1,.I y2,.I y3]] w fun e w'=>e=.returned (.tuple #[.agg #[.I (x0-y0),.I (x1-y1),.I (x2-y2),.I (x3-y3)],.bool true])/\St W R w':=
 (Pl7 ⟨x0,x1,x2,x3⟩ ⟨y0,y1,y2,y3⟩ W w R hS).mono fun e w' ⟨he,hS⟩=>⟨by rw[he,bW4,h];rfl,hS⟩
theorem QZ7{x0 x1 x2 x3 y0 y1 y2 y3:Int}(h:J5 ⟨x0,x1,x2,x3⟩ ⟨y0,y1,y2,y3⟩=false)(W w:World)(R:List HP)(hS:St W R w):
  Calls Tryz.prog 147 #[.agg #[.I x0,.I x1,.I x2,.I x3],.agg #[.I y0,.I y1,.I y2,.I y3]] w fun e w'=>e=.returned (.tuple #[.agg #[.I 0,.I 0,.I 0,.I 0],.bool false])/\St W R w':=
 (Pl7 ⟨x0,x1,x2,x3⟩ ⟨y0,y1,y2,y3⟩ W w R hS).mono fun e w' ⟨he,hS⟩=>⟨by rw[he,bW4,h];rfl,hS⟩
def J8(p:Ps)(k:ByteArray)(i:It):Int:=if C6 k=true/\s6 i=true then(if(B5 [j8 p k,i] it0).isSome=true then 0 else 6)else 1
def F8(p:Ps)(k:ByteArray)(i:It):Ps:=if C6 k=true/\s6 i=true then(match B5 [j8 p k,i] it0 with|some s=>G9 p k s|none=>p)else p
def p9(p:Ps)(k:ByteArray)(i:It):Int:=if C6 k=true/\s6 i=true then(if J5 (j8 p k) i=true then 0 else 14)else 1
def r8(p:Ps)(k:ByteArray)(i:It):Ps:=if C6 k=true/\s6 i=true then(if J5 (j8 p k) i=true then G9 p k (bl4 (j8 p k) i)else p)else p
section
variable(vb mb:Nat)(p:Ps)(k:ByteArray)(u1 u2:Value)(i:It)(W w:World)(R:List HP)
abbrev tB7a:List Nat:=[0,1,3,7,0,31,0,127,255,511,1023,1023,0,6143,16383]
theorem NP7(hS:St W (blk vb [.map (some mb),u1,u2] 215::d9 eS eP mb p::R) w):
  Calls Tryz.prog 110 #[.P vb,.string k,.agg i.cells.toArray] w fun e w'=>e=.returned (.I (J8 p k i))/\St W (blk vb [.map (some mb),u1,u2] 215::d9 eS eP mb (F8 p k i)::R) w':=by
 obtain⟨x0,x1,x2,x3⟩:=i
 cases hk:C6 k with
 | false=>
  have e1:J8 p k ⟨x0,x1,x2,x3⟩=1:=by simp[J8,hk]
  have e2:F8 p k ⟨x0,x1,x2,x3⟩=p:=by simp[F8,hk]
  rw[e1,e2];clear e1 e2;simp only[It.cells];go_enter Tryz.func110,Tryz.ntmps110;go_wp2_with(first|go_big_skip|go_at_call 145;refine(BM7 k W _ _ hS).mono ?_;clear hS;rw[hk];rintro e w ⟨rfl,hS⟩|refine zbx hS ?_;clear hS;intro b w hS);go_ret;exact⟨rfl,hS.drop⟩
 | true=>
  cases hi:s6 ⟨x0,x1,x2,x3⟩with
  | false=>
   have e1:J8 p k ⟨x0,x1,x2,x3⟩=1:=by simp[J8,hk,hi]
   have e2:F8 p k ⟨x0,x1,x2,x3⟩=p:=by simp[F8,hk,hi]
   rw[e1,e2];clear e1 e2;simp only[It.cells];go_enter Tryz.func110,Tryz.ntmps110;go_wp2_with(first|go_at_call 145;refine(BM7 k W _ _ hS).mono ?_;clear hS;rw[hk];rintro e w ⟨rfl,hS⟩|go_at_call 75;refine(aN4 _ _ _ _ W _ _ hS).mono ?_;clear hS;rw[hi];rintro e w ⟨rfl,hS⟩|refine zlN hS ?_|refine zbx hS ?_;clear hS;intro b w hS);go_ret;exact⟨rfl,hS.drop⟩
  | true=>
   obtain⟨px,hx⟩:∃x,j8 p k=x:=⟨_,rfl⟩
   obtain⟨p0,p1,p2,p3⟩:=px
   cases ha:B5 [⟨p0,p1,p2,p3⟩,⟨x0,x1,x2,x3⟩] it0 with
   | none=>
    have e1:J8 p k ⟨x0,x1,x2,x3⟩=6:=by simp[J8,hk,hi,hx,ha]
    have e2:F8 p k ⟨x0,x1,x2,x3⟩=p:=by simp[F8,hk,hi,hx,ha]
    rw[e1,e2];have Hx:=jH hx;have Ha:=jH ha;clear ha hx e1 e2;simp only[It.cells];go_enter Tryz.func110,Tryz.ntmps110;go_wp2_with(first|go_at_call 145;refine(BM7 k W _ _ hS).mono ?_;clear hS;rw[hk];rintro e w ⟨rfl,hS⟩|go_at_call 75;refine(aN4 _ _ _ _ W _ _ hS).mono ?_;clear hS;rw[hi];rintro e w ⟨rfl,hS⟩|refine zlN hS ?_|refine zbx hS ?_;clear hS;intro b w hS);refine rf3 tB7a (fun i=>i==7||i==12) (fun i=>if i==8 then some (.tuple #[.agg #[.I 0,.I 0,.I 0,.I 0],.bool false])else none) [⟨some 7,some 8,fun nd=>row (nd 7) 4 34 2 ([(⟨p0,p1,p2,p3⟩:It),⟨x0,x1,x2,x3⟩].flatMap It.cells)⟩,⟨some 12,some 13,fun nd=>i8 (nd 12) [.I 0,.I 0,.I 0,.I 0] 34⟩,⟨some 13,none,fun nd=>i8 (nd 12) [.I 0,.I 0,.I 0,.I 0] 34⟩] [none,none,none] hS ?_;intro nd
    repeat(first|refine zc1 ?_|refine zcN ?_|refine zcn ?_|apply AJ7 (ek:=eS) (ev:=eP) (k:=k) it0 ⟨p0,p1,p2,p3⟩;rfl;kernel_rfl;rfl;rfl;rfl;rfl;intro F;exact⟨_,by exact A6⟩;exact mP;exact kS;exact zP;rfl;exact Hx.out;simp only[Act.put,fA,fB,fC,Nat.reduceAdd,eP,It.cells]|refine cR ?_)
    (apply Bn7;rfl;rfl;rfl;(focus(simp only[fD,fI,fJ,Act.eval,fE,fF,fG,fH,fK];try rfl));exact esS;exact rsS;rfl;rfl;rfl;rfl;rfl;decide;intro _;rfl;rfl;intro _;rfl;refine frS ?_);refine zcv ?_ (hs:=by(intro F w hS;(try clear hS0);exact NO7 Ha.out _ W w _ hS))
    iterate 3 (refine cR ?_)
    (refine zca ?_);refine zct ?_;refine cR ?_;refine Ad7 ?_;clear hS;intro w hS;have hS2:St W [i8 (nd 12) _ _,blk b _ _,blk vb _ _,d9 eS eP mb p,sats R] w:=hS;clear hS;have hS:=hS2.unpack [_,_,_,_];clear hS2;simp only[jK,jN]at hS;generalize nd 12=v12 at *;have h1:=hS.ptr;clear hS;obtain⟨b2,rfl,hS⟩:=h1;go_wp2_with(fail);go_ret;exact⟨rfl,hS.s _⟩
   | some s=>
    obtain⟨s0,s1,s2,s3⟩:=s;have e1:J8 p k ⟨x0,x1,x2,x3⟩=0:=by simp[J8,hk,hi,hx,ha]
    have e2:F8 p k ⟨x0,x1,x2,x3⟩=G9 p k ⟨s0,s1,s2,s3⟩:=by simp[F8,hk,hi,hx,ha,bl4]
    rw[e1,e2];have Hx:=jH hx;have Ha:=jH ha;clear ha hx e1 e2;simp only[It.cells];go_enter Tryz.func110,Tryz.ntmps110;go_wp2_with(first|go_at_call 145;refine(BM7 k W _ _ hS).mono ?_;clear hS;rw[hk];rintro e w ⟨rfl,hS⟩|go_at_call 75;refine(aN4 _ _ _ _ W _ _ hS).mono ?_;clear hS;rw[hi];rintro e w ⟨rfl,hS⟩|refine zlN hS ?_|refine zbx hS ?_;clear hS;intro b w hS);refine rf3 tB7a (fun i=>i==7||i==12) (fun i=>if i==8 then some (.tuple #[.agg #[.I s0,.I s1,.I s2,.I s3],.bool true])else none) [⟨some 7,some 8,fun nd=>row (nd 7) 4 34 2 ([(⟨p0,p1,p2,p3⟩:It),⟨x0,x1,x2,x3⟩].flatMap It.cells)⟩,⟨some 12,some 13,fun nd=>i8 (nd 12) [.I 0,.I 0,.I 0,.I 0] 34⟩,⟨some 13,none,fun nd=>i8 (nd 12) [.I s0,.I s1,.I s2,.I s3] 34⟩] [none,none,none] hS ?_;intro nd
    repeat(first|refine zc1 ?_|refine zcN ?_|refine zcn ?_|apply AJ7 (ek:=eS) (ev:=eP) (k:=k) it0 ⟨p0,p1,p2,p3⟩;rfl;kernel_rfl;rfl;rfl;rfl;rfl;intro F;exact⟨_,by exact A6⟩;exact mP;exact kS;exact zP;rfl;exact Hx.out;simp only[Act.put,fA,fB,fC,Nat.reduceAdd,eP,It.cells]|refine cR ?_)
    (apply Bn7;rfl;rfl;rfl;(focus(simp only[fD,fI,fJ,Act.eval,fE,fF,fG,fH,fK];try rfl));exact esS;exact rsS;rfl;rfl;rfl;rfl;rfl;decide;intro _;rfl;rfl;intro _;rfl;refine frS ?_);refine zcv ?_ (hs:=by(intro F w hS;(try clear hS0);exact Go7 Ha.out _ W w _ hS))
    iterate 3 (refine cR ?_)
    (refine zca ?_);refine zct ?_;refine cR ?_;refine Ad7 ?_;clear hS;intro w hS;have hS2:St W [i8 (nd 12) _ _,blk b _ _,blk vb _ _,d9 eS eP mb p,sats R] w:=hS;clear hS;have hS:=hS2.unpack [_,_,_,_];clear hS2;simp only[jK,jN]at hS;generalize nd 12=v12 at *;have h1:=hS.ptr;clear hS;obtain⟨b2,rfl,hS⟩:=h1;go_wp2_with(first|go_at_call 146;refine(AR7 vb mb p k u1 u2 W _ R ⟨s0,s1,s2,s3⟩ (hS.s _)).mono ?_;clear hS;rintro e w ⟨rfl,hS⟩|refine zlN hS ?_);go_ret;exact⟨rfl,hS⟩
abbrev tB7b:List Nat:=[0,1,3,7,0,31,0,127,255,511,511,0,3071,8191]
theorem Fd7(hS:St W (blk vb [.map (some mb),u1,u2] 215::d9 eS eP mb p::R) w):
  Calls Tryz.prog 112 #[.P vb,.string k,.agg i.cells.toArray] w fun e w'=>e=.returned (.I (p9 p k i))/\St W (blk vb [.map (some mb),u1,u2] 215::d9 eS eP mb (r8 p k i)::R) w':=by
 obtain⟨x0,x1,x2,x3⟩:=i
 cases hk:C6 k with
 | false=>
  have e1:p9 p k ⟨x0,x1,x2,x3⟩=1:=by simp[p9,hk]
  have e2:r8 p k ⟨x0,x1,x2,x3⟩=p:=by simp[r8,hk]
  rw[e1,e2];clear e1 e2;simp only[It.cells];go_enter Tryz.func112,Tryz.ntmps112;go_wp2_with(first|go_big_skip|go_at_call 145;refine(BM7 k W _ _ hS).mono ?_;clear hS;rw[hk];rintro e w ⟨rfl,hS⟩|refine zbx hS ?_;clear hS;intro b w hS);go_ret;exact⟨rfl,hS.drop⟩
 | true=>
  cases hi:s6 ⟨x0,x1,x2,x3⟩with
  | false=>
   have e1:p9 p k ⟨x0,x1,x2,x3⟩=1:=by simp[p9,hk,hi]
   have e2:r8 p k ⟨x0,x1,x2,x3⟩=p:=by simp[r8,hk,hi]
   rw[e1,e2];clear e1 e2;simp only[It.cells];go_enter Tryz.func112,Tryz.ntmps112;go_wp2_with(first|go_at_call 145;refine(BM7 k W _ _ hS).mono ?_;clear hS;rw[hk];rintro e w ⟨rfl,hS⟩|go_at_call 75;refine(aN4 _ _ _ _ W _ _ hS).mono ?_;clear hS;rw[hi];rintro e w ⟨rfl,hS⟩|refine zlN hS ?_|refine zbx hS ?_;clear hS;intro b w hS);go_ret;exact⟨rfl,hS.drop⟩
  | true=>
   obtain⟨px,hx⟩:∃x,j8 p k=x:=⟨_,rfl⟩
   obtain⟨p0,p1,p2,p3⟩:=px
   cases ha:J5 ⟨p0,p1,p2,p3⟩ ⟨x0,x1,x2,x3⟩with
   | false=>
    have e1:p9 p k ⟨x0,x1,x2,x3⟩=14:=by simp[p9,hk,hi,hx,ha]
    have e2:r8 p k ⟨x0,x1,x2,x3⟩=p:=by simp[r8,hk,hi,hx,ha]
    rw[e1,e2];have Hx:=jH hx;have Ha:=jH ha;clear ha hx e1 e2;simp only[It.cells];go_enter Tryz.func112,Tryz.ntmps112;go_wp2_with(first|go_at_call 145;refine(BM7 k W _ _ hS).mono ?_;clear hS;rw[hk];rintro e w ⟨rfl,hS⟩|go_at_call 75;refine(aN4 _ _ _ _ W _ _ hS).mono ?_;clear hS;rw[hi];rintro e w ⟨rfl,hS⟩|refine zlN hS ?_|refine zbx hS ?_;clear hS;intro b w hS);refine rf3 tB7b (fun i=>i==11) (fun i=>if i==7 then some (.tuple #[.agg #[.I (0),.I (0),.I (0),.I (0)],.bool false])else none) [⟨some 11,some 12,fun nd=>i8 (nd 11) [.I 0,.I 0,.I 0,.I 0] 34⟩,⟨some 12,none,fun nd=>i8 (nd 11) [.I (0),.I (0),.I (0),.I (0)] 34⟩] [none,none,none] hS ?_;intro nd
    repeat(first|refine zc1 ?_|refine zcN ?_|refine zcn ?_|apply AJ7 (ek:=eS) (ev:=eP) (k:=k) it0 ⟨p0,p1,p2,p3⟩;rfl;kernel_rfl;rfl;rfl;rfl;rfl;intro F;exact⟨_,by exact A6⟩;exact mP;exact kS;exact zP;rfl;exact Hx.out;simp only[Act.put,fA,fB,fC,Nat.reduceAdd,eP,It.cells]|refine cR ?_)
    (refine zcv ?_ (hs:=by(intro F w hS;(try clear hS0);exact QZ7 Ha.out W w _ hS)))
    iterate 3 (refine cR ?_)
    (refine zca ?_);refine zct ?_;refine cR ?_;refine Ad7 ?_;clear hS;intro w hS;have hS2:St W [i8 (nd 11) _ _,blk b _ _,blk vb _ _,d9 eS eP mb p,sats R] w:=hS;clear hS;have hS:=hS2.unpack [_,_,_,_];clear hS2;simp only[jK,jN]at hS;generalize nd 11=v12 at *;have h1:=hS.ptr;clear hS;obtain⟨b2,rfl,hS⟩:=h1;go_wp2_with(fail);go_ret;exact⟨rfl,hS.s _⟩
   | true=>
    have e1:p9 p k ⟨x0,x1,x2,x3⟩=0:=by simp[p9,hk,hi,hx,ha]
    have e2:r8 p k ⟨x0,x1,x2,x3⟩=G9 p k ⟨p0-x0,p1-x1,p2-x2,p3-x3⟩:=by simp[r8,hk,hi,hx,ha,bl4]
    rw[e1,e2];have Hx:=jH hx;have Ha:=jH ha;clear ha hx e1 e2;simp only[It.cells];go_enter Tryz.func112,Tryz.ntmps112;go_wp2_with(first|go_at_call 145;refine(BM7 k W _ _ hS).mono ?_;clear hS;rw[hk];rintro e w ⟨rfl,hS⟩|go_at_call 75;refine(aN4 _ _ _ _ W _ _ hS).mono ?_;clear hS;rw[hi];rintro e w ⟨rfl,hS⟩|refine zlN hS ?_|refine zbx hS ?_;clear hS;intro b w hS);refine rf3 tB7b (fun i=>i==11) (fun i=>if i==7 then some (.tuple #[.agg #[.I (p0-x0),.I (p1-x1),.I (p2-x2),.I (p3-x3)],.bool true])else none) [⟨some 11,some 12,fun nd=>i8 (nd 11) [.I 0,.I 0,.I 0,.I 0] 34⟩,⟨some 12,none,fun nd=>i8 (nd 11) [.I (p0-x0),.I (p1-x1),.I (p2-x2),.I (p3-x3)] 34⟩] [none,none,none] hS ?_;intro nd
    repeat(first|refine zc1 ?_|refine zcN ?_|refine zcn ?_|apply AJ7 (ek:=eS) (ev:=eP) (k:=k) it0 ⟨p0,p1,p2,p3⟩;rfl;kernel_rfl;rfl;rfl;rfl;rfl;intro F;exact⟨_,by exact A6⟩;exact mP;exact kS;exact zP;rfl;exact Hx.out;simp only[Act.put,fA,fB,fC,Nat.reduceAdd,eP,It.cells]|refine cR ?_)
    (refine zcv ?_ (hs:=by(intro F w hS;(try clear hS0);exact PO7 Ha.out W w _ hS)))
    iterate 3 (refine cR ?_)
    (refine zca ?_);refine zct ?_;refine cR ?_;refine Ad7 ?_;clear hS;intro w hS;have hS2:St W [i8 (nd 11) _ _,blk b _ _,blk vb _ _,d9 eS eP mb p,sats R] w:=hS;clear hS;have hS:=hS2.unpack [_,_,_,_];clear hS2;simp only[jK,jN]at hS;generalize nd 11=v12 at *;have h1:=hS.ptr;clear hS;obtain⟨b2,rfl,hS⟩:=h1;go_wp2_with(first|go_at_call 146;refine(AR7 vb mb p k u1 u2 W _ R ⟨p0-x0,p1-x1,p2-x2,p3-x3⟩ (hS.s _)).mono ?_;clear hS;rintro e w ⟨rfl,hS⟩|refine zlN hS ?_);go_ret;exact⟨rfl,hS⟩
end
end Go.Proofs.YtienbkdjkjbelaaGreat
end
