/-
  Purses.
-/
import Derived.Test.YtienbkdjkjbelaaGreatJuTM2
import Derived.Test.YtienbkdjkjbelaaGreatJuTM5
import Derived.MapKept
import Derived.Maps.RangeRun
set_option maxHeartbeats 16000000
set_option maxRecDepth 100000
set_option linter.unusedSimpArgs false
set_option linter.unusedVariables false
section
namespace Go.Sl
open Go.RowKit
section
variable{P:Program}{ops:Array Oper}{Q:Exit->Act->World->Prop}{a:Act}{w:World}{rest:List Oper}{o:Oper}
theorem Aw7{t:TypeId}{x y:Operand}{u i v:Value}(ho:o.op=.index t x y)(hg:Region.wanted o (yielded ops a.tmps)=true)(hx:a.eval x=u)(hy:a.eval y=i)(hr:∀w:World,(Instr.index t u i).run P w=.ok v w)
  (h:wpList P ops Q rest (a.put o.dst v) w):wpList P ops Q (o::rest) a w:=by
 refine Am7 hg (v:=v) (w':=w) ?_ h;unfold execOp;simp only[ho,hx,hy,Sem.run_bind,hr,Result.andThen_ok,Sem.run_pure]
end
end Go.Sl
namespace Go.Proofs.YtienbkdjkjbelaaGreat
open Go.RowKit Go.Sl
theorem N6(a0 a1 a2 a3:Value)(w:World):(Instr.index 34 (.agg #[a0,a1,a2,a3]) (.I 0)).run Tryz.prog w=.ok a0 w:=by kernel_rfl
theorem N7(a0 a1 a2 a3:Value)(w:World):(Instr.index 34 (.agg #[a0,a1,a2,a3]) (.I 1)).run Tryz.prog w=.ok a1 w:=by kernel_rfl
theorem N8(a0 a1 a2 a3:Value)(w:World):(Instr.index 34 (.agg #[a0,a1,a2,a3]) (.I 2)).run Tryz.prog w=.ok a2 w:=by kernel_rfl
theorem N9(a0 a1 a2 a3:Value)(w:World):(Instr.index 34 (.agg #[a0,a1,a2,a3]) (.I 3)).run Tryz.prog w=.ok a3 w:=by kernel_rfl
structure It where
 x0:Int
 x1:Int
 x2:Int
 x3:Int
def It.cells(i:It):List Value:=[.I i.x0,.I i.x1,.I i.x2,.I i.x3]
theorem It.len(i:It):i.cells.length=4:=rfl
def it0:It:=⟨0,0,0,0⟩
def inH(n:Int):Bool:=decide (0<=n)&&decide (n<=1152921504606846976)
theorem Bp7{n:Int}:inH n=true↔0<=n/\n<=1152921504606846976:=by unfold inH;simp
theorem Cq7{n:Int}(h:n<0):inH n=false:=by unfold inH;simp;omega
theorem BL7{n:Int}(h:1152921504606846976<n):inH n=false:=by unfold inH;simp;omega
def s6(i:It):Bool:=inH i.x0&&(inH i.x1&&(inH i.x2&&inH i.x3))
def IsR(W:World)(L:List HP)(i:It)(v:Value)(w:World):Prop:=
 St W L w/\(v=.I 0\/(v=.I 1/\inH i.x0=true)\/(v=.I 2/\inH i.x0=true/\inH i.x1=true)\/(v=.I 3/\inH i.x0=true/\inH i.x1=true/\inH i.x2=true)\/(v=.I 4/\inH i.x0=true/\inH i.x1=true/\inH i.x2=true/\inH i.x3=true))
theorem PK7(i:It)(W w:World)(R:List HP)(hS:St W R w):
  Calls Tryz.prog 75 #[.agg i.cells.toArray] w fun e w'=>e=.returned (.bool (s6 i))/\St W R w':=by
 obtain⟨x0,x1,x2,x3⟩:=i;simp only[It.cells];go_enter Tryz.func75,Tryz.ntmps75;go_wp2_with(first|refine zlN hS ?_|refine zbx hS ?_;clear hS;intro b w hS)
 go_loopw [6] (fun v wr=>IsR W (blk b [.I x0,.I x1,.I x2,.I x3] 34::R) ⟨x0,x1,x2,x3⟩ v wr) (fun v _=>4-(intOf v).toNat)
 case atStart=>exact⟨hS,.inl rfl⟩
 case round=>
  clear hS;obtain⟨hS,hk⟩:=hrel;simp only at hk
  rcases hk with rfl|⟨rfl,q0⟩|⟨rfl,q0,q1⟩|⟨rfl,q0,q1,q2⟩|⟨rfl,q0,q1,q2,q3⟩
  ·skip
   by_cases h1:x0<0
   ·have hx:=Cq7 h1;go_wp2_with(first|(with_reducible apply Aw7);rfl;rfl;rfl;rfl;(first|exact N6 _ _ _ _|exact N7 _ _ _ _|exact N8 _ _ _ _|exact N9 _ _ _ _);refine frS ?_);go_ret;refine⟨by simp only[s6,hx,Bool.false_and,Bool.and_false,hx];rfl,hS.drop⟩
   ·have d1:decide (x0<0)=false:=by simpa using h1
    by_cases h2:1152921504606846976<x0
    ·have hx:=BL7 h2;go_wp2_with(first|(with_reducible apply Aw7);rfl;rfl;rfl;rfl;(first|exact N6 _ _ _ _|exact N7 _ _ _ _|exact N8 _ _ _ _|exact N9 _ _ _ _);refine frS ?_);go_ret;refine⟨by simp only[s6,hx,Bool.false_and,Bool.and_false,hx];rfl,hS.drop⟩
    ·have d2:decide (1152921504606846976<x0)=false:=by simpa using h2
     have hx:inH x0=true:=Bp7.2 ⟨by omega,by omega⟩;clear h1 h2;go_wp2_with(first|(with_reducible apply Aw7);rfl;rfl;rfl;rfl;(first|exact N6 _ _ _ _|exact N7 _ _ _ _|exact N8 _ _ _ _|exact N9 _ _ _ _);refine frS ?_);go_roundw
     case rel=>exact⟨hS,.inr (.inl ⟨rfl,hx⟩)⟩
     case measure=>simp[intOf]
  ·skip
   by_cases h1:x1<0
   ·have hx:=Cq7 h1;go_wp2_with(first|(with_reducible apply Aw7);rfl;rfl;rfl;rfl;(first|exact N6 _ _ _ _|exact N7 _ _ _ _|exact N8 _ _ _ _|exact N9 _ _ _ _);refine frS ?_);go_ret;refine⟨by simp only[s6,hx,Bool.false_and,Bool.and_false,q0];rfl,hS.drop⟩
   ·have d1:decide (x1<0)=false:=by simpa using h1
    by_cases h2:1152921504606846976<x1
    ·have hx:=BL7 h2;go_wp2_with(first|(with_reducible apply Aw7);rfl;rfl;rfl;rfl;(first|exact N6 _ _ _ _|exact N7 _ _ _ _|exact N8 _ _ _ _|exact N9 _ _ _ _);refine frS ?_);go_ret;refine⟨by simp only[s6,hx,Bool.false_and,Bool.and_false,q0];rfl,hS.drop⟩
    ·have d2:decide (1152921504606846976<x1)=false:=by simpa using h2
     have hx:inH x1=true:=Bp7.2 ⟨by omega,by omega⟩;clear h1 h2;go_wp2_with(first|(with_reducible apply Aw7);rfl;rfl;rfl;rfl;(first|exact N6 _ _ _ _|exact N7 _ _ _ _|exact N8 _ _ _ _|exact N9 _ _ _ _);refine frS ?_);go_roundw
     case rel=>exact⟨hS,.inr (.inr (.inl ⟨rfl,q0,hx⟩))⟩
     case measure=>simp[intOf]
  ·skip
   by_cases h1:x2<0
   ·have hx:=Cq7 h1;go_wp2_with(first|(with_reducible apply Aw7);rfl;rfl;rfl;rfl;(first|exact N6 _ _ _ _|exact N7 _ _ _ _|exact N8 _ _ _ _|exact N9 _ _ _ _);refine frS ?_);go_ret;refine⟨by simp only[s6,hx,Bool.false_and,Bool.and_false,q0];rfl,hS.drop⟩
   ·have d1:decide (x2<0)=false:=by simpa using h1
    by_cases h2:1152921504606846976<x2
    ·have hx:=BL7 h2;go_wp2_with(first|(with_reducible apply Aw7);rfl;rfl;rfl;rfl;(first|exact N6 _ _ _ _|exact N7 _ _ _ _|exact N8 _ _ _ _|exact N9 _ _ _ _);refine frS ?_);go_ret;refine⟨by simp only[s6,hx,Bool.false_and,Bool.and_false,q0];rfl,hS.drop⟩
    ·have d2:decide (1152921504606846976<x2)=false:=by simpa using h2
     have hx:inH x2=true:=Bp7.2 ⟨by omega,by omega⟩;clear h1 h2;go_wp2_with(first|(with_reducible apply Aw7);rfl;rfl;rfl;rfl;(first|exact N6 _ _ _ _|exact N7 _ _ _ _|exact N8 _ _ _ _|exact N9 _ _ _ _);refine frS ?_);go_roundw
     case rel=>exact⟨hS,.inr (.inr (.inr (.inl ⟨rfl,q0,q1,hx⟩)))⟩
     case measure=>simp[intOf]
  ·skip
   by_cases h1:x3<0
   ·have hx:=Cq7 h1;go_wp2_with(first|(with_reducible apply Aw7);rfl;rfl;rfl;rfl;(first|exact N6 _ _ _ _|exact N7 _ _ _ _|exact N8 _ _ _ _|exact N9 _ _ _ _);refine frS ?_);go_ret;refine⟨by simp only[s6,hx,Bool.false_and,Bool.and_false,q0];rfl,hS.drop⟩
   ·have d1:decide (x3<0)=false:=by simpa using h1
    by_cases h2:1152921504606846976<x3
    ·have hx:=BL7 h2;go_wp2_with(first|(with_reducible apply Aw7);rfl;rfl;rfl;rfl;(first|exact N6 _ _ _ _|exact N7 _ _ _ _|exact N8 _ _ _ _|exact N9 _ _ _ _);refine frS ?_);go_ret;refine⟨by simp only[s6,hx,Bool.false_and,Bool.and_false,q0];rfl,hS.drop⟩
    ·have d2:decide (1152921504606846976<x3)=false:=by simpa using h2
     have hx:inH x3=true:=Bp7.2 ⟨by omega,by omega⟩;clear h1 h2;go_wp2_with(first|(with_reducible apply Aw7);rfl;rfl;rfl;rfl;(first|exact N6 _ _ _ _|exact N7 _ _ _ _|exact N8 _ _ _ _|exact N9 _ _ _ _);refine frS ?_);go_roundw
     case rel=>exact⟨hS,.inr (.inr (.inr (.inr ⟨rfl,q0,q1,q2,hx⟩)))⟩
     case measure=>simp[intOf]
  ·go_wp2_with(fail);go_ret;refine⟨by simp only[s6,q0,q1,q2,q3];rfl,hS.drop⟩
def L9(a b:It):Bool:=decide (a.x0<b.x0)||(decide (a.x1<b.x1)||(decide (a.x2<b.x2)||decide (a.x3<b.x3)))
def LsR(W:World)(L:List HP)(a b:It)(v:Value)(w:World):Prop:=
 St W L w/\(v=.I 0\/(v=.I 1/\decide (a.x0<b.x0)=false)\/(v=.I 2/\decide (a.x0<b.x0)=false/\decide (a.x1<b.x1)=false)\/(v=.I 3/\decide (a.x0<b.x0)=false/\decide (a.x1<b.x1)=false/\decide (a.x2<b.x2)=false)\/(v=.I 4/\decide (a.x0<b.x0)=false/\decide (a.x1<b.x1)=false/\decide (a.x2<b.x2)=false/\decide (a.x3<b.x3)=false))
theorem PL7(i j:It)(W w:World)(R:List HP)(hS:St W R w):
  Calls Tryz.prog 186 #[.agg i.cells.toArray,.agg j.cells.toArray] w fun e w'=>e=.returned (.bool (L9 i j))/\St W R w':=by
 obtain⟨x0,x1,x2,x3⟩:=i;obtain⟨y0,y1,y2,y3⟩:=j;simp only[It.cells];go_enter Tryz.func186,Tryz.ntmps186;go_wp2_with(first|refine zlN hS ?_|refine zbx hS ?_;clear hS;intro b w hS)
 rename_i bA w1 K1 hK1
 go_loopw [8] (fun v wr=>LsR W (blk b [.I y0,.I y1,.I y2,.I y3] 34::blk bA [.I x0,.I x1,.I x2,.I x3] 34::R) ⟨x0,x1,x2,x3⟩ ⟨y0,y1,y2,y3⟩ v wr) (fun v _=>4-(intOf v).toNat)
 case atStart=>exact⟨hS,.inl rfl⟩
 case round=>
  clear hS;obtain⟨hS,hk⟩:=hrel;simp only at hk
  rcases hk with rfl|⟨rfl,q0⟩|⟨rfl,q0,q1⟩|⟨rfl,q0,q1,q2⟩|⟨rfl,q0,q1,q2,q3⟩
  ·skip
   by_cases h1:x0<y0
   ·have hx:decide (x0<y0)=true:=by simpa using h1
    go_wp2_with(first|(with_reducible apply Aw7);rfl;rfl;rfl;rfl;(first|exact N6 _ _ _ _|exact N7 _ _ _ _|exact N8 _ _ _ _|exact N9 _ _ _ _);refine frS ?_|refine zl1 hS ?_);go_ret;refine⟨by simp only[L9,hx,Bool.true_or,Bool.or_true];rfl,hS.drop.drop⟩
   ·have hx:decide (x0<y0)=false:=by simpa using h1
    clear h1;go_wp2_with(first|(with_reducible apply Aw7);rfl;rfl;rfl;rfl;(first|exact N6 _ _ _ _|exact N7 _ _ _ _|exact N8 _ _ _ _|exact N9 _ _ _ _);refine frS ?_|refine zl1 hS ?_);go_roundw
    case rel=>exact⟨hS,.inr (.inl ⟨rfl,hx⟩)⟩
    case measure=>simp[intOf]
  ·skip
   by_cases h1:x1<y1
   ·have hx:decide (x1<y1)=true:=by simpa using h1
    go_wp2_with(first|(with_reducible apply Aw7);rfl;rfl;rfl;rfl;(first|exact N6 _ _ _ _|exact N7 _ _ _ _|exact N8 _ _ _ _|exact N9 _ _ _ _);refine frS ?_|refine zl1 hS ?_);go_ret;refine⟨by simp only[L9,hx,Bool.true_or,Bool.or_true];rfl,hS.drop.drop⟩
   ·have hx:decide (x1<y1)=false:=by simpa using h1
    clear h1;go_wp2_with(first|(with_reducible apply Aw7);rfl;rfl;rfl;rfl;(first|exact N6 _ _ _ _|exact N7 _ _ _ _|exact N8 _ _ _ _|exact N9 _ _ _ _);refine frS ?_|refine zl1 hS ?_);go_roundw
    case rel=>exact⟨hS,.inr (.inr (.inl ⟨rfl,q0,hx⟩))⟩
    case measure=>simp[intOf]
  ·skip
   by_cases h1:x2<y2
   ·have hx:decide (x2<y2)=true:=by simpa using h1
    go_wp2_with(first|(with_reducible apply Aw7);rfl;rfl;rfl;rfl;(first|exact N6 _ _ _ _|exact N7 _ _ _ _|exact N8 _ _ _ _|exact N9 _ _ _ _);refine frS ?_|refine zl1 hS ?_);go_ret;refine⟨by simp only[L9,hx,Bool.true_or,Bool.or_true];rfl,hS.drop.drop⟩
   ·have hx:decide (x2<y2)=false:=by simpa using h1
    clear h1;go_wp2_with(first|(with_reducible apply Aw7);rfl;rfl;rfl;rfl;(first|exact N6 _ _ _ _|exact N7 _ _ _ _|exact N8 _ _ _ _|exact N9 _ _ _ _);refine frS ?_|refine zl1 hS ?_);go_roundw
    case rel=>exact⟨hS,.inr (.inr (.inr (.inl ⟨rfl,q0,q1,hx⟩)))⟩
    case measure=>simp[intOf]
  ·skip
   by_cases h1:x3<y3
   ·have hx:decide (x3<y3)=true:=by simpa using h1
    go_wp2_with(first|(with_reducible apply Aw7);rfl;rfl;rfl;rfl;(first|exact N6 _ _ _ _|exact N7 _ _ _ _|exact N8 _ _ _ _|exact N9 _ _ _ _);refine frS ?_|refine zl1 hS ?_);go_ret;refine⟨by simp only[L9,hx,Bool.true_or,Bool.or_true];rfl,hS.drop.drop⟩
   ·have hx:decide (x3<y3)=false:=by simpa using h1
    clear h1;go_wp2_with(first|(with_reducible apply Aw7);rfl;rfl;rfl;rfl;(first|exact N6 _ _ _ _|exact N7 _ _ _ _|exact N8 _ _ _ _|exact N9 _ _ _ _);refine frS ?_|refine zl1 hS ?_);go_roundw
    case rel=>exact⟨hS,.inr (.inr (.inr (.inr ⟨rfl,q0,q1,q2,hx⟩)))⟩
    case measure=>simp[intOf]
  ·go_wp2_with(fail);go_ret;refine⟨by simp only[L9,q0,q1,q2,q3];rfl,hS.drop.drop⟩
theorem aN4(x0 x1 x2 x3:Int)(W w:World)(R:List HP)(hS:St W R w):
  Calls Tryz.prog 75 #[.agg #[.I x0,.I x1,.I x2,.I x3]] w fun e w'=>e=.returned (.bool (s6 ⟨x0,x1,x2,x3⟩))/\St W R w':=PK7 ⟨x0,x1,x2,x3⟩ W w R hS
theorem Jp7(x0 x1 x2 x3 y0 y1 y2 y3:Int)(W w:World)(R:List HP)(hS:St W R w):
  Calls Tryz.prog 186 #[.agg #[.I x0,.I x1,.I x2,.I x3],.agg #[.I y0,.I y1,.I y2,.I y3]] w fun e w'=>e=.returned (.bool (L9 ⟨x0,x1,x2,x3⟩ ⟨y0,y1,y2,y3⟩))/\St W R w':=PL7 ⟨x0,x1,x2,x3⟩ ⟨y0,y1,y2,y3⟩ W w R hS
theorem Ag7{i:It}:s6 i=true↔(0<=i.x0/\i.x0<=1152921504606846976)/\(0<=i.x1/\i.x1<=1152921504606846976)/\(0<=i.x2/\i.x2<=1152921504606846976)/\(0<=i.x3/\i.x3<=1152921504606846976):=by unfold s6;simp only[jB,Bp7]
def bl4(i j:It):It:=⟨i.x0-j.x0,i.x1-j.x1,i.x2-j.x2,i.x3-j.x3⟩
def M5(i j:It):It:=⟨i.x0+j.x0,i.x1+j.x1,i.x2+j.x2,i.x3+j.x3⟩
def J5(i j:It):Bool:=s6 i&&s6 j&&!L9 i j
def bW4(i j:It):It:=if J5 i j then bl4 i j else it0
def Sb4(W:World)(F:It->List HP)(i j:It)(v:Value)(w:World):Prop:=
 (v=.I 0/\St W (F i) w)\/(v=.I 1/\St W (F ⟨i.x0-j.x0,i.x1,i.x2,i.x3⟩) w)\/(v=.I 2/\St W (F ⟨i.x0-j.x0,i.x1-j.x1,i.x2,i.x3⟩) w)\/(v=.I 3/\St W (F ⟨i.x0-j.x0,i.x1-j.x1,i.x2-j.x2,i.x3⟩) w)\/(v=.I 4/\St W (F (bl4 i j)) w)
theorem Pl7(i j:It)(W w:World)(R:List HP)(hS:St W R w):
  Calls Tryz.prog 147 #[.agg i.cells.toArray,.agg j.cells.toArray] w fun e w'=>e=.returned (.tuple #[.agg (bW4 i j).cells.toArray,.bool (J5 i j)])/\St W R w':=by
 obtain⟨x0,x1,x2,x3⟩:=i;obtain⟨y0,y1,y2,y3⟩:=j
 cases hi:s6 ⟨x0,x1,x2,x3⟩with
 | false=>
  have e:J5 ⟨x0,x1,x2,x3⟩ ⟨y0,y1,y2,y3⟩=false:=by unfold J5;rw[hi];rfl
  unfold bW4;rw[e];simp only[It.cells];go_enter Tryz.func147,Tryz.ntmps147;go_wp2_with(first|go_big_skip|go_at_call 75;refine(aN4 _ _ _ _ W _ _ hS).mono ?_;clear hS;rw[hi];rintro e w ⟨rfl,hS⟩|refine zlN hS ?_|refine zsN hS ?_;clear hS;intro w hS|refine zbx hS ?_;clear hS;intro b w hS|refine zal hS ?_;clear hS;intro b w hS);apply Ac7;rfl;rfl;rfl;rfl;exact hS;decide +kernel;(exact r6);kernel_rfl;exact⟨rfl,hS.drop.drop.drop⟩
 | true=>
  cases hj:s6 ⟨y0,y1,y2,y3⟩with
  | false=>
   have e:J5 ⟨x0,x1,x2,x3⟩ ⟨y0,y1,y2,y3⟩=false:=by unfold J5;rw[hi,hj];rfl
   unfold bW4;rw[e];simp only[It.cells];go_enter Tryz.func147,Tryz.ntmps147;go_wp2_with(first|go_big_skip|go_at_call 75;refine(aN4 _ _ _ _ W _ _ hS).mono ?_;clear hS;(try rw[hi]);(try rw[hj]);rintro e w ⟨rfl,hS⟩|refine zlN hS ?_|refine zsN hS ?_;clear hS;intro w hS|refine zbx hS ?_;clear hS;intro b w hS|refine zal hS ?_;clear hS;intro b w hS);apply Ac7;rfl;rfl;rfl;rfl;exact hS;decide +kernel;(exact r6);kernel_rfl;exact⟨rfl,hS.drop.drop.drop⟩
  | true=>
   cases hl:L9 ⟨x0,x1,x2,x3⟩ ⟨y0,y1,y2,y3⟩with
   | true=>
    have e:J5 ⟨x0,x1,x2,x3⟩ ⟨y0,y1,y2,y3⟩=false:=by unfold J5;rw[hi,hj,hl];rfl
    unfold bW4;rw[e];simp only[It.cells];go_enter Tryz.func147,Tryz.ntmps147;go_wp2_with(first|go_at_call 75;refine(aN4 _ _ _ _ W _ _ hS).mono ?_;clear hS;(try rw[hi]);(try rw[hj]);rintro e w ⟨rfl,hS⟩|go_at_call 186;refine(Jp7 _ _ _ _ _ _ _ _ W _ _ hS).mono ?_;clear hS;rw[hl];rintro e w ⟨rfl,hS⟩|refine zlN hS ?_|refine zsN hS ?_;clear hS;intro w hS|refine zbx hS ?_;clear hS;intro b w hS|refine zal hS ?_;clear hS;intro b w hS);apply Ac7;rfl;rfl;rfl;rfl;exact hS;decide +kernel;(exact r6);kernel_rfl;exact⟨rfl,hS.drop.drop.drop⟩
   | false=>
    have e:J5 ⟨x0,x1,x2,x3⟩ ⟨y0,y1,y2,y3⟩=true:=by unfold J5;rw[hi,hj,hl];rfl
    obtain⟨a0,a1,a2,a3⟩:=Ag7.1 hi;obtain⟨b0,b1,b2,b3⟩:=Ag7.1 hj;simp only at a0 a1 a2 a3 b0 b1 b2 b3;unfold bW4;rw[e,if_pos rfl];simp only[It.cells];go_enter Tryz.func147,Tryz.ntmps147;go_wp2_with(first|go_at_call 75;refine(aN4 _ _ _ _ W _ _ hS).mono ?_;clear hS;(try rw[hi]);(try rw[hj]);rintro e w ⟨rfl,hS⟩|go_at_call 186;refine(Jp7 _ _ _ _ _ _ _ _ W _ _ hS).mono ?_;clear hS;rw[hl];rintro e w ⟨rfl,hS⟩|(fail_if_success (have:=bA));(with_reducible apply Ay7 hS);rfl;rfl;rfl;rfl;clear hS;intro bA w hS;refine frS ?_|(fail_if_success (have:=bB));(with_reducible apply Ay7 hS);rfl;rfl;rfl;rfl;clear hS;intro bB w hS;refine frS ?_|refine zlN hS ?_|refine zal hS ?_;clear hS;intro b w hS)
    go_loopw [23] (fun v wr=>Sb4 W (fun q=>[blk b [.I 0,.I 0,.I 0,.I 0] 34,blk bB [.I y0,.I y1,.I y2,.I y3] 34,blk bA [.I q.x0,.I q.x1,.I q.x2,.I q.x3] 34]++R) ⟨x0,x1,x2,x3⟩ ⟨y0,y1,y2,y3⟩ v wr) (fun v _=>4-(intOf v).toNat)
    case atStart=>exact .inl ⟨rfl,hS⟩
    case round=>
     clear hS hi hj hl;simp only[Sb4,bl4,jK,jN]at hrel
     rcases hrel with ⟨rfl,hS⟩|⟨rfl,hS⟩|⟨rfl,hS⟩|⟨rfl,hS⟩|⟨rfl,hS⟩
     ·go_wp2_with(first|(with_reducible apply Aw7);rfl;rfl;rfl;rfl;(first|exact N6 _ _ _ _|exact N7 _ _ _ _|exact N8 _ _ _ _|exact N9 _ _ _ _);refine frS ?_|refine zl1 hS ?_|refine zs1 hS ?_;clear hS;intro w hS);go_roundw
      case rel=>exact .inr (.inl ⟨rfl,hS⟩)
      case measure=>simp[intOf]
     ·go_wp2_with(first|(with_reducible apply Aw7);rfl;rfl;rfl;rfl;(first|exact N6 _ _ _ _|exact N7 _ _ _ _|exact N8 _ _ _ _|exact N9 _ _ _ _);refine frS ?_|refine zl1 hS ?_|refine zs1 hS ?_;clear hS;intro w hS);go_roundw
      case rel=>exact .inr (.inr (.inl ⟨rfl,hS⟩))
      case measure=>simp[intOf]
     ·go_wp2_with(first|(with_reducible apply Aw7);rfl;rfl;rfl;rfl;(first|exact N6 _ _ _ _|exact N7 _ _ _ _|exact N8 _ _ _ _|exact N9 _ _ _ _);refine frS ?_|refine zl1 hS ?_|refine zs1 hS ?_;clear hS;intro w hS);go_roundw
      case rel=>exact .inr (.inr (.inr (.inl ⟨rfl,hS⟩)))
      case measure=>simp[intOf]
     ·go_wp2_with(first|(with_reducible apply Aw7);rfl;rfl;rfl;rfl;(first|exact N6 _ _ _ _|exact N7 _ _ _ _|exact N8 _ _ _ _|exact N9 _ _ _ _);refine frS ?_|refine zl1 hS ?_|refine zs1 hS ?_;clear hS;intro w hS);go_roundw
      case rel=>exact .inr (.inr (.inr (.inr ⟨rfl,hS⟩)))
      case measure=>simp[intOf]
     ·go_wp2_with(first|refine zlN hS ?_|refine zsN hS ?_;clear hS;intro w hS);apply Ac7;rfl;rfl;rfl;rfl;exact hS;decide +kernel;(exact r6);kernel_rfl;exact⟨rfl,hS.drop.drop.drop⟩
def B5:List It->It->Option It
 | [],s=>some s
 | i::l,s=>if s6 i=true/\s6 (M5 s i)=true then B5 l (M5 s i)else none
def al4(l:List It):It:=(B5 l it0).getD it0
def Ad4(W:World)(F:It->List HP)(i j:It)(v:Value)(w:World):Prop:=
 (v=.I 0/\St W (F i) w)\/(v=.I 1/\St W (F ⟨i.x0+j.x0,i.x1,i.x2,i.x3⟩) w)\/(v=.I 2/\St W (F ⟨i.x0+j.x0,i.x1+j.x1,i.x2,i.x3⟩) w)\/(v=.I 3/\St W (F ⟨i.x0+j.x0,i.x1+j.x1,i.x2+j.x2,i.x3⟩) w)\/(v=.I 4/\St W (F (M5 i j)) w)
def AdR(W:World)(F:It->List HP)(l:List It)(v:Value)(w:World):Prop:=
 ∃(n:Nat) (s:It),v=.I n/\n<=l.length/\s6 s=true/\B5 l it0=B5 (l.drop n) s/\St W (F s) w
theorem Ln7(l:List It)(v:Value)(W w:World)(R:List HP)(hS:St W (row v 4 34 l.length (l.flatMap It.cells)::R) w):
  Calls Tryz.prog 32 #[v] w fun e w'=>e=.returned (.tuple #[.agg (al4 l).cells.toArray,.bool (B5 l it0).isSome])/\St W (row v 4 34 l.length (l.flatMap It.cells)::R) w':=by
 obtain⟨a,cap,rfl⟩:=hS.rowVal
 have h63:l.length<=9223372036854775807:=by
  rcases St.rowCase hS with ⟨_,h0,_⟩|⟨_,_,h1,h2⟩
  ·omega
  ·omega
 go_enter Tryz.func32,Tryz.ntmps32;go_wp2_with(first|(fail_if_success (have:=bA));(with_reducible apply An7 hS);rfl;rfl;exact zsS;clear hS;intro bA w hS;refine frS ?_|(fail_if_success (have:=bB));(with_reducible apply An7 hS);rfl;rfl;exact zsS;clear hS;intro bB w hS;refine frS ?_)
 go_loopw [11] (fun v wr=>AdR W (fun q=>[blk bB [.I q.x0,.I q.x1,.I q.x2,.I q.x3] 34,blk bA [.I 0,.I 0,.I 0,.I 0] 34,row (.slice a l.length cap) 4 34 l.length (l.flatMap It.cells)]++R) l v wr) (fun v _=>l.length-(intOf v).toNat)
 case atStart=>exact⟨0,it0,rfl,Nat.zero_le _,rfl,rfl,hS⟩
 case round=>
  clear hS;obtain⟨n,s,rfl,hnl,hs,he,hS⟩:=hrel;simp only[jK,jN]at hS;obtain⟨s0,s1,s2,s3⟩:=s;simp only at hS;by_cases hn:n=l.length
  ·subst hn;rw[List.drop_length]at he;have E:=jH he;clear he;go_wp2_with(first|refine zlN hS ?_|refine zsN hS ?_;clear hS;intro w hS);apply Ac7;rfl;rfl;rfl;rfl;exact hS;decide +kernel;(exact r6);kernel_rfl;unfold al4;rw[E.out];exact⟨rfl,hS.drop.drop⟩
  ·have hn1:n<l.length:=by omega
   obtain⟨⟨g,rfl⟩,_,_⟩:=St.rowAddr hS.drop.drop (by omega);have hx:∀{K K':List HP},Take K (row (.S g l.length cap) 4 34 l.length (l.flatMap It.cells)) K'->d8 K g (n*4) (It.cells l[n]):=fun hu=>d8.elemM (enc:=It.cells) It.len hu hn1
   have hdr:l.drop n=l[n]::l.drop (n+1):=List.drop_eq_getElem_cons hn1;rw[hdr]at he;clear hdr;generalize l[n]=x at hx he;obtain⟨x0,x1,x2,x3⟩:=x;simp only[It.cells]at hx
   cases hi:s6 ⟨x0,x1,x2,x3⟩with
   | false=>
    have E:=jH (show B5 l it0=none by rw[he,B5,if_neg (fun h=>by rw[hi]at h;cases h.1)]);clear he;go_wp2_with(first|refine zlN hS ?_ (hc:=by exact hx (.tail (.tail .head)))|go_at_call 75;refine(aN4 _ _ _ _ W _ _ hS).mono ?_;clear hS;rw[hi];rintro e w ⟨rfl,hS⟩|refine zlN hS ?_|refine zsN hS ?_;clear hS;intro w hS|refine zal hS ?_;clear hS;intro b w hS);apply Ac7;rfl;rfl;rfl;rfl;exact hS;decide +kernel;(exact r6);kernel_rfl;unfold al4;rw[E.out];exact⟨rfl,hS.s _⟩
   | true=>
    have he2:B5 l it0=if s6 (M5 ⟨s0,s1,s2,s3⟩ ⟨x0,x1,x2,x3⟩)=true then B5 (l.drop (n+1)) (M5 ⟨s0,s1,s2,s3⟩ ⟨x0,x1,x2,x3⟩)else none:=by rw[he,B5];simp[hi]
    have E2:=jH he2;clear he he2;obtain⟨a0,a1,a2,a3⟩:=Ag7.1 hi;obtain⟨b0,b1,b2,b3⟩:=Ag7.1 hs;simp only at a0 a1 a2 a3 b0 b1 b2 b3;go_wp2_with(first|refine zlN hS ?_ (hc:=by exact hx (.tail (.tail .head)))|go_at_call 75;refine(aN4 _ _ _ _ W _ _ hS).mono ?_;clear hS;rw[hi];rintro e w ⟨rfl,hS⟩|refine zlN hS ?_|refine zsN hS ?_;clear hS;intro w hS|refine zal hS ?_;clear hS;intro b w hS)
    go_loopw [20] (fun v wr=>Ad4 W (fun q=>[blk b [.I x0,.I x1,.I x2,.I x3] 34,blk bB [.I q.x0,.I q.x1,.I q.x2,.I q.x3] 34,blk bA [.I 0,.I 0,.I 0,.I 0] 34,row (.S g l.length cap) 4 34 l.length (l.flatMap It.cells)]++R) ⟨s0,s1,s2,s3⟩ ⟨x0,x1,x2,x3⟩ v wr) (fun v _=>4-(intOf v).toNat)
    case atStart=>exact .inl ⟨rfl,hS⟩
    case round=>
     clear hS hx hs hi;simp only[Ad4,M5,jK,jN]at hrel
     rcases hrel with ⟨rfl,hS⟩|⟨rfl,hS⟩|⟨rfl,hS⟩|⟨rfl,hS⟩|⟨rfl,hS⟩
     ·go_wp2_with(first|(with_reducible apply Aw7);rfl;rfl;rfl;rfl;(first|exact N6 _ _ _ _|exact N7 _ _ _ _|exact N8 _ _ _ _|exact N9 _ _ _ _);refine frS ?_|refine zl1 hS ?_|refine zs1 hS ?_;clear hS;intro w hS);go_roundw
      case rel=>exact .inr (.inl ⟨rfl,hS⟩)
      case measure=>simp[intOf]
     ·go_wp2_with(first|(with_reducible apply Aw7);rfl;rfl;rfl;rfl;(first|exact N6 _ _ _ _|exact N7 _ _ _ _|exact N8 _ _ _ _|exact N9 _ _ _ _);refine frS ?_|refine zl1 hS ?_|refine zs1 hS ?_;clear hS;intro w hS);go_roundw
      case rel=>exact .inr (.inr (.inl ⟨rfl,hS⟩))
      case measure=>simp[intOf]
     ·go_wp2_with(first|(with_reducible apply Aw7);rfl;rfl;rfl;rfl;(first|exact N6 _ _ _ _|exact N7 _ _ _ _|exact N8 _ _ _ _|exact N9 _ _ _ _);refine frS ?_|refine zl1 hS ?_|refine zs1 hS ?_;clear hS;intro w hS);go_roundw
      case rel=>exact .inr (.inr (.inr (.inl ⟨rfl,hS⟩)))
      case measure=>simp[intOf]
     ·go_wp2_with(first|(with_reducible apply Aw7);rfl;rfl;rfl;rfl;(first|exact N6 _ _ _ _|exact N7 _ _ _ _|exact N8 _ _ _ _|exact N9 _ _ _ _);refine frS ?_|refine zl1 hS ?_|refine zs1 hS ?_;clear hS;intro w hS);go_roundw
      case rel=>exact .inr (.inr (.inr (.inr ⟨rfl,hS⟩)))
      case measure=>simp[intOf]
     ·cases hi:s6 ⟨s0+x0,s1+x1,s2+x2,s3+x3⟩with
      | false=>
       have E:=jH (show B5 l it0=none by rw[E2.out,M5];simp[hi]);clear E2;go_wp2_with(first|go_at_call 75;refine(aN4 _ _ _ _ W _ _ hS).mono ?_;clear hS;rw[hi];rintro e w ⟨rfl,hS⟩|refine zlN hS ?_|refine zsN hS ?_;clear hS;intro w hS);apply Ac7;rfl;rfl;rfl;rfl;exact hS;decide +kernel;(exact r6);kernel_rfl;unfold al4;rw[E.out];exact⟨rfl,hS.s _⟩
      | true=>
       have E:=jH (show B5 l it0=B5 (l.drop (n+1)) ⟨s0+x0,s1+x1,s2+x2,s3+x3⟩by rw[E2.out,M5];simp[hi]);have Hi:=jH hi;clear E2;go_wp2_with(first|go_at_call 75;refine(aN4 _ _ _ _ W _ _ hS).mono ?_;clear hS;rw[hi];rintro e w ⟨rfl,hS⟩|refine zlN hS ?_);go_roundw
       case rel=>exact⟨n+1,_,rfl,hn1,Hi.out,E.out,hS.s _⟩
       case measure=>simp[intOf];omega
end Go.Proofs.YtienbkdjkjbelaaGreat
end
section
namespace Go.Sl
open Go.RowKit
def aZ4(b:Nat)(es:List MapEntry)(clk:Nat):HP:=ac4 b (.map es.toArray clk)
def E8(P:Program)(t:TypeId):Option (TypeId×TypeId):=(P.underlying t).bind fun|.map k e=>some (k,e)|_=>none
def E9(P:Program)(t:TypeId):Option Value:=(P.info? t).bind (·.zero)
def cJ4:TypeDesc->Bool
 | .int _ | .string=>true
 | _=>false
section
variable{P:Program}{W w:World}{L R:List HP}
theorem Bt7{t K E:TypeId}(h:E8 P t=some (K,E)):P.underlying t=some (.map K E):=by
 unfold E8 at h;obtain⟨d,hd,hx⟩:=Option.bind_eq_some_iff.1 h
 cases d <;> simp at hx
 rw[hd,hx.1,hx.2]
theorem Lo7{t:TypeId}{z:Value}(h:E9 P t=some z):(zeroValue t).run P w=.ok z w:=by unfold E9 at h;obtain⟨i,hi,hz⟩:=Option.bind_eq_some_iff.1 h;simp[zeroValue,typeInfo,hi,hz]
theorem GY7{K:TypeId}{kd:TypeDesc}(hK:P.underlying K=some kd)(h:cJ4 kd=true)(e:Bool)(n:Nat)(v:Value):(Instr.checkKey e (n+1) K v).run P w=.ok () w:=by
 unfold Instr.checkKey
 cases kd <;> simp[cJ4]at h <;> simp[run_underlying hK]
theorem Io7{K:TypeId}{kd:TypeDesc}{key:Value}{es:List MapEntry}{r:Option (Nat×Value)}(hK:P.underlying K=some kd)(hf:Instr.findNow kd key es 0=some r):(Instr.findKey K key es).run P w=.ok r w:=by unfold Instr.findKey;simp[run_underlying hK,hf]
theorem St.setMap{b:Nat}{es es':List MapEntry}{c c':Nat}(h:St W (aZ4 b es c::L) w):St W (aZ4 b es' c'::L) { w with heap:=w.heap.setIfInBounds b (.map es'.toArray c') }:=by
 have hg:=h.get (b:=b) .head;refine h.putO (b:=b) (o:=.map es.toArray c) (o':=.map es'.toArray c') .head rfl rfl rfl fun k=>?_
 show(w.heap.setIfInBounds b _)[k]? = _
 have hb:b<w.heap.size:=(Array.getElem?_eq_some_iff.1 hg).1;rw[Array.getElem?_setIfInBounds];by_cases hk:b=k
 ·subst hk;rw[if_pos rfl,if_pos hb,if_pos rfl]
 ·rw[if_neg hk,if_neg (fun h=>hk h.symm)]
theorem CU7{b:Nat}{es:List MapEntry}{c:Nat}(h:St W (aZ4 b es c::L) w):(getObj b).run P w=.ok (.map es.toArray c) w:=MapKept.run_getObj_map (h.get (b:=b) .head)
def gS4(ok:Bool)(z:Value):Option (Nat×Value)->Value
 | some (_,v)=>if ok then .tuple #[v,.bool true]else v
 | none=>if ok then .tuple #[z,.bool false]else z
theorem Ip7{t:TypeId}(h:St W L w):∃b w',(Instr.makeMap t none).run P w=.ok (.map (some b)) w'/\St W (aZ4 b [] 0::L) w':=
 ⟨w.heap.size,w.alloc (.map #[] 0),by unfold Instr.makeMap;simp,h.alloc _⟩
def bp4(es:List MapEntry):Prop:=(es.map (·.born)).Nodup
end
theorem NF7(a b:Int):Instr.sameNow (.int .i64) (.I a) (.I b)=some (a==b):=by simp[Instr.sameNow]
theorem NG7(a b:ByteArray):Instr.sameNow .string (.string a) (.string b)=some (a==b):=rfl
def bH4(r m since:Nat)(seen:Array Nat)(stepped:Nat):HP:=ac4 r (.mapIter (some m) since seen stepped)
section
variable{P:Program}{W w:World}{L:List HP}
theorem Lp7{t K E:TypeId}{m:Nat}{es:List MapEntry}{c:Nat}(h:St W (aZ4 m es c::L) w)(ht:E8 P t=some (K,E)):
  ∃r w',(Instr.range t (.map (some m))).run P w=.ok (.P r) w'/\St W (bH4 r m c #[] c::aZ4 m es c::L) w':=by
 refine⟨w.heap.size,w.alloc (.mapIter (some m) c #[] c),?_,h.alloc _⟩;unfold Instr.range;have hu:=run_underlying (P:=P) (Bt7 ht) w;simp[hu,CU7 h]
theorem NH7{ty:TypeId}{r m since c0 c:Nat}{seen:Array Nat}{es:List MapEntry}(h:St W (bH4 r m since seen c0::aZ4 m es c::L) w)(hold:∀x∈es,x.born<since)(hsc:since<=c0):
  ((∀x∈es,x.born∈seen)/\(Instr.next (.P r) false ty).run P w=.ok (.tuple #[.bool false]) w) \/
  ∃e∈es,e.born∉seen/\∃w',(Instr.next (.P r) false ty).run P w=.ok (.tuple #[.bool true,e.key,e.val]) w'/\St W (bH4 r m since (seen.push e.born) c::aZ4 m es c::L) w':=by
 have hr:=h.get (b:=r) .head;have hb:=h.get (b:=m) (.tail .head)
 rcases run_next_at (P:=P) w ty r m since c0 seen es.toArray c hr hb (by simpa using hold) hsc with ⟨h0,hrun⟩|⟨e,he,w1,hw,hrun⟩
 ·left
  refine⟨fun x hx=>?_,hrun⟩;have h1:leftOf es.toArray seen=#[]:=Array.eq_empty_of_size_eq_zero h0;unfold leftOf at h1;rw[Array.filter_eq_empty_iff]at h1;have:=h1 x (by simpa using hx);simpa using this
 ·right
  unfold leftOf at he;simp at he;refine⟨e,he.1,by simpa using he.2,_,hrun,?_⟩
  have h1:St W (bH4 r m since seen c0::aZ4 m es c::L) w1:=by
   rcases hw with rfl|rfl
   ·exact h
   ·exact h.drew
  have hr1:=h1.get (b:=r) .head;refine h1.putO (b:=r) (o:=.mapIter (some m) since seen c0) (o':=.mapIter (some m) since (seen.push e.born) c) .head rfl rfl rfl fun k=>?_
  show(w1.heap.setIfInBounds r _)[k]? = _
  have hlt:r<w1.heap.size:=(Array.getElem?_eq_some_iff.1 hr1).1;rw[Array.getElem?_setIfInBounds];by_cases hk:r=k
  ·subst hk;rw[if_pos rfl,if_pos hlt,if_pos rfl]
  ·rw[if_neg hk,if_neg (fun h=>hk h.symm)]
theorem Lq7{r m since c:Nat}{seen:Array Nat}{es:List MapEntry}{e:MapEntry}(h:St W (bH4 r m since (seen.push e.born) c::aZ4 m es c::L) w)(he:e∈es)(hn:bp4 es):
  (Instr.entry (.P r)).run P w=.ok (.tuple #[e.key,e.val]) w:=
 run_entry_at w r m since seen es.toArray c e (h.get (b:=r) .head) (h.get (b:=m) (.tail .head)) (by simpa using he) (by unfold bp4 at hn;simpa using hn)
end
section
variable{P:Program}{ops:Array Oper}{Q:Exit->Act->World->Prop}{a:Act}{w:World}{W:World}{L L' R:List HP}{rest:List Oper}{o:Oper}
end
end Go.Sl
end
