/-
  Orders, trades, and the small functions on them.
-/
import Derived.Test.YtienbkdjkjbelaaGreatJuRM3
import Derived.Test.YtienbkdjkjbelaaGreatJuRM4
import Derived.Test.YtienbkdjkjbelaaGreatJuRM5
set_option maxHeartbeats 16000000
set_option maxRecDepth 100000
set_option linter.unusedSimpArgs false
set_option linter.unusedVariables false
section
namespace Go.Proofs.YtienbkdjkjbelaaGreat
open Go.RowKit Go.Sl
structure Ord where
 id:Int
 who:ByteArray
 buy:Bool
 item:Int
 cnt:Int
 price:Int
def Ord.cells(o:Ord):List Value:=[.I o.id,.string o.who,.bool o.buy,.I o.item,.I o.cnt,.I o.price]
theorem Ord.len(o:Ord):o.cells.length=6:=rfl
structure Trd where
 buyer:ByteArray
 seller:ByteArray
 buy:Int
 sell:Int
 item:Int
 cnt:Int
 price:Int
 bid:Int
def Trd.cells(o:Trd):List Value:=[.string o.buyer,.string o.seller,.I o.buy,.I o.sell,.I o.item,.I o.cnt,.I o.price,.I o.bid]
def K7(a b:Int):Int:=if b<a then b else a
def M7(o s:Ord):Trd:=
 if s.buy then⟨s.who,o.who,s.id,o.id,o.item,K7 o.cnt s.cnt,s.price,s.price⟩else⟨o.who,s.who,o.id,s.id,o.item,K7 o.cnt s.cnt,s.price,o.price⟩
def K8(a b:Ord):Bool:=if a.price=b.price then decide (a.id<b.id)else(decide (a.price<b.price) != a.buy)
def ab4(a b:Ord):Bool:=if b.buy then decide (a.price<=b.price)else decide (b.price<=a.price)
structure MayP(o:Ord):Prop where
 id0:1<=o.id
 id1:o.id<=1099511627776
 who0:1<=o.who.size
 who1:o.who.size<=16
 item0:1<=o.item
 item1:o.item<=3
 cnt0:1<=o.cnt
 cnt1:o.cnt<=1048576
 price0:1<=o.price
 price1:o.price<=1024
def H5(o:Ord):Bool:=decide (1<=o.id)&&decide (o.id<=1099511627776)&&decide (1<=o.who.size)&&decide (o.who.size<=16)&&decide (1<=o.item)&&decide (o.item<=3)&&decide (1<=o.cnt)&&decide (o.cnt<=1048576)&&decide (1<=o.price)&&decide (o.price<=1024)
theorem Aq7{o:Ord}:H5 o=true↔MayP o:=by simp only[H5,jB,decide_eq_true_eq];exact⟨fun⟨⟨⟨⟨⟨⟨⟨⟨⟨a,b⟩,c⟩,d⟩,e⟩,f⟩,g⟩,h⟩,i⟩,j⟩=>⟨a,b,c,d,e,f,g,h,i,j⟩,fun h=>⟨⟨⟨⟨⟨⟨⟨⟨⟨h.id0,h.id1⟩,h.who0⟩,h.who1⟩,h.item0⟩,h.item1⟩,h.cnt0⟩,h.cnt1⟩,h.price0⟩,h.price1⟩⟩
theorem MO7(v:Value)(w:World):(Instr.typeAssert (.iface 173 v) 20 173 false).run Tryz.prog w=.ok v w:=by kernel_rfl
theorem IH7(o s:Ord)(W w:World)(L:List HP)(hS:St W L w):
  Calls Tryz.prog 191 #[.agg o.cells.toArray,.agg s.cells.toArray] w fun e w'=>e=.returned (.agg (M7 o s).cells.toArray)/\St W L w':=by
 obtain⟨i,u,y,t,c,p⟩:=o;obtain⟨i',u',y',t',c',p'⟩:=s;simp only[Ord.cells];go_enter Tryz.func191,Tryz.ntmps191;go_wp2_with(first|refine zbx hS ?_;clear hS;intro b w hS|refine zal hS ?_;clear hS;intro b w hS)
 refine rf2 [0,0,0,0,13,31] (fun i=>i==2||i==3) [⟨some 2,some 4,fun nd=>i8 (nd 2) [.I 0,.string ⟨#[]⟩,.bool false,.I 0,.I 0,.I 0] 173⟩,⟨some 3,some 5,fun nd=>i8 (nd 3) [.I 0,.string ⟨#[]⟩,.bool false,.I 0,.I 0,.I 0] 173⟩,⟨some 4,none,fun nd=>i8 (nd 2) [.I i,.string u,.bool y,.I t,.I c,.I p] 173⟩,⟨some 5,none,fun nd=>i8 (nd 3) [.I i',.string u',.bool y',.I t',.I c',.I p'] 173⟩]
  [none,none,none] hS ?_
 intro nd;refine zcN ?_;refine zcN ?_;refine zca ?_;refine zca ?_;refine zct ?_;refine zct ?_;refine Ad7 ?_;clear hS;intro w hS;have hS:St W [i8 (nd 2) _ _,i8 (nd 3) _ _,_,_,_,sats L] w:=hS;generalize nd 2=v5 at *;generalize nd 3=v6 at *;have h1:=hS.ptr;clear hS;obtain⟨b5,rfl,hS⟩:=h1;replace hS:=hS.swap;have h1:=hS.ptr;clear hS;obtain⟨b6,rfl,hS⟩:=h1;replace hS:=hS.unpack [_,_,_,_,_];simp only[jK,jN]at hS
 cases y'
 ·go_wp2_with(first|refine zl1 hS ?_|refine zsN hS ?_;clear hS;intro w hS)
  all_goals
   (apply Am7;rfl;rfl;rfl;exact hS;decide +kernel;exact m8;kernel_rfl);exact⟨by simp[M7,Trd.cells,K7, *],hS.drop.drop.drop.drop.drop⟩
 ·go_wp2_with(first|refine zl1 hS ?_);refine rf2 [0,0,1,7] (fun i=>false) [⟨some 2,none,fun nd=>blk b5 [.I i',.string u',.bool true,.I t',.I c',.I p'] 173⟩,⟨some 3,none,fun nd=>blk b6 [.I i,.string u,.bool y,.I t,.I c,.I p] 173⟩] [some 3,some 2,none,none,none] hS ?_;intro nd;refine zcN ?_;refine zcN ?_;refine zcs ?_;refine zcs ?_;refine Ad7 ?_;clear hS;intro w hS;have hS:St W [blk b5 _ _,blk b6 _ _,_,_,_,sats L] w:=hS;replace hS:=hS.unpack [_,_,_,_,_];simp only[jK,jN]at hS;go_wp2_with(first|refine zl1 hS ?_|refine zsN hS ?_;clear hS;intro w hS)
  all_goals
   (apply Am7;rfl;rfl;rfl;exact hS;decide +kernel;exact m8;kernel_rfl);exact⟨by simp[M7,Trd.cells,K7, *],hS.drop.drop.drop.drop.drop⟩
theorem El7(o s:Ord)(W w:World)(L:List HP)(hS:St W L w):
  Calls Tryz.prog 189 #[.agg o.cells.toArray,.agg s.cells.toArray] w fun e w'=>e=.returned (.bool (ab4 o s))/\St W L w':=by
 obtain⟨i,u,y,t,c,p⟩:=o;obtain⟨i',u',y',t',c',p'⟩:=s;simp only[Ord.cells];go_enter Tryz.func189,Tryz.ntmps189;go_wp2_with(first|refine zl1 hS ?_|refine zlN hS ?_|refine zsN hS ?_;clear hS;intro w hS|refine zbx hS ?_;clear hS;intro b w hS)
 all_goals go_ret
 all_goals exact⟨by simp[ab4, *],hS.drop.drop⟩
theorem Jx7(xs:List Ord)(junk:List Value)(g n cap i j:Nat)(hn:xs.length=n)(hi:i<xs.length)(hj:j<xs.length)(hcap:n<=cap)(hm:cap<=maxLen)(W w:World)(L:List HP)(hS:St W (blk g (xs.flatMap Ord.cells++junk) 173::L) w):
  Calls Tryz.prog 255 #[.S g n cap,.I i,.I j] w fun e w'=>e=.returned (.bool (K8 xs[i] xs[j]))/\St W (blk g (xs.flatMap Ord.cells++junk) 173::L) w':=by
 subst hn;unfold maxLen at hm;go_enter Tryz.func255,Tryz.ntmps255;go_wp2_with(fail)
 refine rf2 [0,0,3,7,0,0,48,112,0,0,783,2047] (fun i=>i==8||i==9) [⟨some 8,some 10,fun nd=>i8 (nd 8) [.I 0,.string ⟨#[]⟩,.bool false,.I 0,.I 0,.I 0] 173⟩,⟨some 9,some 11,fun nd=>i8 (nd 9) [.I 0,.string ⟨#[]⟩,.bool false,.I 0,.I 0,.I 0] 173⟩,⟨some 10,none,fun nd=>i8 (nd 8) xs[i].cells 173⟩,⟨some 11,none,fun nd=>i8 (nd 9) xs[j].cells 173⟩]
  [none] hS ?_
 intro nd;refine cR ?_;refine cR ?_;refine cR ?_;apply Jw7;rfl;kernel_rfl;rfl;rfl;rfl;decide +kernel;intro F;exact d8.elem Ord.len hi;kernel_rfl;refine frS ?_;refine cR ?_;refine cR ?_;refine cR ?_;apply Jw7;rfl;kernel_rfl;rfl;rfl;rfl;decide +kernel;intro F;exact d8.elem Ord.len hj;kernel_rfl;refine frS ?_;refine zca ?_;refine zca ?_;refine zct ?_;refine zct ?_;refine Ad7 ?_;clear hS;intro w hS;have hS:St W [i8 (nd 8) xs[i].cells _,i8 (nd 9) xs[j].cells _,_,sats L] w:=hS;generalize nd 8=v8 at *;generalize nd 9=v9 at *;have h1:=hS.ptr;clear hS;obtain⟨b8,rfl,hS⟩:=h1;replace hS:=hS.swap;have h1:=hS.ptr;clear hS;obtain⟨b9,rfl,hS⟩:=h1;replace hS:=hS.unpack [_,_,_];simp only[jK,jN]at hS;generalize ha:xs[i]=a at hS;generalize hb:xs[j]=b at hS;have Ha:=jH ha;have Hb:=jH hb;clear ha hb;obtain⟨i1,u1,y1,t1,c1,p1⟩:=a;obtain⟨i2,u2,y2,t2,c2,p2⟩:=b;simp only[Ord.cells]at hS;by_cases hp:p1=p2
 ·subst hp;go_wp2_with(first|refine zl1 hS ?_);go_ret;exact⟨by rw[Ha.out,Hb.out];simp[K8],hS.drop.drop⟩
 ·have hp':(p1==p2)=false:=by simpa using hp
  have hp'':(p1 != p2)=true:=by simpa using hp
  go_wp2_with(first|refine zl1 hS ?_);go_ret;exact⟨by rw[Ha.out,Hb.out];simp[K8,hp];cases decide (p1<p2) <;> cases y1 <;> rfl,hS.drop.drop⟩
theorem Bh7{xs:List Ord}{i j:Nat}{hi:i<xs.length}{hj:j<xs.length}{b:Bool}(hb:K8 xs[i] xs[j]=b)(junk:List Value)(g n cap:Nat)(hn:xs.length=n)(hcap:n<=cap)(hm:cap<=maxLen)(W w:World)(L:List HP)(hS:St W (blk g (xs.flatMap Ord.cells++junk) 173::L) w):
  Calls Tryz.prog 255 #[.S g n cap,.I i,.I j] w fun e w'=>e=.returned (.bool b)/\St W (blk g (xs.flatMap Ord.cells++junk) 173::L) w':=by
 subst hb;exact Jx7 xs junk g n cap i j hn hi hj hcap hm W w L hS
end Go.Proofs.YtienbkdjkjbelaaGreat
end
section
namespace Go.Sl
open Go.RowKit
section
variable{P:Program}{ops:Array Oper}{Q:Exit->Act->World->Prop}{a:Act}{w:World}{rest:List Oper}{o:Oper}
theorem At7{t:TypeId}{x y:Operand}{u i v:Value}(ho:o.op=.index t x y)(hg:Region.wanted o (yielded ops a.tmps)=true)(hx:a.eval x=u)(hy:a.eval y=i)(hr:∀w:World,(Instr.index t u i).run P w=.ok v w)
  (h:wpList P ops Q rest (a.put o.dst v) w):wpList P ops Q (o::rest) a w:=by
 refine Ar7 hg (v:=v) (w':=w) ?_ h;unfold execOp;simp only[ho,hx,hy,Sem.run_bind,hr,Result.andThen_ok,Sem.run_pure]
end
end Go.Sl
namespace Go.Proofs.YtienbkdjkjbelaaGreat
open Go.RowKit Go.Sl
theorem L5(a0 a1 a2 a3:Value)(w:World):(Instr.index 34 (.agg #[a0,a1,a2,a3]) (.I 0)).run Tryz.prog w=.ok a0 w:=by kernel_rfl
theorem L6(a0 a1 a2 a3:Value)(w:World):(Instr.index 34 (.agg #[a0,a1,a2,a3]) (.I 1)).run Tryz.prog w=.ok a1 w:=by kernel_rfl
theorem L7(a0 a1 a2 a3:Value)(w:World):(Instr.index 34 (.agg #[a0,a1,a2,a3]) (.I 2)).run Tryz.prog w=.ok a2 w:=by kernel_rfl
theorem L8(a0 a1 a2 a3:Value)(w:World):(Instr.index 34 (.agg #[a0,a1,a2,a3]) (.I 3)).run Tryz.prog w=.ok a3 w:=by kernel_rfl
structure It where
 x0:Int
 x1:Int
 x2:Int
 x3:Int
def It.cells(i:It):List Value:=[.I i.x0,.I i.x1,.I i.x2,.I i.x3]
theorem It.len(i:It):i.cells.length=4:=rfl
def it0:It:=⟨0,0,0,0⟩
def inH(n:Int):Bool:=decide (0<=n)&&decide (n<=1152921504606846976)
theorem Bk7{n:Int}:inH n=true↔0<=n/\n<=1152921504606846976:=by unfold inH;simp
theorem Ce7{n:Int}(h:n<0):inH n=false:=by unfold inH;simp;omega
theorem Bz7{n:Int}(h:1152921504606846976<n):inH n=false:=by unfold inH;simp;omega
def s8(i:It):Bool:=inH i.x0&&(inH i.x1&&(inH i.x2&&inH i.x3))
def IsR(W:World)(L:List HP)(i:It)(v:Value)(w:World):Prop:=
 St W L w/\(v=.I 0\/(v=.I 1/\inH i.x0=true)\/(v=.I 2/\inH i.x0=true/\inH i.x1=true)\/(v=.I 3/\inH i.x0=true/\inH i.x1=true/\inH i.x2=true)\/(v=.I 4/\inH i.x0=true/\inH i.x1=true/\inH i.x2=true/\inH i.x3=true))
theorem Ni7(i:It)(W w:World)(R:List HP)(hS:St W R w):
  Calls Tryz.prog 75 #[.agg i.cells.toArray] w fun e w'=>e=.returned (.bool (s8 i))/\St W R w':=by
 obtain⟨x0,x1,x2,x3⟩:=i;simp only[It.cells];go_enter Tryz.func75,Tryz.ntmps75;go_wp2_with(first|refine zlN hS ?_|refine zbx hS ?_;clear hS;intro b w hS)
 go_loopw [6] (fun v wr=>IsR W (blk b [.I x0,.I x1,.I x2,.I x3] 34::R) ⟨x0,x1,x2,x3⟩ v wr) (fun v _=>4-(intOf v).toNat)
 case atStart=>exact⟨hS,.inl rfl⟩
 case round=>
  clear hS;obtain⟨hS,hk⟩:=hrel;simp only at hk
  rcases hk with rfl|⟨rfl,q0⟩|⟨rfl,q0,q1⟩|⟨rfl,q0,q1,q2⟩|⟨rfl,q0,q1,q2,q3⟩
  ·skip
   by_cases h1:x0<0
   ·have hx:=Ce7 h1;go_wp2_with(first|(with_reducible apply At7);rfl;rfl;rfl;rfl;(first|exact L5 _ _ _ _|exact L6 _ _ _ _|exact L7 _ _ _ _|exact L8 _ _ _ _);refine frS ?_);go_ret;refine⟨by simp only[s8,hx,Bool.false_and,Bool.and_false,hx];rfl,hS.drop⟩
   ·have d1:decide (x0<0)=false:=by simpa using h1
    by_cases h2:1152921504606846976<x0
    ·have hx:=Bz7 h2;go_wp2_with(first|(with_reducible apply At7);rfl;rfl;rfl;rfl;(first|exact L5 _ _ _ _|exact L6 _ _ _ _|exact L7 _ _ _ _|exact L8 _ _ _ _);refine frS ?_);go_ret;refine⟨by simp only[s8,hx,Bool.false_and,Bool.and_false,hx];rfl,hS.drop⟩
    ·have d2:decide (1152921504606846976<x0)=false:=by simpa using h2
     have hx:inH x0=true:=Bk7.2 ⟨by omega,by omega⟩;clear h1 h2;go_wp2_with(first|(with_reducible apply At7);rfl;rfl;rfl;rfl;(first|exact L5 _ _ _ _|exact L6 _ _ _ _|exact L7 _ _ _ _|exact L8 _ _ _ _);refine frS ?_);go_roundw
     case rel=>exact⟨hS,.inr (.inl ⟨rfl,hx⟩)⟩
     case measure=>simp[intOf]
  ·skip
   by_cases h1:x1<0
   ·have hx:=Ce7 h1;go_wp2_with(first|(with_reducible apply At7);rfl;rfl;rfl;rfl;(first|exact L5 _ _ _ _|exact L6 _ _ _ _|exact L7 _ _ _ _|exact L8 _ _ _ _);refine frS ?_);go_ret;refine⟨by simp only[s8,hx,Bool.false_and,Bool.and_false,q0];rfl,hS.drop⟩
   ·have d1:decide (x1<0)=false:=by simpa using h1
    by_cases h2:1152921504606846976<x1
    ·have hx:=Bz7 h2;go_wp2_with(first|(with_reducible apply At7);rfl;rfl;rfl;rfl;(first|exact L5 _ _ _ _|exact L6 _ _ _ _|exact L7 _ _ _ _|exact L8 _ _ _ _);refine frS ?_);go_ret;refine⟨by simp only[s8,hx,Bool.false_and,Bool.and_false,q0];rfl,hS.drop⟩
    ·have d2:decide (1152921504606846976<x1)=false:=by simpa using h2
     have hx:inH x1=true:=Bk7.2 ⟨by omega,by omega⟩;clear h1 h2;go_wp2_with(first|(with_reducible apply At7);rfl;rfl;rfl;rfl;(first|exact L5 _ _ _ _|exact L6 _ _ _ _|exact L7 _ _ _ _|exact L8 _ _ _ _);refine frS ?_);go_roundw
     case rel=>exact⟨hS,.inr (.inr (.inl ⟨rfl,q0,hx⟩))⟩
     case measure=>simp[intOf]
  ·skip
   by_cases h1:x2<0
   ·have hx:=Ce7 h1;go_wp2_with(first|(with_reducible apply At7);rfl;rfl;rfl;rfl;(first|exact L5 _ _ _ _|exact L6 _ _ _ _|exact L7 _ _ _ _|exact L8 _ _ _ _);refine frS ?_);go_ret;refine⟨by simp only[s8,hx,Bool.false_and,Bool.and_false,q0];rfl,hS.drop⟩
   ·have d1:decide (x2<0)=false:=by simpa using h1
    by_cases h2:1152921504606846976<x2
    ·have hx:=Bz7 h2;go_wp2_with(first|(with_reducible apply At7);rfl;rfl;rfl;rfl;(first|exact L5 _ _ _ _|exact L6 _ _ _ _|exact L7 _ _ _ _|exact L8 _ _ _ _);refine frS ?_);go_ret;refine⟨by simp only[s8,hx,Bool.false_and,Bool.and_false,q0];rfl,hS.drop⟩
    ·have d2:decide (1152921504606846976<x2)=false:=by simpa using h2
     have hx:inH x2=true:=Bk7.2 ⟨by omega,by omega⟩;clear h1 h2;go_wp2_with(first|(with_reducible apply At7);rfl;rfl;rfl;rfl;(first|exact L5 _ _ _ _|exact L6 _ _ _ _|exact L7 _ _ _ _|exact L8 _ _ _ _);refine frS ?_);go_roundw
     case rel=>exact⟨hS,.inr (.inr (.inr (.inl ⟨rfl,q0,q1,hx⟩)))⟩
     case measure=>simp[intOf]
  ·skip
   by_cases h1:x3<0
   ·have hx:=Ce7 h1;go_wp2_with(first|(with_reducible apply At7);rfl;rfl;rfl;rfl;(first|exact L5 _ _ _ _|exact L6 _ _ _ _|exact L7 _ _ _ _|exact L8 _ _ _ _);refine frS ?_);go_ret;refine⟨by simp only[s8,hx,Bool.false_and,Bool.and_false,q0];rfl,hS.drop⟩
   ·have d1:decide (x3<0)=false:=by simpa using h1
    by_cases h2:1152921504606846976<x3
    ·have hx:=Bz7 h2;go_wp2_with(first|(with_reducible apply At7);rfl;rfl;rfl;rfl;(first|exact L5 _ _ _ _|exact L6 _ _ _ _|exact L7 _ _ _ _|exact L8 _ _ _ _);refine frS ?_);go_ret;refine⟨by simp only[s8,hx,Bool.false_and,Bool.and_false,q0];rfl,hS.drop⟩
    ·have d2:decide (1152921504606846976<x3)=false:=by simpa using h2
     have hx:inH x3=true:=Bk7.2 ⟨by omega,by omega⟩;clear h1 h2;go_wp2_with(first|(with_reducible apply At7);rfl;rfl;rfl;rfl;(first|exact L5 _ _ _ _|exact L6 _ _ _ _|exact L7 _ _ _ _|exact L8 _ _ _ _);refine frS ?_);go_roundw
     case rel=>exact⟨hS,.inr (.inr (.inr (.inr ⟨rfl,q0,q1,q2,hx⟩)))⟩
     case measure=>simp[intOf]
  ·go_wp2_with(fail);go_ret;refine⟨by simp only[s8,q0,q1,q2,q3];rfl,hS.drop⟩
def J6(a b:It):Bool:=decide (a.x0<b.x0)||(decide (a.x1<b.x1)||(decide (a.x2<b.x2)||decide (a.x3<b.x3)))
def LsR(W:World)(L:List HP)(a b:It)(v:Value)(w:World):Prop:=
 St W L w/\(v=.I 0\/(v=.I 1/\decide (a.x0<b.x0)=false)\/(v=.I 2/\decide (a.x0<b.x0)=false/\decide (a.x1<b.x1)=false)\/(v=.I 3/\decide (a.x0<b.x0)=false/\decide (a.x1<b.x1)=false/\decide (a.x2<b.x2)=false)\/(v=.I 4/\decide (a.x0<b.x0)=false/\decide (a.x1<b.x1)=false/\decide (a.x2<b.x2)=false/\decide (a.x3<b.x3)=false))
theorem Nj7(i j:It)(W w:World)(R:List HP)(hS:St W R w):
  Calls Tryz.prog 186 #[.agg i.cells.toArray,.agg j.cells.toArray] w fun e w'=>e=.returned (.bool (J6 i j))/\St W R w':=by
 obtain⟨x0,x1,x2,x3⟩:=i;obtain⟨y0,y1,y2,y3⟩:=j;simp only[It.cells];go_enter Tryz.func186,Tryz.ntmps186;go_wp2_with(first|refine zlN hS ?_|refine zbx hS ?_;clear hS;intro b w hS)
 rename_i bA w1 K1 hK1
 go_loopw [8] (fun v wr=>LsR W (blk b [.I y0,.I y1,.I y2,.I y3] 34::blk bA [.I x0,.I x1,.I x2,.I x3] 34::R) ⟨x0,x1,x2,x3⟩ ⟨y0,y1,y2,y3⟩ v wr) (fun v _=>4-(intOf v).toNat)
 case atStart=>exact⟨hS,.inl rfl⟩
 case round=>
  clear hS;obtain⟨hS,hk⟩:=hrel;simp only at hk
  rcases hk with rfl|⟨rfl,q0⟩|⟨rfl,q0,q1⟩|⟨rfl,q0,q1,q2⟩|⟨rfl,q0,q1,q2,q3⟩
  ·skip
   by_cases h1:x0<y0
   ·have hx:decide (x0<y0)=true:=by simpa using h1
    go_wp2_with(first|(with_reducible apply At7);rfl;rfl;rfl;rfl;(first|exact L5 _ _ _ _|exact L6 _ _ _ _|exact L7 _ _ _ _|exact L8 _ _ _ _);refine frS ?_|refine zl1 hS ?_);go_ret;refine⟨by simp only[J6,hx,Bool.true_or,Bool.or_true];rfl,hS.drop.drop⟩
   ·have hx:decide (x0<y0)=false:=by simpa using h1
    clear h1;go_wp2_with(first|(with_reducible apply At7);rfl;rfl;rfl;rfl;(first|exact L5 _ _ _ _|exact L6 _ _ _ _|exact L7 _ _ _ _|exact L8 _ _ _ _);refine frS ?_|refine zl1 hS ?_);go_roundw
    case rel=>exact⟨hS,.inr (.inl ⟨rfl,hx⟩)⟩
    case measure=>simp[intOf]
  ·skip
   by_cases h1:x1<y1
   ·have hx:decide (x1<y1)=true:=by simpa using h1
    go_wp2_with(first|(with_reducible apply At7);rfl;rfl;rfl;rfl;(first|exact L5 _ _ _ _|exact L6 _ _ _ _|exact L7 _ _ _ _|exact L8 _ _ _ _);refine frS ?_|refine zl1 hS ?_);go_ret;refine⟨by simp only[J6,hx,Bool.true_or,Bool.or_true];rfl,hS.drop.drop⟩
   ·have hx:decide (x1<y1)=false:=by simpa using h1
    clear h1;go_wp2_with(first|(with_reducible apply At7);rfl;rfl;rfl;rfl;(first|exact L5 _ _ _ _|exact L6 _ _ _ _|exact L7 _ _ _ _|exact L8 _ _ _ _);refine frS ?_|refine zl1 hS ?_);go_roundw
    case rel=>exact⟨hS,.inr (.inr (.inl ⟨rfl,q0,hx⟩))⟩
    case measure=>simp[intOf]
  ·skip
   by_cases h1:x2<y2
   ·have hx:decide (x2<y2)=true:=by simpa using h1
    go_wp2_with(first|(with_reducible apply At7);rfl;rfl;rfl;rfl;(first|exact L5 _ _ _ _|exact L6 _ _ _ _|exact L7 _ _ _ _|exact L8 _ _ _ _);refine frS ?_|refine zl1 hS ?_);go_ret;refine⟨by simp only[J6,hx,Bool.true_or,Bool.or_true];rfl,hS.drop.drop⟩
   ·have hx:decide (x2<y2)=false:=by simpa using h1
    clear h1;go_wp2_with(first|(with_reducible apply At7);rfl;rfl;rfl;rfl;(first|exact L5 _ _ _ _|exact L6 _ _ _ _|exact L7 _ _ _ _|exact L8 _ _ _ _);refine frS ?_|refine zl1 hS ?_);go_roundw
    case rel=>exact⟨hS,.inr (.inr (.inr (.inl ⟨rfl,q0,q1,hx⟩)))⟩
    case measure=>simp[intOf]
  ·skip
   by_cases h1:x3<y3
   ·have hx:decide (x3<y3)=true:=by simpa using h1
    go_wp2_with(first|(with_reducible apply At7);rfl;rfl;rfl;rfl;(first|exact L5 _ _ _ _|exact L6 _ _ _ _|exact L7 _ _ _ _|exact L8 _ _ _ _);refine frS ?_|refine zl1 hS ?_);go_ret;refine⟨by simp only[J6,hx,Bool.true_or,Bool.or_true];rfl,hS.drop.drop⟩
   ·have hx:decide (x3<y3)=false:=by simpa using h1
    clear h1;go_wp2_with(first|(with_reducible apply At7);rfl;rfl;rfl;rfl;(first|exact L5 _ _ _ _|exact L6 _ _ _ _|exact L7 _ _ _ _|exact L8 _ _ _ _);refine frS ?_|refine zl1 hS ?_);go_roundw
    case rel=>exact⟨hS,.inr (.inr (.inr (.inr ⟨rfl,q0,q1,q2,hx⟩)))⟩
    case measure=>simp[intOf]
  ·go_wp2_with(fail);go_ret;refine⟨by simp only[J6,q0,q1,q2,q3];rfl,hS.drop.drop⟩
end Go.Proofs.YtienbkdjkjbelaaGreat
end
