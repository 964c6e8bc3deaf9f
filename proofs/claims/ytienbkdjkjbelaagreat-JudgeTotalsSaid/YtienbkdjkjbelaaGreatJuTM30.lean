/-
  The document's purses.
-/
import Derived.Test.YtienbkdjkjbelaaGreatJuTM5
import Derived.Test.YtienbkdjkjbelaaGreatJuTM9
import Derived.Test.YtienbkdjkjbelaaGreatJuTM20
set_option maxHeartbeats 16000000
set_option maxRecDepth 100000
set_option linter.unusedSimpArgs false
set_option linter.unusedVariables false
section
namespace Go.Proofs.YtienbkdjkjbelaaGreat
open Go.RowKit Go.Sl
theorem dc4(k:ByteArray)(W w:World)(R:List HP)(hS:St W R w):
  Calls Tryz.prog 99 #[.string k] w fun e w'=>e=.returned (.bool (C6 k))/\St W R w':=by
 go_enter Tryz.func99,Tryz.ntmps99;by_cases h1:k.size<1
 ·have e:C6 k=false:=by unfold C6;simp;omega
  have d1:decide ((1:Int)<=(k.size:Int))=false:=by simp;omega
  rw[e];go_wp2_with(fail);go_ret;exact⟨rfl,hS⟩
 ·have d1:(1:Int)<=(k.size:Int):=by omega
  by_cases h2:k.size<=16
  ·have e:C6 k=true:=by unfold C6;simp;omega
   have d2:(k.size:Int)<=16:=by omega
   rw[e];go_wp2_with(fail);go_ret;exact⟨rfl,hS⟩
  ·have e:C6 k=false:=by unfold C6;simp;omega
   have d2:decide ((k.size:Int)<=16)=false:=by simp;omega
   rw[e];go_wp2_with(fail);go_ret;exact⟨rfl,hS⟩
theorem is8(i:It)(W w:World)(R:List HP)(hS:St W R w):
  Calls Tryz.prog 77 #[.agg i.cells.toArray] w fun e w'=>e=.returned (.bool (s6 i))/\St W R w':=by
 obtain⟨x0,x1,x2,x3⟩:=i;simp only[It.cells];go_enter Tryz.func77,Tryz.ntmps77;go_wp2_with(first|refine zbx hS ?_;clear hS;intro b w hS)
 go_loopw [3] (fun v wr=>IsR W (blk b [.I x0,.I x1,.I x2,.I x3] 34::R) ⟨x0,x1,x2,x3⟩ v wr) (fun v _=>4-(intOf v).toNat)
 case atStart=>exact⟨hS,.inl rfl⟩
 case round=>
  clear hS;obtain⟨hS,hk⟩:=hrel;simp only at hk
  rcases hk with rfl|⟨rfl,q0⟩|⟨rfl,q0,q1⟩|⟨rfl,q0,q1,q2⟩|⟨rfl,q0,q1,q2,q3⟩
  ·skip
   by_cases h1:x0<0
   ·have hx:=Cq7 h1;go_wp2_with(first|refine zl1 hS ?_);go_ret;refine⟨by simp only[s6,hx,Bool.false_and,Bool.and_false,hx];rfl,hS.drop⟩
   ·have d1:decide (x0<0)=false:=by simpa using h1
    by_cases h2:1152921504606846976<x0
    ·have hx:=BL7 h2;go_wp2_with(first|refine zl1 hS ?_);go_ret;refine⟨by simp only[s6,hx,Bool.false_and,Bool.and_false,hx];rfl,hS.drop⟩
    ·have d2:decide (1152921504606846976<x0)=false:=by simpa using h2
     have hx:inH x0=true:=Bp7.2 ⟨by omega,by omega⟩;clear h1 h2;go_wp2_with(first|refine zl1 hS ?_);go_roundw
     case rel=>exact⟨hS,.inr (.inl ⟨rfl,hx⟩)⟩
     case measure=>simp[intOf]
  ·skip
   by_cases h1:x1<0
   ·have hx:=Cq7 h1;go_wp2_with(first|refine zl1 hS ?_);go_ret;refine⟨by simp only[s6,hx,Bool.false_and,Bool.and_false,q0];rfl,hS.drop⟩
   ·have d1:decide (x1<0)=false:=by simpa using h1
    by_cases h2:1152921504606846976<x1
    ·have hx:=BL7 h2;go_wp2_with(first|refine zl1 hS ?_);go_ret;refine⟨by simp only[s6,hx,Bool.false_and,Bool.and_false,q0];rfl,hS.drop⟩
    ·have d2:decide (1152921504606846976<x1)=false:=by simpa using h2
     have hx:inH x1=true:=Bp7.2 ⟨by omega,by omega⟩;clear h1 h2;go_wp2_with(first|refine zl1 hS ?_);go_roundw
     case rel=>exact⟨hS,.inr (.inr (.inl ⟨rfl,q0,hx⟩))⟩
     case measure=>simp[intOf]
  ·skip
   by_cases h1:x2<0
   ·have hx:=Cq7 h1;go_wp2_with(first|refine zl1 hS ?_);go_ret;refine⟨by simp only[s6,hx,Bool.false_and,Bool.and_false,q0];rfl,hS.drop⟩
   ·have d1:decide (x2<0)=false:=by simpa using h1
    by_cases h2:1152921504606846976<x2
    ·have hx:=BL7 h2;go_wp2_with(first|refine zl1 hS ?_);go_ret;refine⟨by simp only[s6,hx,Bool.false_and,Bool.and_false,q0];rfl,hS.drop⟩
    ·have d2:decide (1152921504606846976<x2)=false:=by simpa using h2
     have hx:inH x2=true:=Bp7.2 ⟨by omega,by omega⟩;clear h1 h2;go_wp2_with(first|refine zl1 hS ?_);go_roundw
     case rel=>exact⟨hS,.inr (.inr (.inr (.inl ⟨rfl,q0,q1,hx⟩)))⟩
     case measure=>simp[intOf]
  ·skip
   by_cases h1:x3<0
   ·have hx:=Cq7 h1;go_wp2_with(first|refine zl1 hS ?_);go_ret;refine⟨by simp only[s6,hx,Bool.false_and,Bool.and_false,q0];rfl,hS.drop⟩
   ·have d1:decide (x3<0)=false:=by simpa using h1
    by_cases h2:1152921504606846976<x3
    ·have hx:=BL7 h2;go_wp2_with(first|refine zl1 hS ?_);go_ret;refine⟨by simp only[s6,hx,Bool.false_and,Bool.and_false,q0];rfl,hS.drop⟩
    ·have d2:decide (1152921504606846976<x3)=false:=by simpa using h2
     have hx:inH x3=true:=Bp7.2 ⟨by omega,by omega⟩;clear h1 h2;go_wp2_with(first|refine zl1 hS ?_);go_roundw
     case rel=>exact⟨hS,.inr (.inr (.inr (.inr ⟨rfl,q0,q1,q2,hx⟩)))⟩
     case measure=>simp[intOf]
  ·go_wp2_with(fail);go_ret;refine⟨by simp only[s6,q0,q1,q2,q3];rfl,hS.drop⟩
theorem Cn7(x0 x1 x2 x3:Int)(W w:World)(R:List HP)(hS:St W R w):
  Calls Tryz.prog 77 #[.agg #[.I x0,.I x1,.I x2,.I x3]] w fun e w'=>e=.returned (.bool (s6 ⟨x0,x1,x2,x3⟩))/\St W R w':=is8 ⟨x0,x1,x2,x3⟩ W w R hS
theorem eD4(x0 x1 x2 x3 y0 y1 y2 y3:Int)(W w:World)(R:List HP)(hS:St W R w):
  Calls Tryz.prog 181 #[.agg #[.I x0,.I x1,.I x2,.I x3],.agg #[.I y0,.I y1,.I y2,.I y3]] w fun e w'=>e=.returned (.bool (L9 ⟨x0,x1,x2,x3⟩ ⟨y0,y1,y2,y3⟩))/\St W R w':=by
 go_enter Tryz.func181,Tryz.ntmps181;go_wp2_with(first|(fail_if_success (have:=bA));(with_reducible apply Ay7 hS);rfl;rfl;rfl;rfl;clear hS;intro bA w hS;refine frS ?_|(have:=bA);(with_reducible apply Ay7 hS);rfl;rfl;rfl;rfl;clear hS;intro bB w hS;refine frS ?_)
 go_loopw [5] (fun v wr=>LsR W (blk bB [.I y0,.I y1,.I y2,.I y3] 34::blk bA [.I x0,.I x1,.I x2,.I x3] 34::R) ⟨x0,x1,x2,x3⟩ ⟨y0,y1,y2,y3⟩ v wr) (fun v _=>4-(intOf v).toNat)
 case atStart=>exact⟨hS,.inl rfl⟩
 case round=>
  clear hS;obtain⟨hS,hk⟩:=hrel;simp only at hk
  rcases hk with rfl|⟨rfl,q0⟩|⟨rfl,q0,q1⟩|⟨rfl,q0,q1,q2⟩|⟨rfl,q0,q1,q2,q3⟩
  ·skip
   by_cases h1:x0<y0
   ·have hx:decide (x0<y0)=true:=by simpa using h1
    go_wp2_with(fail);refine Aa7 (by kernel_rfl) (by kernel_rfl) hS ?_
    iterate 2 (refine qR ?_)
    (refine zq1 ?_)
    iterate 2 (refine qR ?_)
    (refine zq1 ?_);refine qR ?_;clear hS;intro w hS;go_wp2_with(fail);go_ret;refine⟨by simp only[L9,hx,Bool.true_or,Bool.or_true];rfl,hS.drop.drop⟩
   ·have hx:decide (x0<y0)=false:=by simpa using h1
    clear h1;go_wp2_with(fail);refine Aa7 (by kernel_rfl) (by kernel_rfl) hS ?_
    iterate 2 (refine qR ?_)
    (refine zq1 ?_)
    iterate 2 (refine qR ?_)
    (refine zq1 ?_);refine qR ?_;clear hS;intro w hS;go_wp2_with(fail);go_roundw
    case rel=>exact⟨hS,.inr (.inl ⟨rfl,hx⟩)⟩
    case measure=>simp[intOf]
  ·skip
   by_cases h1:x1<y1
   ·have hx:decide (x1<y1)=true:=by simpa using h1
    go_wp2_with(fail);refine Aa7 (by kernel_rfl) (by kernel_rfl) hS ?_
    iterate 2 (refine qR ?_)
    (refine zq1 ?_)
    iterate 2 (refine qR ?_)
    (refine zq1 ?_);refine qR ?_;clear hS;intro w hS;go_wp2_with(fail);go_ret;refine⟨by simp only[L9,hx,Bool.true_or,Bool.or_true];rfl,hS.drop.drop⟩
   ·have hx:decide (x1<y1)=false:=by simpa using h1
    clear h1;go_wp2_with(fail);refine Aa7 (by kernel_rfl) (by kernel_rfl) hS ?_
    iterate 2 (refine qR ?_)
    (refine zq1 ?_)
    iterate 2 (refine qR ?_)
    (refine zq1 ?_);refine qR ?_;clear hS;intro w hS;go_wp2_with(fail);go_roundw
    case rel=>exact⟨hS,.inr (.inr (.inl ⟨rfl,q0,hx⟩))⟩
    case measure=>simp[intOf]
  ·skip
   by_cases h1:x2<y2
   ·have hx:decide (x2<y2)=true:=by simpa using h1
    go_wp2_with(fail);refine Aa7 (by kernel_rfl) (by kernel_rfl) hS ?_
    iterate 2 (refine qR ?_)
    (refine zq1 ?_)
    iterate 2 (refine qR ?_)
    (refine zq1 ?_);refine qR ?_;clear hS;intro w hS;go_wp2_with(fail);go_ret;refine⟨by simp only[L9,hx,Bool.true_or,Bool.or_true];rfl,hS.drop.drop⟩
   ·have hx:decide (x2<y2)=false:=by simpa using h1
    clear h1;go_wp2_with(fail);refine Aa7 (by kernel_rfl) (by kernel_rfl) hS ?_
    iterate 2 (refine qR ?_)
    (refine zq1 ?_)
    iterate 2 (refine qR ?_)
    (refine zq1 ?_);refine qR ?_;clear hS;intro w hS;go_wp2_with(fail);go_roundw
    case rel=>exact⟨hS,.inr (.inr (.inr (.inl ⟨rfl,q0,q1,hx⟩)))⟩
    case measure=>simp[intOf]
  ·skip
   by_cases h1:x3<y3
   ·have hx:decide (x3<y3)=true:=by simpa using h1
    go_wp2_with(fail);refine Aa7 (by kernel_rfl) (by kernel_rfl) hS ?_
    iterate 2 (refine qR ?_)
    (refine zq1 ?_)
    iterate 2 (refine qR ?_)
    (refine zq1 ?_);refine qR ?_;clear hS;intro w hS;go_wp2_with(fail);go_ret;refine⟨by simp only[L9,hx,Bool.true_or,Bool.or_true];rfl,hS.drop.drop⟩
   ·have hx:decide (x3<y3)=false:=by simpa using h1
    clear h1;go_wp2_with(fail);refine Aa7 (by kernel_rfl) (by kernel_rfl) hS ?_
    iterate 2 (refine qR ?_)
    (refine zq1 ?_)
    iterate 2 (refine qR ?_)
    (refine zq1 ?_);refine qR ?_;clear hS;intro w hS;go_wp2_with(fail);go_roundw
    case rel=>exact⟨hS,.inr (.inr (.inr (.inr ⟨rfl,q0,q1,q2,hx⟩)))⟩
    case measure=>simp[intOf]
  ·go_wp2_with(fail);go_ret;refine⟨by simp only[L9,q0,q1,q2,q3];rfl,hS.drop.drop⟩
theorem fI4(i j:It)(W w:World)(R:List HP)(hS:St W R w):
  Calls Tryz.prog 133 #[.agg i.cells.toArray,.agg j.cells.toArray] w fun e w'=>e=.returned (.tuple #[.agg (bW4 i j).cells.toArray,.bool (J5 i j)])/\St W R w':=by
 obtain⟨x0,x1,x2,x3⟩:=i;obtain⟨y0,y1,y2,y3⟩:=j
 cases hi:s6 ⟨x0,x1,x2,x3⟩with
 | false=>
  have e:J5 ⟨x0,x1,x2,x3⟩ ⟨y0,y1,y2,y3⟩=false:=by unfold J5;rw[hi];rfl
  unfold bW4;rw[e];simp only[It.cells];go_enter Tryz.func133,Tryz.ntmps133;go_wp2_with(first|go_big_skip|go_at_call 77;refine(Cn7 _ _ _ _ W _ _ hS).mono ?_;clear hS;(try rw[hi]);(try rw[hj]);rintro e w ⟨rfl,hS⟩|(fail_if_success (have:=bA));(with_reducible apply Ay7 hS);rfl;rfl;rfl;rfl;clear hS;intro bA w hS;refine frS ?_|(have:=bA);(with_reducible apply Ay7 hS);rfl;rfl;rfl;rfl;clear hS;intro bB w hS;refine frS ?_|refine zlN hS ?_|refine zsN hS ?_;clear hS;intro w hS|(with_reducible apply An7 hS);rfl;rfl;exact zsS;clear hS;intro b w hS;refine frS ?_);apply Ac7;rfl;rfl;rfl;rfl;exact hS;decide +kernel;(exact r6);kernel_rfl;exact⟨rfl,hS.drop.drop.drop⟩
 | true=>
  cases hj:s6 ⟨y0,y1,y2,y3⟩with
  | false=>
   have e:J5 ⟨x0,x1,x2,x3⟩ ⟨y0,y1,y2,y3⟩=false:=by unfold J5;rw[hi,hj];rfl
   unfold bW4;rw[e];simp only[It.cells];go_enter Tryz.func133,Tryz.ntmps133;go_wp2_with(first|go_big_skip|go_at_call 77;refine(Cn7 _ _ _ _ W _ _ hS).mono ?_;clear hS;(try rw[hi]);(try rw[hj]);rintro e w ⟨rfl,hS⟩|(fail_if_success (have:=bA));(with_reducible apply Ay7 hS);rfl;rfl;rfl;rfl;clear hS;intro bA w hS;refine frS ?_|(have:=bA);(with_reducible apply Ay7 hS);rfl;rfl;rfl;rfl;clear hS;intro bB w hS;refine frS ?_|refine zlN hS ?_|refine zsN hS ?_;clear hS;intro w hS|(with_reducible apply An7 hS);rfl;rfl;exact zsS;clear hS;intro b w hS;refine frS ?_);apply Ac7;rfl;rfl;rfl;rfl;exact hS;decide +kernel;(exact r6);kernel_rfl;exact⟨rfl,hS.drop.drop.drop⟩
  | true=>
   cases hl:L9 ⟨x0,x1,x2,x3⟩ ⟨y0,y1,y2,y3⟩with
   | true=>
    have e:J5 ⟨x0,x1,x2,x3⟩ ⟨y0,y1,y2,y3⟩=false:=by unfold J5;rw[hi,hj,hl];rfl
    unfold bW4;rw[e];simp only[It.cells];go_enter Tryz.func133,Tryz.ntmps133;go_wp2_with(first|go_at_call 77;refine(Cn7 _ _ _ _ W _ _ hS).mono ?_;clear hS;(try rw[hi]);(try rw[hj]);rintro e w ⟨rfl,hS⟩|go_at_call 181;refine(eD4 _ _ _ _ _ _ _ _ W _ _ hS).mono ?_;clear hS;rw[hl];rintro e w ⟨rfl,hS⟩|(fail_if_success (have:=bA));(with_reducible apply Ay7 hS);rfl;rfl;rfl;rfl;clear hS;intro bA w hS;refine frS ?_|(have:=bA);(with_reducible apply Ay7 hS);rfl;rfl;rfl;rfl;clear hS;intro bB w hS;refine frS ?_|refine zlN hS ?_|refine zsN hS ?_;clear hS;intro w hS|(with_reducible apply An7 hS);rfl;rfl;exact zsS;clear hS;intro b w hS;refine frS ?_);apply Ac7;rfl;rfl;rfl;rfl;exact hS;decide +kernel;(exact r6);kernel_rfl;exact⟨rfl,hS.drop.drop.drop⟩
   | false=>
    have e:J5 ⟨x0,x1,x2,x3⟩ ⟨y0,y1,y2,y3⟩=true:=by unfold J5;rw[hi,hj,hl];rfl
    obtain⟨a0,a1,a2,a3⟩:=Ag7.1 hi;obtain⟨b0,b1,b2,b3⟩:=Ag7.1 hj;simp only at a0 a1 a2 a3 b0 b1 b2 b3;unfold bW4;rw[e,if_pos rfl];simp only[It.cells];go_enter Tryz.func133,Tryz.ntmps133;go_wp2_with(first|go_at_call 77;refine(Cn7 _ _ _ _ W _ _ hS).mono ?_;clear hS;(try rw[hi]);(try rw[hj]);rintro e w ⟨rfl,hS⟩|go_at_call 181;refine(eD4 _ _ _ _ _ _ _ _ W _ _ hS).mono ?_;clear hS;rw[hl];rintro e w ⟨rfl,hS⟩|(fail_if_success (have:=bA));(with_reducible apply Ay7 hS);rfl;rfl;rfl;rfl;clear hS;intro bA w hS;refine frS ?_|(have:=bA);(with_reducible apply Ay7 hS);rfl;rfl;rfl;rfl;clear hS;intro bB w hS;refine frS ?_|refine zlN hS ?_|(with_reducible apply An7 hS);rfl;rfl;exact zsS;clear hS;intro b w hS;refine frS ?_)
    go_loopw [6] (fun v wr=>Sb4 W (fun q=>[blk b [.I 0,.I 0,.I 0,.I 0] 34,blk bB [.I y0,.I y1,.I y2,.I y3] 34,blk bA [.I q.x0,.I q.x1,.I q.x2,.I q.x3] 34]++R) ⟨x0,x1,x2,x3⟩ ⟨y0,y1,y2,y3⟩ v wr) (fun v _=>4-(intOf v).toNat)
    case atStart=>exact .inl ⟨rfl,hS⟩
    case round=>
     clear hS hi hj hl;simp only[Sb4,bl4,jK,jN]at hrel
     rcases hrel with ⟨rfl,hS⟩|⟨rfl,hS⟩|⟨rfl,hS⟩|⟨rfl,hS⟩|⟨rfl,hS⟩
     ·skip
      go_wp2_with(fail);refine rt 9 hS ?_
      iterate 3 (refine qR ?_)
      (refine zq1 ?_)
      iterate 2 (refine qR ?_)
      (refine zq1 ?_)
      iterate 2 (refine qR ?_)
      clear hS;intro w hS;simp only[jD,List.drop_zero];go_wp2_with(first|refine zs1 hS ?_;clear hS;intro w hS);go_roundw
      case rel=>exact .inr (.inl ⟨rfl,hS⟩)
      case measure=>simp[intOf]
     ·skip
      go_wp2_with(fail);refine rt 9 hS ?_
      iterate 3 (refine qR ?_)
      (refine zq1 ?_)
      iterate 2 (refine qR ?_)
      (refine zq1 ?_)
      iterate 2 (refine qR ?_)
      clear hS;intro w hS;simp only[jD,List.drop_zero];go_wp2_with(first|refine zs1 hS ?_;clear hS;intro w hS);go_roundw
      case rel=>exact .inr (.inr (.inl ⟨rfl,hS⟩))
      case measure=>simp[intOf]
     ·skip
      go_wp2_with(fail);refine rt 9 hS ?_
      iterate 3 (refine qR ?_)
      (refine zq1 ?_)
      iterate 2 (refine qR ?_)
      (refine zq1 ?_)
      iterate 2 (refine qR ?_)
      clear hS;intro w hS;simp only[jD,List.drop_zero];go_wp2_with(first|refine zs1 hS ?_;clear hS;intro w hS);go_roundw
      case rel=>exact .inr (.inr (.inr (.inl ⟨rfl,hS⟩)))
      case measure=>simp[intOf]
     ·skip
      go_wp2_with(fail);refine rt 9 hS ?_
      iterate 3 (refine qR ?_)
      (refine zq1 ?_)
      iterate 2 (refine qR ?_)
      (refine zq1 ?_)
      iterate 2 (refine qR ?_)
      clear hS;intro w hS;simp only[jD,List.drop_zero];go_wp2_with(first|refine zs1 hS ?_;clear hS;intro w hS);go_roundw
      case rel=>exact .inr (.inr (.inr (.inr ⟨rfl,hS⟩)))
      case measure=>simp[intOf]
     ·go_wp2_with(first|refine zlN hS ?_|refine zsN hS ?_;clear hS;intro w hS);apply Ac7;rfl;rfl;rfl;rfl;exact hS;decide +kernel;(exact r6);kernel_rfl;exact⟨rfl,hS.drop.drop.drop⟩
theorem fa4(o:Ord)(hm:MayP o)(W w:World)(R:List HP)(hS:St W R w):
  Calls Tryz.prog 119 #[.agg o.cells.toArray] w fun e w'=>e=.returned (.agg (j5 o).cells.toArray)/\St W R w':=by
 have h1:=hm.item0;have h2:=hm.item1;have h3:=BN7 (by have:=hm.cnt0;omega) hm.cnt1 (by have:=hm.price0;omega) hm.price1;obtain⟨i,u,y,t,c,pr⟩:=o;simp only at h1 h2 h3;clear hm
 cases y with
 | true=>
  have e:j5 ⟨i,u,true,t,c,pr⟩=⟨c*pr,0,0,0⟩:=rfl;rw[e];simp only[Ord.cells,It.cells];have h4:c*pr<=9223372036854775807:=by omega
  have h5 : -9223372036854775808<=c*pr:=by omega
  clear e h1 h2;go_enter Tryz.func119,Tryz.ntmps119;go_wp2_with(first|refine zl1 hS ?_|refine zlN hS ?_|refine zs1 hS ?_;clear hS;intro w hS|refine zsN hS ?_;clear hS;intro w hS|refine zbx hS ?_;clear hS;intro b w hS|refine zal hS ?_;clear hS;intro b w hS);apply Ap7;rfl;rfl;rfl;exact hS;decide +kernel;(exact r6);kernel_rfl;exact⟨rfl,hS.s _⟩
 | false=>
  have ht:t=1\/t=2\/t=3:=by omega
  rcases ht with rfl|rfl|rfl
  ·have e:j5 ⟨i,u,false,1,c,pr⟩=⟨0,c,0,0⟩:=rfl;rw[e];simp only[Ord.cells,It.cells];clear e h1 h2 h3;go_enter Tryz.func119,Tryz.ntmps119;go_wp2_with(first|refine zl1 hS ?_|refine zlN hS ?_|refine zs1 hS ?_;clear hS;intro w hS|refine zsN hS ?_;clear hS;intro w hS|refine zbx hS ?_;clear hS;intro b w hS|refine zal hS ?_;clear hS;intro b w hS);apply Ap7;rfl;rfl;rfl;exact hS;decide +kernel;(exact r6);kernel_rfl;exact⟨rfl,hS.s _⟩
  ·have e:j5 ⟨i,u,false,2,c,pr⟩=⟨0,0,c,0⟩:=rfl;rw[e];simp only[Ord.cells,It.cells];clear e h1 h2 h3;go_enter Tryz.func119,Tryz.ntmps119;go_wp2_with(first|refine zl1 hS ?_|refine zlN hS ?_|refine zs1 hS ?_;clear hS;intro w hS|refine zsN hS ?_;clear hS;intro w hS|refine zbx hS ?_;clear hS;intro b w hS|refine zal hS ?_;clear hS;intro b w hS);apply Ap7;rfl;rfl;rfl;exact hS;decide +kernel;(exact r6);kernel_rfl;exact⟨rfl,hS.s _⟩
  ·have e:j5 ⟨i,u,false,3,c,pr⟩=⟨0,0,0,c⟩:=rfl;rw[e];simp only[Ord.cells,It.cells];clear e h1 h2 h3;go_enter Tryz.func119,Tryz.ntmps119;go_wp2_with(first|refine zl1 hS ?_|refine zlN hS ?_|refine zs1 hS ?_;clear hS;intro w hS|refine zsN hS ?_;clear hS;intro w hS|refine zbx hS ?_;clear hS;intro b w hS|refine zal hS ?_;clear hS;intro b w hS);apply Ap7;rfl;rfl;rfl;exact hS;decide +kernel;(exact r6);kernel_rfl;exact⟨rfl,hS.s _⟩
def spI:List Hd->ByteArray->Nat
 | [],_=>0
 | h::H,k=>if Op.bytesLess h.who.toList k.toList=true then spI H k+1 else 0
def spB:List Hd->ByteArray->Bool
 | [],_=>false
 | h::H,k=>if Op.bytesLess h.who.toList k.toList=true then spB H k else h.who.toList==k.toList
theorem Pu7:∀(H:List Hd) (k:ByteArray),spI H k<=H.length
 | [],_=>Nat.le_refl _
 | h::H,k=>by have:=Pu7 H k;rw[spI,jC];split <;> omega
theorem MC7:∀(H:List Hd) (k:ByteArray),spB H k=true->spI H k<H.length
 | [],_,h=>by cases h
 | x::H,k,h=>by
  rw[spB]at h;rw[spI,jC];split
  ·rename_i hc
   rw[if_pos hc]at h;have:=MC7 H k h;omega
  ·omega
abbrev xvL(xb:Nat)(v vB:Value)(n:Int)(H:List Hd)(R:List HP):List HP:=blk xb [v,vB,.I n] 183::hdR v H::R
def SpR(W:World)(L:List HP)(H:List Hd)(k:ByteArray)(v:Value)(w:World):Prop:=
 ∃i:Nat,v=.I i/\i<=H.length/\spI H k=i+spI (H.drop i) k/\spB H k=spB (H.drop i) k/\St W L w
theorem MD7(H:List Hd)(k:ByteArray)(xb:Nat)(v vB:Value)(n:Int)(W w:World)(R:List HP)(hS:St W (xvL xb v vB n H R) w):
  Calls Tryz.prog 132 #[.P xb,.string k] w fun e w'=>e=.returned (.tuple #[.I (spI H k),.bool (spB H k)])/\St W (xvL xb v vB n H R) w':=by
 obtain⟨a,cap,rfl⟩:=hS.drop.rowVal
 have h63:H.length<=9223372036854775807:=by
  rcases St.rowCase hS.drop with ⟨_,h0,_⟩|⟨_,_,h1,h2⟩
  ·omega
  ·omega
 go_enter Tryz.func132,Tryz.ntmps132;go_wp2_with fail
 go_loopw [6] (fun v wr=>SpR W (xvL xb (.slice a H.length cap) vB n H R) H k v wr) (fun v _=>H.length-(intOf v).toNat)
 case atStart=>exact⟨0,rfl,Nat.zero_le _,by simp,rfl,hS⟩
 case round=>
  clear hS;obtain⟨i,rfl,hil,e1,e2,hS⟩:=hrel;by_cases hin:i=H.length
  ·subst hin;rw[List.drop_length]at e1 e2;have E1:=jH (show spI H k=H.length from e1);have E2:=jH (show spB H k=false from e2);clear e1 e2;go_wp2_with(first|go_big_skip|refine zl1 hS ?_);go_ret2;rw[E1.out,E2.out];exact⟨rfl,hS⟩
  ·have hi1:i<H.length:=by omega
   obtain⟨⟨g,rfl⟩,_,_⟩:=St.rowAddr hS.drop (by omega);have hname:∀{K K':List HP},Take K (hdR (.S g H.length cap) H) K'->i6 K g (i*5) (.string H[i].who):=fun hu=>d8.elemM (enc:=Hd.cells) Hd.len hu hi1 0 _ rfl
   have hdr:H.drop i=H[i]::H.drop (i+1):=List.drop_eq_getElem_cons hi1;rw[hdr]at e1 e2;generalize H[i]=x at hname e1 e2;obtain⟨xw,xi⟩:=x;simp only at hname;rw[spI]at e1;rw[spB]at e2;simp only at e1 e2;clear hdr
   cases hb:Op.bytesLess xw.toList k.toList with
   | true=>
    rw[if_pos hb]at e1 e2;have E1:=jH e1;have E2:=jH e2;clear e1 e2;go_wp2_with(first|go_big_skip|refine zl1 hS ?_|refine zl1 hS ?_ (hc:=by exact hname (by exact i7)));go_roundw
    case rel=>exact⟨i+1,rfl,hi1,by rw[E1.out];omega,E2.out,hS⟩
    case measure=>simp[intOf];omega
   | false=>
    rw[if_neg (by rw[hb];simp)]at e1 e2;have E1:=jH (show spI H k=i from e1);have E2:=jH e2;clear e1 e2;go_wp2_with(first|go_big_skip|refine zl1 hS ?_|refine zl1 hS ?_ (hc:=by exact hname (by exact i7)));refine Aa7 (by kernel_rfl) (by kernel_rfl) hS ?_
    iterate 2 (refine qR ?_)
    (refine zqn ?_);refine qR ?_;refine zq1 ?_
    iterate 3 (refine qR ?_)
    (apply Ar7;rfl;rfl;rfl;decide +kernel;exact hname (by exact i7);refine frS ?_)
    iterate 4 (refine qR ?_)
    clear hS;intro w hS;go_wp2_with fail;go_ret2;rw[E1.out,E2.out];exact⟨rfl,hS⟩
theorem Cy7{H:List Hd}{k:ByteArray}{p:Nat}{b:Bool}(h1:spI H k=p)(h2:spB H k=b)(xb:Nat)(v vB:Value)(n:Int)(W w:World)(R:List HP)(hS:St W (xvL xb v vB n H R) w):
  Calls Tryz.prog 132 #[.P xb,.string k] w fun e w'=>e=.returned (.tuple #[.I p,.bool b])/\St W (xvL xb v vB n H R) w':=
 (MD7 H k xb v vB n W w R hS).mono fun e w' ⟨he,hS⟩=>⟨by rw[he,h1,h2],hS⟩
def eo4(H:List Hd)(k:ByteArray):It:=if spB H k=true then(H.getD (spI H k) ⟨⟨#[]⟩,it0⟩).has else it0
theorem gA4(H:List Hd)(k:ByteArray)(xb:Nat)(v vB:Value)(n:Int)(W w:World)(R:List HP)(hS:St W (xvL xb v vB n H R) w):
  Calls Tryz.prog 100 #[.P xb,.string k] w fun e w'=>e=.returned (eP (eo4 H k))/\St W (xvL xb v vB n H R) w':=by
 obtain⟨a,cap,rfl⟩:=hS.drop.rowVal;unfold eo4
 cases hb:spB H k with
 | false=>
  obtain⟨p,hp⟩:∃p,spI H k=p:=⟨_,rfl⟩
  have Hp:=jH hp;have Hb:=jH hb;clear hp hb;rw[if_neg (by simp)];go_enter Tryz.func100,Tryz.ntmps100;go_wp2_with(first|go_big_skip|go_at_call 132;refine(Cy7 Hp.out Hb.out xb _ vB n W _ (_::R) (hS.s (blk xb _ _::hdR _ H::blk b _ _::R))).mono ?_;clear hS;rintro e w ⟨rfl,hS⟩|refine zl1 hS ?_|refine zlN hS ?_|refine zs1 hS ?_;clear hS;intro w hS|refine zsN hS ?_;clear hS;intro w hS|refine zbx hS ?_;clear hS;intro b w hS|refine zal hS ?_;clear hS;intro b w hS);apply Ap7;rfl;rfl;rfl;exact hS;decide +kernel;(exact r6);kernel_rfl;exact⟨rfl,hS.s _⟩
 | true=>
  rw[if_pos rfl];have hlt:=MC7 H k hb;obtain⟨p,hp⟩:∃p,spI H k=p:=⟨_,rfl⟩
  rw[hp]at hlt ⊢;have Hp:=jH hp;have Hb:=jH hb;clear hp hb;obtain⟨⟨g,rfl⟩,_,_⟩:=St.rowAddr hS.drop (by omega);have hitems:∀{K K':List HP},Take K (hdR (.S g H.length cap) H) K'->d8 K g (p*5+1) (H[p].has.cells):=fun hu j v hj=>by have h1:=d8.elemM (enc:=Hd.cells) Hd.len hu hlt (1+j) v (by rw[Nat.add_comm];exact hj);rwa [<-Nat.add_assoc]at h1
  have e:H.getD p ⟨⟨#[]⟩,it0⟩=H[p]:=by simp[List.getD_eq_getElem?_getD,jG hlt]
  rw[e];clear e;generalize H[p]=x at hitems;obtain⟨xw,⟨x0,x1,x2,x3⟩⟩:=x;simp only[It.cells]at hitems;go_enter Tryz.func100,Tryz.ntmps100;go_wp2_with(first|go_big_skip|go_at_call 132;refine(Cy7 Hp.out Hb.out xb _ vB n W _ (_::R) (hS.s (blk xb _ _::hdR _ H::blk b _ _::R))).mono ?_;clear hS;rintro e w ⟨rfl,hS⟩|refine zl1 hS ?_|refine zlN hS ?_ (hc:=by exact hitems (by exact i7))|refine zsN hS ?_;clear hS;intro w hS|refine zal hS ?_;clear hS;intro b w hS);apply Ap7;rfl;rfl;rfl;exact hS;decide +kernel;(exact r6);kernel_rfl;exact⟨rfl,hS.s _⟩
abbrev blt(x y:ByteArray):Prop:=Op.bytesLess x.toList y.toList=true
theorem Eo7{x y:ByteArray}:blt x y↔x.data.toList<y.data.toList:=by unfold blt;rw[bytesLess_eq,Lib.toList_data,Lib.toList_data,decide_eq_true_eq]
theorem DA7{x y z:ByteArray}(h1:blt x y)(h2:blt y z):blt x z:=Eo7.2 (List.lt_trans (Eo7.1 h1) (Eo7.1 h2))
theorem DB7{x y:ByteArray}(h:blt x y):x≠y:=fun e=>by rw[e]at h;exact List.lt_irrefl _ (Eo7.1 h)
theorem DC7{x y:ByteArray}(h:blt x y):leB x y=true:=by unfold leB;rw[decide_eq_true_eq];exact List.le_of_lt (Eo7.1 h)
theorem Gd7{x k:ByteArray}(h:¬blt x k)(hne:x≠k):blt k x:=by
 refine Hw7 ?_ fun e=>hne e.symm
 unfold leB;rw[decide_eq_true_eq];exact List.not_lt.1 fun hl=>h (Eo7.2 hl)
theorem Fx7{x y:ByteArray}:(x.toList==y.toList)=true↔x=y:=by
 rw[Lib.toList_data,Lib.toList_data];constructor
 ·intro h;exact Dw7 (by simpa using h)
 ·rintro rfl;simp
def dW4(H:List Hd):Prop:=H.Pairwise fun x y=>blt x.who y.who
theorem GD7:∀(H:List Hd) (k:ByteArray),dW4 H->
  (∀x∈H.take (spI H k),blt x.who k)/\(∀y∈H.drop (if spB H k=true then spI H k+1 else spI H k),blt k y.who)/\(spB H k=true->∃x,H.drop (spI H k)=x::H.drop (spI H k+1)/\x.who=k)
 | [],k,_=>⟨fun x hx=>(by simp at hx),fun y hy=>(by simp[spI,spB]at hy),fun h=>(by cases h)⟩
 | h::H,k,hs=>by
  unfold dW4 at hs;rw[List.pairwise_cons]at hs;obtain⟨hs1,hs2⟩:=hs;rw[spI,spB];by_cases hb:Op.bytesLess h.who.toList k.toList=true
  ·rw[if_pos hb,if_pos hb];obtain⟨i1,i2,i3⟩:=GD7 H k hs2;refine⟨?_,?_,?_⟩
   ·intro x hx;rw[List.take_succ_cons]at hx
    rcases List.mem_cons.1 hx with rfl|hx
    ·exact hb
    ·exact i1 x hx
   ·intro y hy;refine i2 y ?_;split at hy
    ·rename_i h1
     rw[if_pos h1];simpa using hy
    ·rename_i h1
     rw[if_neg h1];simpa using hy
   ·intro h1;obtain⟨x,hx1,hx2⟩:=i3 h1;exact⟨x,by simpa using hx1,hx2⟩
  ·rw[if_neg hb,if_neg hb];refine⟨fun x hx=>(by simp at hx),?_,?_⟩
   ·intro y hy;split at hy
    ·rename_i h1
     have e:=Fx7.1 h1;rw[<-e];exact hs1 y (by simpa using hy)
    ·rename_i h1
     have hne:h.who≠k:=fun e=>h1 (Fx7.2 e)
     have hkh:=Gd7 hb hne;rw[List.drop_zero]at hy
     rcases List.mem_cons.1 hy with rfl|hy
     ·exact hkh
     ·exact DA7 hkh (hs1 y hy)
   ·intro h1;exact⟨h,by simp,Fx7.1 h1⟩
def dC4(H:List Hd)(k:ByteArray)(i:It):List Hd:=H.take (spI H k)++((if isZ i=true then[]else[⟨k,i⟩])++H.drop (if spB H k=true then spI H k+1 else spI H k))
section
variable{p:Ps}{N:Nat}
theorem IM7(hw:PsW p N):dW4 (hdL p):=by
 refine List.pairwise_iff_getElem.2 fun i j hi hj hij=>?_
 exact(Rc7 hw hj).2.2 i hij
theorem ME7(p:Ps):(hdL p).map Hd.who=kL p:=by unfold hdL;rw[List.map_map];exact(List.map_congr_left fun _ _=>rfl).trans (List.map_id _)
theorem Fy7{x:Hd}(h:x∈hdL p):x.has=j8 p x.who:=by unfold hdL at h;obtain⟨y,_,rfl⟩:=List.mem_map.1 h;rfl
theorem dX4(H:List Hd)(k:ByteArray):H=H.take (spI H k)++((if spB H k=true then(H.drop (spI H k)).take 1 else[])++H.drop (if spB H k=true then spI H k+1 else spI H k)):=by
 split
 ·have e:(H.drop (spI H k)).drop 1=H.drop (spI H k+1):=by rw[List.drop_drop]
  rw[<-e,List.take_append_drop,List.take_append_drop]
 ·rw[jN,List.take_append_drop]
theorem Qn7(hw:PsW p N)(k:ByteArray):eo4 (hdL p) k=j8 p k:=by
 obtain⟨h1,h2,h3⟩:=GD7 (hdL p) k (IM7 hw);unfold eo4
 cases hb:spB (hdL p) k with
 | true=>
  obtain⟨x,hx,hk⟩:=h3 hb;rw[if_pos rfl];have hm:x∈hdL p:=List.mem_of_mem_drop (by rw[hx];exact List.mem_cons_self ..)
  have e:(hdL p).getD (spI (hdL p) k) ⟨⟨#[]⟩,it0⟩=x:=by
   have h4:((hdL p).drop (spI (hdL p) k))[0]? = some x:=by rw[hx];rfl
   rw[List.getElem?_drop,Nat.add_zero]at h4;rw[List.getD_eq_getElem?_getD,h4];rfl
  rw[e,Fy7 hm,hk]
 | false=>
  rw[hb]at h2;rw[if_neg (by simp)]
  have hno:∀x∈p,x.1≠k:=by
   intro x hx e;have hm:x.1∈(hdL p).map Hd.who:=by rw[ME7];exact(Ax7 _).mem_iff.2 (List.mem_map_of_mem hx)
   obtain⟨y,hy,hye⟩:=List.mem_map.1 hm;have hs:=dX4 (hdL p) k;rw[hb]at hs;simp only[Bool.false_eq_true,if_false,jN]at hs h2;rw[hs]at hy
   rcases List.mem_append.1 hy with hy|hy
   ·exact DB7 (h1 y hy) (hye.trans e)
   ·exact DB7 (h2 y hy) (hye.trans e).symm
  unfold j8;rw[Gn7 hno];rfl
theorem Qo7(hw:PsW p N)(k:ByteArray)(i:It):dC4 (hdL p) k i=hdL (G9 p k i):=by
 obtain⟨h1,h2,h3⟩:=GD7 (hdL p) k (IM7 hw);have hsp:=dX4 (hdL p) k;have hsr:=IM7 hw;have hmA:∀x∈(hdL p).take (spI (hdL p) k),x∈hdL p:=fun x hx=>List.mem_of_mem_take hx
 have hmB:∀x∈(hdL p).drop (if spB (hdL p) k=true then spI (hdL p) k+1 else spI (hdL p) k),x∈hdL p:=fun x hx=>List.mem_of_mem_drop hx
 have hmid:∀x∈(if spB (hdL p) k=true then((hdL p).drop (spI (hdL p) k)).take 1 else[]),x.who=k:=by
  intro x hx;split at hx
  ·rename_i hb
   obtain⟨y,hy,hk⟩:=h3 hb;rw[hy]at hx;simp at hx;rw[hx];exact hk
  ·cases hx
 have hsA:dW4 ((hdL p).take (spI (hdL p) k)):=hsr.sublist (List.take_sublist _ _);have hsB:dW4 ((hdL p).drop (if spB (hdL p) k=true then spI (hdL p) k+1 else spI (hdL p) k)):=hsr.sublist (List.drop_sublist _ _)
 have hwho:(kL p).filter (fun y=>decide (y≠k))=((hdL p).take (spI (hdL p) k)).map Hd.who++((hdL p).drop (if spB (hdL p) k=true then spI (hdL p) k+1 else spI (hdL p) k)).map Hd.who:=by
  rw[<-ME7 p]
  conv=>lhs;rw[hsp]
  rw[List.map_append,List.map_append,List.filter_append,List.filter_append];rw[List.filter_eq_self.2 fun y hy=>by obtain⟨x,hx,rfl⟩:=List.mem_map.1 hy;simpa using DB7 (h1 x hx)];rw[List.filter_eq_nil_iff.2 fun y hy=>by obtain⟨x,hx,rfl⟩:=List.mem_map.1 hy;simpa using hmid x hx];rw[jN,List.filter_eq_self.2 fun y hy=>by obtain⟨x,hx,rfl⟩:=List.mem_map.1 hy;simpa using(DB7 (h2 x hx)).symm]
 have hdel:((i9 p k).map (·.1)).Perm (((hdL p).take (spI (hdL p) k)).map Hd.who++((hdL p).drop (if spB (hdL p) k=true then spI (hdL p) k+1 else spI (hdL p) k)).map Hd.who):=by
  rw[<-hwho];have e:(i9 p k).map (·.1)=(p.map (·.1)).filter (fun y=>decide (y≠k)):=by unfold i9;rw[List.filter_map];rfl
  rw[e];have hp:(kL p).Perm (p.map (·.1)):=Ax7 _;exact(hp.filter _).symm
 unfold dC4 G9
 cases hz:isZ i with
 | true=>
  rw[if_pos rfl,if_pos rfl,jN];have hk:kL (i9 p k)=((hdL p).take (spI (hdL p) k)).map Hd.who++((hdL p).drop (if spB (hdL p) k=true then spI (hdL p) k+1 else spI (hdL p) k)).map Hd.who:=by refine List.Perm.eq_of_pairwise (le:=fun a b=>leB a b=true) (fun a b _ _ h1 h2=>EJ7 h1 h2) (AB7 _) ?_ ((Ax7 _).trans hdel);refine List.pairwise_append.2 ⟨List.pairwise_map.2 (hsA.imp DC7),List.pairwise_map.2 (hsB.imp DC7),fun a ha b hb=>?_⟩;obtain⟨x,hx,rfl⟩:=List.mem_map.1 ha;obtain⟨y,hy,rfl⟩:=List.mem_map.1 hb;exact DC7 (DA7 (h1 x hx) (h2 y hy))
  unfold hdL at hk ⊢;rw[hk,List.map_append,List.map_map,List.map_map];refine congr (congrArg _ ?_) ?_
  ·refine((List.map_congr_left fun x hx=>?_).trans (List.map_id _)).symm;have e1:=Fy7 (hmA x hx);have e2:=BE7 p (DB7 (h1 x hx)) i;unfold G9 at e2;rw[hz,if_pos rfl]at e2;show(⟨x.who,j8 (i9 p k) x.who⟩:Hd)=x
   rw[e2,<-e1]
  ·refine((List.map_congr_left fun x hx=>?_).trans (List.map_id _)).symm;have e1:=Fy7 (hmB x hx);have e2:=BE7 p (DB7 (h2 x hx)).symm i;unfold G9 at e2;rw[hz,if_pos rfl]at e2;show(⟨x.who,j8 (i9 p k) x.who⟩:Hd)=x
   rw[e2,<-e1]
 | false=>
  have hft:¬(false=true):=by simp
  rw[if_neg hft,if_neg hft]
  have hk:kL ((k,i)::i9 p k)=((hdL p).take (spI (hdL p) k)).map Hd.who++(k::((hdL p).drop (if spB (hdL p) k=true then spI (hdL p) k+1 else spI (hdL p) k)).map Hd.who):=by
   refine List.Perm.eq_of_pairwise (le:=fun a b=>leB a b=true) (fun a b _ _ h1 h2=>EJ7 h1 h2) (AB7 _) ?_ ((Ax7 _).trans ?_)
   ·refine List.pairwise_append.2 ⟨List.pairwise_map.2 (hsA.imp DC7),List.pairwise_cons.2 ⟨fun b hb=>?_,List.pairwise_map.2 (hsB.imp DC7)⟩,fun a ha b hb=>?_⟩
    ·obtain⟨y,hy,rfl⟩:=List.mem_map.1 hb;exact DC7 (h2 y hy)
    ·obtain⟨x,hx,rfl⟩:=List.mem_map.1 ha
     rcases List.mem_cons.1 hb with rfl|hb
     ·exact DC7 (h1 x hx)
     ·obtain⟨y,hy,rfl⟩:=List.mem_map.1 hb;exact DC7 (DA7 (h1 x hx) (h2 y hy))
   ·rw[List.map_cons];exact(List.Perm.cons k hdel).trans List.perm_middle.symm
  unfold hdL at hk ⊢;rw[hk,List.map_append,List.map_cons,List.map_map,List.map_map];have es:=Gb7 p k i;unfold G9 at es;rw[hz,if_neg (by simp)]at es;refine congr (congrArg _ ?_) ?_
  ·refine((List.map_congr_left fun x hx=>?_).trans (List.map_id _)).symm;have e1:=Fy7 (hmA x hx);have e2:=BE7 p (DB7 (h1 x hx)) i;unfold G9 at e2;rw[hz,if_neg (by simp)]at e2;show(⟨x.who,j8 ((k,i)::i9 p k) x.who⟩:Hd)=x
   rw[e2,<-e1]
  ·rw[List.singleton_append,es];refine congrArg _ ?_;refine((List.map_congr_left fun x hx=>?_).trans (List.map_id _)).symm;have e1:=Fy7 (hmB x hx);have e2:=BE7 p (DB7 (h2 x hx)).symm i;unfold G9 at e2;rw[hz,if_neg (by simp)]at e2;show(⟨x.who,j8 ((k,i)::i9 p k) x.who⟩:Hd)=x
   rw[e2,<-e1]
end
end Go.Proofs.YtienbkdjkjbelaaGreat
end
