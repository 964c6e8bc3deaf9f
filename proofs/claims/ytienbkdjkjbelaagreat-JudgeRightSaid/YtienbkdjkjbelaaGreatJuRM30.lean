/-
  The document's purses.
-/
import Derived.Test.YtienbkdjkjbelaaGreatJuRM5
import Derived.Test.YtienbkdjkjbelaaGreatJuRM9
import Derived.Test.YtienbkdjkjbelaaGreatJuRM22
set_option maxHeartbeats 16000000
set_option maxRecDepth 100000
set_option linter.unusedSimpArgs false
set_option linter.unusedVariables false
section
namespace Go.Proofs.YtienbkdjkjbelaaGreat
open Go.RowKit Go.Sl
theorem cu4(k:ByteArray)(W w:World)(R:List HP)(hS:St W R w):
  Calls Tryz.prog 99 #[.string k] w fun e w'=>e=.returned (.bool (x9 k))/\St W R w':=by
 go_enter Tryz.func99,Tryz.ntmps99;by_cases h1:k.size<1
 ·have e:x9 k=false:=by unfold x9;simp;omega
  have d1:decide ((1:Int)<=(k.size:Int))=false:=by simp;omega
  rw[e];go_wp2_with(fail);go_ret;exact⟨rfl,hS⟩
 ·have d1:(1:Int)<=(k.size:Int):=by omega
  by_cases h2:k.size<=16
  ·have e:x9 k=true:=by unfold x9;simp;omega
   have d2:(k.size:Int)<=16:=by omega
   rw[e];go_wp2_with(fail);go_ret;exact⟨rfl,hS⟩
  ·have e:x9 k=false:=by unfold x9;simp;omega
   have d2:decide ((k.size:Int)<=16)=false:=by simp;omega
   rw[e];go_wp2_with(fail);go_ret;exact⟨rfl,hS⟩
theorem is8(i:It)(W w:World)(R:List HP)(hS:St W R w):
  Calls Tryz.prog 77 #[.agg i.cells.toArray] w fun e w'=>e=.returned (.bool (s8 i))/\St W R w':=by
 obtain⟨x0,x1,x2,x3⟩:=i;simp only[It.cells];go_enter Tryz.func77,Tryz.ntmps77;go_wp2_with(first|refine zbx hS ?_;clear hS;intro b w hS)
 go_loopw [3] (fun v wr=>IsR W (blk b [.I x0,.I x1,.I x2,.I x3] 34::R) ⟨x0,x1,x2,x3⟩ v wr) (fun v _=>4-(intOf v).toNat)
 case atStart=>exact⟨hS,.inl rfl⟩
 case round=>
  clear hS;obtain⟨hS,hk⟩:=hrel;simp only at hk
  rcases hk with rfl|⟨rfl,q0⟩|⟨rfl,q0,q1⟩|⟨rfl,q0,q1,q2⟩|⟨rfl,q0,q1,q2,q3⟩
  ·skip
   by_cases h1:x0<0
   ·have hx:=Ce7 h1;go_wp2_with(first|refine zl1 hS ?_);go_ret;refine⟨by simp only[s8,hx,Bool.false_and,Bool.and_false,hx];rfl,hS.drop⟩
   ·have d1:decide (x0<0)=false:=by simpa using h1
    by_cases h2:1152921504606846976<x0
    ·have hx:=Bz7 h2;go_wp2_with(first|refine zl1 hS ?_);go_ret;refine⟨by simp only[s8,hx,Bool.false_and,Bool.and_false,hx];rfl,hS.drop⟩
    ·have d2:decide (1152921504606846976<x0)=false:=by simpa using h2
     have hx:inH x0=true:=Bk7.2 ⟨by omega,by omega⟩;clear h1 h2;go_wp2_with(first|refine zl1 hS ?_);go_roundw
     case rel=>exact⟨hS,.inr (.inl ⟨rfl,hx⟩)⟩
     case measure=>simp[intOf]
  ·skip
   by_cases h1:x1<0
   ·have hx:=Ce7 h1;go_wp2_with(first|refine zl1 hS ?_);go_ret;refine⟨by simp only[s8,hx,Bool.false_and,Bool.and_false,q0];rfl,hS.drop⟩
   ·have d1:decide (x1<0)=false:=by simpa using h1
    by_cases h2:1152921504606846976<x1
    ·have hx:=Bz7 h2;go_wp2_with(first|refine zl1 hS ?_);go_ret;refine⟨by simp only[s8,hx,Bool.false_and,Bool.and_false,q0];rfl,hS.drop⟩
    ·have d2:decide (1152921504606846976<x1)=false:=by simpa using h2
     have hx:inH x1=true:=Bk7.2 ⟨by omega,by omega⟩;clear h1 h2;go_wp2_with(first|refine zl1 hS ?_);go_roundw
     case rel=>exact⟨hS,.inr (.inr (.inl ⟨rfl,q0,hx⟩))⟩
     case measure=>simp[intOf]
  ·skip
   by_cases h1:x2<0
   ·have hx:=Ce7 h1;go_wp2_with(first|refine zl1 hS ?_);go_ret;refine⟨by simp only[s8,hx,Bool.false_and,Bool.and_false,q0];rfl,hS.drop⟩
   ·have d1:decide (x2<0)=false:=by simpa using h1
    by_cases h2:1152921504606846976<x2
    ·have hx:=Bz7 h2;go_wp2_with(first|refine zl1 hS ?_);go_ret;refine⟨by simp only[s8,hx,Bool.false_and,Bool.and_false,q0];rfl,hS.drop⟩
    ·have d2:decide (1152921504606846976<x2)=false:=by simpa using h2
     have hx:inH x2=true:=Bk7.2 ⟨by omega,by omega⟩;clear h1 h2;go_wp2_with(first|refine zl1 hS ?_);go_roundw
     case rel=>exact⟨hS,.inr (.inr (.inr (.inl ⟨rfl,q0,q1,hx⟩)))⟩
     case measure=>simp[intOf]
  ·skip
   by_cases h1:x3<0
   ·have hx:=Ce7 h1;go_wp2_with(first|refine zl1 hS ?_);go_ret;refine⟨by simp only[s8,hx,Bool.false_and,Bool.and_false,q0];rfl,hS.drop⟩
   ·have d1:decide (x3<0)=false:=by simpa using h1
    by_cases h2:1152921504606846976<x3
    ·have hx:=Bz7 h2;go_wp2_with(first|refine zl1 hS ?_);go_ret;refine⟨by simp only[s8,hx,Bool.false_and,Bool.and_false,q0];rfl,hS.drop⟩
    ·have d2:decide (1152921504606846976<x3)=false:=by simpa using h2
     have hx:inH x3=true:=Bk7.2 ⟨by omega,by omega⟩;clear h1 h2;go_wp2_with(first|refine zl1 hS ?_);go_roundw
     case rel=>exact⟨hS,.inr (.inr (.inr (.inr ⟨rfl,q0,q1,q2,hx⟩)))⟩
     case measure=>simp[intOf]
  ·go_wp2_with(fail);go_ret;refine⟨by simp only[s8,q0,q1,q2,q3];rfl,hS.drop⟩
theorem Cb7(x0 x1 x2 x3:Int)(W w:World)(R:List HP)(hS:St W R w):
  Calls Tryz.prog 77 #[.agg #[.I x0,.I x1,.I x2,.I x3]] w fun e w'=>e=.returned (.bool (s8 ⟨x0,x1,x2,x3⟩))/\St W R w':=is8 ⟨x0,x1,x2,x3⟩ W w R hS
theorem dF4(x0 x1 x2 x3 y0 y1 y2 y3:Int)(W w:World)(R:List HP)(hS:St W R w):
  Calls Tryz.prog 181 #[.agg #[.I x0,.I x1,.I x2,.I x3],.agg #[.I y0,.I y1,.I y2,.I y3]] w fun e w'=>e=.returned (.bool (J6 ⟨x0,x1,x2,x3⟩ ⟨y0,y1,y2,y3⟩))/\St W R w':=by
 go_enter Tryz.func181,Tryz.ntmps181;go_wp2_with(first|(fail_if_success (have:=bA));(with_reducible apply Au7 hS);rfl;rfl;rfl;rfl;clear hS;intro bA w hS;refine frS ?_|(have:=bA);(with_reducible apply Au7 hS);rfl;rfl;rfl;rfl;clear hS;intro bB w hS;refine frS ?_)
 go_loopw [5] (fun v wr=>LsR W (blk bB [.I y0,.I y1,.I y2,.I y3] 34::blk bA [.I x0,.I x1,.I x2,.I x3] 34::R) ⟨x0,x1,x2,x3⟩ ⟨y0,y1,y2,y3⟩ v wr) (fun v _=>4-(intOf v).toNat)
 case atStart=>exact⟨hS,.inl rfl⟩
 case round=>
  clear hS;obtain⟨hS,hk⟩:=hrel;simp only at hk
  rcases hk with rfl|⟨rfl,q0⟩|⟨rfl,q0,q1⟩|⟨rfl,q0,q1,q2⟩|⟨rfl,q0,q1,q2,q3⟩
  ·skip
   by_cases h1:x0<y0
   ·have hx:decide (x0<y0)=true:=by simpa using h1
    go_wp2_with(fail);refine Aa7 (by kernel_rfl) (by kernel_rfl) hS ?_
    iterate 2 (refine qR ?_)
    (refine zq1 ?_)
    iterate 2 (refine qR ?_)
    (refine zq1 ?_);refine qR ?_;clear hS;intro w hS;go_wp2_with(fail);go_ret;refine⟨by simp only[J6,hx,Bool.true_or,Bool.or_true];rfl,hS.drop.drop⟩
   ·have hx:decide (x0<y0)=false:=by simpa using h1
    clear h1;go_wp2_with(fail);refine Aa7 (by kernel_rfl) (by kernel_rfl) hS ?_
    iterate 2 (refine qR ?_)
    (refine zq1 ?_)
    iterate 2 (refine qR ?_)
    (refine zq1 ?_);refine qR ?_;clear hS;intro w hS;go_wp2_with(fail);go_roundw
    case rel=>exact⟨hS,.inr (.inl ⟨rfl,hx⟩)⟩
    case measure=>simp[intOf]
  ·skip
   by_cases h1:x1<y1
   ·have hx:decide (x1<y1)=true:=by simpa using h1
    go_wp2_with(fail);refine Aa7 (by kernel_rfl) (by kernel_rfl) hS ?_
    iterate 2 (refine qR ?_)
    (refine zq1 ?_)
    iterate 2 (refine qR ?_)
    (refine zq1 ?_);refine qR ?_;clear hS;intro w hS;go_wp2_with(fail);go_ret;refine⟨by simp only[J6,hx,Bool.true_or,Bool.or_true];rfl,hS.drop.drop⟩
   ·have hx:decide (x1<y1)=false:=by simpa using h1
    clear h1;go_wp2_with(fail);refine Aa7 (by kernel_rfl) (by kernel_rfl) hS ?_
    iterate 2 (refine qR ?_)
    (refine zq1 ?_)
    iterate 2 (refine qR ?_)
    (refine zq1 ?_);refine qR ?_;clear hS;intro w hS;go_wp2_with(fail);go_roundw
    case rel=>exact⟨hS,.inr (.inr (.inl ⟨rfl,q0,hx⟩))⟩
    case measure=>simp[intOf]
  ·skip
   by_cases h1:x2<y2
   ·have hx:decide (x2<y2)=true:=by simpa using h1
    go_wp2_with(fail);refine Aa7 (by kernel_rfl) (by kernel_rfl) hS ?_
    iterate 2 (refine qR ?_)
    (refine zq1 ?_)
    iterate 2 (refine qR ?_)
    (refine zq1 ?_);refine qR ?_;clear hS;intro w hS;go_wp2_with(fail);go_ret;refine⟨by simp only[J6,hx,Bool.true_or,Bool.or_true];rfl,hS.drop.drop⟩
   ·have hx:decide (x2<y2)=false:=by simpa using h1
    clear h1;go_wp2_with(fail);refine Aa7 (by kernel_rfl) (by kernel_rfl) hS ?_
    iterate 2 (refine qR ?_)
    (refine zq1 ?_)
    iterate 2 (refine qR ?_)
    (refine zq1 ?_);refine qR ?_;clear hS;intro w hS;go_wp2_with(fail);go_roundw
    case rel=>exact⟨hS,.inr (.inr (.inr (.inl ⟨rfl,q0,q1,hx⟩)))⟩
    case measure=>simp[intOf]
  ·skip
   by_cases h1:x3<y3
   ·have hx:decide (x3<y3)=true:=by simpa using h1
    go_wp2_with(fail);refine Aa7 (by kernel_rfl) (by kernel_rfl) hS ?_
    iterate 2 (refine qR ?_)
    (refine zq1 ?_)
    iterate 2 (refine qR ?_)
    (refine zq1 ?_);refine qR ?_;clear hS;intro w hS;go_wp2_with(fail);go_ret;refine⟨by simp only[J6,hx,Bool.true_or,Bool.or_true];rfl,hS.drop.drop⟩
   ·have hx:decide (x3<y3)=false:=by simpa using h1
    clear h1;go_wp2_with(fail);refine Aa7 (by kernel_rfl) (by kernel_rfl) hS ?_
    iterate 2 (refine qR ?_)
    (refine zq1 ?_)
    iterate 2 (refine qR ?_)
    (refine zq1 ?_);refine qR ?_;clear hS;intro w hS;go_wp2_with(fail);go_roundw
    case rel=>exact⟨hS,.inr (.inr (.inr (.inr ⟨rfl,q0,q1,q2,hx⟩)))⟩
    case measure=>simp[intOf]
  ·go_wp2_with(fail);go_ret;refine⟨by simp only[J6,q0,q1,q2,q3];rfl,hS.drop.drop⟩
theorem eK4(i j:It)(W w:World)(R:List HP)(hS:St W R w):
  Calls Tryz.prog 133 #[.agg i.cells.toArray,.agg j.cells.toArray] w fun e w'=>e=.returned (.tuple #[.agg (bo4 i j).cells.toArray,.bool (G6 i j)])/\St W R w':=by
 obtain⟨x0,x1,x2,x3⟩:=i;obtain⟨y0,y1,y2,y3⟩:=j
 cases hi:s8 ⟨x0,x1,x2,x3⟩with
 | false=>
  have e:G6 ⟨x0,x1,x2,x3⟩ ⟨y0,y1,y2,y3⟩=false:=by unfold G6;rw[hi];rfl
  unfold bo4;rw[e];simp only[It.cells];go_enter Tryz.func133,Tryz.ntmps133;go_wp2_with(first|go_big_skip|go_at_call 77;refine(Cb7 _ _ _ _ W _ _ hS).mono ?_;clear hS;(try rw[hi]);(try rw[hj]);rintro e w ⟨rfl,hS⟩|(fail_if_success (have:=bA));(with_reducible apply Au7 hS);rfl;rfl;rfl;rfl;clear hS;intro bA w hS;refine frS ?_|(have:=bA);(with_reducible apply Au7 hS);rfl;rfl;rfl;rfl;clear hS;intro bB w hS;refine frS ?_|refine zlN hS ?_|refine zsN hS ?_;clear hS;intro w hS|(with_reducible apply Ap7 hS);rfl;rfl;exact zsS;clear hS;intro b w hS;refine frS ?_);apply Ac7;rfl;rfl;rfl;rfl;exact hS;decide +kernel;(exact m8);kernel_rfl;exact⟨rfl,hS.drop.drop.drop⟩
 | true=>
  cases hj:s8 ⟨y0,y1,y2,y3⟩with
  | false=>
   have e:G6 ⟨x0,x1,x2,x3⟩ ⟨y0,y1,y2,y3⟩=false:=by unfold G6;rw[hi,hj];rfl
   unfold bo4;rw[e];simp only[It.cells];go_enter Tryz.func133,Tryz.ntmps133;go_wp2_with(first|go_big_skip|go_at_call 77;refine(Cb7 _ _ _ _ W _ _ hS).mono ?_;clear hS;(try rw[hi]);(try rw[hj]);rintro e w ⟨rfl,hS⟩|(fail_if_success (have:=bA));(with_reducible apply Au7 hS);rfl;rfl;rfl;rfl;clear hS;intro bA w hS;refine frS ?_|(have:=bA);(with_reducible apply Au7 hS);rfl;rfl;rfl;rfl;clear hS;intro bB w hS;refine frS ?_|refine zlN hS ?_|refine zsN hS ?_;clear hS;intro w hS|(with_reducible apply Ap7 hS);rfl;rfl;exact zsS;clear hS;intro b w hS;refine frS ?_);apply Ac7;rfl;rfl;rfl;rfl;exact hS;decide +kernel;(exact m8);kernel_rfl;exact⟨rfl,hS.drop.drop.drop⟩
  | true=>
   cases hl:J6 ⟨x0,x1,x2,x3⟩ ⟨y0,y1,y2,y3⟩with
   | true=>
    have e:G6 ⟨x0,x1,x2,x3⟩ ⟨y0,y1,y2,y3⟩=false:=by unfold G6;rw[hi,hj,hl];rfl
    unfold bo4;rw[e];simp only[It.cells];go_enter Tryz.func133,Tryz.ntmps133;go_wp2_with(first|go_at_call 77;refine(Cb7 _ _ _ _ W _ _ hS).mono ?_;clear hS;(try rw[hi]);(try rw[hj]);rintro e w ⟨rfl,hS⟩|go_at_call 181;refine(dF4 _ _ _ _ _ _ _ _ W _ _ hS).mono ?_;clear hS;rw[hl];rintro e w ⟨rfl,hS⟩|(fail_if_success (have:=bA));(with_reducible apply Au7 hS);rfl;rfl;rfl;rfl;clear hS;intro bA w hS;refine frS ?_|(have:=bA);(with_reducible apply Au7 hS);rfl;rfl;rfl;rfl;clear hS;intro bB w hS;refine frS ?_|refine zlN hS ?_|refine zsN hS ?_;clear hS;intro w hS|(with_reducible apply Ap7 hS);rfl;rfl;exact zsS;clear hS;intro b w hS;refine frS ?_);apply Ac7;rfl;rfl;rfl;rfl;exact hS;decide +kernel;(exact m8);kernel_rfl;exact⟨rfl,hS.drop.drop.drop⟩
   | false=>
    have e:G6 ⟨x0,x1,x2,x3⟩ ⟨y0,y1,y2,y3⟩=true:=by unfold G6;rw[hi,hj,hl];rfl
    obtain⟨a0,a1,a2,a3⟩:=Ah7.1 hi;obtain⟨b0,b1,b2,b3⟩:=Ah7.1 hj;simp only at a0 a1 a2 a3 b0 b1 b2 b3;unfold bo4;rw[e,if_pos rfl];simp only[It.cells];go_enter Tryz.func133,Tryz.ntmps133;go_wp2_with(first|go_at_call 77;refine(Cb7 _ _ _ _ W _ _ hS).mono ?_;clear hS;(try rw[hi]);(try rw[hj]);rintro e w ⟨rfl,hS⟩|go_at_call 181;refine(dF4 _ _ _ _ _ _ _ _ W _ _ hS).mono ?_;clear hS;rw[hl];rintro e w ⟨rfl,hS⟩|(fail_if_success (have:=bA));(with_reducible apply Au7 hS);rfl;rfl;rfl;rfl;clear hS;intro bA w hS;refine frS ?_|(have:=bA);(with_reducible apply Au7 hS);rfl;rfl;rfl;rfl;clear hS;intro bB w hS;refine frS ?_|refine zlN hS ?_|(with_reducible apply Ap7 hS);rfl;rfl;exact zsS;clear hS;intro b w hS;refine frS ?_)
    go_loopw [6] (fun v wr=>Sb4 W (fun q=>[blk b [.I 0,.I 0,.I 0,.I 0] 34,blk bB [.I y0,.I y1,.I y2,.I y3] 34,blk bA [.I q.x0,.I q.x1,.I q.x2,.I q.x3] 34]++R) ⟨x0,x1,x2,x3⟩ ⟨y0,y1,y2,y3⟩ v wr) (fun v _=>4-(intOf v).toNat)
    case atStart=>exact .inl ⟨rfl,hS⟩
    case round=>
     clear hS hi hj hl;simp only[Sb4,bb4,jK,jN]at hrel
     rcases hrel with ⟨rfl,hS⟩|⟨rfl,hS⟩|⟨rfl,hS⟩|⟨rfl,hS⟩|⟨rfl,hS⟩
     ·skip
      go_wp2_with(fail);refine rt 9 hS ?_
      iterate 3 (refine qR ?_)
      (refine zq1 ?_)
      iterate 2 (refine qR ?_)
      (refine zq1 ?_)
      iterate 2 (refine qR ?_)
      clear hS;intro w hS;simp only[jD,List.drop_zero];go_wp2_with(first|refine zs1 hS ?_;clear hS;intro w hS);go_roundw
      case rel=>exact .inr (.inl ⟨rfl,hS⟩)
      case measure=>simp[intOf]
     ·skip
      go_wp2_with(fail);refine rt 9 hS ?_
      iterate 3 (refine qR ?_)
      (refine zq1 ?_)
      iterate 2 (refine qR ?_)
      (refine zq1 ?_)
      iterate 2 (refine qR ?_)
      clear hS;intro w hS;simp only[jD,List.drop_zero];go_wp2_with(first|refine zs1 hS ?_;clear hS;intro w hS);go_roundw
      case rel=>exact .inr (.inr (.inl ⟨rfl,hS⟩))
      case measure=>simp[intOf]
     ·skip
      go_wp2_with(fail);refine rt 9 hS ?_
      iterate 3 (refine qR ?_)
      (refine zq1 ?_)
      iterate 2 (refine qR ?_)
      (refine zq1 ?_)
      iterate 2 (refine qR ?_)
      clear hS;intro w hS;simp only[jD,List.drop_zero];go_wp2_with(first|refine zs1 hS ?_;clear hS;intro w hS);go_roundw
      case rel=>exact .inr (.inr (.inr (.inl ⟨rfl,hS⟩)))
      case measure=>simp[intOf]
     ·skip
      go_wp2_with(fail);refine rt 9 hS ?_
      iterate 3 (refine qR ?_)
      (refine zq1 ?_)
      iterate 2 (refine qR ?_)
      (refine zq1 ?_)
      iterate 2 (refine qR ?_)
      clear hS;intro w hS;simp only[jD,List.drop_zero];go_wp2_with(first|refine zs1 hS ?_;clear hS;intro w hS);go_roundw
      case rel=>exact .inr (.inr (.inr (.inr ⟨rfl,hS⟩)))
      case measure=>simp[intOf]
     ·go_wp2_with(first|refine zlN hS ?_|refine zsN hS ?_;clear hS;intro w hS);apply Ac7;rfl;rfl;rfl;rfl;exact hS;decide +kernel;(exact m8);kernel_rfl;exact⟨rfl,hS.drop.drop.drop⟩
theorem ec4(o:Ord)(hm:MayP o)(W w:World)(R:List HP)(hS:St W R w):
  Calls Tryz.prog 119 #[.agg o.cells.toArray] w fun e w'=>e=.returned (.agg (l5 o).cells.toArray)/\St W R w':=by
 have h1:=hm.item0;have h2:=hm.item1;have h3:=Cz7 (by have:=hm.cnt0;omega) hm.cnt1 (by have:=hm.price0;omega) hm.price1;obtain⟨i,u,y,t,c,pr⟩:=o;simp only at h1 h2 h3;clear hm
 cases y with
 | true=>
  have e:l5 ⟨i,u,true,t,c,pr⟩=⟨c*pr,0,0,0⟩:=rfl;rw[e];simp only[Ord.cells,It.cells];have h4:c*pr<=9223372036854775807:=by omega
  have h5 : -9223372036854775808<=c*pr:=by omega
  clear e h1 h2;go_enter Tryz.func119,Tryz.ntmps119;go_wp2_with(first|refine zl1 hS ?_|refine zlN hS ?_|refine zs1 hS ?_;clear hS;intro w hS|refine zsN hS ?_;clear hS;intro w hS|refine zbx hS ?_;clear hS;intro b w hS|refine zal hS ?_;clear hS;intro b w hS);apply Am7;rfl;rfl;rfl;exact hS;decide +kernel;(exact m8);kernel_rfl;exact⟨rfl,hS.s _⟩
 | false=>
  have ht:t=1\/t=2\/t=3:=by omega
  rcases ht with rfl|rfl|rfl
  ·have e:l5 ⟨i,u,false,1,c,pr⟩=⟨0,c,0,0⟩:=rfl;rw[e];simp only[Ord.cells,It.cells];clear e h1 h2 h3;go_enter Tryz.func119,Tryz.ntmps119;go_wp2_with(first|refine zl1 hS ?_|refine zlN hS ?_|refine zs1 hS ?_;clear hS;intro w hS|refine zsN hS ?_;clear hS;intro w hS|refine zbx hS ?_;clear hS;intro b w hS|refine zal hS ?_;clear hS;intro b w hS);apply Am7;rfl;rfl;rfl;exact hS;decide +kernel;(exact m8);kernel_rfl;exact⟨rfl,hS.s _⟩
  ·have e:l5 ⟨i,u,false,2,c,pr⟩=⟨0,0,c,0⟩:=rfl;rw[e];simp only[Ord.cells,It.cells];clear e h1 h2 h3;go_enter Tryz.func119,Tryz.ntmps119;go_wp2_with(first|refine zl1 hS ?_|refine zlN hS ?_|refine zs1 hS ?_;clear hS;intro w hS|refine zsN hS ?_;clear hS;intro w hS|refine zbx hS ?_;clear hS;intro b w hS|refine zal hS ?_;clear hS;intro b w hS);apply Am7;rfl;rfl;rfl;exact hS;decide +kernel;(exact m8);kernel_rfl;exact⟨rfl,hS.s _⟩
  ·have e:l5 ⟨i,u,false,3,c,pr⟩=⟨0,0,0,c⟩:=rfl;rw[e];simp only[Ord.cells,It.cells];clear e h1 h2 h3;go_enter Tryz.func119,Tryz.ntmps119;go_wp2_with(first|refine zl1 hS ?_|refine zlN hS ?_|refine zs1 hS ?_;clear hS;intro w hS|refine zsN hS ?_;clear hS;intro w hS|refine zbx hS ?_;clear hS;intro b w hS|refine zal hS ?_;clear hS;intro b w hS);apply Am7;rfl;rfl;rfl;exact hS;decide +kernel;(exact m8);kernel_rfl;exact⟨rfl,hS.s _⟩
def spI:List Hd->ByteArray->Nat
 | [],_=>0
 | h::H,k=>if Op.bytesLess h.who.toList k.toList=true then spI H k+1 else 0
def spB:List Hd->ByteArray->Bool
 | [],_=>false
 | h::H,k=>if Op.bytesLess h.who.toList k.toList=true then spB H k else h.who.toList==k.toList
theorem MX7:∀(H:List Hd) (k:ByteArray),spI H k<=H.length
 | [],_=>Nat.le_refl _
 | h::H,k=>by have:=MX7 H k;rw[spI,jC];split <;> omega
theorem KB7:∀(H:List Hd) (k:ByteArray),spB H k=true->spI H k<H.length
 | [],_,h=>by cases h
 | x::H,k,h=>by
  rw[spB]at h;rw[spI,jC];split
  ·rename_i hc
   rw[if_pos hc]at h;have:=KB7 H k h;omega
  ·omega
abbrev xvL(xb:Nat)(v vB:Value)(n:Int)(H:List Hd)(R:List HP):List HP:=blk xb [v,vB,.I n] 183::hdR v H::R
def SpR(W:World)(L:List HP)(H:List Hd)(k:ByteArray)(v:Value)(w:World):Prop:=
 ∃i:Nat,v=.I i/\i<=H.length/\spI H k=i+spI (H.drop i) k/\spB H k=spB (H.drop i) k/\St W L w
theorem KC7(H:List Hd)(k:ByteArray)(xb:Nat)(v vB:Value)(n:Int)(W w:World)(R:List HP)(hS:St W (xvL xb v vB n H R) w):
  Calls Tryz.prog 132 #[.P xb,.string k] w fun e w'=>e=.returned (.tuple #[.I (spI H k),.bool (spB H k)])/\St W (xvL xb v vB n H R) w':=by
 obtain⟨a,cap,rfl⟩:=hS.drop.rowVal
 have h63:H.length<=9223372036854775807:=by
  rcases St.rowCase hS.drop with ⟨_,h0,_⟩|⟨_,_,h1,h2⟩
  ·omega
  ·omega
 go_enter Tryz.func132,Tryz.ntmps132;go_wp2_with fail
 go_loopw [6] (fun v wr=>SpR W (xvL xb (.slice a H.length cap) vB n H R) H k v wr) (fun v _=>H.length-(intOf v).toNat)
 case atStart=>exact⟨0,rfl,Nat.zero_le _,by simp,rfl,hS⟩
 case round=>
  clear hS;obtain⟨i,rfl,hil,e1,e2,hS⟩:=hrel;by_cases hin:i=H.length
  ·subst hin;rw[List.drop_length]at e1 e2;have E1:=jH (show spI H k=H.length from e1);have E2:=jH (show spB H k=false from e2);clear e1 e2;go_wp2_with(first|go_big_skip|refine zl1 hS ?_);go_ret2;rw[E1.out,E2.out];exact⟨rfl,hS⟩
  ·have hi1:i<H.length:=by omega
   obtain⟨⟨g,rfl⟩,_,_⟩:=St.rowAddr hS.drop (by omega);have hname:∀{K K':List HP},Take K (hdR (.S g H.length cap) H) K'->i6 K g (i*5) (.string H[i].who):=fun hu=>d8.elemM (enc:=Hd.cells) Hd.len hu hi1 0 _ rfl
   have hdr:H.drop i=H[i]::H.drop (i+1):=List.drop_eq_getElem_cons hi1;rw[hdr]at e1 e2;generalize H[i]=x at hname e1 e2;obtain⟨xw,xi⟩:=x;simp only at hname;rw[spI]at e1;rw[spB]at e2;simp only at e1 e2;clear hdr
   cases hb:Op.bytesLess xw.toList k.toList with
   | true=>
    rw[if_pos hb]at e1 e2;have E1:=jH e1;have E2:=jH e2;clear e1 e2;go_wp2_with(first|go_big_skip|refine zl1 hS ?_|refine zl1 hS ?_ (hc:=by exact hname (by exact i7)));go_roundw
    case rel=>exact⟨i+1,rfl,hi1,by rw[E1.out];omega,E2.out,hS⟩
    case measure=>simp[intOf];omega
   | false=>
    rw[if_neg (by rw[hb];simp)]at e1 e2;have E1:=jH (show spI H k=i from e1);have E2:=jH e2;clear e1 e2;go_wp2_with(first|go_big_skip|refine zl1 hS ?_|refine zl1 hS ?_ (hc:=by exact hname (by exact i7)));refine Aa7 (by kernel_rfl) (by kernel_rfl) hS ?_
    iterate 2 (refine qR ?_)
    (refine zqn ?_);refine qR ?_;refine zq1 ?_
    iterate 3 (refine qR ?_)
    (apply An7;rfl;rfl;rfl;decide +kernel;exact hname (by exact i7);refine frS ?_)
    iterate 4 (refine qR ?_)
    clear hS;intro w hS;go_wp2_with fail;go_ret2;rw[E1.out,E2.out];exact⟨rfl,hS⟩
theorem Ck7{H:List Hd}{k:ByteArray}{p:Nat}{b:Bool}(h1:spI H k=p)(h2:spB H k=b)(xb:Nat)(v vB:Value)(n:Int)(W w:World)(R:List HP)(hS:St W (xvL xb v vB n H R) w):
  Calls Tryz.prog 132 #[.P xb,.string k] w fun e w'=>e=.returned (.tuple #[.I p,.bool b])/\St W (xvL xb v vB n H R) w':=
 (KC7 H k xb v vB n W w R hS).mono fun e w' ⟨he,hS⟩=>⟨by rw[he,h1,h2],hS⟩
def ds4(H:List Hd)(k:ByteArray):It:=if spB H k=true then(H.getD (spI H k) ⟨⟨#[]⟩,it0⟩).has else it0
theorem fB4(H:List Hd)(k:ByteArray)(xb:Nat)(v vB:Value)(n:Int)(W w:World)(R:List HP)(hS:St W (xvL xb v vB n H R) w):
  Calls Tryz.prog 100 #[.P xb,.string k] w fun e w'=>e=.returned (eP (ds4 H k))/\St W (xvL xb v vB n H R) w':=by
 obtain⟨a,cap,rfl⟩:=hS.drop.rowVal;unfold ds4
 cases hb:spB H k with
 | false=>
  obtain⟨p,hp⟩:∃p,spI H k=p:=⟨_,rfl⟩
  have Hp:=jH hp;have Hb:=jH hb;clear hp hb;rw[if_neg (by simp)];go_enter Tryz.func100,Tryz.ntmps100;go_wp2_with(first|go_big_skip|go_at_call 132;refine(Ck7 Hp.out Hb.out xb _ vB n W _ (_::R) (hS.s (blk xb _ _::hdR _ H::blk b _ _::R))).mono ?_;clear hS;rintro e w ⟨rfl,hS⟩|refine zl1 hS ?_|refine zlN hS ?_|refine zs1 hS ?_;clear hS;intro w hS|refine zsN hS ?_;clear hS;intro w hS|refine zbx hS ?_;clear hS;intro b w hS|refine zal hS ?_;clear hS;intro b w hS);apply Am7;rfl;rfl;rfl;exact hS;decide +kernel;(exact m8);kernel_rfl;exact⟨rfl,hS.s _⟩
 | true=>
  rw[if_pos rfl];have hlt:=KB7 H k hb;obtain⟨p,hp⟩:∃p,spI H k=p:=⟨_,rfl⟩
  rw[hp]at hlt ⊢;have Hp:=jH hp;have Hb:=jH hb;clear hp hb;obtain⟨⟨g,rfl⟩,_,_⟩:=St.rowAddr hS.drop (by omega);have hitems:∀{K K':List HP},Take K (hdR (.S g H.length cap) H) K'->d8 K g (p*5+1) (H[p].has.cells):=fun hu j v hj=>by have h1:=d8.elemM (enc:=Hd.cells) Hd.len hu hlt (1+j) v (by rw[Nat.add_comm];exact hj);rwa [<-Nat.add_assoc]at h1
  have e:H.getD p ⟨⟨#[]⟩,it0⟩=H[p]:=by simp[List.getD_eq_getElem?_getD,jG hlt]
  rw[e];clear e;generalize H[p]=x at hitems;obtain⟨xw,⟨x0,x1,x2,x3⟩⟩:=x;simp only[It.cells]at hitems;go_enter Tryz.func100,Tryz.ntmps100;go_wp2_with(first|go_big_skip|go_at_call 132;refine(Ck7 Hp.out Hb.out xb _ vB n W _ (_::R) (hS.s (blk xb _ _::hdR _ H::blk b _ _::R))).mono ?_;clear hS;rintro e w ⟨rfl,hS⟩|refine zl1 hS ?_|refine zlN hS ?_ (hc:=by exact hitems (by exact i7))|refine zsN hS ?_;clear hS;intro w hS|refine zal hS ?_;clear hS;intro b w hS);apply Am7;rfl;rfl;rfl;exact hS;decide +kernel;(exact m8);kernel_rfl;exact⟨rfl,hS.s _⟩
end Go.Proofs.YtienbkdjkjbelaaGreat
end
