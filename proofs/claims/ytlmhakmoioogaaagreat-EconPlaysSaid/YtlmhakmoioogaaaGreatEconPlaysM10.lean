/-
  The document's purses: what may be in one, less, without, together; what an order holds. For every purse.
  A pile's own methods (how many, which is ahead, exchange, put, take): what they do to the pile's row. For every pile.
-/
import Derived.Test.YtlmhakmoioogaaaGreatEconPlaysM5
import Derived.Test.YtlmhakmoioogaaaGreatEconPlaysM9
set_option maxHeartbeats 16000000
set_option maxRecDepth 100000
set_option linter.unusedSimpArgs false
set_option linter.unusedVariables false
section
namespace Go.Proofs.YtlmhakmoioogaaaGreat
open Go.RowKit Go.Sl
theorem key8(k:ByteArray)(W w:World)(R:List HP)(hS:St W R w):
  Calls Tryz.prog 115 #[.string k] w fun e w'=>e=.returned (.bool (whoB k))∧St W R w':=by
 go_enter Tryz.func115,Tryz.ntmps115
 by_cases h1:k.size<1
 ·have e:whoB k=false:=by unfold whoB;simp;omega
  have d1:decide ((1:Int)≤(k.size:Int))=false:=by simp;omega
  rw[e]
  go_wp2_with(fail)
  go_ret
  exact⟨rfl,hS⟩
 ·have d1:(1:Int)≤(k.size:Int):=by omega
  by_cases h2:k.size≤16
  ·have e:whoB k=true:=by unfold whoB;simp;omega
   have d2:(k.size:Int)≤16:=by omega
   rw[e]
   go_wp2_with(fail)
   go_ret
   exact⟨rfl,hS⟩
  ·have e:whoB k=false:=by unfold whoB;simp;omega
   have d2:decide ((k.size:Int)≤16)=false:=by simp;omega
   rw[e]
   go_wp2_with(fail)
   go_ret
   exact⟨rfl,hS⟩
theorem is8(i:It)(W w:World)(R:List HP)(hS:St W R w):
  Calls Tryz.prog 116 #[.agg i.cells.toArray] w fun e w'=>e=.returned (.bool (isIt i))∧St W R w':=by
 obtain⟨x0,x1,x2,x3⟩:=i
 simp only[It.cells]
 go_enter Tryz.func116,Tryz.ntmps116
 go_wp2_with(first|(refine zbx hS ?_;clear hS;intro b w hS))
 go_loopw [3] (fun v wr=>IsR W (blk b [.int .i64 x0,.int .i64 x1,.int .i64 x2,.int .i64 x3] 29::R) ⟨x0,x1,x2,x3⟩ v wr) (fun v _=>4-(intOf v).toNat)
 case atStart=>exact⟨hS,.inl rfl⟩
 case round=>
  clear hS
  obtain⟨hS,hk⟩:=hrel
  simp only at hk
  rcases hk with rfl|⟨rfl,q0⟩|⟨rfl,q0,q1⟩|⟨rfl,q0,q1,q2⟩|⟨rfl,q0,q1,q2,q3⟩
  ·skip
   by_cases h1:x0<0
   ·have hx:=CD7 h1
    go_wp2_with(first|(refine zl1 hS ?_))
    go_ret
    refine⟨by simp only[isIt,hx,Bool.false_and,Bool.and_false,hx];rfl,hS.drop⟩
   ·have d1:decide (x0<0)=false:=by simpa using h1
    by_cases h2:1152921504606846976<x0
    ·have hx:=BS7 h2
     go_wp2_with(first|(refine zl1 hS ?_))
     go_ret
     refine⟨by simp only[isIt,hx,Bool.false_and,Bool.and_false,hx];rfl,hS.drop⟩
    ·have d2:decide (1152921504606846976<x0)=false:=by simpa using h2
     have hx:inH x0=true:=By7.2 ⟨by omega,by omega⟩
     clear h1 h2
     go_wp2_with(first|(refine zl1 hS ?_))
     go_roundw
     case rel=>exact⟨hS,.inr (.inl ⟨rfl,hx⟩)⟩
     case measure=>simp[intOf]
  ·skip
   by_cases h1:x1<0
   ·have hx:=CD7 h1
    go_wp2_with(first|(refine zl1 hS ?_))
    go_ret
    refine⟨by simp only[isIt,hx,Bool.false_and,Bool.and_false,q0];rfl,hS.drop⟩
   ·have d1:decide (x1<0)=false:=by simpa using h1
    by_cases h2:1152921504606846976<x1
    ·have hx:=BS7 h2
     go_wp2_with(first|(refine zl1 hS ?_))
     go_ret
     refine⟨by simp only[isIt,hx,Bool.false_and,Bool.and_false,q0];rfl,hS.drop⟩
    ·have d2:decide (1152921504606846976<x1)=false:=by simpa using h2
     have hx:inH x1=true:=By7.2 ⟨by omega,by omega⟩
     clear h1 h2
     go_wp2_with(first|(refine zl1 hS ?_))
     go_roundw
     case rel=>exact⟨hS,.inr (.inr (.inl ⟨rfl,q0,hx⟩))⟩
     case measure=>simp[intOf]
  ·skip
   by_cases h1:x2<0
   ·have hx:=CD7 h1
    go_wp2_with(first|(refine zl1 hS ?_))
    go_ret
    refine⟨by simp only[isIt,hx,Bool.false_and,Bool.and_false,q0];rfl,hS.drop⟩
   ·have d1:decide (x2<0)=false:=by simpa using h1
    by_cases h2:1152921504606846976<x2
    ·have hx:=BS7 h2
     go_wp2_with(first|(refine zl1 hS ?_))
     go_ret
     refine⟨by simp only[isIt,hx,Bool.false_and,Bool.and_false,q0];rfl,hS.drop⟩
    ·have d2:decide (1152921504606846976<x2)=false:=by simpa using h2
     have hx:inH x2=true:=By7.2 ⟨by omega,by omega⟩
     clear h1 h2
     go_wp2_with(first|(refine zl1 hS ?_))
     go_roundw
     case rel=>exact⟨hS,.inr (.inr (.inr (.inl ⟨rfl,q0,q1,hx⟩)))⟩
     case measure=>simp[intOf]
  ·skip
   by_cases h1:x3<0
   ·have hx:=CD7 h1
    go_wp2_with(first|(refine zl1 hS ?_))
    go_ret
    refine⟨by simp only[isIt,hx,Bool.false_and,Bool.and_false,q0];rfl,hS.drop⟩
   ·have d1:decide (x3<0)=false:=by simpa using h1
    by_cases h2:1152921504606846976<x3
    ·have hx:=BS7 h2
     go_wp2_with(first|(refine zl1 hS ?_))
     go_ret
     refine⟨by simp only[isIt,hx,Bool.false_and,Bool.and_false,q0];rfl,hS.drop⟩
    ·have d2:decide (1152921504606846976<x3)=false:=by simpa using h2
     have hx:inH x3=true:=By7.2 ⟨by omega,by omega⟩
     clear h1 h2
     go_wp2_with(first|(refine zl1 hS ?_))
     go_roundw
     case rel=>exact⟨hS,.inr (.inr (.inr (.inr ⟨rfl,q0,q1,q2,hx⟩)))⟩
     case measure=>simp[intOf]
  ·go_wp2_with(fail)
   go_ret
   refine⟨by simp only[isIt,q0,q1,q2,q3];rfl,hS.drop⟩
theorem Ck7(x0 x1 x2 x3:Int)(W w:World)(R:List HP)(hS:St W R w):
  Calls Tryz.prog 116 #[.agg #[.int .i64 x0,.int .i64 x1,.int .i64 x2,.int .i64 x3]] w fun e w'=>e=.returned (.bool (isIt ⟨x0,x1,x2,x3⟩))∧St W R w':=is8 ⟨x0,x1,x2,x3⟩ W w R hS
theorem less8(x0 x1 x2 x3 y0 y1 y2 y3:Int)(W w:World)(R:List HP)(hS:St W R w):
  Calls Tryz.prog 226 #[.agg #[.int .i64 x0,.int .i64 x1,.int .i64 x2,.int .i64 x3],.agg #[.int .i64 y0,.int .i64 y1,.int .i64 y2,.int .i64 y3]] w fun e w'=>e=.returned (.bool (lessIt ⟨x0,x1,x2,x3⟩ ⟨y0,y1,y2,y3⟩))∧St W R w':=by
 go_enter Tryz.func226,Tryz.ntmps226
 go_wp2_with(first|((fail_if_success (have:=bA));(with_reducible apply Az7 hS);(with_reducible rfl);rfl;rfl;rfl;clear hS;intro bA w hS;(refine frS ?_))|((have:=bA);(with_reducible apply Az7 hS);(with_reducible rfl);rfl;rfl;rfl;clear hS;intro bB w hS;(refine frS ?_)))
 go_loopw [5] (fun v wr=>LsR W (blk bB [.int .i64 y0,.int .i64 y1,.int .i64 y2,.int .i64 y3] 29::blk bA [.int .i64 x0,.int .i64 x1,.int .i64 x2,.int .i64 x3] 29::R) ⟨x0,x1,x2,x3⟩ ⟨y0,y1,y2,y3⟩ v wr) (fun v _=>4-(intOf v).toNat)
 case atStart=>exact⟨hS,.inl rfl⟩
 case round=>
  clear hS
  obtain⟨hS,hk⟩:=hrel
  simp only at hk
  rcases hk with rfl|⟨rfl,q0⟩|⟨rfl,q0,q1⟩|⟨rfl,q0,q1,q2⟩|⟨rfl,q0,q1,q2,q3⟩
  ·skip
   by_cases h1:x0<y0
   ·have hx:decide (x0<y0)=true:=by simpa using h1
    go_wp2_with(fail)
    refine Aa7 (by kernel_rfl) (by kernel_rfl) hS ?_
    iterate 2 (refine qR ?_)
    (refine zq1 ?_)
    iterate 2 (refine qR ?_)
    (refine zq1 ?_)
    (refine qR ?_)
    clear hS
    intro w hS
    go_wp2_with(fail)
    go_ret
    refine⟨by simp only[lessIt,hx,Bool.true_or,Bool.or_true];rfl,hS.drop.drop⟩
   ·have hx:decide (x0<y0)=false:=by simpa using h1
    clear h1
    go_wp2_with(fail)
    refine Aa7 (by kernel_rfl) (by kernel_rfl) hS ?_
    iterate 2 (refine qR ?_)
    (refine zq1 ?_)
    iterate 2 (refine qR ?_)
    (refine zq1 ?_)
    (refine qR ?_)
    clear hS
    intro w hS
    go_wp2_with(fail)
    go_roundw
    case rel=>exact⟨hS,.inr (.inl ⟨rfl,hx⟩)⟩
    case measure=>simp[intOf]
  ·skip
   by_cases h1:x1<y1
   ·have hx:decide (x1<y1)=true:=by simpa using h1
    go_wp2_with(fail)
    refine Aa7 (by kernel_rfl) (by kernel_rfl) hS ?_
    iterate 2 (refine qR ?_)
    (refine zq1 ?_)
    iterate 2 (refine qR ?_)
    (refine zq1 ?_)
    (refine qR ?_)
    clear hS
    intro w hS
    go_wp2_with(fail)
    go_ret
    refine⟨by simp only[lessIt,hx,Bool.true_or,Bool.or_true];rfl,hS.drop.drop⟩
   ·have hx:decide (x1<y1)=false:=by simpa using h1
    clear h1
    go_wp2_with(fail)
    refine Aa7 (by kernel_rfl) (by kernel_rfl) hS ?_
    iterate 2 (refine qR ?_)
    (refine zq1 ?_)
    iterate 2 (refine qR ?_)
    (refine zq1 ?_)
    (refine qR ?_)
    clear hS
    intro w hS
    go_wp2_with(fail)
    go_roundw
    case rel=>exact⟨hS,.inr (.inr (.inl ⟨rfl,q0,hx⟩))⟩
    case measure=>simp[intOf]
  ·skip
   by_cases h1:x2<y2
   ·have hx:decide (x2<y2)=true:=by simpa using h1
    go_wp2_with(fail)
    refine Aa7 (by kernel_rfl) (by kernel_rfl) hS ?_
    iterate 2 (refine qR ?_)
    (refine zq1 ?_)
    iterate 2 (refine qR ?_)
    (refine zq1 ?_)
    (refine qR ?_)
    clear hS
    intro w hS
    go_wp2_with(fail)
    go_ret
    refine⟨by simp only[lessIt,hx,Bool.true_or,Bool.or_true];rfl,hS.drop.drop⟩
   ·have hx:decide (x2<y2)=false:=by simpa using h1
    clear h1
    go_wp2_with(fail)
    refine Aa7 (by kernel_rfl) (by kernel_rfl) hS ?_
    iterate 2 (refine qR ?_)
    (refine zq1 ?_)
    iterate 2 (refine qR ?_)
    (refine zq1 ?_)
    (refine qR ?_)
    clear hS
    intro w hS
    go_wp2_with(fail)
    go_roundw
    case rel=>exact⟨hS,.inr (.inr (.inr (.inl ⟨rfl,q0,q1,hx⟩)))⟩
    case measure=>simp[intOf]
  ·skip
   by_cases h1:x3<y3
   ·have hx:decide (x3<y3)=true:=by simpa using h1
    go_wp2_with(fail)
    refine Aa7 (by kernel_rfl) (by kernel_rfl) hS ?_
    iterate 2 (refine qR ?_)
    (refine zq1 ?_)
    iterate 2 (refine qR ?_)
    (refine zq1 ?_)
    (refine qR ?_)
    clear hS
    intro w hS
    go_wp2_with(fail)
    go_ret
    refine⟨by simp only[lessIt,hx,Bool.true_or,Bool.or_true];rfl,hS.drop.drop⟩
   ·have hx:decide (x3<y3)=false:=by simpa using h1
    clear h1
    go_wp2_with(fail)
    refine Aa7 (by kernel_rfl) (by kernel_rfl) hS ?_
    iterate 2 (refine qR ?_)
    (refine zq1 ?_)
    iterate 2 (refine qR ?_)
    (refine zq1 ?_)
    (refine qR ?_)
    clear hS
    intro w hS
    go_wp2_with(fail)
    go_roundw
    case rel=>exact⟨hS,.inr (.inr (.inr (.inr ⟨rfl,q0,q1,q2,hx⟩)))⟩
    case measure=>simp[intOf]
  ·go_wp2_with(fail)
   go_ret
   refine⟨by simp only[lessIt,q0,q1,q2,q3];rfl,hS.drop.drop⟩
theorem sub8(i j:It)(W w:World)(R:List HP)(hS:St W R w):
  Calls Tryz.prog 181 #[.agg i.cells.toArray,.agg j.cells.toArray] w fun e w'=>e=.returned (.tuple #[.agg (subF i j).cells.toArray,.bool (subOk i j)])∧St W R w':=by
 obtain⟨x0,x1,x2,x3⟩:=i
 obtain⟨y0,y1,y2,y3⟩:=j
 cases hi:isIt ⟨x0,x1,x2,x3⟩with
 | false=>
  have e:subOk ⟨x0,x1,x2,x3⟩ ⟨y0,y1,y2,y3⟩=false:=by unfold subOk;rw[hi];rfl
  unfold subF
  rw[e]
  simp only[It.cells]
  go_enter Tryz.func181,Tryz.ntmps181
  go_wp2_with(first|go_big_skip|(go_at_call 116;refine(Ck7 _ _ _ _ W _ _ hS).mono ?_;clear hS;(try rw[hi]);(try rw[hj]);rintro e w ⟨rfl,hS⟩)|((fail_if_success (have:=bA));(with_reducible apply Az7 hS);(with_reducible rfl);rfl;rfl;rfl;clear hS;intro bA w hS;(refine frS ?_))|((have:=bA);(with_reducible apply Az7 hS);(with_reducible rfl);rfl;rfl;rfl;clear hS;intro bB w hS;(refine frS ?_))|(refine zlN hS ?_)|(refine zsN hS ?_;clear hS;intro w hS)|((with_reducible apply Aj7 hS);(with_reducible rfl);rfl;(exact zsS);clear hS;intro b w hS;(refine frS ?_)))
  (apply Ac7;rfl;rfl;rfl;rfl;exact hS;decide +kernel;(exact cesS);kernel_rfl)
  exact⟨rfl,hS.drop.drop.drop⟩
 | true=>
  cases hj:isIt ⟨y0,y1,y2,y3⟩with
  | false=>
   have e:subOk ⟨x0,x1,x2,x3⟩ ⟨y0,y1,y2,y3⟩=false:=by unfold subOk;rw[hi,hj];rfl
   unfold subF
   rw[e]
   simp only[It.cells]
   go_enter Tryz.func181,Tryz.ntmps181
   go_wp2_with(first|go_big_skip|(go_at_call 116;refine(Ck7 _ _ _ _ W _ _ hS).mono ?_;clear hS;(try rw[hi]);(try rw[hj]);rintro e w ⟨rfl,hS⟩)|((fail_if_success (have:=bA));(with_reducible apply Az7 hS);(with_reducible rfl);rfl;rfl;rfl;clear hS;intro bA w hS;(refine frS ?_))|((have:=bA);(with_reducible apply Az7 hS);(with_reducible rfl);rfl;rfl;rfl;clear hS;intro bB w hS;(refine frS ?_))|(refine zlN hS ?_)|(refine zsN hS ?_;clear hS;intro w hS)|((with_reducible apply Aj7 hS);(with_reducible rfl);rfl;(exact zsS);clear hS;intro b w hS;(refine frS ?_)))
   (apply Ac7;rfl;rfl;rfl;rfl;exact hS;decide +kernel;(exact cesS);kernel_rfl)
   exact⟨rfl,hS.drop.drop.drop⟩
  | true=>
   cases hl:lessIt ⟨x0,x1,x2,x3⟩ ⟨y0,y1,y2,y3⟩with
   | true=>
    have e:subOk ⟨x0,x1,x2,x3⟩ ⟨y0,y1,y2,y3⟩=false:=by unfold subOk;rw[hi,hj,hl];rfl
    unfold subF
    rw[e]
    simp only[It.cells]
    go_enter Tryz.func181,Tryz.ntmps181
    go_wp2_with(first|(go_at_call 116;refine(Ck7 _ _ _ _ W _ _ hS).mono ?_;clear hS;(try rw[hi]);(try rw[hj]);rintro e w ⟨rfl,hS⟩)|(go_at_call 226;refine(less8 _ _ _ _ _ _ _ _ W _ _ hS).mono ?_;clear hS;rw[hl];rintro e w ⟨rfl,hS⟩)|((fail_if_success (have:=bA));(with_reducible apply Az7 hS);(with_reducible rfl);rfl;rfl;rfl;clear hS;intro bA w hS;(refine frS ?_))|((have:=bA);(with_reducible apply Az7 hS);(with_reducible rfl);rfl;rfl;rfl;clear hS;intro bB w hS;(refine frS ?_))|(refine zlN hS ?_)|(refine zsN hS ?_;clear hS;intro w hS)|((with_reducible apply Aj7 hS);(with_reducible rfl);rfl;(exact zsS);clear hS;intro b w hS;(refine frS ?_)))
    (apply Ac7;rfl;rfl;rfl;rfl;exact hS;decide +kernel;(exact cesS);kernel_rfl)
    exact⟨rfl,hS.drop.drop.drop⟩
   | false=>
    have e:subOk ⟨x0,x1,x2,x3⟩ ⟨y0,y1,y2,y3⟩=true:=by unfold subOk;rw[hi,hj,hl];rfl
    obtain⟨a0,a1,a2,a3⟩:=Ag7.1 hi
    obtain⟨b0,b1,b2,b3⟩:=Ag7.1 hj
    simp only at a0 a1 a2 a3 b0 b1 b2 b3
    unfold subF
    rw[e,if_pos rfl]
    simp only[It.cells]
    go_enter Tryz.func181,Tryz.ntmps181
    go_wp2_with(first|(go_at_call 116;refine(Ck7 _ _ _ _ W _ _ hS).mono ?_;clear hS;(try rw[hi]);(try rw[hj]);rintro e w ⟨rfl,hS⟩)|(go_at_call 226;refine(less8 _ _ _ _ _ _ _ _ W _ _ hS).mono ?_;clear hS;rw[hl];rintro e w ⟨rfl,hS⟩)|((fail_if_success (have:=bA));(with_reducible apply Az7 hS);(with_reducible rfl);rfl;rfl;rfl;clear hS;intro bA w hS;(refine frS ?_))|((have:=bA);(with_reducible apply Az7 hS);(with_reducible rfl);rfl;rfl;rfl;clear hS;intro bB w hS;(refine frS ?_))|(refine zlN hS ?_)|((with_reducible apply Aj7 hS);(with_reducible rfl);rfl;(exact zsS);clear hS;intro b w hS;(refine frS ?_)))
    go_loopw [6] (fun v wr=>Sb4 W (fun q=>[blk b [.int .i64 0,.int .i64 0,.int .i64 0,.int .i64 0] 29,blk bB [.int .i64 y0,.int .i64 y1,.int .i64 y2,.int .i64 y3] 29,blk bA [.int .i64 q.x0,.int .i64 q.x1,.int .i64 q.x2,.int .i64 q.x3] 29]++R) ⟨x0,x1,x2,x3⟩ ⟨y0,y1,y2,y3⟩ v wr) (fun v _=>4-(intOf v).toNat)
    case atStart=>exact .inl ⟨rfl,hS⟩
    case round=>
     clear hS hi hj hl
     simp only[Sb4,subIt,List.cons_append,List.nil_append]at hrel
     rcases hrel with ⟨rfl,hS⟩|⟨rfl,hS⟩|⟨rfl,hS⟩|⟨rfl,hS⟩|⟨rfl,hS⟩
     ·skip
      go_wp2_with(fail)
      refine rt 9 hS ?_
      iterate 3 (refine qR ?_)
      (refine zq1 ?_)
      iterate 2 (refine qR ?_)
      (refine zq1 ?_)
      iterate 2 (refine qR ?_)
      clear hS
      intro w hS
      simp only[List.drop_succ_cons,List.drop_zero]
      go_wp2_with(first|(refine zs1 hS ?_;clear hS;intro w hS))
      go_roundw
      case rel=>exact .inr (.inl ⟨rfl,hS⟩)
      case measure=>simp[intOf]
     ·skip
      go_wp2_with(fail)
      refine rt 9 hS ?_
      iterate 3 (refine qR ?_)
      (refine zq1 ?_)
      iterate 2 (refine qR ?_)
      (refine zq1 ?_)
      iterate 2 (refine qR ?_)
      clear hS
      intro w hS
      simp only[List.drop_succ_cons,List.drop_zero]
      go_wp2_with(first|(refine zs1 hS ?_;clear hS;intro w hS))
      go_roundw
      case rel=>exact .inr (.inr (.inl ⟨rfl,hS⟩))
      case measure=>simp[intOf]
     ·skip
      go_wp2_with(fail)
      refine rt 9 hS ?_
      iterate 3 (refine qR ?_)
      (refine zq1 ?_)
      iterate 2 (refine qR ?_)
      (refine zq1 ?_)
      iterate 2 (refine qR ?_)
      clear hS
      intro w hS
      simp only[List.drop_succ_cons,List.drop_zero]
      go_wp2_with(first|(refine zs1 hS ?_;clear hS;intro w hS))
      go_roundw
      case rel=>exact .inr (.inr (.inr (.inl ⟨rfl,hS⟩)))
      case measure=>simp[intOf]
     ·skip
      go_wp2_with(fail)
      refine rt 9 hS ?_
      iterate 3 (refine qR ?_)
      (refine zq1 ?_)
      iterate 2 (refine qR ?_)
      (refine zq1 ?_)
      iterate 2 (refine qR ?_)
      clear hS
      intro w hS
      simp only[List.drop_succ_cons,List.drop_zero]
      go_wp2_with(first|(refine zs1 hS ?_;clear hS;intro w hS))
      go_roundw
      case rel=>exact .inr (.inr (.inr (.inr ⟨rfl,hS⟩)))
      case measure=>simp[intOf]
     ·go_wp2_with(first|(refine zlN hS ?_)|(refine zsN hS ?_;clear hS;intro w hS))
      (apply Ac7;rfl;rfl;rfl;rfl;exact hS;decide +kernel;(exact cesS);kernel_rfl)
      exact⟨rfl,hS.drop.drop.drop⟩
theorem holds8(o:Ord)(hm:MayP o)(W w:World)(R:List HP)(hS:St W R w):
  Calls Tryz.prog 183 #[.agg o.cells.toArray] w fun e w'=>e=.returned (.agg (holdsF o).cells.toArray)∧St W R w':=by
 have h1:=hm.item0
 have h2:=hm.item1
 have h3:=BV7 (by have:=hm.cnt0;omega) hm.cnt1 (by have:=hm.price0;omega) hm.price1
 obtain⟨i,u,y,t,c,pr⟩:=o
 simp only at h1 h2 h3
 clear hm
 cases y with
 | true=>
  have e:holdsF ⟨i,u,true,t,c,pr⟩=⟨c*pr,0,0,0⟩:=rfl
  rw[e]
  simp only[Ord.cells,It.cells]
  have h4:c*pr≤9223372036854775807:=by omega
  have h5 : -9223372036854775808≤c*pr:=by omega
  clear e h1 h2
  go_enter Tryz.func183,Tryz.ntmps183
  go_wp2_with(first|(refine zl1 hS ?_)|(refine zlN hS ?_)|(refine zs1 hS ?_;clear hS;intro w hS)|(refine zsN hS ?_;clear hS;intro w hS)|(refine zbx hS ?_;clear hS;intro b w hS)|(refine zal hS ?_;clear hS;intro b w hS))
  (apply Ao7;rfl;rfl;rfl;exact hS;decide +kernel;(exact cesS);kernel_rfl)
  exact⟨rfl,hS.s _⟩
 | false=>
  have ht:t=1∨t=2∨t=3:=by omega
  rcases ht with rfl|rfl|rfl
  ·have e:holdsF ⟨i,u,false,1,c,pr⟩=⟨0,c,0,0⟩:=rfl
   rw[e]
   simp only[Ord.cells,It.cells]
   clear e h1 h2 h3
   go_enter Tryz.func183,Tryz.ntmps183
   go_wp2_with(first|(refine zl1 hS ?_)|(refine zlN hS ?_)|(refine zs1 hS ?_;clear hS;intro w hS)|(refine zsN hS ?_;clear hS;intro w hS)|(refine zbx hS ?_;clear hS;intro b w hS)|(refine zal hS ?_;clear hS;intro b w hS))
   (apply Ao7;rfl;rfl;rfl;exact hS;decide +kernel;(exact cesS);kernel_rfl)
   exact⟨rfl,hS.s _⟩
  ·have e:holdsF ⟨i,u,false,2,c,pr⟩=⟨0,0,c,0⟩:=rfl
   rw[e]
   simp only[Ord.cells,It.cells]
   clear e h1 h2 h3
   go_enter Tryz.func183,Tryz.ntmps183
   go_wp2_with(first|(refine zl1 hS ?_)|(refine zlN hS ?_)|(refine zs1 hS ?_;clear hS;intro w hS)|(refine zsN hS ?_;clear hS;intro w hS)|(refine zbx hS ?_;clear hS;intro b w hS)|(refine zal hS ?_;clear hS;intro b w hS))
   (apply Ao7;rfl;rfl;rfl;exact hS;decide +kernel;(exact cesS);kernel_rfl)
   exact⟨rfl,hS.s _⟩
  ·have e:holdsF ⟨i,u,false,3,c,pr⟩=⟨0,0,0,c⟩:=rfl
   rw[e]
   simp only[Ord.cells,It.cells]
   clear e h1 h2 h3
   go_enter Tryz.func183,Tryz.ntmps183
   go_wp2_with(first|(refine zl1 hS ?_)|(refine zlN hS ?_)|(refine zs1 hS ?_;clear hS;intro w hS)|(refine zsN hS ?_;clear hS;intro w hS)|(refine zbx hS ?_;clear hS;intro b w hS)|(refine zal hS ?_;clear hS;intro b w hS))
   (apply Ao7;rfl;rfl;rfl;exact hS;decide +kernel;(exact cesS);kernel_rfl)
   exact⟨rfl,hS.s _⟩
def swapL{α:Type}(xs:List α)(i j:Nat)(hi:i<xs.length)(hj:j<xs.length):List α:=(xs.set i xs[j]).set j xs[i]
theorem CG7(b:Option Addr)(n cap:Nat)(W w:World)(L:List HP)(hS:St W L w):
  Calls Tryz.prog 296 #[.slice b n cap] w fun e w'=>e=.returned (.int .i64 n)∧St W L w':=by
 go_enter Tryz.func296,Tryz.ntmps296
 go_wp2_with(fail)
 go_ret
 exact⟨rfl,hS⟩
theorem BC7(xs:List Ord)(junk:List Value)(g n cap i j:Nat)(hn:xs.length=n)(hi:i<xs.length)(hj:j<xs.length)(hcap:n≤cap)(hm:cap≤maxLen)(W w:World)(L:List HP)(hS:St W (blk g (xs.flatMap Ord.cells++junk) 166::L) w):
  Calls Tryz.prog 298 #[.slice (some ⟨g,0,none⟩) n cap,.int .i64 i,.int .i64 j] w fun e w'=>e=.returned (.tuple #[])∧St W (blk g ((swapL xs i j hi hj).flatMap Ord.cells++junk) 166::L) w':=by
 subst hn
 unfold maxLen at hm
 go_enter Tryz.func298,Tryz.ntmps298
 go_wp2_with(fail)
 refine rf2 [0,0,0,0,0,0,48,112,0,0,768,1792,4083,8179,16383,32767] (fun i=>false) [⟨some 13,some 15,fun nd=>blk g ((xs.set i xs[j]).flatMap Ord.cells++junk) 166⟩,⟨some 15,none,fun nd=>blk g ((swapL xs i j hi hj).flatMap Ord.cells++junk) 166⟩]
  [some 13] hS ?_
 intro nd
 iterate 7 (refine cR ?_)
 (refine zcN ?_ (hc:=by(intro F;exact Cells.elem Ord.len hj)))
 iterate 3 (refine cR ?_)
 (refine zcN ?_ (hc:=by(intro F;exact Cells.elem Ord.len hi)))
 (refine cR ?_)
 have hlt:∀k,k<xs.length→k*6+6≤xs.length*6:=fun k hk=>by omega
 have hfl:=Ab7 Ord.len xs
 have hfl2:=Ab7 Ord.len (xs.set i xs[j])
 rw[List.length_set]at hfl2
 (apply ch_st (vs:=xs[j].cells);rfl;(with_reducible rfl);rfl;rfl;(focus((conv=>lhs;whnf);try rfl));rfl;kernel_rfl;rfl;rfl;(rw[List.length_append,hfl,Ord.len];have:=hlt i hi;omega);exact Gx7 Ord.len xs junk i hi xs[j];rfl;try(refine frS ?_))
 (refine cR ?_)
 (apply ch_st (vs:=xs[i].cells);rfl;(with_reducible rfl);rfl;rfl;(focus((conv=>lhs;whnf);try rfl));rfl;kernel_rfl;rfl;rfl;(rw[List.length_append,hfl2,Ord.len];have:=hlt j hj;omega);exact Gx7 Ord.len (xs.set i xs[j]) junk j (by simpa using hj) xs[i];rfl;try(refine frS ?_))
 refine Ad7 ?_
 clear hS
 intro w hS
 have hS:St W [blk g ((swapL xs i j hi hj).flatMap Ord.cells++junk) _,sats L] w:=hS
 replace hS:=hS.unpack [_]
 simp only[List.cons_append,List.nil_append]at hS
 go_wp2_with(fail)
 go_end0
 exact⟨rfl,hS⟩
theorem HB7(xs:List Ord)(junk:List Value)(l:List Value)(T:TypeId)(bb off g n cap:Nat)(hn:xs.length=n+1)(hcap:n+1≤cap)(hm:cap≤maxLen)(hl:l[off]? = some (.slice (some ⟨g,0,none⟩) (n+1) cap))(W w:World)(L:List HP)
  (hS:St W (blk bb l T::blk g (xs.flatMap Ord.cells++junk) 166::L) w):
  Calls Tryz.prog 299 #[.pointer (some ⟨bb,off,none⟩)] w fun e w'=>e=.returned (.iface 166 (.agg (xs[n]'(by omega)).cells.toArray))∧St W (blk bb (l.set off (.slice (some ⟨g,0,none⟩) n cap)) T::blk g (xs.flatMap Ord.cells++junk) 166::L) w':=by
 unfold maxLen at hm
 have hn':n<xs.length:=by omega
 have hlt:off<l.length:=(List.getElem?_eq_some_iff.1 hl).1
 generalize hx:xs[n]=x
 have Hx:=Lib.hid hx
 clear hx
 obtain⟨i1,u1,y1,t1,c1,p1⟩:=x
 simp only[Ord.cells]
 have hS:St W (blk bb l T::blk g (xs.flatMap Ord.cells++junk) 166::L) w:=hS
 go_enter Tryz.func299,Tryz.ntmps299
 go_wp2_with(first|(refine zl1 hS ?_ (hc:=by exact Cell.here hl))|(refine zlN hS ?_ (hc:=by exact(Cells.there (Cells.elemEq Ord.len hn' Hx.out):Cells _ _ _ [.int .i64 i1,.string u1,.bool y1,.int .i64 t1,.int .i64 c1,.int .i64 p1])))|((with_reducible apply Hj7 hS);(with_reducible rfl);rfl;rfl;(focus((conv=>lhs;whnf);try rfl));kernel_rfl;rfl;rfl;(exact updS);(exact hlt);rfl;clear hS;intro w hS;try(refine frS ?_))|(refine zlN hS ?_)|(refine zsN hS ?_;clear hS;intro w hS)|(refine zal hS ?_;clear hS;intro b w hS))
 go_ret
 exact⟨rfl,hS.drop⟩
theorem KF7(xs:List Ord)(o:Ord)(l:List Value)(T:TypeId)(bb off n:Nat)(v:Value)(hn:xs.length=n)(h63:n≤4294967296)(hl:l[off]? = some v)(W w:World)(L:List HP)
  (hS:St W (blk bb l T::row v 6 166 n (xs.flatMap Ord.cells)::L) w):
  Calls Tryz.prog 300 #[.pointer (some ⟨bb,off,none⟩),.iface 166 (.agg o.cells.toArray)] w fun e w'=>∃v',e=.returned (.tuple #[])∧St W (blk bb (l.set off v') T::row v' 6 166 (n+1) ((xs++[o]).flatMap Ord.cells)::L) w':=by
 have hlt:off<l.length:=(List.getElem?_eq_some_iff.1 hl).1
 obtain⟨i1,u1,y1,t1,c1,p1⟩:=o
 simp only[Ord.cells]
 have hta:=OZ7
 go_enter Tryz.func300,Tryz.ntmps300
 go_wp2_with(fail)
 refine rf2 [0,0,2,6,0,16,48,126,255,511] (fun i=>i==6||i==7) [⟨some 6,none,fun nd=>slTo (nd 6) 1 1 [.int .i64 i1,.string u1,.bool y1,.int .i64 t1,.int .i64 c1,.int .i64 p1] 166⟩,⟨some 7,none,fun nd=>row (nd 7) 6 166 (n+1) (xs.flatMap Ord.cells++[.int .i64 i1,.string u1,.bool y1,.int .i64 t1,.int .i64 c1,.int .i64 p1])⟩,⟨some 9,none,fun nd=>blk bb (l.set off (nd 7)) T⟩]
  [some 9,some 7] hS ?_
 intro nd
 (refine cR ?_)
 (refine cR ?_)
 (refine zcn ?_)
 apply OY7;rfl;kernel_rfl;(with_reducible rfl);rfl;rfl;decide +kernel;(intro F;exact Cell.here hl);(refine frS ?_)
 (refine cR ?_)
 (refine cR ?_)
 (apply ch_bs;rfl;(with_reducible rfl);rfl;(focus(simp only[fD,fI,fJ,Act.eval,fE,fF,fG,fH,fK];try rfl));(exact esS);(exact rsS);rfl;rfl;rfl;rfl;(intro _;rfl);rfl;(intro _;rfl);(refine frS ?_))
 (apply Ai7;rfl;(with_reducible rfl);rfl;(focus((conv=>lhs;whnf);try rfl));(focus((conv=>lhs;whnf);try rfl));(exact esS);(exact rsS);rfl;decide;rfl;(intro F w hS;exact AI7 hS (by exact takO));(focus(try rfl));rfl;(focus(unfold maxLen;omega));(focus(omega));(intro _;rfl);(intro _;rfl);(refine frS ?_))
 (refine zcn ?_)
 (apply JL7;rfl;(with_reducible rfl);rfl;rfl;(focus((conv=>lhs;whnf);try rfl));kernel_rfl;rfl;(intro F w hS;exact hS.rowOne (by exact takO));(focus(exact hlt));rfl;rfl;try(refine frS ?_))
 refine Ad7 ?_
 clear hS
 intro w hS
 have hS:St W [slTo (nd 6) 1 1 _ _,row (nd 7) 6 _ (n+1) _,blk bb (l.set off (nd 7)) T,sats L] w:=hS
 generalize nd 7=v7 at *
 replace hS:=hS.drop.swap.unpack [_,_]
 simp only[List.cons_append,List.nil_append]at hS
 go_wp2_with(fail)
 go_end0
 refine⟨v7,rfl,?_⟩
 rw[List.flatMap_append]
 exact hS
end Go.Proofs.YtlmhakmoioogaaaGreat
end
