/-
  The document's purses: what may be in one, less, without, together; what an order holds. For every purse.
  The document's vault: where a purse stands, what it has, a purse laid. For every row of purses.
-/
import Derived.Test.YtlmhakmoioogaaaGreatEconSpansM5
import Derived.Test.YtlmhakmoioogaaaGreatEconSpansM10
import Derived.Test.YtlmhakmoioogaaaGreatEconSpansM22
set_option maxHeartbeats 16000000
set_option maxRecDepth 100000
set_option linter.unusedSimpArgs false
set_option linter.unusedVariables false
section
namespace Go.Proofs.YtlmhakmoioogaaaGreat
open Go.RowKit Go.Sl
theorem key8 (k : ByteArray) (W w : World) (R : List HP) (hS : St W R w) :
  Calls Tryz.prog 115 #[.string k] w fun e w' => e = .returned (.bool (whoB k)) ∧ St W R w' := by
 go_enter Tryz.func115,Tryz.ntmps115
 by_cases h1 : k.size < 1
 ·have e : whoB k = false := by unfold whoB;simp;omega
  have d1 : decide ((1 : Int) ≤ (k.size : Int)) = false := by simp;omega
  rw [e]
  go_wp2_with (fail)
  go_ret
  exact ⟨rfl,hS⟩
 ·have d1 : (1 : Int) ≤ (k.size : Int) := by omega
  by_cases h2 : k.size ≤ 16
  ·have e : whoB k = true := by unfold whoB;simp;omega
   have d2 : (k.size : Int) ≤ 16 := by omega
   rw [e]
   go_wp2_with (fail)
   go_ret
   exact ⟨rfl,hS⟩
  ·have e : whoB k = false := by unfold whoB;simp;omega
   have d2 : decide ((k.size : Int) ≤ 16) = false := by simp;omega
   rw [e]
   go_wp2_with (fail)
   go_ret
   exact ⟨rfl,hS⟩
theorem is8 (i : It) (W w : World) (R : List HP) (hS : St W R w) :
  Calls Tryz.prog 116 #[.agg i.cells.toArray] w fun e w' => e = .returned (.bool (isIt i)) ∧ St W R w' := by
 obtain ⟨x0,x1,x2,x3⟩ := i
 simp only [It.cells]
 go_enter Tryz.func116,Tryz.ntmps116
 go_wp2_with (first|(refine zbx hS ?_;clear hS;intro b w hS))
 go_loopw [3] (fun v wr => IsR W (blk b [.int .i64 x0,.int .i64 x1,.int .i64 x2,.int .i64 x3] 29 :: R) ⟨x0,x1,x2,x3⟩ v wr) (fun v _ => 4 - (intOf v).toNat)
 case atStart => exact ⟨hS,.inl rfl⟩
 case round =>
  clear hS
  obtain ⟨hS,hk⟩ := hrel
  simp only at hk
  rcases hk with rfl|⟨rfl,q0⟩|⟨rfl,q0,q1⟩|⟨rfl,q0,q1,q2⟩|⟨rfl,q0,q1,q2,q3⟩
  ·skip
   by_cases h1 : x0 < 0
   ·have hx := Cg7 h1
    go_wp2_with (first|(refine zl1 hS ?_))
    go_ret
    refine ⟨by simp only [isIt,hx,Bool.false_and,Bool.and_false,hx];rfl,hS.drop⟩
   ·have d1 : decide (x0 < 0) = false := by simpa using h1
    by_cases h2 : 1152921504606846976 < x0
    ·have hx := Bz7 h2
     go_wp2_with (first|(refine zl1 hS ?_))
     go_ret
     refine ⟨by simp only [isIt,hx,Bool.false_and,Bool.and_false,hx];rfl,hS.drop⟩
    ·have d2 : decide (1152921504606846976 < x0) = false := by simpa using h2
     have hx : inH x0 = true := Bl7.2 ⟨by omega,by omega⟩
     clear h1 h2
     go_wp2_with (first|(refine zl1 hS ?_))
     go_roundw
     case rel => exact ⟨hS,.inr (.inl ⟨rfl,hx⟩)⟩
     case measure => simp [intOf]
  ·skip
   by_cases h1 : x1 < 0
   ·have hx := Cg7 h1
    go_wp2_with (first|(refine zl1 hS ?_))
    go_ret
    refine ⟨by simp only [isIt,hx,Bool.false_and,Bool.and_false,q0];rfl,hS.drop⟩
   ·have d1 : decide (x1 < 0) = false := by simpa using h1
    by_cases h2 : 1152921504606846976 < x1
    ·have hx := Bz7 h2
     go_wp2_with (first|(refine zl1 hS ?_))
     go_ret
     refine ⟨by simp only [isIt,hx,Bool.false_and,Bool.and_false,q0];rfl,hS.drop⟩
    ·have d2 : decide (1152921504606846976 < x1) = false := by simpa using h2
     have hx : inH x1 = true := Bl7.2 ⟨by omega,by omega⟩
     clear h1 h2
     go_wp2_with (first|(refine zl1 hS ?_))
     go_roundw
     case rel => exact ⟨hS,.inr (.inr (.inl ⟨rfl,q0,hx⟩))⟩
     case measure => simp [intOf]
  ·skip
   by_cases h1 : x2 < 0
   ·have hx := Cg7 h1
    go_wp2_with (first|(refine zl1 hS ?_))
    go_ret
    refine ⟨by simp only [isIt,hx,Bool.false_and,Bool.and_false,q0];rfl,hS.drop⟩
   ·have d1 : decide (x2 < 0) = false := by simpa using h1
    by_cases h2 : 1152921504606846976 < x2
    ·have hx := Bz7 h2
     go_wp2_with (first|(refine zl1 hS ?_))
     go_ret
     refine ⟨by simp only [isIt,hx,Bool.false_and,Bool.and_false,q0];rfl,hS.drop⟩
    ·have d2 : decide (1152921504606846976 < x2) = false := by simpa using h2
     have hx : inH x2 = true := Bl7.2 ⟨by omega,by omega⟩
     clear h1 h2
     go_wp2_with (first|(refine zl1 hS ?_))
     go_roundw
     case rel => exact ⟨hS,.inr (.inr (.inr (.inl ⟨rfl,q0,q1,hx⟩)))⟩
     case measure => simp [intOf]
  ·skip
   by_cases h1 : x3 < 0
   ·have hx := Cg7 h1
    go_wp2_with (first|(refine zl1 hS ?_))
    go_ret
    refine ⟨by simp only [isIt,hx,Bool.false_and,Bool.and_false,q0];rfl,hS.drop⟩
   ·have d1 : decide (x3 < 0) = false := by simpa using h1
    by_cases h2 : 1152921504606846976 < x3
    ·have hx := Bz7 h2
     go_wp2_with (first|(refine zl1 hS ?_))
     go_ret
     refine ⟨by simp only [isIt,hx,Bool.false_and,Bool.and_false,q0];rfl,hS.drop⟩
    ·have d2 : decide (1152921504606846976 < x3) = false := by simpa using h2
     have hx : inH x3 = true := Bl7.2 ⟨by omega,by omega⟩
     clear h1 h2
     go_wp2_with (first|(refine zl1 hS ?_))
     go_roundw
     case rel => exact ⟨hS,.inr (.inr (.inr (.inr ⟨rfl,q0,q1,q2,hx⟩)))⟩
     case measure => simp [intOf]
  ·go_wp2_with (fail)
   go_ret
   refine ⟨by simp only [isIt,q0,q1,q2,q3];rfl,hS.drop⟩
theorem Ce7 (x0 x1 x2 x3 : Int) (W w : World) (R : List HP) (hS : St W R w) :
  Calls Tryz.prog 116 #[.agg #[.int .i64 x0,.int .i64 x1,.int .i64 x2,.int .i64 x3]] w fun e w' => e = .returned (.bool (isIt ⟨x0,x1,x2,x3⟩)) ∧ St W R w' := is8 ⟨x0,x1,x2,x3⟩ W w R hS
theorem less8 (x0 x1 x2 x3 y0 y1 y2 y3 : Int) (W w : World) (R : List HP) (hS : St W R w) :
  Calls Tryz.prog 226 #[.agg #[.int .i64 x0,.int .i64 x1,.int .i64 x2,.int .i64 x3],.agg #[.int .i64 y0,.int .i64 y1,.int .i64 y2,.int .i64 y3]] w fun e w' => e = .returned (.bool (lessIt ⟨x0,x1,x2,x3⟩ ⟨y0,y1,y2,y3⟩)) ∧ St W R w' := by
 go_enter Tryz.func226,Tryz.ntmps226
 go_wp2_with (first|((fail_if_success (have := bA));(with_reducible apply Ay7 hS);(with_reducible rfl);rfl;rfl;rfl;clear hS;intro bA w hS;(refine frS ?_))|((have := bA);(with_reducible apply Ay7 hS);(with_reducible rfl);rfl;rfl;rfl;clear hS;intro bB w hS;(refine frS ?_)))
 go_loopw [5] (fun v wr => LsR W (blk bB [.int .i64 y0,.int .i64 y1,.int .i64 y2,.int .i64 y3] 29 :: blk bA [.int .i64 x0,.int .i64 x1,.int .i64 x2,.int .i64 x3] 29 :: R) ⟨x0,x1,x2,x3⟩ ⟨y0,y1,y2,y3⟩ v wr) (fun v _ => 4 - (intOf v).toNat)
 case atStart => exact ⟨hS,.inl rfl⟩
 case round =>
  clear hS
  obtain ⟨hS,hk⟩ := hrel
  simp only at hk
  rcases hk with rfl|⟨rfl,q0⟩|⟨rfl,q0,q1⟩|⟨rfl,q0,q1,q2⟩|⟨rfl,q0,q1,q2,q3⟩
  ·skip
   by_cases h1 : x0 < y0
   ·have hx : decide (x0 < y0) = true := by simpa using h1
    go_wp2_with (fail)
    refine Ab7 (by kernel_rfl) (by kernel_rfl) hS ?_
    iterate 2 (refine qQ ?_;intro K hK;go_big_quiet_op;go_big_quiet_on)
    (refine zq1 ?_)
    iterate 2 (refine qQ ?_;intro K hK;go_big_quiet_op;go_big_quiet_on)
    (refine zq1 ?_)
    (refine qQ ?_;intro K hK;go_big_quiet_op;go_big_quiet_on)
    clear hS
    intro w hS
    go_wp2_with (fail)
    go_ret
    refine ⟨by simp only [lessIt,hx,Bool.true_or,Bool.or_true];rfl,hS.drop.drop⟩
   ·have hx : decide (x0 < y0) = false := by simpa using h1
    clear h1
    go_wp2_with (fail)
    refine Ab7 (by kernel_rfl) (by kernel_rfl) hS ?_
    iterate 2 (refine qQ ?_;intro K hK;go_big_quiet_op;go_big_quiet_on)
    (refine zq1 ?_)
    iterate 2 (refine qQ ?_;intro K hK;go_big_quiet_op;go_big_quiet_on)
    (refine zq1 ?_)
    (refine qQ ?_;intro K hK;go_big_quiet_op;go_big_quiet_on)
    clear hS
    intro w hS
    go_wp2_with (fail)
    go_roundw
    case rel => exact ⟨hS,.inr (.inl ⟨rfl,hx⟩)⟩
    case measure => simp [intOf]
  ·skip
   by_cases h1 : x1 < y1
   ·have hx : decide (x1 < y1) = true := by simpa using h1
    go_wp2_with (fail)
    refine Ab7 (by kernel_rfl) (by kernel_rfl) hS ?_
    iterate 2 (refine qQ ?_;intro K hK;go_big_quiet_op;go_big_quiet_on)
    (refine zq1 ?_)
    iterate 2 (refine qQ ?_;intro K hK;go_big_quiet_op;go_big_quiet_on)
    (refine zq1 ?_)
    (refine qQ ?_;intro K hK;go_big_quiet_op;go_big_quiet_on)
    clear hS
    intro w hS
    go_wp2_with (fail)
    go_ret
    refine ⟨by simp only [lessIt,hx,Bool.true_or,Bool.or_true];rfl,hS.drop.drop⟩
   ·have hx : decide (x1 < y1) = false := by simpa using h1
    clear h1
    go_wp2_with (fail)
    refine Ab7 (by kernel_rfl) (by kernel_rfl) hS ?_
    iterate 2 (refine qQ ?_;intro K hK;go_big_quiet_op;go_big_quiet_on)
    (refine zq1 ?_)
    iterate 2 (refine qQ ?_;intro K hK;go_big_quiet_op;go_big_quiet_on)
    (refine zq1 ?_)
    (refine qQ ?_;intro K hK;go_big_quiet_op;go_big_quiet_on)
    clear hS
    intro w hS
    go_wp2_with (fail)
    go_roundw
    case rel => exact ⟨hS,.inr (.inr (.inl ⟨rfl,q0,hx⟩))⟩
    case measure => simp [intOf]
  ·skip
   by_cases h1 : x2 < y2
   ·have hx : decide (x2 < y2) = true := by simpa using h1
    go_wp2_with (fail)
    refine Ab7 (by kernel_rfl) (by kernel_rfl) hS ?_
    iterate 2 (refine qQ ?_;intro K hK;go_big_quiet_op;go_big_quiet_on)
    (refine zq1 ?_)
    iterate 2 (refine qQ ?_;intro K hK;go_big_quiet_op;go_big_quiet_on)
    (refine zq1 ?_)
    (refine qQ ?_;intro K hK;go_big_quiet_op;go_big_quiet_on)
    clear hS
    intro w hS
    go_wp2_with (fail)
    go_ret
    refine ⟨by simp only [lessIt,hx,Bool.true_or,Bool.or_true];rfl,hS.drop.drop⟩
   ·have hx : decide (x2 < y2) = false := by simpa using h1
    clear h1
    go_wp2_with (fail)
    refine Ab7 (by kernel_rfl) (by kernel_rfl) hS ?_
    iterate 2 (refine qQ ?_;intro K hK;go_big_quiet_op;go_big_quiet_on)
    (refine zq1 ?_)
    iterate 2 (refine qQ ?_;intro K hK;go_big_quiet_op;go_big_quiet_on)
    (refine zq1 ?_)
    (refine qQ ?_;intro K hK;go_big_quiet_op;go_big_quiet_on)
    clear hS
    intro w hS
    go_wp2_with (fail)
    go_roundw
    case rel => exact ⟨hS,.inr (.inr (.inr (.inl ⟨rfl,q0,q1,hx⟩)))⟩
    case measure => simp [intOf]
  ·skip
   by_cases h1 : x3 < y3
   ·have hx : decide (x3 < y3) = true := by simpa using h1
    go_wp2_with (fail)
    refine Ab7 (by kernel_rfl) (by kernel_rfl) hS ?_
    iterate 2 (refine qQ ?_;intro K hK;go_big_quiet_op;go_big_quiet_on)
    (refine zq1 ?_)
    iterate 2 (refine qQ ?_;intro K hK;go_big_quiet_op;go_big_quiet_on)
    (refine zq1 ?_)
    (refine qQ ?_;intro K hK;go_big_quiet_op;go_big_quiet_on)
    clear hS
    intro w hS
    go_wp2_with (fail)
    go_ret
    refine ⟨by simp only [lessIt,hx,Bool.true_or,Bool.or_true];rfl,hS.drop.drop⟩
   ·have hx : decide (x3 < y3) = false := by simpa using h1
    clear h1
    go_wp2_with (fail)
    refine Ab7 (by kernel_rfl) (by kernel_rfl) hS ?_
    iterate 2 (refine qQ ?_;intro K hK;go_big_quiet_op;go_big_quiet_on)
    (refine zq1 ?_)
    iterate 2 (refine qQ ?_;intro K hK;go_big_quiet_op;go_big_quiet_on)
    (refine zq1 ?_)
    (refine qQ ?_;intro K hK;go_big_quiet_op;go_big_quiet_on)
    clear hS
    intro w hS
    go_wp2_with (fail)
    go_roundw
    case rel => exact ⟨hS,.inr (.inr (.inr (.inr ⟨rfl,q0,q1,q2,hx⟩)))⟩
    case measure => simp [intOf]
  ·go_wp2_with (fail)
   go_ret
   refine ⟨by simp only [lessIt,q0,q1,q2,q3];rfl,hS.drop.drop⟩
theorem sub8 (i j : It) (W w : World) (R : List HP) (hS : St W R w) :
  Calls Tryz.prog 181 #[.agg i.cells.toArray,.agg j.cells.toArray] w fun e w' => e = .returned (.tuple #[.agg (subF i j).cells.toArray,.bool (subOk i j)]) ∧ St W R w' := by
 obtain ⟨x0,x1,x2,x3⟩ := i
 obtain ⟨y0,y1,y2,y3⟩ := j
 cases hi : isIt ⟨x0,x1,x2,x3⟩ with
 | false =>
  have e : subOk ⟨x0,x1,x2,x3⟩ ⟨y0,y1,y2,y3⟩ = false := by unfold subOk;rw [hi];rfl
  unfold subF
  rw [e]
  simp only [It.cells]
  go_enter Tryz.func181,Tryz.ntmps181
  go_wp2_with (first|go_big_skip|(go_at_call 116;refine (Ce7 _ _ _ _ W _ _ hS).mono ?_;clear hS;(try rw [hi]);(try rw [hj]);rintro e w ⟨rfl,hS⟩)|((fail_if_success (have := bA));(with_reducible apply Ay7 hS);(with_reducible rfl);rfl;rfl;rfl;clear hS;intro bA w hS;(refine frS ?_))|((have := bA);(with_reducible apply Ay7 hS);(with_reducible rfl);rfl;rfl;rfl;clear hS;intro bB w hS;(refine frS ?_))|(refine zlN hS ?_)|(refine zsN hS ?_;clear hS;intro w hS)|((with_reducible apply Au7 hS);(with_reducible rfl);rfl;(exact zsS);clear hS;intro b w hS;(refine frS ?_)))
  (apply Ae7;rfl;rfl;rfl;rfl;exact hS;decide +kernel;(exact cesS);kernel_rfl)
  exact ⟨rfl,hS.drop.drop.drop⟩
 | true =>
  cases hj : isIt ⟨y0,y1,y2,y3⟩ with
  | false =>
   have e : subOk ⟨x0,x1,x2,x3⟩ ⟨y0,y1,y2,y3⟩ = false := by unfold subOk;rw [hi,hj];rfl
   unfold subF
   rw [e]
   simp only [It.cells]
   go_enter Tryz.func181,Tryz.ntmps181
   go_wp2_with (first|go_big_skip|(go_at_call 116;refine (Ce7 _ _ _ _ W _ _ hS).mono ?_;clear hS;(try rw [hi]);(try rw [hj]);rintro e w ⟨rfl,hS⟩)|((fail_if_success (have := bA));(with_reducible apply Ay7 hS);(with_reducible rfl);rfl;rfl;rfl;clear hS;intro bA w hS;(refine frS ?_))|((have := bA);(with_reducible apply Ay7 hS);(with_reducible rfl);rfl;rfl;rfl;clear hS;intro bB w hS;(refine frS ?_))|(refine zlN hS ?_)|(refine zsN hS ?_;clear hS;intro w hS)|((with_reducible apply Au7 hS);(with_reducible rfl);rfl;(exact zsS);clear hS;intro b w hS;(refine frS ?_)))
   (apply Ae7;rfl;rfl;rfl;rfl;exact hS;decide +kernel;(exact cesS);kernel_rfl)
   exact ⟨rfl,hS.drop.drop.drop⟩
  | true =>
   cases hl : lessIt ⟨x0,x1,x2,x3⟩ ⟨y0,y1,y2,y3⟩ with
   | true =>
    have e : subOk ⟨x0,x1,x2,x3⟩ ⟨y0,y1,y2,y3⟩ = false := by unfold subOk;rw [hi,hj,hl];rfl
    unfold subF
    rw [e]
    simp only [It.cells]
    go_enter Tryz.func181,Tryz.ntmps181
    go_wp2_with (first|(go_at_call 116;refine (Ce7 _ _ _ _ W _ _ hS).mono ?_;clear hS;(try rw [hi]);(try rw [hj]);rintro e w ⟨rfl,hS⟩)|(go_at_call 226;refine (less8 _ _ _ _ _ _ _ _ W _ _ hS).mono ?_;clear hS;rw [hl];rintro e w ⟨rfl,hS⟩)|((fail_if_success (have := bA));(with_reducible apply Ay7 hS);(with_reducible rfl);rfl;rfl;rfl;clear hS;intro bA w hS;(refine frS ?_))|((have := bA);(with_reducible apply Ay7 hS);(with_reducible rfl);rfl;rfl;rfl;clear hS;intro bB w hS;(refine frS ?_))|(refine zlN hS ?_)|(refine zsN hS ?_;clear hS;intro w hS)|((with_reducible apply Au7 hS);(with_reducible rfl);rfl;(exact zsS);clear hS;intro b w hS;(refine frS ?_)))
    (apply Ae7;rfl;rfl;rfl;rfl;exact hS;decide +kernel;(exact cesS);kernel_rfl)
    exact ⟨rfl,hS.drop.drop.drop⟩
   | false =>
    have e : subOk ⟨x0,x1,x2,x3⟩ ⟨y0,y1,y2,y3⟩ = true := by unfold subOk;rw [hi,hj,hl];rfl
    obtain ⟨a0,a1,a2,a3⟩ := Al7.1 hi
    obtain ⟨b0,b1,b2,b3⟩ := Al7.1 hj
    simp only at a0 a1 a2 a3 b0 b1 b2 b3
    unfold subF
    rw [e,if_pos rfl]
    simp only [It.cells]
    go_enter Tryz.func181,Tryz.ntmps181
    go_wp2_with (first|(go_at_call 116;refine (Ce7 _ _ _ _ W _ _ hS).mono ?_;clear hS;(try rw [hi]);(try rw [hj]);rintro e w ⟨rfl,hS⟩)|(go_at_call 226;refine (less8 _ _ _ _ _ _ _ _ W _ _ hS).mono ?_;clear hS;rw [hl];rintro e w ⟨rfl,hS⟩)|((fail_if_success (have := bA));(with_reducible apply Ay7 hS);(with_reducible rfl);rfl;rfl;rfl;clear hS;intro bA w hS;(refine frS ?_))|((have := bA);(with_reducible apply Ay7 hS);(with_reducible rfl);rfl;rfl;rfl;clear hS;intro bB w hS;(refine frS ?_))|(refine zlN hS ?_)|((with_reducible apply Au7 hS);(with_reducible rfl);rfl;(exact zsS);clear hS;intro b w hS;(refine frS ?_)))
    go_loopw [6] (fun v wr => Sb4 W (fun q => [blk b [.int .i64 0,.int .i64 0,.int .i64 0,.int .i64 0] 29,blk bB [.int .i64 y0,.int .i64 y1,.int .i64 y2,.int .i64 y3] 29,blk bA [.int .i64 q.x0,.int .i64 q.x1,.int .i64 q.x2,.int .i64 q.x3] 29] ++ R) ⟨x0,x1,x2,x3⟩ ⟨y0,y1,y2,y3⟩ v wr) (fun v _ => 4 - (intOf v).toNat)
    case atStart => exact .inl ⟨rfl,hS⟩
    case round =>
     clear hS hi hj hl
     simp only [Sb4,subIt,List.cons_append,List.nil_append] at hrel
     rcases hrel with ⟨rfl,hS⟩|⟨rfl,hS⟩|⟨rfl,hS⟩|⟨rfl,hS⟩|⟨rfl,hS⟩
     ·skip
      go_wp2_with (fail)
      refine Af7 9 (by kernel_rfl) (by kernel_rfl) hS ?_
      iterate 3 (refine qQ ?_;intro K hK;go_big_quiet_op;go_big_quiet_on)
      (refine zq1 ?_)
      iterate 2 (refine qQ ?_;intro K hK;go_big_quiet_op;go_big_quiet_on)
      (refine zq1 ?_)
      iterate 2 (refine qQ ?_;intro K hK;go_big_quiet_op;go_big_quiet_on)
      clear hS
      intro w hS
      simp only [List.drop_succ_cons,List.drop_zero]
      go_wp2_with (first|(refine zs1 hS ?_;clear hS;intro w hS))
      go_roundw
      case rel => exact .inr (.inl ⟨rfl,hS⟩)
      case measure => simp [intOf]
     ·skip
      go_wp2_with (fail)
      refine Af7 9 (by kernel_rfl) (by kernel_rfl) hS ?_
      iterate 3 (refine qQ ?_;intro K hK;go_big_quiet_op;go_big_quiet_on)
      (refine zq1 ?_)
      iterate 2 (refine qQ ?_;intro K hK;go_big_quiet_op;go_big_quiet_on)
      (refine zq1 ?_)
      iterate 2 (refine qQ ?_;intro K hK;go_big_quiet_op;go_big_quiet_on)
      clear hS
      intro w hS
      simp only [List.drop_succ_cons,List.drop_zero]
      go_wp2_with (first|(refine zs1 hS ?_;clear hS;intro w hS))
      go_roundw
      case rel => exact .inr (.inr (.inl ⟨rfl,hS⟩))
      case measure => simp [intOf]
     ·skip
      go_wp2_with (fail)
      refine Af7 9 (by kernel_rfl) (by kernel_rfl) hS ?_
      iterate 3 (refine qQ ?_;intro K hK;go_big_quiet_op;go_big_quiet_on)
      (refine zq1 ?_)
      iterate 2 (refine qQ ?_;intro K hK;go_big_quiet_op;go_big_quiet_on)
      (refine zq1 ?_)
      iterate 2 (refine qQ ?_;intro K hK;go_big_quiet_op;go_big_quiet_on)
      clear hS
      intro w hS
      simp only [List.drop_succ_cons,List.drop_zero]
      go_wp2_with (first|(refine zs1 hS ?_;clear hS;intro w hS))
      go_roundw
      case rel => exact .inr (.inr (.inr (.inl ⟨rfl,hS⟩)))
      case measure => simp [intOf]
     ·skip
      go_wp2_with (fail)
      refine Af7 9 (by kernel_rfl) (by kernel_rfl) hS ?_
      iterate 3 (refine qQ ?_;intro K hK;go_big_quiet_op;go_big_quiet_on)
      (refine zq1 ?_)
      iterate 2 (refine qQ ?_;intro K hK;go_big_quiet_op;go_big_quiet_on)
      (refine zq1 ?_)
      iterate 2 (refine qQ ?_;intro K hK;go_big_quiet_op;go_big_quiet_on)
      clear hS
      intro w hS
      simp only [List.drop_succ_cons,List.drop_zero]
      go_wp2_with (first|(refine zs1 hS ?_;clear hS;intro w hS))
      go_roundw
      case rel => exact .inr (.inr (.inr (.inr ⟨rfl,hS⟩)))
      case measure => simp [intOf]
     ·go_wp2_with (first|(refine zlN hS ?_)|(refine zsN hS ?_;clear hS;intro w hS))
      (apply Ae7;rfl;rfl;rfl;rfl;exact hS;decide +kernel;(exact cesS);kernel_rfl)
      exact ⟨rfl,hS.drop.drop.drop⟩
theorem holds8 (o : Ord) (hm : MayP o) (W w : World) (R : List HP) (hS : St W R w) :
  Calls Tryz.prog 183 #[.agg o.cells.toArray] w fun e w' => e = .returned (.agg (holdsF o).cells.toArray) ∧ St W R w' := by
 have h1 := hm.item0
 have h2 := hm.item1
 have h3 := Cy7 (by have := hm.cnt0;omega) hm.cnt1 (by have := hm.price0;omega) hm.price1
 obtain ⟨i,u,y,t,c,pr⟩ := o
 simp only at h1 h2 h3
 clear hm
 cases y with
 | true =>
  have e : holdsF ⟨i,u,true,t,c,pr⟩ = ⟨c * pr,0,0,0⟩ := rfl
  rw [e]
  simp only [Ord.cells,It.cells]
  have h4 : c * pr ≤ 9223372036854775807 := by omega
  have h5 : -9223372036854775808 ≤ c * pr := by omega
  clear e h1 h2
  go_enter Tryz.func183,Tryz.ntmps183
  go_wp2_with (first|(refine zl1 hS ?_)|(refine zlN hS ?_)|(refine zs1 hS ?_;clear hS;intro w hS)|(refine zsN hS ?_;clear hS;intro w hS)|(refine zbx hS ?_;clear hS;intro b w hS)|(refine zal hS ?_;clear hS;intro b w hS))
  (apply Ap7;rfl;rfl;rfl;exact hS;decide +kernel;(exact cesS);kernel_rfl)
  exact ⟨rfl,hS.sel (by exact selS)⟩
 | false =>
  have ht : t = 1 ∨ t = 2 ∨ t = 3 := by omega
  rcases ht with rfl|rfl|rfl
  ·have e : holdsF ⟨i,u,false,1,c,pr⟩ = ⟨0,c,0,0⟩ := rfl
   rw [e]
   simp only [Ord.cells,It.cells]
   clear e h1 h2 h3
   go_enter Tryz.func183,Tryz.ntmps183
   go_wp2_with (first|(refine zl1 hS ?_)|(refine zlN hS ?_)|(refine zs1 hS ?_;clear hS;intro w hS)|(refine zsN hS ?_;clear hS;intro w hS)|(refine zbx hS ?_;clear hS;intro b w hS)|(refine zal hS ?_;clear hS;intro b w hS))
   (apply Ap7;rfl;rfl;rfl;exact hS;decide +kernel;(exact cesS);kernel_rfl)
   exact ⟨rfl,hS.sel (by exact selS)⟩
  ·have e : holdsF ⟨i,u,false,2,c,pr⟩ = ⟨0,0,c,0⟩ := rfl
   rw [e]
   simp only [Ord.cells,It.cells]
   clear e h1 h2 h3
   go_enter Tryz.func183,Tryz.ntmps183
   go_wp2_with (first|(refine zl1 hS ?_)|(refine zlN hS ?_)|(refine zs1 hS ?_;clear hS;intro w hS)|(refine zsN hS ?_;clear hS;intro w hS)|(refine zbx hS ?_;clear hS;intro b w hS)|(refine zal hS ?_;clear hS;intro b w hS))
   (apply Ap7;rfl;rfl;rfl;exact hS;decide +kernel;(exact cesS);kernel_rfl)
   exact ⟨rfl,hS.sel (by exact selS)⟩
  ·have e : holdsF ⟨i,u,false,3,c,pr⟩ = ⟨0,0,0,c⟩ := rfl
   rw [e]
   simp only [Ord.cells,It.cells]
   clear e h1 h2 h3
   go_enter Tryz.func183,Tryz.ntmps183
   go_wp2_with (first|(refine zl1 hS ?_)|(refine zlN hS ?_)|(refine zs1 hS ?_;clear hS;intro w hS)|(refine zsN hS ?_;clear hS;intro w hS)|(refine zbx hS ?_;clear hS;intro b w hS)|(refine zal hS ?_;clear hS;intro b w hS))
   (apply Ap7;rfl;rfl;rfl;exact hS;decide +kernel;(exact cesS);kernel_rfl)
   exact ⟨rfl,hS.sel (by exact selS)⟩
def spI : List Hd → ByteArray → Nat
 | [],_ => 0
 | h :: H,k => if Op.bytesLess h.who.toList k.toList = true then spI H k + 1 else 0
def spB : List Hd → ByteArray → Bool
 | [],_ => false
 | h :: H,k => if Op.bytesLess h.who.toList k.toList = true then spB H k else h.who.toList == k.toList
theorem MY7 : ∀ (H : List Hd) (k : ByteArray),spI H k ≤ H.length
 | [],_ => Nat.le_refl _
 | h :: H,k => by
  have := MY7 H k
  rw [spI,List.length_cons]
  split <;> omega
theorem KZ7 : ∀ (H : List Hd) (k : ByteArray),spB H k = true → spI H k < H.length
 | [],_,h => by cases h
 | x :: H,k,h => by
  rw [spB] at h
  rw [spI,List.length_cons]
  split
  ·rename_i hc
   rw [if_pos hc] at h
   have := KZ7 H k h
   omega
  ·omega
abbrev xvL (xb : Nat) (v vB : Value) (n : Int) (H : List Hd) (R : List HP) : List HP := blk xb [v,vB,.int .i64 n] 246 :: hdR v H :: R
def SpR (W : World) (L : List HP) (H : List Hd) (k : ByteArray) (v : Value) (w : World) : Prop :=
 ∃ i : Nat,v = .int .i64 i ∧ i ≤ H.length ∧ spI H k = i + spI (H.drop i) k ∧ spB H k = spB (H.drop i) k ∧ St W L w
theorem La7 (H : List Hd) (k : ByteArray) (xb : Nat) (v vB : Value) (n : Int) (W w : World) (R : List HP) (hS : St W (xvL xb v vB n H R) w) :
  Calls Tryz.prog 180 #[.pointer (some ⟨xb,0,none⟩),.string k] w fun e w' => e = .returned (.tuple #[.int .i64 (spI H k),.bool (spB H k)]) ∧ St W (xvL xb v vB n H R) w' := by
 obtain ⟨a,cap,rfl⟩ := hS.drop.rowVal
 have h63 : H.length ≤ 9223372036854775807 := by
  rcases St.rowCase hS.drop with ⟨_,h0,_⟩|⟨_,_,h1,h2⟩
  ·omega
  ·omega
 go_enter Tryz.func180,Tryz.ntmps180
 go_wp2_with fail
 go_loopw [6] (fun v wr => SpR W (xvL xb (.slice a H.length cap) vB n H R) H k v wr) (fun v _ => H.length - (intOf v).toNat)
 case atStart => exact ⟨0,rfl,Nat.zero_le _,by simp,rfl,hS⟩
 case round =>
  clear hS
  obtain ⟨i,rfl,hil,e1,e2,hS⟩ := hrel
  by_cases hin : i = H.length
  ·subst hin
   rw [List.drop_length] at e1 e2
   have E1 := Lib.hid (show spI H k = H.length from e1)
   have E2 := Lib.hid (show spB H k = false from e2)
   clear e1 e2
   go_wp2_with (first|go_big_skip|(refine zl1 hS ?_))
   go_ret2
   rw [E1.out,E2.out]
   exact ⟨rfl,hS⟩
  ·have hi1 : i < H.length := by omega
   obtain ⟨⟨g,rfl⟩,hcap,hcn⟩ := St.rowAddr hS.drop (by omega)
   have hname : ∀ {K K' : List HP},Take K (hdR (.slice (some ⟨g,0,none⟩) H.length cap) H) K' → Cell K g (i * 5) (.string H[i].who) := fun hu => Cells.elemM (enc := Hd.cells) Hd.len hu hi1 0 _ rfl
   have hdr : H.drop i = H[i] :: H.drop (i + 1) := List.drop_eq_getElem_cons hi1
   rw [hdr] at e1 e2
   generalize H[i] = x at hname e1 e2
   obtain ⟨xw,xi⟩ := x
   simp only at hname
   rw [spI] at e1
   rw [spB] at e2
   simp only at e1 e2
   clear hdr
   cases hb : Op.bytesLess xw.toList k.toList with
   | true =>
    rw [if_pos hb] at e1 e2
    have E1 := Lib.hid e1
    have E2 := Lib.hid e2
    clear e1 e2
    go_wp2_with (first|go_big_skip|(refine zl1 hS ?_)|(refine zl1 hS ?_ (hc := by exact hname (by exact takeS))))
    go_roundw
    case rel => exact ⟨i + 1,rfl,hi1,by rw [E1.out];omega,E2.out,hS⟩
    case measure => simp [intOf];omega
   | false =>
    rw [if_neg (by rw [hb];simp)] at e1 e2
    have E1 := Lib.hid (show spI H k = i from e1)
    have E2 := Lib.hid e2
    clear e1 e2
    go_wp2_with (first|go_big_skip|(refine zl1 hS ?_)|(refine zl1 hS ?_ (hc := by exact hname (by exact takeS))))
    refine Ab7 (by kernel_rfl) (by kernel_rfl) hS ?_
    iterate 2 (refine qQ ?_;intro K hK;go_big_quiet_op;go_big_quiet_on)
    (refine zqn ?_)
    (refine qQ ?_;intro K hK;go_big_quiet_op;go_big_quiet_on)
    (refine zq1 ?_)
    iterate 3 (refine qQ ?_;intro K hK;go_big_quiet_op;go_big_quiet_on)
    (apply Aq7;(with_reducible rfl);rfl;rfl;decide +kernel;(exact hname (by exact takeS));(refine frS ?_))
    iterate 4 (refine qQ ?_;intro K hK;go_big_quiet_op;go_big_quiet_on)
    clear hS
    intro w hS
    go_wp2_with fail
    go_ret2
    rw [E1.out,E2.out]
    exact ⟨rfl,hS⟩
theorem Cn7 {H : List Hd} {k : ByteArray} {p : Nat} {b : Bool} (h1 : spI H k = p) (h2 : spB H k = b) (xb : Nat) (v vB : Value) (n : Int) (W w : World) (R : List HP) (hS : St W (xvL xb v vB n H R) w) :
  Calls Tryz.prog 180 #[.pointer (some ⟨xb,0,none⟩),.string k] w fun e w' => e = .returned (.tuple #[.int .i64 p,.bool b]) ∧ St W (xvL xb v vB n H R) w' :=
 (La7 H k xb v vB n W w R hS).mono fun e w' ⟨he,hS⟩ => ⟨by rw [he,h1,h2],hS⟩
def hasH (H : List Hd) (k : ByteArray) : It := if spB H k = true then (H.getD (spI H k) ⟨⟨#[]⟩,it0⟩).has else it0
theorem has8 (H : List Hd) (k : ByteArray) (xb : Nat) (v vB : Value) (n : Int) (W w : World) (R : List HP) (hS : St W (xvL xb v vB n H R) w) :
  Calls Tryz.prog 118 #[.pointer (some ⟨xb,0,none⟩),.string k] w fun e w' => e = .returned (eP (hasH H k)) ∧ St W (xvL xb v vB n H R) w' := by
 obtain ⟨a,cap,rfl⟩ := hS.drop.rowVal
 unfold hasH
 cases hb : spB H k with
 | false =>
  obtain ⟨p,hp⟩ : ∃ p,spI H k = p := ⟨_,rfl⟩
  have Hp := Lib.hid hp
  have Hb := Lib.hid hb
  clear hp hb
  rw [if_neg (by simp)]
  go_enter Tryz.func118,Tryz.ntmps118
  go_wp2_with (first|go_big_skip|(go_at_call 180;refine (Cn7 Hp.out Hb.out xb _ vB n W _ (_ :: R) (hS.sel (L' := blk xb _ _ :: hdR _ H :: blk b _ _ :: R) (by exact selS))).mono ?_;clear hS;rintro e w ⟨rfl,hS⟩)|(refine zl1 hS ?_)|(refine zlN hS ?_)|(refine zs1 hS ?_;clear hS;intro w hS)|(refine zsN hS ?_;clear hS;intro w hS)|(refine zbx hS ?_;clear hS;intro b w hS)|(refine zal hS ?_;clear hS;intro b w hS))
  (apply Ap7;rfl;rfl;rfl;exact hS;decide +kernel;(exact cesS);kernel_rfl)
  exact ⟨rfl,hS.sel (by exact selS)⟩
 | true =>
  rw [if_pos rfl]
  have hlt := KZ7 H k hb
  obtain ⟨p,hp⟩ : ∃ p,spI H k = p := ⟨_,rfl⟩
  rw [hp] at hlt ⊢
  have Hp := Lib.hid hp
  have Hb := Lib.hid hb
  clear hp hb
  obtain ⟨⟨g,rfl⟩,hcap,hcn⟩ := St.rowAddr hS.drop (by omega)
  have hitems : ∀ {K K' : List HP},Take K (hdR (.slice (some ⟨g,0,none⟩) H.length cap) H) K' → Cells K g (p * 5 + 1) (H[p].has.cells) := fun hu j v hj => by
   have h1 := Cells.elemM (enc := Hd.cells) Hd.len hu hlt (1 + j) v (by rw [Nat.add_comm];exact hj)
   rwa [← Nat.add_assoc] at h1
  have e : H.getD p ⟨⟨#[]⟩,it0⟩ = H[p] := by simp [List.getD_eq_getElem?_getD,List.getElem?_eq_getElem hlt]
  rw [e]
  clear e
  generalize H[p] = x at hitems
  obtain ⟨xw,⟨x0,x1,x2,x3⟩⟩ := x
  simp only [It.cells] at hitems
  go_enter Tryz.func118,Tryz.ntmps118
  go_wp2_with (first|go_big_skip|(go_at_call 180;refine (Cn7 Hp.out Hb.out xb _ vB n W _ (_ :: R) (hS.sel (L' := blk xb _ _ :: hdR _ H :: blk b _ _ :: R) (by exact selS))).mono ?_;clear hS;rintro e w ⟨rfl,hS⟩)|(refine zl1 hS ?_)|(refine zlN hS ?_ (hc := by exact hitems (by exact takeS)))|(refine zsN hS ?_;clear hS;intro w hS)|(refine zal hS ?_;clear hS;intro b w hS))
  (apply Ap7;rfl;rfl;rfl;exact hS;decide +kernel;(exact cesS);kernel_rfl)
  exact ⟨rfl,hS.sel (by exact selS)⟩
end Go.Proofs.YtlmhakmoioogaaaGreat
end
