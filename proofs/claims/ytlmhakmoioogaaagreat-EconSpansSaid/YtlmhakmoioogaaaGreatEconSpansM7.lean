/-
  Purses: one without another one; all together. For every purse.
  Maps as resources: made, looked up, written, deleted from. Over any program; no condition.
  Maps as resources, in one's own terms: block b is a map in which these keys stand with these values, in whatever order and born whenever; a range over such a map. Over any program; no condition.
-/
import Derived.Test.YtlmhakmoioogaaaGreatEconSpansM2
import Derived.Test.YtlmhakmoioogaaaGreatEconSpansM4
import Derived.Test.YtlmhakmoioogaaaGreatEconSpansM5
import Derived.Test.YtlmhakmoioogaaaGreatEconSpansM6
import Derived.MapKept
import Derived.Maps.RangeRun
set_option maxHeartbeats 16000000
set_option maxRecDepth 100000
set_option linter.unusedSimpArgs false
set_option linter.unusedVariables false
section
namespace Go.Proofs.YtlmhakmoioogaaaGreat
open Go.RowKit Go.Sl
theorem is_at (x0 x1 x2 x3 : Int) (W w : World) (R : List HP) (hS : St W R w) :
  Calls Tryz.prog 126 #[.agg #[.int .i64 x0,.int .i64 x1,.int .i64 x2,.int .i64 x3]] w fun e w' => e = .returned (.bool (isIt ⟨x0,x1,x2,x3⟩)) ∧ St W R w' := Nh7 ⟨x0,x1,x2,x3⟩ W w R hS
theorem Il7 (x0 x1 x2 x3 y0 y1 y2 y3 : Int) (W w : World) (R : List HP) (hS : St W R w) :
  Calls Tryz.prog 202 #[.agg #[.int .i64 x0,.int .i64 x1,.int .i64 x2,.int .i64 x3],.agg #[.int .i64 y0,.int .i64 y1,.int .i64 y2,.int .i64 y3]] w fun e w' => e = .returned (.bool (lessIt ⟨x0,x1,x2,x3⟩ ⟨y0,y1,y2,y3⟩)) ∧ St W R w' := Ni7 ⟨x0,x1,x2,x3⟩ ⟨y0,y1,y2,y3⟩ W w R hS
theorem Al7 {i : It} : isIt i = true ↔ (0 ≤ i.x0 ∧ i.x0 ≤ 1152921504606846976) ∧ (0 ≤ i.x1 ∧ i.x1 ≤ 1152921504606846976) ∧ (0 ≤ i.x2 ∧ i.x2 ≤ 1152921504606846976) ∧ (0 ≤ i.x3 ∧ i.x3 ≤ 1152921504606846976) := by
 unfold isIt
 simp only [Bool.and_eq_true,Bl7]
def subIt (i j : It) : It := ⟨i.x0 - j.x0,i.x1 - j.x1,i.x2 - j.x2,i.x3 - j.x3⟩
def addIt (i j : It) : It := ⟨i.x0 + j.x0,i.x1 + j.x1,i.x2 + j.x2,i.x3 + j.x3⟩
def subOk (i j : It) : Bool := isIt i && isIt j && !lessIt i j
def subF (i j : It) : It := if subOk i j then subIt i j else it0
def Sb4 (W : World) (F : It → List HP) (i j : It) (v : Value) (w : World) : Prop :=
 (v = .int .i64 0 ∧ St W (F i) w) ∨ (v = .int .i64 1 ∧ St W (F ⟨i.x0 - j.x0,i.x1,i.x2,i.x3⟩) w) ∨ (v = .int .i64 2 ∧ St W (F ⟨i.x0 - j.x0,i.x1 - j.x1,i.x2,i.x3⟩) w) ∨ (v = .int .i64 3 ∧ St W (F ⟨i.x0 - j.x0,i.x1 - j.x1,i.x2 - j.x2,i.x3⟩) w) ∨ (v = .int .i64 4 ∧ St W (F (subIt i j)) w)
theorem MO7 (i j : It) (W w : World) (R : List HP) (hS : St W R w) :
  Calls Tryz.prog 166 #[.agg i.cells.toArray,.agg j.cells.toArray] w fun e w' => e = .returned (.tuple #[.agg (subF i j).cells.toArray,.bool (subOk i j)]) ∧ St W R w' := by
 obtain ⟨x0,x1,x2,x3⟩ := i
 obtain ⟨y0,y1,y2,y3⟩ := j
 cases hi : isIt ⟨x0,x1,x2,x3⟩ with
 | false =>
  have e : subOk ⟨x0,x1,x2,x3⟩ ⟨y0,y1,y2,y3⟩ = false := by unfold subOk;rw [hi];rfl
  unfold subF
  rw [e]
  simp only [It.cells]
  go_enter Tryz.func166,Tryz.ntmps166
  go_wp2_with (first|go_big_skip|(go_at_call 126;refine (is_at _ _ _ _ W _ _ hS).mono ?_;clear hS;rw [hi];rintro e w ⟨rfl,hS⟩)|(refine zlN hS ?_)|(refine zsN hS ?_;clear hS;intro w hS)|(refine zbx hS ?_;clear hS;intro b w hS)|(refine zal hS ?_;clear hS;intro b w hS))
  (apply Ae7;rfl;rfl;rfl;rfl;exact hS;decide +kernel;(exact cesS);kernel_rfl)
  exact ⟨rfl,hS.drop.drop.drop⟩
 | true =>
  cases hj : isIt ⟨y0,y1,y2,y3⟩ with
  | false =>
   have e : subOk ⟨x0,x1,x2,x3⟩ ⟨y0,y1,y2,y3⟩ = false := by unfold subOk;rw [hi,hj];rfl
   unfold subF
   rw [e]
   simp only [It.cells]
   go_enter Tryz.func166,Tryz.ntmps166
   go_wp2_with (first|go_big_skip|(go_at_call 126;refine (is_at _ _ _ _ W _ _ hS).mono ?_;clear hS;(try rw [hi]);(try rw [hj]);rintro e w ⟨rfl,hS⟩)|(refine zlN hS ?_)|(refine zsN hS ?_;clear hS;intro w hS)|(refine zbx hS ?_;clear hS;intro b w hS)|(refine zal hS ?_;clear hS;intro b w hS))
   (apply Ae7;rfl;rfl;rfl;rfl;exact hS;decide +kernel;(exact cesS);kernel_rfl)
   exact ⟨rfl,hS.drop.drop.drop⟩
  | true =>
   cases hl : lessIt ⟨x0,x1,x2,x3⟩ ⟨y0,y1,y2,y3⟩ with
   | true =>
    have e : subOk ⟨x0,x1,x2,x3⟩ ⟨y0,y1,y2,y3⟩ = false := by unfold subOk;rw [hi,hj,hl];rfl
    unfold subF
    rw [e]
    simp only [It.cells]
    go_enter Tryz.func166,Tryz.ntmps166
    go_wp2_with (first|(go_at_call 126;refine (is_at _ _ _ _ W _ _ hS).mono ?_;clear hS;(try rw [hi]);(try rw [hj]);rintro e w ⟨rfl,hS⟩)|(go_at_call 202;refine (Il7 _ _ _ _ _ _ _ _ W _ _ hS).mono ?_;clear hS;rw [hl];rintro e w ⟨rfl,hS⟩)|(refine zlN hS ?_)|(refine zsN hS ?_;clear hS;intro w hS)|(refine zbx hS ?_;clear hS;intro b w hS)|(refine zal hS ?_;clear hS;intro b w hS))
    (apply Ae7;rfl;rfl;rfl;rfl;exact hS;decide +kernel;(exact cesS);kernel_rfl)
    exact ⟨rfl,hS.drop.drop.drop⟩
   | false =>
    have e : subOk ⟨x0,x1,x2,x3⟩ ⟨y0,y1,y2,y3⟩ = true := by unfold subOk;rw [hi,hj,hl];rfl
    obtain ⟨a0,a1,a2,a3⟩ := Al7.1 hi
    obtain ⟨b0,b1,b2,b3⟩ := Al7.1 hj
    simp only at a0 a1 a2 a3 b0 b1 b2 b3
    unfold subF
    rw [e,if_pos rfl]
    simp only [It.cells]
    go_enter Tryz.func166,Tryz.ntmps166
    go_wp2_with (first|(go_at_call 126;refine (is_at _ _ _ _ W _ _ hS).mono ?_;clear hS;(try rw [hi]);(try rw [hj]);rintro e w ⟨rfl,hS⟩)|(go_at_call 202;refine (Il7 _ _ _ _ _ _ _ _ W _ _ hS).mono ?_;clear hS;rw [hl];rintro e w ⟨rfl,hS⟩)|((fail_if_success (have := bA));(with_reducible apply Ay7 hS);(with_reducible rfl);rfl;rfl;rfl;clear hS;intro bA w hS;(refine frS ?_))|((fail_if_success (have := bB));(with_reducible apply Ay7 hS);(with_reducible rfl);rfl;rfl;rfl;clear hS;intro bB w hS;(refine frS ?_))|(refine zlN hS ?_)|(refine zal hS ?_;clear hS;intro b w hS))
    go_loopw [23] (fun v wr => Sb4 W (fun q => [blk b [.int .i64 0,.int .i64 0,.int .i64 0,.int .i64 0] 29,blk bB [.int .i64 y0,.int .i64 y1,.int .i64 y2,.int .i64 y3] 29,blk bA [.int .i64 q.x0,.int .i64 q.x1,.int .i64 q.x2,.int .i64 q.x3] 29] ++ R) ⟨x0,x1,x2,x3⟩ ⟨y0,y1,y2,y3⟩ v wr) (fun v _ => 4 - (intOf v).toNat)
    case atStart => exact .inl ⟨rfl,hS⟩
    case round =>
     clear hS hi hj hl
     simp only [Sb4,subIt,List.cons_append,List.nil_append] at hrel
     rcases hrel with ⟨rfl,hS⟩|⟨rfl,hS⟩|⟨rfl,hS⟩|⟨rfl,hS⟩|⟨rfl,hS⟩
     ·go_wp2_with (first|((with_reducible apply Aw7);(with_reducible rfl);rfl;rfl;rfl;(first|exact idx0 _ _ _ _|exact idx1 _ _ _ _|exact idx2 _ _ _ _|exact idx3 _ _ _ _);(refine frS ?_))|(refine zl1 hS ?_)|(refine zs1 hS ?_;clear hS;intro w hS))
      go_roundw
      case rel => exact .inr (.inl ⟨rfl,hS⟩)
      case measure => simp [intOf]
     ·go_wp2_with (first|((with_reducible apply Aw7);(with_reducible rfl);rfl;rfl;rfl;(first|exact idx0 _ _ _ _|exact idx1 _ _ _ _|exact idx2 _ _ _ _|exact idx3 _ _ _ _);(refine frS ?_))|(refine zl1 hS ?_)|(refine zs1 hS ?_;clear hS;intro w hS))
      go_roundw
      case rel => exact .inr (.inr (.inl ⟨rfl,hS⟩))
      case measure => simp [intOf]
     ·go_wp2_with (first|((with_reducible apply Aw7);(with_reducible rfl);rfl;rfl;rfl;(first|exact idx0 _ _ _ _|exact idx1 _ _ _ _|exact idx2 _ _ _ _|exact idx3 _ _ _ _);(refine frS ?_))|(refine zl1 hS ?_)|(refine zs1 hS ?_;clear hS;intro w hS))
      go_roundw
      case rel => exact .inr (.inr (.inr (.inl ⟨rfl,hS⟩)))
      case measure => simp [intOf]
     ·go_wp2_with (first|((with_reducible apply Aw7);(with_reducible rfl);rfl;rfl;rfl;(first|exact idx0 _ _ _ _|exact idx1 _ _ _ _|exact idx2 _ _ _ _|exact idx3 _ _ _ _);(refine frS ?_))|(refine zl1 hS ?_)|(refine zs1 hS ?_;clear hS;intro w hS))
      go_roundw
      case rel => exact .inr (.inr (.inr (.inr ⟨rfl,hS⟩)))
      case measure => simp [intOf]
     ·go_wp2_with (first|(refine zlN hS ?_)|(refine zsN hS ?_;clear hS;intro w hS))
      (apply Ae7;rfl;rfl;rfl;rfl;exact hS;decide +kernel;(exact cesS);kernel_rfl)
      exact ⟨rfl,hS.drop.drop.drop⟩
def addL : List It → It → Option It
 | [],s => some s
 | i :: l,s => if isIt i = true ∧ isIt (addIt s i) = true then addL l (addIt s i) else none
def addF (l : List It) : It := (addL l it0).getD it0
def Ad4 (W : World) (F : It → List HP) (i j : It) (v : Value) (w : World) : Prop :=
 (v = .int .i64 0 ∧ St W (F i) w) ∨ (v = .int .i64 1 ∧ St W (F ⟨i.x0 + j.x0,i.x1,i.x2,i.x3⟩) w) ∨ (v = .int .i64 2 ∧ St W (F ⟨i.x0 + j.x0,i.x1 + j.x1,i.x2,i.x3⟩) w) ∨ (v = .int .i64 3 ∧ St W (F ⟨i.x0 + j.x0,i.x1 + j.x1,i.x2 + j.x2,i.x3⟩) w) ∨ (v = .int .i64 4 ∧ St W (F (addIt i j)) w)
def AdR (W : World) (F : It → List HP) (l : List It) (v : Value) (w : World) : Prop :=
 ∃ (n : Nat) (s : It),v = .int .i64 n ∧ n ≤ l.length ∧ isIt s = true ∧ addL l it0 = addL (l.drop n) s ∧ St W (F s) w
theorem MP7 (l : List It) (v : Value) (W w : World) (R : List HP) (hS : St W (row v 4 29 l.length (l.flatMap It.cells) :: R) w) :
  Calls Tryz.prog 58 #[v] w fun e w' => e = .returned (.tuple #[.agg (addF l).cells.toArray,.bool (addL l it0).isSome]) ∧ St W (row v 4 29 l.length (l.flatMap It.cells) :: R) w' := by
 obtain ⟨a,cap,rfl⟩ := hS.rowVal
 have h63 : l.length ≤ 9223372036854775807 := by
  rcases St.rowCase hS with ⟨_,h0,_⟩|⟨_,_,h1,h2⟩
  ·omega
  ·omega
 go_enter Tryz.func58,Tryz.ntmps58
 go_wp2_with (first|((fail_if_success (have := bA));(with_reducible apply Au7 hS);(with_reducible rfl);rfl;(exact zsS);clear hS;intro bA w hS;(refine frS ?_))|((fail_if_success (have := bB));(with_reducible apply Au7 hS);(with_reducible rfl);rfl;(exact zsS);clear hS;intro bB w hS;(refine frS ?_)))
 go_loopw [11] (fun v wr => AdR W (fun q => [blk bB [.int .i64 q.x0,.int .i64 q.x1,.int .i64 q.x2,.int .i64 q.x3] 29,blk bA [.int .i64 0,.int .i64 0,.int .i64 0,.int .i64 0] 29,row (.slice a l.length cap) 4 29 l.length (l.flatMap It.cells)] ++ R) l v wr) (fun v _ => l.length - (intOf v).toNat)
 case atStart => exact ⟨0,it0,rfl,Nat.zero_le _,rfl,rfl,hS⟩
 case round =>
  clear hS
  obtain ⟨n,s,rfl,hnl,hs,he,hS⟩ := hrel
  simp only [fL,fM] at hS
  obtain ⟨s0,s1,s2,s3⟩ := s
  simp only at hS
  by_cases hn : n = l.length
  ·subst hn
   rw [List.drop_length] at he
   have E := Lib.hid he
   clear he
   go_wp2_with (first|(refine zlN hS ?_)|(refine zsN hS ?_;clear hS;intro w hS))
   (apply Ae7;rfl;rfl;rfl;rfl;exact hS;decide +kernel;(exact cesS);kernel_rfl)
   unfold addF
   rw [E.out]
   exact ⟨rfl,hS.drop.drop⟩
  ·have hn1 : n < l.length := by omega
   obtain ⟨⟨g,rfl⟩,hcap,hcn⟩ := St.rowAddr hS.drop.drop (by omega)
   have hx : ∀ {K K' : List HP},Take K (row (.slice (some ⟨g,0,none⟩) l.length cap) 4 29 l.length (l.flatMap It.cells)) K' → Cells K g (n * 4) (It.cells l[n]) := fun hu => Cells.elemM (enc := It.cells) It.len hu hn1
   have hdr : l.drop n = l[n] :: l.drop (n + 1) := List.drop_eq_getElem_cons hn1
   rw [hdr] at he
   clear hdr
   generalize l[n] = x at hx he
   obtain ⟨x0,x1,x2,x3⟩ := x
   simp only [It.cells] at hx
   cases hi : isIt ⟨x0,x1,x2,x3⟩ with
   | false =>
    have E := Lib.hid (show addL l it0 = none by rw [he,addL,if_neg (fun h => by rw [hi] at h;cases h.1)])
    clear he
    go_wp2_with (first|(refine zlN hS ?_ (hc := by exact hx (.tail (.tail .head))))|(go_at_call 126;refine (is_at _ _ _ _ W _ _ hS).mono ?_;clear hS;rw [hi];rintro e w ⟨rfl,hS⟩)|(refine zlN hS ?_)|(refine zsN hS ?_;clear hS;intro w hS)|(refine zal hS ?_;clear hS;intro b w hS))
    (apply Ae7;rfl;rfl;rfl;rfl;exact hS;decide +kernel;(exact cesS);kernel_rfl)
    unfold addF
    rw [E.out]
    exact ⟨rfl,hS.sel (by exact selS)⟩
   | true =>
    have he2 : addL l it0 = if isIt (addIt ⟨s0,s1,s2,s3⟩ ⟨x0,x1,x2,x3⟩) = true then addL (l.drop (n + 1)) (addIt ⟨s0,s1,s2,s3⟩ ⟨x0,x1,x2,x3⟩) else none := by rw [he,addL];simp [hi]
    have E2 := Lib.hid he2
    clear he he2
    obtain ⟨a0,a1,a2,a3⟩ := Al7.1 hi
    obtain ⟨b0,b1,b2,b3⟩ := Al7.1 hs
    simp only at a0 a1 a2 a3 b0 b1 b2 b3
    go_wp2_with (first|(refine zlN hS ?_ (hc := by exact hx (.tail (.tail .head))))|(go_at_call 126;refine (is_at _ _ _ _ W _ _ hS).mono ?_;clear hS;rw [hi];rintro e w ⟨rfl,hS⟩)|(refine zlN hS ?_)|(refine zsN hS ?_;clear hS;intro w hS)|(refine zal hS ?_;clear hS;intro b w hS))
    go_loopw [20] (fun v wr => Ad4 W (fun q => [blk b [.int .i64 x0,.int .i64 x1,.int .i64 x2,.int .i64 x3] 29,blk bB [.int .i64 q.x0,.int .i64 q.x1,.int .i64 q.x2,.int .i64 q.x3] 29,blk bA [.int .i64 0,.int .i64 0,.int .i64 0,.int .i64 0] 29,row (.slice (some ⟨g,0,none⟩) l.length cap) 4 29 l.length (l.flatMap It.cells)] ++ R) ⟨s0,s1,s2,s3⟩ ⟨x0,x1,x2,x3⟩ v wr) (fun v _ => 4 - (intOf v).toNat)
    case atStart => exact .inl ⟨rfl,hS⟩
    case round =>
     clear hS hx hs hi
     simp only [Ad4,addIt,List.cons_append,List.nil_append] at hrel
     rcases hrel with ⟨rfl,hS⟩|⟨rfl,hS⟩|⟨rfl,hS⟩|⟨rfl,hS⟩|⟨rfl,hS⟩
     ·go_wp2_with (first|((with_reducible apply Aw7);(with_reducible rfl);rfl;rfl;rfl;(first|exact idx0 _ _ _ _|exact idx1 _ _ _ _|exact idx2 _ _ _ _|exact idx3 _ _ _ _);(refine frS ?_))|(refine zl1 hS ?_)|(refine zs1 hS ?_;clear hS;intro w hS))
      go_roundw
      case rel => exact .inr (.inl ⟨rfl,hS⟩)
      case measure => simp [intOf]
     ·go_wp2_with (first|((with_reducible apply Aw7);(with_reducible rfl);rfl;rfl;rfl;(first|exact idx0 _ _ _ _|exact idx1 _ _ _ _|exact idx2 _ _ _ _|exact idx3 _ _ _ _);(refine frS ?_))|(refine zl1 hS ?_)|(refine zs1 hS ?_;clear hS;intro w hS))
      go_roundw
      case rel => exact .inr (.inr (.inl ⟨rfl,hS⟩))
      case measure => simp [intOf]
     ·go_wp2_with (first|((with_reducible apply Aw7);(with_reducible rfl);rfl;rfl;rfl;(first|exact idx0 _ _ _ _|exact idx1 _ _ _ _|exact idx2 _ _ _ _|exact idx3 _ _ _ _);(refine frS ?_))|(refine zl1 hS ?_)|(refine zs1 hS ?_;clear hS;intro w hS))
      go_roundw
      case rel => exact .inr (.inr (.inr (.inl ⟨rfl,hS⟩)))
      case measure => simp [intOf]
     ·go_wp2_with (first|((with_reducible apply Aw7);(with_reducible rfl);rfl;rfl;rfl;(first|exact idx0 _ _ _ _|exact idx1 _ _ _ _|exact idx2 _ _ _ _|exact idx3 _ _ _ _);(refine frS ?_))|(refine zl1 hS ?_)|(refine zs1 hS ?_;clear hS;intro w hS))
      go_roundw
      case rel => exact .inr (.inr (.inr (.inr ⟨rfl,hS⟩)))
      case measure => simp [intOf]
     ·cases hi : isIt ⟨s0 + x0,s1 + x1,s2 + x2,s3 + x3⟩ with
      | false =>
       have E := Lib.hid (show addL l it0 = none by rw [E2.out,addIt];simp [hi])
       clear E2
       go_wp2_with (first|(go_at_call 126;refine (is_at _ _ _ _ W _ _ hS).mono ?_;clear hS;rw [hi];rintro e w ⟨rfl,hS⟩)|(refine zlN hS ?_)|(refine zsN hS ?_;clear hS;intro w hS))
       (apply Ae7;rfl;rfl;rfl;rfl;exact hS;decide +kernel;(exact cesS);kernel_rfl)
       unfold addF
       rw [E.out]
       exact ⟨rfl,hS.sel (by exact selS)⟩
      | true =>
       have E := Lib.hid (show addL l it0 = addL (l.drop (n + 1)) ⟨s0 + x0,s1 + x1,s2 + x2,s3 + x3⟩ by rw [E2.out,addIt];simp [hi])
       have Hi := Lib.hid hi
       clear E2
       go_wp2_with (first|(go_at_call 126;refine (is_at _ _ _ _ W _ _ hS).mono ?_;clear hS;rw [hi];rintro e w ⟨rfl,hS⟩)|(refine zlN hS ?_))
       go_roundw
       case rel => exact ⟨n + 1,_,rfl,hn1,Hi.out,E.out,hS.sel (by exact selS)⟩
       case measure => simp [intOf];omega
end Go.Proofs.YtlmhakmoioogaaaGreat
end
section
namespace Go.Sl
open Go.RowKit
def mapR (b : Nat) (es : List MapEntry) (clk : Nat) : HP := blkO b (.map es.toArray clk)
def tyMap (P : Program) (t : TypeId) : Option (TypeId × TypeId) := (P.underlying t).bind fun|.map k e => some (k,e)|_ => none
def tyZeroV (P : Program) (t : TypeId) : Option Value := (P.info? t).bind (·.zero)
def plainKd : TypeDesc → Bool
 | .int _ | .string => true
 | _ => false
section
variable {P : Program} {W w : World} {L R : List HP}
theorem Bm7 {t K E : TypeId} (h : tyMap P t = some (K,E)) : P.underlying t = some (.map K E) := by
 unfold tyMap at h
 obtain ⟨d,hd,hx⟩ := Option.bind_eq_some_iff.1 h
 cases d <;> simp at hx
 rw [hd,hx.1,hx.2]
theorem JQ7 {t : TypeId} {z : Value} (h : tyZeroV P t = some z) : (zeroValue t).run P w = .ok z w := by
 unfold tyZeroV at h
 obtain ⟨i,hi,hz⟩ := Option.bind_eq_some_iff.1 h
 simp [zeroValue,typeInfo,hi,hz]
theorem Gj7 {K : TypeId} {kd : TypeDesc} (hK : P.underlying K = some kd) (h : plainKd kd = true) (e : Bool) (n : Nat) (v : Value) : (Instr.checkKey e (n + 1) K v).run P w = .ok () w := by
 unfold Instr.checkKey
 cases kd <;> simp [plainKd] at h <;> simp [run_underlying hK]
theorem Hp7 {K : TypeId} {kd : TypeDesc} {key : Value} {es : List MapEntry} {r : Option (Nat × Value)} (hK : P.underlying K = some kd) (hf : Instr.findNow kd key es 0 = some r) : (Instr.findKey K key es).run P w = .ok r w := by
 unfold Instr.findKey
 simp [run_underlying hK,hf]
theorem St.setMap {b : Nat} {es es' : List MapEntry} {c c' : Nat} (h : St W (mapR b es c :: L) w) : St W (mapR b es' c' :: L) { w with heap := w.heap.setIfInBounds b (.map es'.toArray c') } := by
 have hg := h.get (b := b) .head
 refine h.putO (b := b) (o := .map es.toArray c) (o' := .map es'.toArray c') .head rfl rfl rfl fun k => ?_
 show (w.heap.setIfInBounds b _)[k]? = _
 have hb : b < w.heap.size := (Array.getElem?_eq_some_iff.1 hg).1
 rw [Array.getElem?_setIfInBounds]
 by_cases hk : b = k
 ·subst hk;rw [if_pos rfl,if_pos hb,if_pos rfl]
 ·rw [if_neg hk,if_neg (fun h => hk h.symm)]
theorem CC7 {b : Nat} {es : List MapEntry} {c : Nat} (h : St W (mapR b es c :: L) w) : (getObj b).run P w = .ok (.map es.toArray c) w := MapKept.run_getObj_map (h.get (b := b) .head)
def lookV (ok : Bool) (z : Value) : Option (Nat × Value) → Value
 | some (_,v) => if ok then .tuple #[v,.bool true] else v
 | none => if ok then .tuple #[z,.bool false] else z
theorem Hq7 {t : TypeId} (h : St W L w) : ∃ b w',(Instr.makeMap t none).run P w = .ok (.map (some b)) w' ∧ St W (mapR b [] 0 :: L) w' :=
 ⟨w.heap.size,w.alloc (.map #[] 0),by unfold Instr.makeMap;simp,h.alloc _⟩
def Stamps (es : List MapEntry) : Prop := (es.map (·.born)).Nodup
end
theorem LF7 (a b : Int) : Instr.sameNow (.int .i64) (.int .i64 a) (.int .i64 b) = some (a == b) := by simp [Instr.sameNow]
theorem LG7 (a b : ByteArray) : Instr.sameNow .string (.string a) (.string b) = some (a == b) := rfl
def iterR (r m since : Nat) (seen : Array Nat) (stepped : Nat) : HP := blkO r (.mapIter (some m) since seen stepped)
section
variable {P : Program} {W w : World} {L : List HP}
theorem JR7 {t K E : TypeId} {m : Nat} {es : List MapEntry} {c : Nat} (h : St W (mapR m es c :: L) w) (ht : tyMap P t = some (K,E)) :
  ∃ r w',(Instr.range t (.map (some m))).run P w = .ok (.pointer (some ⟨r,0,none⟩)) w' ∧ St W (iterR r m c #[] c :: mapR m es c :: L) w' := by
 refine ⟨w.heap.size,w.alloc (.mapIter (some m) c #[] c),?_,h.alloc _⟩
 unfold Instr.range
 have hu := run_underlying (P := P) (Bm7 ht) w
 simp [hu,CC7 h]
theorem LH7 {ty : TypeId} {r m since c0 c : Nat} {seen : Array Nat} {es : List MapEntry} (h : St W (iterR r m since seen c0 :: mapR m es c :: L) w) (hold : ∀ x ∈ es,x.born < since) (hsc : since ≤ c0) :
  ((∀ x ∈ es,x.born ∈ seen) ∧ (Instr.next (.pointer (some ⟨r,0,none⟩)) false ty).run P w = .ok (.tuple #[.bool false]) w) ∨
  ∃ e ∈ es,e.born ∉ seen ∧ ∃ w',(Instr.next (.pointer (some ⟨r,0,none⟩)) false ty).run P w = .ok (.tuple #[.bool true,e.key,e.val]) w' ∧ St W (iterR r m since (seen.push e.born) c :: mapR m es c :: L) w' := by
 have hr := h.get (b := r) .head
 have hb := h.get (b := m) (.tail .head)
 rcases run_next_at (P := P) w ty r m since c0 seen es.toArray c hr hb (by simpa using hold) hsc with ⟨h0,hrun⟩|⟨e,he,w1,hw,hrun⟩
 ·left
  refine ⟨fun x hx => ?_,hrun⟩
  have h1 : leftOf es.toArray seen = #[] := Array.eq_empty_of_size_eq_zero h0
  unfold leftOf at h1
  rw [Array.filter_eq_empty_iff] at h1
  have := h1 x (by simpa using hx)
  simpa using this
 ·right
  unfold leftOf at he
  simp at he
  refine ⟨e,he.1,by simpa using he.2,_,hrun,?_⟩
  have h1 : St W (iterR r m since seen c0 :: mapR m es c :: L) w1 := by
   rcases hw with rfl|rfl
   ·exact h
   ·exact h.drew
  have hr1 := h1.get (b := r) .head
  refine h1.putO (b := r) (o := .mapIter (some m) since seen c0) (o' := .mapIter (some m) since (seen.push e.born) c) .head rfl rfl rfl fun k => ?_
  show (w1.heap.setIfInBounds r _)[k]? = _
  have hlt : r < w1.heap.size := (Array.getElem?_eq_some_iff.1 hr1).1
  rw [Array.getElem?_setIfInBounds]
  by_cases hk : r = k
  ·subst hk;rw [if_pos rfl,if_pos hlt,if_pos rfl]
  ·rw [if_neg hk,if_neg (fun h => hk h.symm)]
theorem JS7 {r m since c : Nat} {seen : Array Nat} {es : List MapEntry} {e : MapEntry} (h : St W (iterR r m since (seen.push e.born) c :: mapR m es c :: L) w) (he : e ∈ es) (hn : Stamps es) :
  (Instr.entry (.pointer (some ⟨r,0,none⟩))).run P w = .ok (.tuple #[e.key,e.val]) w :=
 run_entry_at w r m since seen es.toArray c e (h.get (b := r) .head) (h.get (b := m) (.tail .head)) (by simpa using he) (by unfold Stamps at hn;simpa using hn)
end
section
variable {P : Program} {ops : Array Oper} {Q : Exit → Act → World → Prop} {a : Act} {w : World} {W : World} {L L' R : List HP} {rest : List Oper} {o : Oper}
end
end Go.Sl
end
section
namespace Go.Sl
open Go.RowKit
def findA {κ : Type} [DecidableEq κ] (k : κ) : List (κ × Value × Nat) → Nat → Option (Nat × Value)
 | [],_ => none
 | x :: l,i => if k = x.1 then some (i,x.2.1) else findA k l (i + 1)
def entA {κ : Type} (ek : κ → Value) (x : κ × Value × Nat) : MapEntry := ⟨ek x.1,x.2.1,x.2.2⟩
structure KeyOk (P : Program) (K : TypeId) {κ : Type} [DecidableEq κ] (ek : κ → Value) : Prop where
 chk : ∀ e k w,(Instr.checkKey e 10000 K (ek k)).run P w = .ok () w
 find : ∀ k (l : List (κ × Value × Nat)) w,(Instr.findKey K (ek k) (l.map (entA ek))).run P w = .ok (findA k l 0) w
 bits : ∀ k,Instr.sameBits 10000 (ek k) (ek k) = true
section
variable {κ : Type} [DecidableEq κ]
theorem DW7 {k : κ} : ∀ (l : List (κ × Value × Nat)) (i : Nat),(∀ x ∈ l,x.1 ≠ k) → findA k l i = none
 | [],_,_ => rfl
 | x :: l,i,h => by
  rw [findA,if_neg (fun e => h x (List.mem_cons_self ..) e.symm)]
  exact DW7 l (i + 1) fun y hy => h y (List.mem_cons_of_mem _ hy)
theorem DX7 {k : κ} {v : Value} {s : Nat} : ∀ (l : List (κ × Value × Nat)) (i : Nat),(l.map (·.1)).Nodup → (k,v,s) ∈ l → ∃ j, ∃ h : j < l.length,l[j] = (k,v,s) ∧ findA k l i = some (i + j,v)
 | x :: l,i,hn,hm => by
  rw [List.map_cons,List.nodup_cons] at hn
  by_cases hk : k = x.1
  ·have hx : x = (k,v,s) := by
    rcases List.mem_cons.1 hm with h|h
    ·exact h.symm
    ·exact absurd (List.mem_map.2 ⟨_,h,hk⟩) hn.1
   exact ⟨0,Nat.succ_pos _,hx,by rw [findA,if_pos hk,hx];rfl⟩
  ·have hm' : (k,v,s) ∈ l := by
    rcases List.mem_cons.1 hm with h|h
    ·exact absurd (by rw [← h]) hk
    ·exact h
   obtain ⟨j,hj,h1,h2⟩ := DX7 l (i + 1) hn.2 hm'
   exact ⟨j + 1,by simpa using hj,h1,by rw [findA,if_neg hk,h2,show i + 1 + j = i + (j + 1) by omega]⟩
theorem CN7 {kd : TypeDesc} {ek : κ → Value} (h : ∀ a b,Instr.sameNow kd (ek a) (ek b) = some (decide (a = b))) (k : κ) : ∀ (l : List (κ × Value × Nat)) (i : Nat),Instr.findNow kd (ek k) (l.map (entA ek)) i = some (findA k l i)
 | [],_ => rfl
 | x :: l,i => by
  have e : (entA ek x).key = ek x.1 := rfl
  rw [List.map_cons,Instr.findNow,e,h,findA]
  by_cases hk : k = x.1
  ·rw [decide_eq_true hk,if_pos hk];rfl
  ·rw [decide_eq_false hk,if_neg hk];exact CN7 h k l (i + 1)
variable {P : Program} {K : TypeId} {kd : TypeDesc} {ek : κ → Value}
theorem KeyOk.plain (hK : P.underlying K = some kd) (hkd : plainKd kd = true) (h : ∀ a b,Instr.sameNow kd (ek a) (ek b) = some (decide (a = b))) (hb : ∀ k,Instr.sameBits 10000 (ek k) (ek k) = true) : KeyOk P K ek :=
 ⟨fun e k w => Gj7 hK hkd e 9999 (ek k),fun k l w => Hp7 hK (CN7 h k l 0),hb⟩
end
theorem KeyOk.int {P : Program} {K : TypeId} (hK : P.underlying K = some (.int .i64)) : KeyOk P K (fun z : Int => .int .i64 z) :=
 .plain hK rfl (fun a b => by rw [LF7];exact congrArg some (Bool.beq_eq_decide_eq a b)) (fun k => by simp [Instr.sameBits])
theorem KeyOk.str {P : Program} {K : TypeId} (hK : P.underlying K = some .string) : KeyOk P K (fun s : ByteArray => .string s) :=
 .plain hK rfl (fun a b => by
  rw [LG7]
  congr 1
  by_cases h : a = b
  ·subst h;rw [decide_eq_true rfl];exact (MapKept.bytes_beq _ _).2 rfl
  ·rw [decide_eq_false h]
   cases hb : a == b with
   | false => rfl
   | true => exact absurd ((MapKept.bytes_beq a b).1 hb) h) (fun k => by
  show (k == k) = true
  exact (MapKept.bytes_beq _ _).2 rfl)
section
variable {κ : Type} [DecidableEq κ] {P : Program} {W w : World} {L R : List HP} {t K E : TypeId} {ek : κ → Value}
theorem Gk7 {b c : Nat} {ps : List (κ × Value × Nat)} {k : κ} {z : Value} {ok : Bool} (h : St W (mapR b (ps.map (entA ek)) c :: L) w) (ht : tyMap P t = some (K,E)) (hK : KeyOk P K ek) (hz : tyZeroV P E = some z) (hn : ∀ x ∈ ps,x.1 ≠ k) :
  (Instr.lookup t (.map (some b)) (ek k) ok).run P w = .ok (if ok then .tuple #[z,.bool false] else z) w := by
 unfold Instr.lookup
 have hu := run_underlying (P := P) (Bm7 ht) w
 cases ok <;> simp [hu,CC7 h,hK.chk,hK.find,DW7 ps 0 hn,JQ7 hz]
theorem Gl7 {b c : Nat} {ps : List (κ × Value × Nat)} {k : κ} {v : Value} {s : Nat} {ok : Bool} (h : St W (mapR b (ps.map (entA ek)) c :: L) w) (ht : tyMap P t = some (K,E)) (hK : KeyOk P K ek) (hn : (ps.map (·.1)).Nodup) (hm : (k,v,s) ∈ ps) :
  (Instr.lookup t (.map (some b)) (ek k) ok).run P w = .ok (if ok then .tuple #[v,.bool true] else v) w := by
 unfold Instr.lookup
 have hu := run_underlying (P := P) (Bm7 ht) w
 obtain ⟨j,hj,h1,h2⟩ := DX7 ps 0 hn hm
 cases ok <;> simp [hu,CC7 h,hK.chk,hK.find,h2]
theorem Gm7 {b c : Nat} {ps : List (κ × Value × Nat)} {k : κ} {v : Value} (h : St W (mapR b (ps.map (entA ek)) c :: L) w) (ht : tyMap P t = some (K,E)) (hK : KeyOk P K ek) (hn : ∀ x ∈ ps,x.1 ≠ k) :
  ∃ w',(Instr.mapUpdate t (.map (some b)) (ek k) v).run P w = .ok () w' ∧ St W (mapR b ((ps ++ [(k,v,c)]).map (entA ek)) (c + 1) :: L) w' := by
 refine ⟨_,?_,h.setMap⟩
 unfold Instr.mapUpdate
 have hu := run_underlying (P := P) (Bm7 ht) w
 have hs := MapKept.run_setObj_map (P := P) (.map (ps.map (entA ek) ++ [(⟨ek k,v,c⟩ : MapEntry)]).toArray (c + 1)) (h.get (b := b) .head)
 have e : (ps.map (entA ek)).toArray.push (⟨ek k,v,c⟩ : MapEntry) = (ps.map (entA ek) ++ [(⟨ek k,v,c⟩ : MapEntry)]).toArray := by simp
 have e2 : (ps ++ [(k,v,c)]).map (entA ek) = ps.map (entA ek) ++ [(⟨ek k,v,c⟩ : MapEntry)] := by rw [List.map_append];rfl
 rw [e2]
 simp only [hu,Sem.run_bind,Result.andThen_ok,CC7 h,hK.chk,hK.find,DW7 ps 0 hn,e,hs]
def setA (ps : List (κ × Value × Nat)) (k : κ) (v : Value) : List (κ × Value × Nat) := ps.map fun x => if x.1 = k then (x.1,v,x.2.2) else x
theorem Fg7 {k : κ} {v : Value} : ∀ (ps : List (κ × Value × Nat)),k ∉ ps.map (·.1) → setA ps k v = ps
 | [],_ => rfl
 | x :: ps,h => by
  have hx : x.1 ≠ k := fun e => h (by rw [List.map_cons,e];exact List.mem_cons_self ..)
  have := Fg7 (k := k) (v := v) ps (fun e => h (List.mem_cons_of_mem _ e))
  unfold setA at this ⊢
  rw [List.map_cons,if_neg hx,this]
theorem JT7 {k : κ} {v u : Value} {s : Nat} : ∀ (ps : List (κ × Value × Nat)) (j : Nat) (hj : j < ps.length),(ps.map (·.1)).Nodup → ps[j] = (k,u,s) → setA ps k v = ps.set j (k,v,s)
 | x :: ps,0,_,hn,hx => by
  have hx' : x = (k,u,s) := hx
  rw [List.map_cons,List.nodup_cons,hx'] at hn
  have := Fg7 (v := v) ps hn.1
  unfold setA at this ⊢
  rw [List.map_cons,this,hx',if_pos rfl];rfl
 | x :: ps,j + 1,hj,hn,hx => by
  rw [List.map_cons,List.nodup_cons] at hn
  have hj' : j < ps.length := by simpa using hj
  have hx' : ps[j] = (k,u,s) := hx
  have hne : x.1 ≠ k := fun e => hn.1 (List.mem_map.2 ⟨ps[j],List.getElem_mem _,by rw [hx',e]⟩)
  have := JT7 (v := v) ps j hj' hn.2 hx'
  unfold setA at this ⊢
  rw [List.map_cons,if_neg hne,this];rfl
theorem Hr7 {b c : Nat} {ps : List (κ × Value × Nat)} {k : κ} {u v : Value} {s : Nat} (h : St W (mapR b (ps.map (entA ek)) c :: L) w) (ht : tyMap P t = some (K,E)) (hK : KeyOk P K ek) (hn : (ps.map (·.1)).Nodup) (hm : (k,u,s) ∈ ps) :
  ∃ w',(Instr.mapUpdate t (.map (some b)) (ek k) v).run P w = .ok () w' ∧ St W (mapR b ((setA ps k v).map (entA ek)) c :: L) w' := by
 obtain ⟨j,hj,h1,h2⟩ := DX7 ps 0 hn hm
 rw [Nat.zero_add] at h2
 have e2 : (setA ps k v).map (entA ek) = (ps.map (entA ek)).set j ⟨ek k,v,s⟩ := by
  rw [JT7 ps j hj hn h1,List.map_set];rfl
 have e : (ps.map (entA ek)).modify j (fun e => { e with key := ek k,val := v }) = (ps.map (entA ek)).set j ⟨ek k,v,s⟩ := by
  apply List.ext_getElem?
  intro i
  rw [List.getElem?_modify,List.getElem?_set]
  by_cases hi : j = i
  ·subst hi
   simp [hj,h1,entA]
  ·simp [hi]
 refine ⟨_,?_,h.setMap⟩
 rw [e2]
 unfold Instr.mapUpdate
 have hu := run_underlying (P := P) (Bm7 ht) w
 have hks : (Instr.keyThatStays (ek k) (ek k)).run P w = .ok (ek k) w := by unfold Instr.keyThatStays;simp [hK.bits]
 have hkk : ((ps.map (entA ek)).toArray[j]?).map (·.key) = some (ek k) := by simp [hj,h1,entA]
 have hkj : (entA ek ps[j]).key = ek k := by rw [h1];rfl
 simp [hu,CC7 h,hK.chk,hK.find,h2,hj,hkj,hks]
 rw [e]
 exact MapKept.run_setObj_map (P := P) (.map ((ps.map (entA ek)).set j ⟨ek k,v,s⟩).toArray c) (h.get (b := b) .head)
theorem DM7 {α β : Type} (f : α → β) : ∀ (l : List α) (j : Nat),(l.map f).eraseIdx j = (l.eraseIdx j).map f
 | [],_ => by simp
 | x :: l,0 => rfl
 | x :: l,j + 1 => by simp [DM7 f l j]
def delA (ps : List (κ × Value × Nat)) (k : κ) : List (κ × Value × Nat) := ps.filter fun x => decide (x.1 ≠ k)
theorem Fh7 {k : κ} {ps : List (κ × Value × Nat)} (h : ∀ x ∈ ps,x.1 ≠ k) : delA ps k = ps := List.filter_eq_self.2 fun x hx => by simpa using h x hx
theorem JU7 {k : κ} {u : Value} {s : Nat} : ∀ (ps : List (κ × Value × Nat)) (j : Nat) (hj : j < ps.length),(ps.map (·.1)).Nodup → ps[j] = (k,u,s) → delA ps k = ps.eraseIdx j
 | x :: ps,0,_,hn,hx => by
  have hx' : x = (k,u,s) := hx
  rw [List.map_cons,List.nodup_cons,hx'] at hn
  have h1 : delA ps k = ps := Fh7 fun y hy e => hn.1 (List.mem_map.2 ⟨y,hy,e⟩)
  unfold delA at h1 ⊢
  rw [List.filter_cons,hx',if_neg (by simp),h1];rfl
 | x :: ps,j + 1,hj,hn,hx => by
  rw [List.map_cons,List.nodup_cons] at hn
  have hj' : j < ps.length := by simpa using hj
  have hx' : ps[j] = (k,u,s) := hx
  have hne : x.1 ≠ k := fun e => hn.1 (List.mem_map.2 ⟨ps[j],List.getElem_mem _,by rw [hx',e]⟩)
  have := JU7 ps j hj' hn.2 hx'
  unfold delA at this ⊢
  rw [List.filter_cons,if_pos (by simpa using hne),this];rfl
theorem Im7 {b c : Nat} {ps : List (κ × Value × Nat)} {k : κ} {k2 ty : TypeId} (h : St W (mapR b (ps.map (entA ek)) c :: L) w) (ht : tyMap P t = some (K,E)) (hK : KeyOk P K ek) (hn : (ps.map (·.1)).Nodup) :
  ∃ w',(Builtin.delete_ #[t,k2] ty #[.map (some b),ek k]).run P w = .ok (.tuple #[]) w' ∧ St W (mapR b ((delA ps k).map (entA ek)) c :: L) w' := by
 have hu := run_underlying (P := P) (Bm7 ht) w
 by_cases hk : ∃ x ∈ ps,x.1 = k
 ·obtain ⟨⟨k',v,s⟩,hx,rfl⟩ := hk
  obtain ⟨j,hj,h1,h2⟩ := DX7 ps 0 hn hx
  rw [Nat.zero_add] at h2
  refine ⟨_,?_,h.setMap⟩
  rw [JU7 ps j hj hn h1]
  unfold Builtin.delete_
  have hs := MapKept.run_setObj_map (P := P) (.map ((ps.eraseIdx j).map (entA ek)).toArray c) (h.get (b := b) .head)
  have e : (ps.map (entA ek)).eraseIdx j = (ps.eraseIdx j).map (entA ek) := DM7 (entA ek) ps j
  simp [hu,CC7 h,hK.chk,hK.find,h2,e,hs]
 ·have hn' : ∀ x ∈ ps,x.1 ≠ k := fun x hx e => hk ⟨x,hx,e⟩
  refine ⟨_,?_,h.setMap⟩
  rw [Fh7 hn']
  unfold Builtin.delete_
  have hs := MapKept.run_setObj_map (P := P) (.map (ps.map (entA ek)).toArray c) (h.get (b := b) .head)
  simp [hu,CC7 h,hK.chk,hK.find,DW7 ps 0 hn',hs]
end
end Go.Sl
end
