/-
  The document's vault: Put and Take. For every vault.
  The document's vault: Order. For every vault and order.
-/
import Derived.Test.YtlmhakmoioogaaaGreatEconSpansM5
import Derived.Test.YtlmhakmoioogaaaGreatEconSpansM18
import Derived.Test.YtlmhakmoioogaaaGreatEconSpansM34
set_option maxHeartbeats 16000000
set_option maxRecDepth 100000
set_option linter.unusedSimpArgs false
set_option linter.unusedVariables false
section
namespace Go.Proofs.YtlmhakmoioogaaaGreat
open Go.RowKit Go.Sl
section
variable (xb : Nat) (vB : Value) (n : Int) (p : Ps) (N : Nat) (W w : World) (R : List HP)
theorem put8 (hw : PsW p N) (hN : N ≤ 1000000) (k : ByteArray) (i : It) (hS : St W (xvP xb vB n p :: R) w) :
  Calls Tryz.prog 51 #[.pointer (some ⟨xb,0,none⟩),.string k,.agg i.cells.toArray] w fun e w' => e = .returned (.int .i64 (putE p k i)) ∧ St W (xvP xb vB n (putP p k i) :: R) w' := by
 obtain ⟨x0,x1,x2,x3⟩ := i
 have Hw := Lib.hid hw
 clear hw
 cases hk : whoB k with
 | false =>
  have e1 : putE p k ⟨x0,x1,x2,x3⟩ = 1 := by simp [putE,hk]
  have e2 : putP p k ⟨x0,x1,x2,x3⟩ = p := by simp [putP,hk]
  rw [e1,e2]
  clear e1 e2
  simp only [It.cells]
  go_enter Tryz.func51,Tryz.ntmps51
  go_wp2_with (first|go_big_skip|(go_at_call 115;refine (key8 k W _ _ hS).mono ?_;clear hS;rw [hk];rintro e w ⟨rfl,hS⟩)|(refine zbx hS ?_;clear hS;intro b w hS))
  go_ret
  exact ⟨rfl,hS.drop⟩
 | true =>
  cases hi : isIt ⟨x0,x1,x2,x3⟩ with
  | false =>
   have e1 : putE p k ⟨x0,x1,x2,x3⟩ = 1 := by simp [putE,hk,hi]
   have e2 : putP p k ⟨x0,x1,x2,x3⟩ = p := by simp [putP,hk,hi]
   rw [e1,e2]
   clear e1 e2
   simp only [It.cells]
   go_enter Tryz.func51,Tryz.ntmps51
   go_wp2_with (first|(go_at_call 115;refine (key8 k W _ _ hS).mono ?_;clear hS;rw [hk];rintro e w ⟨rfl,hS⟩)|(go_at_call 116;refine (Ce7 _ _ _ _ W _ _ hS).mono ?_;clear hS;rw [hi];rintro e w ⟨rfl,hS⟩)|(refine zbx hS ?_;clear hS;intro b w hS)|(refine zlN hS ?_))
   go_ret
   exact ⟨rfl,hS.drop⟩
  | true =>
   obtain ⟨px,hx⟩ : ∃ x,purseA p k = x := ⟨_,rfl⟩
   obtain ⟨p0,p1,p2,p3⟩ := px
   cases ha : addL [⟨p0,p1,p2,p3⟩,⟨x0,x1,x2,x3⟩] it0 with
   | none =>
    have e1 : putE p k ⟨x0,x1,x2,x3⟩ = 6 := by simp [putE,hk,hi,hx,ha]
    have e2 : putP p k ⟨x0,x1,x2,x3⟩ = p := by simp [putP,hk,hi,hx,ha]
    rw [e1,e2]
    have Hx := Lib.hid hx
    have Ha := Lib.hid ha
    clear ha hx e1 e2
    simp only [It.cells]
    go_enter Tryz.func51,Tryz.ntmps51
    go_wp2_with (first|(go_at_call 115;refine (key8 k W _ _ hS).mono ?_;clear hS;rw [hk];rintro e w ⟨rfl,hS⟩)|(go_at_call 116;refine (Ce7 _ _ _ _ W _ _ hS).mono ?_;clear hS;rw [hi];rintro e w ⟨rfl,hS⟩)|(refine zbx hS ?_;clear hS;intro b w hS)|(refine zlN hS ?_))
    refine Aa7 [0,0,3,0,15,31,63,127,127,0,767,2047] (fun i => i == 4 || i == 9) (fun i => if i == 2 then some (.agg #[.int .i64 p0,.int .i64 p1,.int .i64 p2,.int .i64 p3]) else if i == 5 then some (.tuple #[.agg #[.int .i64 0,.int .i64 0,.int .i64 0,.int .i64 0],.bool false]) else none) [⟨some 4,some 5,fun nd => row (nd 4) 4 29 2 ([(⟨p0,p1,p2,p3⟩ : It),⟨x0,x1,x2,x3⟩].flatMap It.cells)⟩,⟨some 9,some 10,fun nd => ptrTo (nd 9) [.int .i64 0,.int .i64 0,.int .i64 0,.int .i64 0] 29⟩,⟨some 10,none,fun nd => ptrTo (nd 9) [.int .i64 0,.int .i64 0,.int .i64 0,.int .i64 0] 29⟩] [none,none] (by kernel_rfl) (by kernel_rfl) rfl hS (CongOk.cons (fun nd nd' h => by dsimp only;rw [h 4 rfl rfl]) (CongOk.cons (fun nd nd' h => by dsimp only;rw [h 9 rfl rfl]) (CongOk.cons (fun nd nd' h => by dsimp only;rw [h 9 rfl rfl]) CongOk.nil))) ?_
    intro nd
    iterate 2 (refine cQ ?_;intro K hK;go_big_quiet_op;go_big_quiet_on)
    (refine zcv ?_ (hs := by (intro F w hS;(try clear hS0);exact Dh7 Hw.out Hx.out hS (by exact takO))))
    (refine zcN ?_)
    (apply Bj7;rfl;(with_reducible rfl);rfl;(focus (simp only [fD,fI,fJ,Act.eval,fE,fF,fG,fH,fK];try rfl));(exact esS);(exact rsS);rfl;rfl;rfl;rfl;rfl;decide;(intro _;rfl);rfl;(intro _;rfl);(refine frS ?_))
    (refine zcv ?_ (hs := by (intro F w hS;(try clear hS0);exact Lf7 Ha.out _ W w _ hS)))
    iterate 3 (refine cQ ?_;intro K hK;go_big_quiet_op;go_big_quiet_on)
    (refine zca ?_)
    (refine zct ?_)
    (refine cQ ?_;intro K hK;go_big_quiet_op;go_big_quiet_on)
    refine Ag7 ?_
    clear hS
    intro w hS
    have hS2 : St W [ptrTo (nd 9) _ _,blk b _ _,xvP xb vB n p,sats R] w := hS
    clear hS
    have hS := hS2.unpack [_,_,_]
    clear hS2
    simp only [fL,fM] at hS
    generalize nd 9 = v12 at *
    have h1 := hS.ptr;clear hS;obtain ⟨b2,rfl,hS⟩ := h1
    go_wp2_with (fail)
    go_ret
    exact ⟨rfl,hS.sel (by exact selS)⟩
   | some s =>
    obtain ⟨s0,s1,s2,s3⟩ := s
    have e1 : putE p k ⟨x0,x1,x2,x3⟩ = 0 := by simp [putE,hk,hi,hx,ha]
    have e2 : putP p k ⟨x0,x1,x2,x3⟩ = layP p k ⟨s0,s1,s2,s3⟩ := by simp [putP,hk,hi,hx,ha,subIt]
    rw [e1,e2]
    have Hx := Lib.hid hx
    have Ha := Lib.hid ha
    clear ha hx e1 e2
    simp only [It.cells]
    go_enter Tryz.func51,Tryz.ntmps51
    go_wp2_with (first|(go_at_call 115;refine (key8 k W _ _ hS).mono ?_;clear hS;rw [hk];rintro e w ⟨rfl,hS⟩)|(go_at_call 116;refine (Ce7 _ _ _ _ W _ _ hS).mono ?_;clear hS;rw [hi];rintro e w ⟨rfl,hS⟩)|(refine zbx hS ?_;clear hS;intro b w hS)|(refine zlN hS ?_))
    refine Aa7 [0,0,3,0,15,31,63,127,127,0,767,2047] (fun i => i == 4 || i == 9) (fun i => if i == 2 then some (.agg #[.int .i64 p0,.int .i64 p1,.int .i64 p2,.int .i64 p3]) else if i == 5 then some (.tuple #[.agg #[.int .i64 s0,.int .i64 s1,.int .i64 s2,.int .i64 s3],.bool true]) else none) [⟨some 4,some 5,fun nd => row (nd 4) 4 29 2 ([(⟨p0,p1,p2,p3⟩ : It),⟨x0,x1,x2,x3⟩].flatMap It.cells)⟩,⟨some 9,some 10,fun nd => ptrTo (nd 9) [.int .i64 0,.int .i64 0,.int .i64 0,.int .i64 0] 29⟩,⟨some 10,none,fun nd => ptrTo (nd 9) [.int .i64 s0,.int .i64 s1,.int .i64 s2,.int .i64 s3] 29⟩] [none,none] (by kernel_rfl) (by kernel_rfl) rfl hS (CongOk.cons (fun nd nd' h => by dsimp only;rw [h 4 rfl rfl]) (CongOk.cons (fun nd nd' h => by dsimp only;rw [h 9 rfl rfl]) (CongOk.cons (fun nd nd' h => by dsimp only;rw [h 9 rfl rfl]) CongOk.nil))) ?_
    intro nd
    iterate 2 (refine cQ ?_;intro K hK;go_big_quiet_op;go_big_quiet_on)
    (refine zcv ?_ (hs := by (intro F w hS;(try clear hS0);exact Dh7 Hw.out Hx.out hS (by exact takO))))
    (refine zcN ?_)
    (apply Bj7;rfl;(with_reducible rfl);rfl;(focus (simp only [fD,fI,fJ,Act.eval,fE,fF,fG,fH,fK];try rfl));(exact esS);(exact rsS);rfl;rfl;rfl;rfl;rfl;decide;(intro _;rfl);rfl;(intro _;rfl);(refine frS ?_))
    (refine zcv ?_ (hs := by (intro F w hS;(try clear hS0);exact Le7 Ha.out _ W w _ hS)))
    iterate 3 (refine cQ ?_;intro K hK;go_big_quiet_op;go_big_quiet_on)
    (refine zca ?_)
    (refine zct ?_)
    (refine cQ ?_;intro K hK;go_big_quiet_op;go_big_quiet_on)
    refine Ag7 ?_
    clear hS
    intro w hS
    have hS2 : St W [ptrTo (nd 9) _ _,blk b _ _,xvP xb vB n p,sats R] w := hS
    clear hS
    have hS := hS2.unpack [_,_,_]
    clear hS2
    simp only [fL,fM] at hS
    generalize nd 9 = v12 at *
    have h1 := hS.ptr;clear hS;obtain ⟨b2,rfl,hS⟩ := h1
    go_wp2_with (first|(go_at_call 119;refine (set8P Hw.out hN k ⟨s0,s1,s2,s3⟩ (hS.sel (L' := xvP xb vB n p :: R) (by exact selS))).mono ?_;clear hS;rintro e w ⟨rfl,hS⟩)|(refine zlN hS ?_))
    go_ret
    exact ⟨rfl,hS⟩
theorem take8 (hw : PsW p N) (hN : N ≤ 1000000) (k : ByteArray) (i : It) (hS : St W (xvP xb vB n p :: R) w) :
  Calls Tryz.prog 120 #[.pointer (some ⟨xb,0,none⟩),.string k,.agg i.cells.toArray] w fun e w' => e = .returned (.int .i64 (takeE p k i)) ∧ St W (xvP xb vB n (takeP p k i) :: R) w' := by
 obtain ⟨x0,x1,x2,x3⟩ := i
 have Hw := Lib.hid hw
 clear hw
 cases hk : whoB k with
 | false =>
  have e1 : takeE p k ⟨x0,x1,x2,x3⟩ = 1 := by simp [takeE,hk]
  have e2 : takeP p k ⟨x0,x1,x2,x3⟩ = p := by simp [takeP,hk]
  rw [e1,e2]
  clear e1 e2
  simp only [It.cells]
  go_enter Tryz.func120,Tryz.ntmps120
  go_wp2_with (first|go_big_skip|(go_at_call 115;refine (key8 k W _ _ hS).mono ?_;clear hS;rw [hk];rintro e w ⟨rfl,hS⟩)|(refine zbx hS ?_;clear hS;intro b w hS))
  go_ret
  exact ⟨rfl,hS.drop⟩
 | true =>
  cases hi : isIt ⟨x0,x1,x2,x3⟩ with
  | false =>
   have e1 : takeE p k ⟨x0,x1,x2,x3⟩ = 1 := by simp [takeE,hk,hi]
   have e2 : takeP p k ⟨x0,x1,x2,x3⟩ = p := by simp [takeP,hk,hi]
   rw [e1,e2]
   clear e1 e2
   simp only [It.cells]
   go_enter Tryz.func120,Tryz.ntmps120
   go_wp2_with (first|(go_at_call 115;refine (key8 k W _ _ hS).mono ?_;clear hS;rw [hk];rintro e w ⟨rfl,hS⟩)|(go_at_call 116;refine (Ce7 _ _ _ _ W _ _ hS).mono ?_;clear hS;rw [hi];rintro e w ⟨rfl,hS⟩)|(refine zbx hS ?_;clear hS;intro b w hS)|(refine zlN hS ?_))
   go_ret
   exact ⟨rfl,hS.drop⟩
  | true =>
   obtain ⟨px,hx⟩ : ∃ x,purseA p k = x := ⟨_,rfl⟩
   obtain ⟨p0,p1,p2,p3⟩ := px
   cases ha : subOk ⟨p0,p1,p2,p3⟩ ⟨x0,x1,x2,x3⟩ with
   | false =>
    have e1 : takeE p k ⟨x0,x1,x2,x3⟩ = 14 := by simp [takeE,hk,hi,hx,ha]
    have e2 : takeP p k ⟨x0,x1,x2,x3⟩ = p := by simp [takeP,hk,hi,hx,ha]
    rw [e1,e2]
    have Hx := Lib.hid hx
    have Ha := Lib.hid ha
    clear ha hx e1 e2
    simp only [It.cells]
    go_enter Tryz.func120,Tryz.ntmps120
    go_wp2_with (first|(go_at_call 115;refine (key8 k W _ _ hS).mono ?_;clear hS;rw [hk];rintro e w ⟨rfl,hS⟩)|(go_at_call 116;refine (Ce7 _ _ _ _ W _ _ hS).mono ?_;clear hS;rw [hi];rintro e w ⟨rfl,hS⟩)|(refine zbx hS ?_;clear hS;intro b w hS)|(refine zlN hS ?_))
    refine Aa7 [0,0,3,0,15,31,63,63,0,383,1023] (fun i => i == 8) (fun i => if i == 2 then some (.agg #[.int .i64 p0,.int .i64 p1,.int .i64 p2,.int .i64 p3]) else if i == 4 then some (.tuple #[.agg #[.int .i64 (0),.int .i64 (0),.int .i64 (0),.int .i64 (0)],.bool false]) else none) [⟨some 8,some 9,fun nd => ptrTo (nd 8) [.int .i64 0,.int .i64 0,.int .i64 0,.int .i64 0] 29⟩,⟨some 9,none,fun nd => ptrTo (nd 8) [.int .i64 (0),.int .i64 (0),.int .i64 (0),.int .i64 (0)] 29⟩] [none,none] (by kernel_rfl) (by kernel_rfl) rfl hS (CongOk.cons (fun nd nd' h => by dsimp only;rw [h 8 rfl rfl]) (CongOk.cons (fun nd nd' h => by dsimp only;rw [h 8 rfl rfl]) CongOk.nil)) ?_
    intro nd
    iterate 2 (refine cQ ?_;intro K hK;go_big_quiet_op;go_big_quiet_on)
    (refine zcv ?_ (hs := by (intro F w hS;(try clear hS0);exact Dh7 Hw.out Hx.out hS (by exact takO))))
    (refine zcN ?_)
    (refine zcv ?_ (hs := by (intro F w hS;(try clear hS0);exact NN7 Ha.out W w _ hS)))
    iterate 3 (refine cQ ?_;intro K hK;go_big_quiet_op;go_big_quiet_on)
    (refine zca ?_)
    (refine zct ?_)
    (refine cQ ?_;intro K hK;go_big_quiet_op;go_big_quiet_on)
    refine Ag7 ?_
    clear hS
    intro w hS
    have hS2 : St W [ptrTo (nd 8) _ _,blk b _ _,xvP xb vB n p,sats R] w := hS
    clear hS
    have hS := hS2.unpack [_,_,_]
    clear hS2
    simp only [fL,fM] at hS
    generalize nd 8 = v12 at *
    have h1 := hS.ptr;clear hS;obtain ⟨b2,rfl,hS⟩ := h1
    go_wp2_with (fail)
    go_ret
    exact ⟨rfl,hS.sel (by exact selS)⟩
   | true =>
    have e1 : takeE p k ⟨x0,x1,x2,x3⟩ = 0 := by simp [takeE,hk,hi,hx,ha]
    have e2 : takeP p k ⟨x0,x1,x2,x3⟩ = layP p k ⟨p0 - x0,p1 - x1,p2 - x2,p3 - x3⟩ := by simp [takeP,hk,hi,hx,ha,subIt]
    rw [e1,e2]
    have Hx := Lib.hid hx
    have Ha := Lib.hid ha
    clear ha hx e1 e2
    simp only [It.cells]
    go_enter Tryz.func120,Tryz.ntmps120
    go_wp2_with (first|(go_at_call 115;refine (key8 k W _ _ hS).mono ?_;clear hS;rw [hk];rintro e w ⟨rfl,hS⟩)|(go_at_call 116;refine (Ce7 _ _ _ _ W _ _ hS).mono ?_;clear hS;rw [hi];rintro e w ⟨rfl,hS⟩)|(refine zbx hS ?_;clear hS;intro b w hS)|(refine zlN hS ?_))
    refine Aa7 [0,0,3,0,15,31,63,63,0,383,1023] (fun i => i == 8) (fun i => if i == 2 then some (.agg #[.int .i64 p0,.int .i64 p1,.int .i64 p2,.int .i64 p3]) else if i == 4 then some (.tuple #[.agg #[.int .i64 (p0 - x0),.int .i64 (p1 - x1),.int .i64 (p2 - x2),.int .i64 (p3 - x3)],.bool true]) else none) [⟨some 8,some 9,fun nd => ptrTo (nd 8) [.int .i64 0,.int .i64 0,.int .i64 0,.int .i64 0] 29⟩,⟨some 9,none,fun nd => ptrTo (nd 8) [.int .i64 (p0 - x0),.int .i64 (p1 - x1),.int .i64 (p2 - x2),.int .i64 (p3 - x3)] 29⟩] [none,none] (by kernel_rfl) (by kernel_rfl) rfl hS (CongOk.cons (fun nd nd' h => by dsimp only;rw [h 8 rfl rfl]) (CongOk.cons (fun nd nd' h => by dsimp only;rw [h 8 rfl rfl]) CongOk.nil)) ?_
    intro nd
    iterate 2 (refine cQ ?_;intro K hK;go_big_quiet_op;go_big_quiet_on)
    (refine zcv ?_ (hs := by (intro F w hS;(try clear hS0);exact Dh7 Hw.out Hx.out hS (by exact takO))))
    (refine zcN ?_)
    (refine zcv ?_ (hs := by (intro F w hS;(try clear hS0);exact Mx7 Ha.out W w _ hS)))
    iterate 3 (refine cQ ?_;intro K hK;go_big_quiet_op;go_big_quiet_on)
    (refine zca ?_)
    (refine zct ?_)
    (refine cQ ?_;intro K hK;go_big_quiet_op;go_big_quiet_on)
    refine Ag7 ?_
    clear hS
    intro w hS
    have hS2 : St W [ptrTo (nd 8) _ _,blk b _ _,xvP xb vB n p,sats R] w := hS
    clear hS
    have hS := hS2.unpack [_,_,_]
    clear hS2
    simp only [fL,fM] at hS
    generalize nd 8 = v12 at *
    have h1 := hS.ptr;clear hS;obtain ⟨b2,rfl,hS⟩ := h1
    go_wp2_with (first|(go_at_call 119;refine (set8P Hw.out hN k ⟨p0 - x0,p1 - x1,p2 - x2,p3 - x3⟩ (hS.sel (L' := xvP xb vB n p :: R) (by exact selS))).mono ?_;clear hS;rintro e w ⟨rfl,hS⟩)|(refine zlN hS ?_))
    go_ret
    exact ⟨rfl,hS⟩
end
def xkP (xB : Nat) (L : List Ord) (n : Int) : HP := fun f => ∃ (v : Value) (last : Int),last < n ∧ sats [blk xB [v,.int .i64 last] 244,pileR v L] f
section
variable {W w : World} {xB : Nat} {L : List Ord} {n : Int} {R : List HP}
theorem xkOpen (h : St W (xkP xB L n :: R) w) : ∃ a c last,last < n ∧ St W (blk xB [.slice a L.length c,.int .i64 last] 244 :: pileR (.slice a L.length c) L :: R) w := by
 obtain ⟨v,h⟩ := St.ex h
 obtain ⟨last,h⟩ := St.ex h
 obtain ⟨h1,h⟩ := St.and h
 have hS := (St.split (St.split h).swap).swap.drop.swap
 obtain ⟨a,c,rfl⟩ := hS.drop.rowVal
 exact ⟨a,c,last,h1,hS⟩
theorem xkShut {v : Value} {last : Int} (hl : last < n) (h : St W (blk xB [v,.int .i64 last] 244 :: pileR v L :: R) w) : St W (xkP xB L n :: R) w := by
 refine St.mkEx v (St.mkEx last (St.mkAnd hl ?_))
 refine St.join ?_
 refine St.swap (St.imp h.swap ?_)
 intro f hf
 exact ⟨fun _ => true,hf,trivial⟩
end
abbrev xvR (xb xB : Nat) (p : Ps) (L : List Ord) (n : Int) (R : List HP) : List HP := xvP xb (.pointer (some ⟨xB,0,none⟩)) n p :: xkP xB L n :: R
section
variable (xb xB : Nat) (p : Ps) (L : List Ord) (n : Int) (N : Nat) (o : Ord) (W w : World) (R : List HP)
theorem Jy7 (h : may1 o = false) (hS : St W (xvR xb xB p L n R) w) :
  Calls Tryz.prog 121 #[.pointer (some ⟨xb,0,none⟩),.agg o.cells.toArray] w fun e w' => e = .returned (.tuple #[.int .i64 0,.int .i64 1]) ∧ St W (xvR xb xB p L n R) w' := by
 obtain ⟨i,u,y,t,c,pr⟩ := o
 have hm : mayB ⟨1,u,y,t,c,pr⟩ = false := h
 clear h
 simp only [Ord.cells]
 obtain ⟨xv,hS1⟩ := xvOpen hS
 obtain ⟨la,lc,last,hlast,hS2⟩ := xkOpen (hS1.sel (L' := xkP xB L n :: blk xb _ _ :: hdR _ (hdL p) :: R) (by exact selS))
 clear hS hS1
 have hS := hS2
 clear hS2
 go_enter Tryz.func121,Tryz.ntmps121
 go_wp2_with (first|(go_at_call 182;refine (AZ7 ⟨1,u,y,t,c,pr⟩ W _ _ hS).mono ?_;clear hS;rw [hm];rintro e w ⟨rfl,hS⟩)|((with_reducible apply Ay7 hS);(with_reducible rfl);rfl;rfl;rfl;clear hS;intro b3 w hS;(refine frS ?_))|((with_reducible apply Au7 hS);(with_reducible rfl);rfl;(exact zsS);clear hS;intro b6 w hS;(refine frS ?_))|(refine zl1 hS ?_)|(refine zlN hS ?_)|(refine zs1 hS ?_;clear hS;intro w hS)|(refine zsN hS ?_;clear hS;intro w hS))
 go_ret2
 have hS1 := xkShut hlast (hS.sel (L' := blk xB _ _ :: pileR _ L :: blk xb _ _ :: hdR _ (hdL p) :: R) (by exact selS))
 exact ⟨rfl,xvShut (hS1.sel (L' := blk xb _ _ :: hdR _ (hdL p) :: xkP xB L n :: R) (by exact selS))⟩
theorem HS7 (h : may1 o = true) (hf : 32 ≤ L.length ∨ 1099511627776 < n) (hS : St W (xvR xb xB p L n R) w) :
  Calls Tryz.prog 121 #[.pointer (some ⟨xb,0,none⟩),.agg o.cells.toArray] w fun e w' => e = .returned (.tuple #[.int .i64 0,.int .i64 6]) ∧ St W (xvR xb xB p L n R) w' := by
 obtain ⟨i,u,y,t,c,pr⟩ := o
 have hm : mayB ⟨1,u,y,t,c,pr⟩ = true := h
 clear h
 simp only [Ord.cells]
 obtain ⟨xv,hS1⟩ := xvOpen hS
 obtain ⟨la,lc,last,hlast,hS2⟩ := xkOpen (hS1.sel (L' := xkP xB L n :: blk xb _ _ :: hdR _ (hdL p) :: R) (by exact selS))
 clear hS hS1
 have hS := hS2
 clear hS2
 by_cases hl : 32 ≤ L.length
 ·have d1 : (32 : Int) ≤ (L.length : Int) := by omega
  clear hf
  go_enter Tryz.func121,Tryz.ntmps121
  go_wp2_with (first|(go_at_call 182;refine (AZ7 ⟨1,u,y,t,c,pr⟩ W _ _ hS).mono ?_;clear hS;rw [hm];rintro e w ⟨rfl,hS⟩)|((with_reducible apply Ay7 hS);(with_reducible rfl);rfl;rfl;rfl;clear hS;intro b3 w hS;(refine frS ?_))|((with_reducible apply Au7 hS);(with_reducible rfl);rfl;(exact zsS);clear hS;intro b6 w hS;(refine frS ?_))|(refine zl1 hS ?_)|(refine zlN hS ?_)|(refine zs1 hS ?_;clear hS;intro w hS)|(refine zsN hS ?_;clear hS;intro w hS))
  go_ret2
  have hS1 := xkShut hlast (hS.sel (L' := blk xB _ _ :: pileR _ L :: blk xb _ _ :: hdR _ (hdL p) :: R) (by exact selS))
  exact ⟨rfl,xvShut (hS1.sel (L' := blk xb _ _ :: hdR _ (hdL p) :: xkP xB L n :: R) (by exact selS))⟩
 ·have d1 : decide ((32 : Int) ≤ (L.length : Int)) = false := by simp;omega
  have d2 : 1099511627776 < n := hf.resolve_left hl
  clear hf hl
  go_enter Tryz.func121,Tryz.ntmps121
  go_wp2_with (first|(go_at_call 182;refine (AZ7 ⟨1,u,y,t,c,pr⟩ W _ _ hS).mono ?_;clear hS;rw [hm];rintro e w ⟨rfl,hS⟩)|((with_reducible apply Ay7 hS);(with_reducible rfl);rfl;rfl;rfl;clear hS;intro b3 w hS;(refine frS ?_))|((with_reducible apply Au7 hS);(with_reducible rfl);rfl;(exact zsS);clear hS;intro b6 w hS;(refine frS ?_))|(refine zl1 hS ?_)|(refine zlN hS ?_)|(refine zs1 hS ?_;clear hS;intro w hS)|(refine zsN hS ?_;clear hS;intro w hS))
  go_ret2
  have hS1 := xkShut hlast (hS.sel (L' := blk xB _ _ :: pileR _ L :: blk xb _ _ :: hdR _ (hdL p) :: R) (by exact selS))
  exact ⟨rfl,xvShut (hS1.sel (L' := blk xb _ _ :: hdR _ (hdL p) :: xkP xB L n :: R) (by exact selS))⟩
theorem ES7 {o : Ord} {h0 h1 h2 h3 : Int} (hm : MayP o) (h : holdsF o = ⟨h0,h1,h2,h3⟩) (W w : World) (R : List HP) (hS : St W R w) :
  Calls Tryz.prog 183 #[.agg o.cells.toArray] w fun e w' => e = .returned (.agg #[.int .i64 h0,.int .i64 h1,.int .i64 h2,.int .i64 h3]) ∧ St W R w' :=
 (holds8 o hm W w R hS).mono fun e w' ⟨he,hS⟩ => ⟨by rw [he,h];rfl,hS⟩
theorem GY7 (hw : PsW p N) (hN : N ≤ 1000000) (h : may1 o = true) (hL : L.length < 32) (hn0 : 1 ≤ n) (hn : n ≤ 1099511627776) (ht : takeE p o.who (holdsF o) = 14) (hS : St W (xvR xb xB p L n R) w) :
  Calls Tryz.prog 121 #[.pointer (some ⟨xb,0,none⟩),.agg o.cells.toArray] w fun e w' => e = .returned (.tuple #[.int .i64 0,.int .i64 14]) ∧ St W (xvR xb xB p L n R) w' := by
 obtain ⟨i,u,y,t,c,pr⟩ := o
 have hm : mayB ⟨1,u,y,t,c,pr⟩ = true := h
 have hm1 := Av7.1 hm
 have hm2 : MayP ⟨n,u,y,t,c,pr⟩ := ⟨hn0,hn,hm1.who0,hm1.who1,hm1.item0,hm1.item1,hm1.cnt0,hm1.cnt1,hm1.price0,hm1.price1⟩
 have ht' : takeE p u (holdsF ⟨n,u,y,t,c,pr⟩) = 14 := ht
 have hp' : takeP p u (holdsF ⟨n,u,y,t,c,pr⟩) = p := by
  unfold takeE at ht'
  unfold takeP
  split at ht'
  ·rename_i hc
   rw [if_pos hc]
   split at ht'
   ·cases ht'
   ·rename_i hs;rw [if_neg hs]
  ·cases ht'
 have Hm2 := Lib.hid hm2
 have Hw := Lib.hid hw
 clear h ht hm1 hm2 hw
 have d1 : decide ((32 : Int) ≤ (L.length : Int)) = false := by simp;omega
 have d2 : decide ((1099511627776 : Int) < n) = false := by simp;omega
 simp only [Ord.cells]
 obtain ⟨it,hit⟩ : ∃ x,holdsF ⟨n,u,y,t,c,pr⟩ = x := ⟨_,rfl⟩
 rw [hit] at ht' hp'
 obtain ⟨h0,h1,h2,h3⟩ := it
 have Hit := Lib.hid hit
 have Hte := Lib.hid ht'
 have Htp := Lib.hid hp'
 clear hit ht' hp'
 obtain ⟨xv,hS1⟩ := xvOpen hS
 obtain ⟨la,lc,last,hlast,hS2⟩ := xkOpen (hS1.sel (L' := xkP xB L n :: blk xb _ _ :: hdR _ (hdL p) :: R) (by exact selS))
 clear hS hS1
 have hS := hS2
 clear hS2
 go_enter Tryz.func121,Tryz.ntmps121
 go_wp2_with (first|(go_at_call 182;refine (AZ7 ⟨1,u,y,t,c,pr⟩ W _ _ hS).mono ?_;clear hS;rw [hm];rintro e w ⟨rfl,hS⟩)|((with_reducible apply Ay7 hS);(with_reducible rfl);rfl;rfl;rfl;clear hS;intro b3 w hS;(refine frS ?_))|((with_reducible apply Au7 hS);(with_reducible rfl);rfl;(exact zsS);clear hS;intro b6 w hS;(refine frS ?_))|(refine zl1 hS ?_)|(refine zlN hS ?_)|(refine zs1 hS ?_;clear hS;intro w hS)|(refine zsN hS ?_;clear hS;intro w hS))
 refine Af7 5 (by kernel_rfl) (by kernel_rfl) hS ?_
 iterate 2 (refine qQ ?_;intro K hK;go_big_quiet_op;go_big_quiet_on)
 (refine zq1 ?_)
 (refine zqN ?_)
 (apply Ar7;rfl;(intro w;apply Ai7;(with_reducible rfl);decide +kernel;(focus (simp only [fD,fI,fJ,Act.eval,fE,fF,fG,fH,fK];try rfl)));(intro w hS;exact ES7 (o := ⟨n,u,y,t,c,pr⟩) Hm2.out Hit.out W w _ hS);(refine frS ?_))
 clear hS
 intro w hS
 simp only [List.drop_succ_cons,List.drop_zero]
 go_wp2_with (first|(go_at_call 120;refine (take8 xb _ n p N W _ _ Hw.out hN u ⟨h0,h1,h2,h3⟩ (xvShut (hS.sel (L' := blk xb _ _ :: hdR _ (hdL p) :: blk xB _ _ :: pileR _ L :: blk b6 _ _ :: blk b3 _ _ :: R) (by exact selS)))).mono ?_;clear hS;rw [Hte.out,Htp.out];rintro e w ⟨rfl,hS⟩))
 go_ret2
 have hS1 := xkShut hlast (hS.sel (L' := blk xB _ _ :: pileR _ L :: xvP xb _ n p :: R) (by exact selS))
 exact ⟨rfl,hS1.sel (by exact selS)⟩
end
end Go.Proofs.YtlmhakmoioogaaaGreat
end
