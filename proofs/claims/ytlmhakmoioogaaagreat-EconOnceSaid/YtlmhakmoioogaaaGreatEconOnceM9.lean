/-
  The vault's Put and Take. For every vault.
  What an order holds; a purse has so many more. For every order and purse.
-/
import Derived.Test.YtlmhakmoioogaaaGreatEconOnceM5
import Derived.Test.YtlmhakmoioogaaaGreatEconOnceM8
set_option maxHeartbeats 16000000
set_option maxRecDepth 100000
set_option linter.unusedSimpArgs false
set_option linter.unusedVariables false
section
namespace Go.Proofs.YtlmhakmoioogaaaGreat
open Go.RowKit Go.Sl
def putE (p : Ps) (k : ByteArray) (i : It) : Int := if whoB k = true ∧ isIt i = true then (if (addL [purseA p k,i] it0).isSome = true then 0 else 6) else 1
def putP (p : Ps) (k : ByteArray) (i : It) : Ps := if whoB k = true ∧ isIt i = true then (match addL [purseA p k,i] it0 with|some s => layP p k s|none => p) else p
def takeE (p : Ps) (k : ByteArray) (i : It) : Int := if whoB k = true ∧ isIt i = true then (if subOk (purseA p k) i = true then 0 else 14) else 1
def takeP (p : Ps) (k : ByteArray) (i : It) : Ps := if whoB k = true ∧ isIt i = true then (if subOk (purseA p k) i = true then layP p k (subIt (purseA p k) i) else p) else p
section
variable (vb mb : Nat) (p : Ps) (k : ByteArray) (u1 u2 : Value) (i : It) (W w : World) (R : List HP)
theorem MB7 (hS : St W (blk vb [.map (some mb),u1,u2] 176 :: amap eS eP mb p :: R) w) :
  Calls Tryz.prog 102 #[.pointer (some ⟨vb,0,none⟩),.string k,.agg i.cells.toArray] w fun e w' => e = .returned (.int .i64 (putE p k i)) ∧ St W (blk vb [.map (some mb),u1,u2] 176 :: amap eS eP mb (putP p k i) :: R) w' := by
 obtain ⟨x0,x1,x2,x3⟩ := i
 cases hk : whoB k with
 | false =>
  have e1 : putE p k ⟨x0,x1,x2,x3⟩ = 1 := by simp [putE,hk]
  have e2 : putP p k ⟨x0,x1,x2,x3⟩ = p := by simp [putP,hk]
  rw [e1,e2]
  clear e1 e2
  simp only [It.cells]
  go_enter Tryz.func102,Tryz.ntmps102
  go_wp2_with (first|go_big_skip|(go_at_call 163;refine (BF7 k W _ _ hS).mono ?_;clear hS;rw [hk];rintro e w ⟨rfl,hS⟩)|(refine zbx hS ?_;clear hS;intro b w hS))
  go_ret
  exact ⟨rfl,hS.drop⟩
 | true =>
  cases hi : isIt ⟨x0,x1,x2,x3⟩ with
  | false =>
   have e1 : putE p k ⟨x0,x1,x2,x3⟩ = 1 := by simp [putE,hk,hi]
   have e2 : putP p k ⟨x0,x1,x2,x3⟩ = p := by simp [putP,hk,hi]
   rw [e1,e2]
   clear e1 e2
   simp only [It.cells]
   go_enter Tryz.func102,Tryz.ntmps102
   go_wp2_with (first|(go_at_call 163;refine (BF7 k W _ _ hS).mono ?_;clear hS;rw [hk];rintro e w ⟨rfl,hS⟩)|(go_at_call 126;refine (is_at _ _ _ _ W _ _ hS).mono ?_;clear hS;rw [hi];rintro e w ⟨rfl,hS⟩)|(refine zlN hS ?_)|(refine zbx hS ?_;clear hS;intro b w hS))
   go_ret
   exact ⟨rfl,hS.drop⟩
  | true =>
   obtain ⟨px,hx⟩ : ∃ x,purseA p k = x := ⟨_,rfl⟩
   obtain ⟨p0,p1,p2,p3⟩ := px
   cases ha : addL [⟨p0,p1,p2,p3⟩,⟨x0,x1,x2,x3⟩] it0 with
   | none =>
    have e1 : putE p k ⟨x0,x1,x2,x3⟩ = 6 := by simp [putE,hk,hi,hx,ha]
    have e2 : putP p k ⟨x0,x1,x2,x3⟩ = p := by simp [putP,hk,hi,hx,ha]
    rw [e1,e2]
    have Hx := Lib.hid hx
    have Ha := Lib.hid ha
    clear ha hx e1 e2
    simp only [It.cells]
    go_enter Tryz.func102,Tryz.ntmps102
    go_wp2_with (first|(go_at_call 163;refine (BF7 k W _ _ hS).mono ?_;clear hS;rw [hk];rintro e w ⟨rfl,hS⟩)|(go_at_call 126;refine (is_at _ _ _ _ W _ _ hS).mono ?_;clear hS;rw [hi];rintro e w ⟨rfl,hS⟩)|(refine zlN hS ?_)|(refine zbx hS ?_;clear hS;intro b w hS))
    refine Aa7 [0,1,3,7,0,31,0,127,255,511,1023,1023,0,6143,16383] (fun i => i == 7 || i == 12) (fun i => if i == 8 then some (.tuple #[.agg #[.int .i64 0,.int .i64 0,.int .i64 0,.int .i64 0],.bool false]) else none) [⟨some 7,some 8,fun nd => row (nd 7) 4 29 2 ([(⟨p0,p1,p2,p3⟩ : It),⟨x0,x1,x2,x3⟩].flatMap It.cells)⟩,⟨some 12,some 13,fun nd => ptrTo (nd 12) [.int .i64 0,.int .i64 0,.int .i64 0,.int .i64 0] 29⟩,⟨some 13,none,fun nd => ptrTo (nd 12) [.int .i64 0,.int .i64 0,.int .i64 0,.int .i64 0] 29⟩] [none,none,none] (by kernel_rfl) (by kernel_rfl) rfl hS (CongOk.cons (fun nd nd' h => by dsimp only;rw [h 7 rfl rfl]) (CongOk.cons (fun nd nd' h => by dsimp only;rw [h 12 rfl rfl]) (CongOk.cons (fun nd nd' h => by dsimp only;rw [h 12 rfl rfl]) CongOk.nil))) ?_
    intro nd
    repeat (first|(refine zc1 ?_)|(refine zcN ?_)|(refine zcn ?_)|(apply AI7 (ek := eS) (ev := eP) (k := k) it0 ⟨p0,p1,p2,p3⟩;rfl;kernel_rfl;(with_reducible rfl);rfl;rfl;rfl;(intro F;exact ⟨_,by exact takO⟩);exact mP;exact kS;exact zP;rfl;exact Hx.out;(simp only [Act.put,fA,fB,fC,Nat.reduceAdd,eP,It.cells]))|(refine cQ ?_;intro K hK;go_big_quiet_op;go_big_quiet_on))
    (apply Bm7;rfl;(with_reducible rfl);rfl;(focus (simp only [fD,fI,fJ,Act.eval,fE,fF,fG,fH,fK];try rfl));(exact esS);(exact rsS);rfl;rfl;rfl;rfl;rfl;decide;(intro _;rfl);rfl;(intro _;rfl);(refine frS ?_))
    (refine zcv ?_ (hs := by (intro F w hS;(try clear hS0);exact MA7 Ha.out _ W w _ hS)))
    iterate 3 (refine cQ ?_;intro K hK;go_big_quiet_op;go_big_quiet_on)
    (refine zca ?_)
    (refine zct ?_)
    (refine cQ ?_;intro K hK;go_big_quiet_op;go_big_quiet_on)
    refine Af7 ?_
    clear hS
    intro w hS
    have hS2 : St W [ptrTo (nd 12) _ _,blk b _ _,blk vb _ _,amap eS eP mb p,sats R] w := hS
    clear hS
    have hS := hS2.unpack [_,_,_,_]
    clear hS2
    simp only [fL,fM] at hS
    generalize nd 12 = v12 at *
    have h1 := hS.ptr;clear hS;obtain ⟨b2,rfl,hS⟩ := h1
    go_wp2_with (fail)
    go_ret
    exact ⟨rfl,hS.sel (by exact selS)⟩
   | some s =>
    obtain ⟨s0,s1,s2,s3⟩ := s
    have e1 : putE p k ⟨x0,x1,x2,x3⟩ = 0 := by simp [putE,hk,hi,hx,ha]
    have e2 : putP p k ⟨x0,x1,x2,x3⟩ = layP p k ⟨s0,s1,s2,s3⟩ := by simp [putP,hk,hi,hx,ha,subIt]
    rw [e1,e2]
    have Hx := Lib.hid hx
    have Ha := Lib.hid ha
    clear ha hx e1 e2
    simp only [It.cells]
    go_enter Tryz.func102,Tryz.ntmps102
    go_wp2_with (first|(go_at_call 163;refine (BF7 k W _ _ hS).mono ?_;clear hS;rw [hk];rintro e w ⟨rfl,hS⟩)|(go_at_call 126;refine (is_at _ _ _ _ W _ _ hS).mono ?_;clear hS;rw [hi];rintro e w ⟨rfl,hS⟩)|(refine zlN hS ?_)|(refine zbx hS ?_;clear hS;intro b w hS))
    refine Aa7 [0,1,3,7,0,31,0,127,255,511,1023,1023,0,6143,16383] (fun i => i == 7 || i == 12) (fun i => if i == 8 then some (.tuple #[.agg #[.int .i64 s0,.int .i64 s1,.int .i64 s2,.int .i64 s3],.bool true]) else none) [⟨some 7,some 8,fun nd => row (nd 7) 4 29 2 ([(⟨p0,p1,p2,p3⟩ : It),⟨x0,x1,x2,x3⟩].flatMap It.cells)⟩,⟨some 12,some 13,fun nd => ptrTo (nd 12) [.int .i64 0,.int .i64 0,.int .i64 0,.int .i64 0] 29⟩,⟨some 13,none,fun nd => ptrTo (nd 12) [.int .i64 s0,.int .i64 s1,.int .i64 s2,.int .i64 s3] 29⟩] [none,none,none] (by kernel_rfl) (by kernel_rfl) rfl hS (CongOk.cons (fun nd nd' h => by dsimp only;rw [h 7 rfl rfl]) (CongOk.cons (fun nd nd' h => by dsimp only;rw [h 12 rfl rfl]) (CongOk.cons (fun nd nd' h => by dsimp only;rw [h 12 rfl rfl]) CongOk.nil))) ?_
    intro nd
    repeat (first|(refine zc1 ?_)|(refine zcN ?_)|(refine zcn ?_)|(apply AI7 (ek := eS) (ev := eP) (k := k) it0 ⟨p0,p1,p2,p3⟩;rfl;kernel_rfl;(with_reducible rfl);rfl;rfl;rfl;(intro F;exact ⟨_,by exact takO⟩);exact mP;exact kS;exact zP;rfl;exact Hx.out;(simp only [Act.put,fA,fB,fC,Nat.reduceAdd,eP,It.cells]))|(refine cQ ?_;intro K hK;go_big_quiet_op;go_big_quiet_on))
    (apply Bm7;rfl;(with_reducible rfl);rfl;(focus (simp only [fD,fI,fJ,Act.eval,fE,fF,fG,fH,fK];try rfl));(exact esS);(exact rsS);rfl;rfl;rfl;rfl;rfl;decide;(intro _;rfl);rfl;(intro _;rfl);(refine frS ?_))
    (refine zcv ?_ (hs := by (intro F w hS;(try clear hS0);exact Mz7 Ha.out _ W w _ hS)))
    iterate 3 (refine cQ ?_;intro K hK;go_big_quiet_op;go_big_quiet_on)
    (refine zca ?_)
    (refine zct ?_)
    (refine cQ ?_;intro K hK;go_big_quiet_op;go_big_quiet_on)
    refine Af7 ?_
    clear hS
    intro w hS
    have hS2 : St W [ptrTo (nd 12) _ _,blk b _ _,blk vb _ _,amap eS eP mb p,sats R] w := hS
    clear hS
    have hS := hS2.unpack [_,_,_,_]
    clear hS2
    simp only [fL,fM] at hS
    generalize nd 12 = v12 at *
    have h1 := hS.ptr;clear hS;obtain ⟨b2,rfl,hS⟩ := h1
    go_wp2_with (first|(go_at_call 164;refine (AT7 vb mb p k u1 u2 W _ R ⟨s0,s1,s2,s3⟩ (hS.sel (by exact selS))).mono ?_;clear hS;rintro e w ⟨rfl,hS⟩)|(refine zlN hS ?_))
    go_ret
    exact ⟨rfl,hS⟩
theorem EL7 (hS : St W (blk vb [.map (some mb),u1,u2] 176 :: amap eS eP mb p :: R) w) :
  Calls Tryz.prog 104 #[.pointer (some ⟨vb,0,none⟩),.string k,.agg i.cells.toArray] w fun e w' => e = .returned (.int .i64 (takeE p k i)) ∧ St W (blk vb [.map (some mb),u1,u2] 176 :: amap eS eP mb (takeP p k i) :: R) w' := by
 obtain ⟨x0,x1,x2,x3⟩ := i
 cases hk : whoB k with
 | false =>
  have e1 : takeE p k ⟨x0,x1,x2,x3⟩ = 1 := by simp [takeE,hk]
  have e2 : takeP p k ⟨x0,x1,x2,x3⟩ = p := by simp [takeP,hk]
  rw [e1,e2]
  clear e1 e2
  simp only [It.cells]
  go_enter Tryz.func104,Tryz.ntmps104
  go_wp2_with (first|go_big_skip|(go_at_call 163;refine (BF7 k W _ _ hS).mono ?_;clear hS;rw [hk];rintro e w ⟨rfl,hS⟩)|(refine zbx hS ?_;clear hS;intro b w hS))
  go_ret
  exact ⟨rfl,hS.drop⟩
 | true =>
  cases hi : isIt ⟨x0,x1,x2,x3⟩ with
  | false =>
   have e1 : takeE p k ⟨x0,x1,x2,x3⟩ = 1 := by simp [takeE,hk,hi]
   have e2 : takeP p k ⟨x0,x1,x2,x3⟩ = p := by simp [takeP,hk,hi]
   rw [e1,e2]
   clear e1 e2
   simp only [It.cells]
   go_enter Tryz.func104,Tryz.ntmps104
   go_wp2_with (first|(go_at_call 163;refine (BF7 k W _ _ hS).mono ?_;clear hS;rw [hk];rintro e w ⟨rfl,hS⟩)|(go_at_call 126;refine (is_at _ _ _ _ W _ _ hS).mono ?_;clear hS;rw [hi];rintro e w ⟨rfl,hS⟩)|(refine zlN hS ?_)|(refine zbx hS ?_;clear hS;intro b w hS))
   go_ret
   exact ⟨rfl,hS.drop⟩
  | true =>
   obtain ⟨px,hx⟩ : ∃ x,purseA p k = x := ⟨_,rfl⟩
   obtain ⟨p0,p1,p2,p3⟩ := px
   cases ha : subOk ⟨p0,p1,p2,p3⟩ ⟨x0,x1,x2,x3⟩ with
   | false =>
    have e1 : takeE p k ⟨x0,x1,x2,x3⟩ = 14 := by simp [takeE,hk,hi,hx,ha]
    have e2 : takeP p k ⟨x0,x1,x2,x3⟩ = p := by simp [takeP,hk,hi,hx,ha]
    rw [e1,e2]
    have Hx := Lib.hid hx
    have Ha := Lib.hid ha
    clear ha hx e1 e2
    simp only [It.cells]
    go_enter Tryz.func104,Tryz.ntmps104
    go_wp2_with (first|(go_at_call 163;refine (BF7 k W _ _ hS).mono ?_;clear hS;rw [hk];rintro e w ⟨rfl,hS⟩)|(go_at_call 126;refine (is_at _ _ _ _ W _ _ hS).mono ?_;clear hS;rw [hi];rintro e w ⟨rfl,hS⟩)|(refine zlN hS ?_)|(refine zbx hS ?_;clear hS;intro b w hS))
    refine Aa7 [0,1,3,7,0,31,0,127,255,511,511,0,3071,8191] (fun i => i == 11) (fun i => if i == 7 then some (.tuple #[.agg #[.int .i64 (0),.int .i64 (0),.int .i64 (0),.int .i64 (0)],.bool false]) else none) [⟨some 11,some 12,fun nd => ptrTo (nd 11) [.int .i64 0,.int .i64 0,.int .i64 0,.int .i64 0] 29⟩,⟨some 12,none,fun nd => ptrTo (nd 11) [.int .i64 (0),.int .i64 (0),.int .i64 (0),.int .i64 (0)] 29⟩] [none,none,none] (by kernel_rfl) (by kernel_rfl) rfl hS (CongOk.cons (fun nd nd' h => by dsimp only;rw [h 11 rfl rfl]) (CongOk.cons (fun nd nd' h => by dsimp only;rw [h 11 rfl rfl]) CongOk.nil)) ?_
    intro nd
    repeat (first|(refine zc1 ?_)|(refine zcN ?_)|(refine zcn ?_)|(apply AI7 (ek := eS) (ev := eP) (k := k) it0 ⟨p0,p1,p2,p3⟩;rfl;kernel_rfl;(with_reducible rfl);rfl;rfl;rfl;(intro F;exact ⟨_,by exact takO⟩);exact mP;exact kS;exact zP;rfl;exact Hx.out;(simp only [Act.put,fA,fB,fC,Nat.reduceAdd,eP,It.cells]))|(refine cQ ?_;intro K hK;go_big_quiet_op;go_big_quiet_on))
    (refine zcv ?_ (hs := by (intro F w hS;(try clear hS0);exact Pi7 Ha.out W w _ hS)))
    iterate 3 (refine cQ ?_;intro K hK;go_big_quiet_op;go_big_quiet_on)
    (refine zca ?_)
    (refine zct ?_)
    (refine cQ ?_;intro K hK;go_big_quiet_op;go_big_quiet_on)
    refine Af7 ?_
    clear hS
    intro w hS
    have hS2 : St W [ptrTo (nd 11) _ _,blk b _ _,blk vb _ _,amap eS eP mb p,sats R] w := hS
    clear hS
    have hS := hS2.unpack [_,_,_,_]
    clear hS2
    simp only [fL,fM] at hS
    generalize nd 11 = v12 at *
    have h1 := hS.ptr;clear hS;obtain ⟨b2,rfl,hS⟩ := h1
    go_wp2_with (fail)
    go_ret
    exact ⟨rfl,hS.sel (by exact selS)⟩
   | true =>
    have e1 : takeE p k ⟨x0,x1,x2,x3⟩ = 0 := by simp [takeE,hk,hi,hx,ha]
    have e2 : takeP p k ⟨x0,x1,x2,x3⟩ = layP p k ⟨p0 - x0,p1 - x1,p2 - x2,p3 - x3⟩ := by simp [takeP,hk,hi,hx,ha,subIt]
    rw [e1,e2]
    have Hx := Lib.hid hx
    have Ha := Lib.hid ha
    clear ha hx e1 e2
    simp only [It.cells]
    go_enter Tryz.func104,Tryz.ntmps104
    go_wp2_with (first|(go_at_call 163;refine (BF7 k W _ _ hS).mono ?_;clear hS;rw [hk];rintro e w ⟨rfl,hS⟩)|(go_at_call 126;refine (is_at _ _ _ _ W _ _ hS).mono ?_;clear hS;rw [hi];rintro e w ⟨rfl,hS⟩)|(refine zlN hS ?_)|(refine zbx hS ?_;clear hS;intro b w hS))
    refine Aa7 [0,1,3,7,0,31,0,127,255,511,511,0,3071,8191] (fun i => i == 11) (fun i => if i == 7 then some (.tuple #[.agg #[.int .i64 (p0 - x0),.int .i64 (p1 - x1),.int .i64 (p2 - x2),.int .i64 (p3 - x3)],.bool true]) else none) [⟨some 11,some 12,fun nd => ptrTo (nd 11) [.int .i64 0,.int .i64 0,.int .i64 0,.int .i64 0] 29⟩,⟨some 12,none,fun nd => ptrTo (nd 11) [.int .i64 (p0 - x0),.int .i64 (p1 - x1),.int .i64 (p2 - x2),.int .i64 (p3 - x3)] 29⟩] [none,none,none] (by kernel_rfl) (by kernel_rfl) rfl hS (CongOk.cons (fun nd nd' h => by dsimp only;rw [h 11 rfl rfl]) (CongOk.cons (fun nd nd' h => by dsimp only;rw [h 11 rfl rfl]) CongOk.nil)) ?_
    intro nd
    repeat (first|(refine zc1 ?_)|(refine zcN ?_)|(refine zcn ?_)|(apply AI7 (ek := eS) (ev := eP) (k := k) it0 ⟨p0,p1,p2,p3⟩;rfl;kernel_rfl;(with_reducible rfl);rfl;rfl;rfl;(intro F;exact ⟨_,by exact takO⟩);exact mP;exact kS;exact zP;rfl;exact Hx.out;(simp only [Act.put,fA,fB,fC,Nat.reduceAdd,eP,It.cells]))|(refine cQ ?_;intro K hK;go_big_quiet_op;go_big_quiet_on))
    (refine zcv ?_ (hs := by (intro F w hS;(try clear hS0);exact Ob7 Ha.out W w _ hS)))
    iterate 3 (refine cQ ?_;intro K hK;go_big_quiet_op;go_big_quiet_on)
    (refine zca ?_)
    (refine zct ?_)
    (refine cQ ?_;intro K hK;go_big_quiet_op;go_big_quiet_on)
    refine Af7 ?_
    clear hS
    intro w hS
    have hS2 : St W [ptrTo (nd 11) _ _,blk b _ _,blk vb _ _,amap eS eP mb p,sats R] w := hS
    clear hS
    have hS := hS2.unpack [_,_,_,_]
    clear hS2
    simp only [fL,fM] at hS
    generalize nd 11 = v12 at *
    have h1 := hS.ptr;clear hS;obtain ⟨b2,rfl,hS⟩ := h1
    go_wp2_with (first|(go_at_call 164;refine (AT7 vb mb p k u1 u2 W _ R ⟨p0 - x0,p1 - x1,p2 - x2,p3 - x3⟩ (hS.sel (by exact selS))).mono ?_;clear hS;rintro e w ⟨rfl,hS⟩)|(refine zlN hS ?_))
    go_ret
    exact ⟨rfl,hS⟩
end
def getK (i : It) (k : Int) : Int := if k = 0 then i.x0 else if k = 1 then i.x1 else if k = 2 then i.x2 else i.x3
def setK (i : It) (k n : Int) : It := if k = 0 then ⟨n,i.x1,i.x2,i.x3⟩ else if k = 1 then ⟨i.x0,n,i.x2,i.x3⟩ else if k = 2 then ⟨i.x0,i.x1,n,i.x3⟩ else ⟨i.x0,i.x1,i.x2,n⟩
def holdsF (o : Ord) : It := if o.buy = true then ⟨o.cnt * o.price,0,0,0⟩ else setK it0 o.item o.cnt
theorem CH7 {a b : Int} (h1 : 0 ≤ a) (h2 : a ≤ 1048576) (h3 : 0 ≤ b) (h4 : b ≤ 1024) : 0 ≤ a * b ∧ a * b ≤ 1073741824 := by
 refine ⟨Int.mul_nonneg h1 h3,?_⟩
 have := Int.mul_le_mul h2 h4 h3 (by omega)
 omega
theorem JA7 (o : Ord) (hm : MayP o) (W w : World) (R : List HP) (hS : St W R w) :
  Calls Tryz.prog 125 #[.agg o.cells.toArray] w fun e w' => e = .returned (.agg (holdsF o).cells.toArray) ∧ St W R w' := by
 have h1 := hm.item0
 have h2 := hm.item1
 have h3 := CH7 (by have := hm.cnt0;omega) hm.cnt1 (by have := hm.price0;omega) hm.price1
 obtain ⟨i,u,y,t,c,pr⟩ := o
 simp only at h1 h2 h3
 clear hm
 cases y with
 | true =>
  have e : holdsF ⟨i,u,true,t,c,pr⟩ = ⟨c * pr,0,0,0⟩ := rfl
  rw [e]
  simp only [Ord.cells,It.cells]
  have h4 : c * pr ≤ 9223372036854775807 := by omega
  have h5 : -9223372036854775808 ≤ c * pr := by omega
  clear e h1 h2
  go_enter Tryz.func125,Tryz.ntmps125
  go_wp2_with (first|(refine zl1 hS ?_)|(refine zlN hS ?_)|(refine zs1 hS ?_;clear hS;intro w hS)|(refine zsN hS ?_;clear hS;intro w hS)|(refine zbx hS ?_;clear hS;intro b w hS)|(refine zal hS ?_;clear hS;intro b w hS))
  (apply Aq7;rfl;rfl;rfl;exact hS;decide +kernel;(exact cesS);kernel_rfl)
  exact ⟨rfl,hS.sel (by exact selS)⟩
 | false =>
  have ht : t = 1 ∨ t = 2 ∨ t = 3 := by omega
  rcases ht with rfl|rfl|rfl
  ·have e : holdsF ⟨i,u,false,1,c,pr⟩ = ⟨0,c,0,0⟩ := rfl
   rw [e]
   simp only [Ord.cells,It.cells]
   clear e h1 h2 h3
   go_enter Tryz.func125,Tryz.ntmps125
   go_wp2_with (first|(refine zl1 hS ?_)|(refine zlN hS ?_)|(refine zs1 hS ?_;clear hS;intro w hS)|(refine zsN hS ?_;clear hS;intro w hS)|(refine zbx hS ?_;clear hS;intro b w hS)|(refine zal hS ?_;clear hS;intro b w hS))
   (apply Aq7;rfl;rfl;rfl;exact hS;decide +kernel;(exact cesS);kernel_rfl)
   exact ⟨rfl,hS.sel (by exact selS)⟩
  ·have e : holdsF ⟨i,u,false,2,c,pr⟩ = ⟨0,0,c,0⟩ := rfl
   rw [e]
   simp only [Ord.cells,It.cells]
   clear e h1 h2 h3
   go_enter Tryz.func125,Tryz.ntmps125
   go_wp2_with (first|(refine zl1 hS ?_)|(refine zlN hS ?_)|(refine zs1 hS ?_;clear hS;intro w hS)|(refine zsN hS ?_;clear hS;intro w hS)|(refine zbx hS ?_;clear hS;intro b w hS)|(refine zal hS ?_;clear hS;intro b w hS))
   (apply Aq7;rfl;rfl;rfl;exact hS;decide +kernel;(exact cesS);kernel_rfl)
   exact ⟨rfl,hS.sel (by exact selS)⟩
  ·have e : holdsF ⟨i,u,false,3,c,pr⟩ = ⟨0,0,0,c⟩ := rfl
   rw [e]
   simp only [Ord.cells,It.cells]
   clear e h1 h2 h3
   go_enter Tryz.func125,Tryz.ntmps125
   go_wp2_with (first|(refine zl1 hS ?_)|(refine zlN hS ?_)|(refine zs1 hS ?_;clear hS;intro w hS)|(refine zsN hS ?_;clear hS;intro w hS)|(refine zbx hS ?_;clear hS;intro b w hS)|(refine zal hS ?_;clear hS;intro b w hS))
   (apply Aq7;rfl;rfl;rfl;exact hS;decide +kernel;(exact cesS);kernel_rfl)
   exact ⟨rfl,hS.sel (by exact selS)⟩
def capI (a : Int) : Int := if 1152921504606846976 < a then 1152921504606846976 else a
def giveI (i : It) (k n : Int) : It := setK i k (capI (getK i k + n))
def giveP (p : Ps) (who : ByteArray) (k n : Int) : Ps := layP p who (giveI (purseA p who) k n)
theorem Ct7 (vb mb : Nat) (p : Ps) (who : ByteArray) (k n : Int) (u1 u2 : Value) (hx : isIt (purseA p who) = true) (hk : 0 ≤ k ∧ k ≤ 3) (hn : 0 ≤ n ∧ n ≤ 1152921504606846976) (W w : World) (R : List HP) (hS : St W (blk vb [.map (some mb),u1,u2] 176 :: amap eS eP mb p :: R) w) :
  Calls Tryz.prog 170 #[.agg #[.pointer (some ⟨vb,0,none⟩),.string who],.int .i64 k,.int .i64 n] w fun e w' => e = .returned (.tuple #[]) ∧ St W (blk vb [.map (some mb),u1,u2] 176 :: amap eS eP mb (giveP p who k n) :: R) w' := by
 obtain ⟨px,hp⟩ : ∃ x,purseA p who = x := ⟨_,rfl⟩
 rw [hp] at hx
 obtain ⟨p0,p1,p2,p3⟩ := px
 have Hx := Lib.hid hp
 clear hp
 obtain ⟨a0,a1,a2,a3⟩ := Ak7.1 hx
 simp only at a0 a1 a2 a3
 clear hx
 have hk4 : k = 0 ∨ k = 1 ∨ k = 2 ∨ k = 3 := by omega
 rcases hk4 with rfl|rfl|rfl|rfl
 ·by_cases hc : 1152921504606846976 < p0 + n
  ·skip
   have e : giveP p who 0 n = layP p who ⟨1152921504606846976,p1,p2,p3⟩ := by unfold giveP giveI;rw [Hx.out];simp [setK,getK,capI,hc]
   rw [e]
   clear e
   go_enter Tryz.func170,Tryz.ntmps170
   go_wp2_with (first|(refine zbx hS ?_;clear hS;intro b w hS))
   refine Aa7 [0,1,3,7,15,0,32,127,0,511] (fun i => i == 8) (fun _ => none) [⟨some 8,some 9,fun nd => ptrTo (nd 8) [.int .i64 0,.int .i64 0,.int .i64 0,.int .i64 0] 29⟩,⟨some 9,none,fun nd => ptrTo (nd 8) [.int .i64 p0,.int .i64 p1,.int .i64 p2,.int .i64 p3] 29⟩] [none,none,none] (by kernel_rfl) (by kernel_rfl) rfl hS (CongOk.cons (fun nd nd' h => by dsimp only;rw [h 8 rfl rfl]) (CongOk.cons (fun nd nd' h => by dsimp only;rw [h 8 rfl rfl]) CongOk.nil)) ?_
   intro nd
   repeat (first|(refine zc1 ?_)|(refine zcn ?_)|(apply AI7 (ek := eS) (ev := eP) (k := who) it0 ⟨p0,p1,p2,p3⟩;rfl;kernel_rfl;(with_reducible rfl);rfl;rfl;rfl;(intro F;exact ⟨_,by exact takO⟩);exact mP;exact kS;exact zP;rfl;exact Hx.out;(simp only [Act.put,fA,fB,fC,Nat.reduceAdd,eP,It.cells]))|(refine cQ ?_;intro K hK;go_big_quiet_op;go_big_quiet_on))
   (refine zca ?_)
   (refine zct ?_)
   refine Af7 ?_
   clear hS
   intro w hS
   have hS2 : St W [ptrTo (nd 8) _ _,blk b _ _,blk vb _ _,amap eS eP mb p,sats R] w := hS
   clear hS
   have hS := hS2.unpack [_,_,_,_]
   clear hS2
   simp only [fL,fM] at hS
   generalize nd 8 = v8 at *
   have h1 := hS.ptr;clear hS;obtain ⟨b2,rfl,hS⟩ := h1
   go_wp2_with (first|(go_at_call 164;refine (AT7 vb mb p who u1 u2 W _ R ⟨1152921504606846976,p1,p2,p3⟩ (hS.sel (by exact selS))).mono ?_;clear hS;rintro e w ⟨rfl,hS⟩)|(refine zl1 hS ?_)|(refine zlN hS ?_)|(refine zs1 hS ?_;clear hS;intro w hS))
   go_end0
   exact ⟨rfl,hS⟩
  ·skip
   have e : giveP p who 0 n = layP p who ⟨p0 + n,p1,p2,p3⟩ := by unfold giveP giveI;rw [Hx.out];simp [setK,getK,capI,hc]
   rw [e]
   clear e
   go_enter Tryz.func170,Tryz.ntmps170
   go_wp2_with (first|(refine zbx hS ?_;clear hS;intro b w hS))
   refine Aa7 [0,1,3,7,15,0,32,127,0,511] (fun i => i == 8) (fun _ => none) [⟨some 8,some 9,fun nd => ptrTo (nd 8) [.int .i64 0,.int .i64 0,.int .i64 0,.int .i64 0] 29⟩,⟨some 9,none,fun nd => ptrTo (nd 8) [.int .i64 p0,.int .i64 p1,.int .i64 p2,.int .i64 p3] 29⟩] [none,none,none] (by kernel_rfl) (by kernel_rfl) rfl hS (CongOk.cons (fun nd nd' h => by dsimp only;rw [h 8 rfl rfl]) (CongOk.cons (fun nd nd' h => by dsimp only;rw [h 8 rfl rfl]) CongOk.nil)) ?_
   intro nd
   repeat (first|(refine zc1 ?_)|(refine zcn ?_)|(apply AI7 (ek := eS) (ev := eP) (k := who) it0 ⟨p0,p1,p2,p3⟩;rfl;kernel_rfl;(with_reducible rfl);rfl;rfl;rfl;(intro F;exact ⟨_,by exact takO⟩);exact mP;exact kS;exact zP;rfl;exact Hx.out;(simp only [Act.put,fA,fB,fC,Nat.reduceAdd,eP,It.cells]))|(refine cQ ?_;intro K hK;go_big_quiet_op;go_big_quiet_on))
   (refine zca ?_)
   (refine zct ?_)
   refine Af7 ?_
   clear hS
   intro w hS
   have hS2 : St W [ptrTo (nd 8) _ _,blk b _ _,blk vb _ _,amap eS eP mb p,sats R] w := hS
   clear hS
   have hS := hS2.unpack [_,_,_,_]
   clear hS2
   simp only [fL,fM] at hS
   generalize nd 8 = v8 at *
   have h1 := hS.ptr;clear hS;obtain ⟨b2,rfl,hS⟩ := h1
   go_wp2_with (first|(go_at_call 164;refine (AT7 vb mb p who u1 u2 W _ R ⟨p0 + n,p1,p2,p3⟩ (hS.sel (by exact selS))).mono ?_;clear hS;rintro e w ⟨rfl,hS⟩)|(refine zl1 hS ?_)|(refine zlN hS ?_)|(refine zs1 hS ?_;clear hS;intro w hS))
   go_end0
   exact ⟨rfl,hS⟩
 ·by_cases hc : 1152921504606846976 < p1 + n
  ·skip
   have e : giveP p who 1 n = layP p who ⟨p0,1152921504606846976,p2,p3⟩ := by unfold giveP giveI;rw [Hx.out];simp [setK,getK,capI,hc]
   rw [e]
   clear e
   go_enter Tryz.func170,Tryz.ntmps170
   go_wp2_with (first|(refine zbx hS ?_;clear hS;intro b w hS))
   refine Aa7 [0,1,3,7,15,0,32,127,0,511] (fun i => i == 8) (fun _ => none) [⟨some 8,some 9,fun nd => ptrTo (nd 8) [.int .i64 0,.int .i64 0,.int .i64 0,.int .i64 0] 29⟩,⟨some 9,none,fun nd => ptrTo (nd 8) [.int .i64 p0,.int .i64 p1,.int .i64 p2,.int .i64 p3] 29⟩] [none,none,none] (by kernel_rfl) (by kernel_rfl) rfl hS (CongOk.cons (fun nd nd' h => by dsimp only;rw [h 8 rfl rfl]) (CongOk.cons (fun nd nd' h => by dsimp only;rw [h 8 rfl rfl]) CongOk.nil)) ?_
   intro nd
   repeat (first|(refine zc1 ?_)|(refine zcn ?_)|(apply AI7 (ek := eS) (ev := eP) (k := who) it0 ⟨p0,p1,p2,p3⟩;rfl;kernel_rfl;(with_reducible rfl);rfl;rfl;rfl;(intro F;exact ⟨_,by exact takO⟩);exact mP;exact kS;exact zP;rfl;exact Hx.out;(simp only [Act.put,fA,fB,fC,Nat.reduceAdd,eP,It.cells]))|(refine cQ ?_;intro K hK;go_big_quiet_op;go_big_quiet_on))
   (refine zca ?_)
   (refine zct ?_)
   refine Af7 ?_
   clear hS
   intro w hS
   have hS2 : St W [ptrTo (nd 8) _ _,blk b _ _,blk vb _ _,amap eS eP mb p,sats R] w := hS
   clear hS
   have hS := hS2.unpack [_,_,_,_]
   clear hS2
   simp only [fL,fM] at hS
   generalize nd 8 = v8 at *
   have h1 := hS.ptr;clear hS;obtain ⟨b2,rfl,hS⟩ := h1
   go_wp2_with (first|(go_at_call 164;refine (AT7 vb mb p who u1 u2 W _ R ⟨p0,1152921504606846976,p2,p3⟩ (hS.sel (by exact selS))).mono ?_;clear hS;rintro e w ⟨rfl,hS⟩)|(refine zl1 hS ?_)|(refine zlN hS ?_)|(refine zs1 hS ?_;clear hS;intro w hS))
   go_end0
   exact ⟨rfl,hS⟩
  ·skip
   have e : giveP p who 1 n = layP p who ⟨p0,p1 + n,p2,p3⟩ := by unfold giveP giveI;rw [Hx.out];simp [setK,getK,capI,hc]
   rw [e]
   clear e
   go_enter Tryz.func170,Tryz.ntmps170
   go_wp2_with (first|(refine zbx hS ?_;clear hS;intro b w hS))
   refine Aa7 [0,1,3,7,15,0,32,127,0,511] (fun i => i == 8) (fun _ => none) [⟨some 8,some 9,fun nd => ptrTo (nd 8) [.int .i64 0,.int .i64 0,.int .i64 0,.int .i64 0] 29⟩,⟨some 9,none,fun nd => ptrTo (nd 8) [.int .i64 p0,.int .i64 p1,.int .i64 p2,.int .i64 p3] 29⟩] [none,none,none] (by kernel_rfl) (by kernel_rfl) rfl hS (CongOk.cons (fun nd nd' h => by dsimp only;rw [h 8 rfl rfl]) (CongOk.cons (fun nd nd' h => by dsimp only;rw [h 8 rfl rfl]) CongOk.nil)) ?_
   intro nd
   repeat (first|(refine zc1 ?_)|(refine zcn ?_)|(apply AI7 (ek := eS) (ev := eP) (k := who) it0 ⟨p0,p1,p2,p3⟩;rfl;kernel_rfl;(with_reducible rfl);rfl;rfl;rfl;(intro F;exact ⟨_,by exact takO⟩);exact mP;exact kS;exact zP;rfl;exact Hx.out;(simp only [Act.put,fA,fB,fC,Nat.reduceAdd,eP,It.cells]))|(refine cQ ?_;intro K hK;go_big_quiet_op;go_big_quiet_on))
   (refine zca ?_)
   (refine zct ?_)
   refine Af7 ?_
   clear hS
   intro w hS
   have hS2 : St W [ptrTo (nd 8) _ _,blk b _ _,blk vb _ _,amap eS eP mb p,sats R] w := hS
   clear hS
   have hS := hS2.unpack [_,_,_,_]
   clear hS2
   simp only [fL,fM] at hS
   generalize nd 8 = v8 at *
   have h1 := hS.ptr;clear hS;obtain ⟨b2,rfl,hS⟩ := h1
   go_wp2_with (first|(go_at_call 164;refine (AT7 vb mb p who u1 u2 W _ R ⟨p0,p1 + n,p2,p3⟩ (hS.sel (by exact selS))).mono ?_;clear hS;rintro e w ⟨rfl,hS⟩)|(refine zl1 hS ?_)|(refine zlN hS ?_)|(refine zs1 hS ?_;clear hS;intro w hS))
   go_end0
   exact ⟨rfl,hS⟩
 ·by_cases hc : 1152921504606846976 < p2 + n
  ·skip
   have e : giveP p who 2 n = layP p who ⟨p0,p1,1152921504606846976,p3⟩ := by unfold giveP giveI;rw [Hx.out];simp [setK,getK,capI,hc]
   rw [e]
   clear e
   go_enter Tryz.func170,Tryz.ntmps170
   go_wp2_with (first|(refine zbx hS ?_;clear hS;intro b w hS))
   refine Aa7 [0,1,3,7,15,0,32,127,0,511] (fun i => i == 8) (fun _ => none) [⟨some 8,some 9,fun nd => ptrTo (nd 8) [.int .i64 0,.int .i64 0,.int .i64 0,.int .i64 0] 29⟩,⟨some 9,none,fun nd => ptrTo (nd 8) [.int .i64 p0,.int .i64 p1,.int .i64 p2,.int .i64 p3] 29⟩] [none,none,none] (by kernel_rfl) (by kernel_rfl) rfl hS (CongOk.cons (fun nd nd' h => by dsimp only;rw [h 8 rfl rfl]) (CongOk.cons (fun nd nd' h => by dsimp only;rw [h 8 rfl rfl]) CongOk.nil)) ?_
   intro nd
   repeat (first|(refine zc1 ?_)|(refine zcn ?_)|(apply AI7 (ek := eS) (ev := eP) (k := who) it0 ⟨p0,p1,p2,p3⟩;rfl;kernel_rfl;(with_reducible rfl);rfl;rfl;rfl;(intro F;exact ⟨_,by exact takO⟩);exact mP;exact kS;exact zP;rfl;exact Hx.out;(simp only [Act.put,fA,fB,fC,Nat.reduceAdd,eP,It.cells]))|(refine cQ ?_;intro K hK;go_big_quiet_op;go_big_quiet_on))
   (refine zca ?_)
   (refine zct ?_)
   refine Af7 ?_
   clear hS
   intro w hS
   have hS2 : St W [ptrTo (nd 8) _ _,blk b _ _,blk vb _ _,amap eS eP mb p,sats R] w := hS
   clear hS
   have hS := hS2.unpack [_,_,_,_]
   clear hS2
   simp only [fL,fM] at hS
   generalize nd 8 = v8 at *
   have h1 := hS.ptr;clear hS;obtain ⟨b2,rfl,hS⟩ := h1
   go_wp2_with (first|(go_at_call 164;refine (AT7 vb mb p who u1 u2 W _ R ⟨p0,p1,1152921504606846976,p3⟩ (hS.sel (by exact selS))).mono ?_;clear hS;rintro e w ⟨rfl,hS⟩)|(refine zl1 hS ?_)|(refine zlN hS ?_)|(refine zs1 hS ?_;clear hS;intro w hS))
   go_end0
   exact ⟨rfl,hS⟩
  ·skip
   have e : giveP p who 2 n = layP p who ⟨p0,p1,p2 + n,p3⟩ := by unfold giveP giveI;rw [Hx.out];simp [setK,getK,capI,hc]
   rw [e]
   clear e
   go_enter Tryz.func170,Tryz.ntmps170
   go_wp2_with (first|(refine zbx hS ?_;clear hS;intro b w hS))
   refine Aa7 [0,1,3,7,15,0,32,127,0,511] (fun i => i == 8) (fun _ => none) [⟨some 8,some 9,fun nd => ptrTo (nd 8) [.int .i64 0,.int .i64 0,.int .i64 0,.int .i64 0] 29⟩,⟨some 9,none,fun nd => ptrTo (nd 8) [.int .i64 p0,.int .i64 p1,.int .i64 p2,.int .i64 p3] 29⟩] [none,none,none] (by kernel_rfl) (by kernel_rfl) rfl hS (CongOk.cons (fun nd nd' h => by dsimp only;rw [h 8 rfl rfl]) (CongOk.cons (fun nd nd' h => by dsimp only;rw [h 8 rfl rfl]) CongOk.nil)) ?_
   intro nd
   repeat (first|(refine zc1 ?_)|(refine zcn ?_)|(apply AI7 (ek := eS) (ev := eP) (k := who) it0 ⟨p0,p1,p2,p3⟩;rfl;kernel_rfl;(with_reducible rfl);rfl;rfl;rfl;(intro F;exact ⟨_,by exact takO⟩);exact mP;exact kS;exact zP;rfl;exact Hx.out;(simp only [Act.put,fA,fB,fC,Nat.reduceAdd,eP,It.cells]))|(refine cQ ?_;intro K hK;go_big_quiet_op;go_big_quiet_on))
   (refine zca ?_)
   (refine zct ?_)
   refine Af7 ?_
   clear hS
   intro w hS
   have hS2 : St W [ptrTo (nd 8) _ _,blk b _ _,blk vb _ _,amap eS eP mb p,sats R] w := hS
   clear hS
   have hS := hS2.unpack [_,_,_,_]
   clear hS2
   simp only [fL,fM] at hS
   generalize nd 8 = v8 at *
   have h1 := hS.ptr;clear hS;obtain ⟨b2,rfl,hS⟩ := h1
   go_wp2_with (first|(go_at_call 164;refine (AT7 vb mb p who u1 u2 W _ R ⟨p0,p1,p2 + n,p3⟩ (hS.sel (by exact selS))).mono ?_;clear hS;rintro e w ⟨rfl,hS⟩)|(refine zl1 hS ?_)|(refine zlN hS ?_)|(refine zs1 hS ?_;clear hS;intro w hS))
   go_end0
   exact ⟨rfl,hS⟩
 ·by_cases hc : 1152921504606846976 < p3 + n
  ·skip
   have e : giveP p who 3 n = layP p who ⟨p0,p1,p2,1152921504606846976⟩ := by unfold giveP giveI;rw [Hx.out];simp [setK,getK,capI,hc]
   rw [e]
   clear e
   go_enter Tryz.func170,Tryz.ntmps170
   go_wp2_with (first|(refine zbx hS ?_;clear hS;intro b w hS))
   refine Aa7 [0,1,3,7,15,0,32,127,0,511] (fun i => i == 8) (fun _ => none) [⟨some 8,some 9,fun nd => ptrTo (nd 8) [.int .i64 0,.int .i64 0,.int .i64 0,.int .i64 0] 29⟩,⟨some 9,none,fun nd => ptrTo (nd 8) [.int .i64 p0,.int .i64 p1,.int .i64 p2,.int .i64 p3] 29⟩] [none,none,none] (by kernel_rfl) (by kernel_rfl) rfl hS (CongOk.cons (fun nd nd' h => by dsimp only;rw [h 8 rfl rfl]) (CongOk.cons (fun nd nd' h => by dsimp only;rw [h 8 rfl rfl]) CongOk.nil)) ?_
   intro nd
   repeat (first|(refine zc1 ?_)|(refine zcn ?_)|(apply AI7 (ek := eS) (ev := eP) (k := who) it0 ⟨p0,p1,p2,p3⟩;rfl;kernel_rfl;(with_reducible rfl);rfl;rfl;rfl;(intro F;exact ⟨_,by exact takO⟩);exact mP;exact kS;exact zP;rfl;exact Hx.out;(simp only [Act.put,fA,fB,fC,Nat.reduceAdd,eP,It.cells]))|(refine cQ ?_;intro K hK;go_big_quiet_op;go_big_quiet_on))
   (refine zca ?_)
   (refine zct ?_)
   refine Af7 ?_
   clear hS
   intro w hS
   have hS2 : St W [ptrTo (nd 8) _ _,blk b _ _,blk vb _ _,amap eS eP mb p,sats R] w := hS
   clear hS
   have hS := hS2.unpack [_,_,_,_]
   clear hS2
   simp only [fL,fM] at hS
   generalize nd 8 = v8 at *
   have h1 := hS.ptr;clear hS;obtain ⟨b2,rfl,hS⟩ := h1
   go_wp2_with (first|(go_at_call 164;refine (AT7 vb mb p who u1 u2 W _ R ⟨p0,p1,p2,1152921504606846976⟩ (hS.sel (by exact selS))).mono ?_;clear hS;rintro e w ⟨rfl,hS⟩)|(refine zl1 hS ?_)|(refine zlN hS ?_)|(refine zs1 hS ?_;clear hS;intro w hS))
   go_end0
   exact ⟨rfl,hS⟩
  ·skip
   have e : giveP p who 3 n = layP p who ⟨p0,p1,p2,p3 + n⟩ := by unfold giveP giveI;rw [Hx.out];simp [setK,getK,capI,hc]
   rw [e]
   clear e
   go_enter Tryz.func170,Tryz.ntmps170
   go_wp2_with (first|(refine zbx hS ?_;clear hS;intro b w hS))
   refine Aa7 [0,1,3,7,15,0,32,127,0,511] (fun i => i == 8) (fun _ => none) [⟨some 8,some 9,fun nd => ptrTo (nd 8) [.int .i64 0,.int .i64 0,.int .i64 0,.int .i64 0] 29⟩,⟨some 9,none,fun nd => ptrTo (nd 8) [.int .i64 p0,.int .i64 p1,.int .i64 p2,.int .i64 p3] 29⟩] [none,none,none] (by kernel_rfl) (by kernel_rfl) rfl hS (CongOk.cons (fun nd nd' h => by dsimp only;rw [h 8 rfl rfl]) (CongOk.cons (fun nd nd' h => by dsimp only;rw [h 8 rfl rfl]) CongOk.nil)) ?_
   intro nd
   repeat (first|(refine zc1 ?_)|(refine zcn ?_)|(apply AI7 (ek := eS) (ev := eP) (k := who) it0 ⟨p0,p1,p2,p3⟩;rfl;kernel_rfl;(with_reducible rfl);rfl;rfl;rfl;(intro F;exact ⟨_,by exact takO⟩);exact mP;exact kS;exact zP;rfl;exact Hx.out;(simp only [Act.put,fA,fB,fC,Nat.reduceAdd,eP,It.cells]))|(refine cQ ?_;intro K hK;go_big_quiet_op;go_big_quiet_on))
   (refine zca ?_)
   (refine zct ?_)
   refine Af7 ?_
   clear hS
   intro w hS
   have hS2 : St W [ptrTo (nd 8) _ _,blk b _ _,blk vb _ _,amap eS eP mb p,sats R] w := hS
   clear hS
   have hS := hS2.unpack [_,_,_,_]
   clear hS2
   simp only [fL,fM] at hS
   generalize nd 8 = v8 at *
   have h1 := hS.ptr;clear hS;obtain ⟨b2,rfl,hS⟩ := h1
   go_wp2_with (first|(go_at_call 164;refine (AT7 vb mb p who u1 u2 W _ R ⟨p0,p1,p2,p3 + n⟩ (hS.sel (by exact selS))).mono ?_;clear hS;rintro e w ⟨rfl,hS⟩)|(refine zl1 hS ?_)|(refine zlN hS ?_)|(refine zs1 hS ?_;clear hS;intro w hS))
   go_end0
   exact ⟨rfl,hS⟩
end Go.Proofs.YtlmhakmoioogaaaGreat
end
