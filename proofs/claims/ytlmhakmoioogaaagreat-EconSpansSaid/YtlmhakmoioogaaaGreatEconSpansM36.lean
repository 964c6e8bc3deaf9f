/-
  The document's vault: Order, where it is placed. For every vault and order.
  The document's vault: Cancel; Order in all cases. For every vault.
  The vault keeps: orders and their end change nothing of all that there is. The plain law: no program in sight.
  The vault's Total. For every vault.
  The document's vault: New, Total; two rows of purses, of orders. For every vault.
-/
import Derived.Test.YtlmhakmoioogaaaGreatEconSpansM5
import Derived.Test.YtlmhakmoioogaaaGreatEconSpansM21
import Derived.Test.YtlmhakmoioogaaaGreatEconSpansM22
import Derived.Test.YtlmhakmoioogaaaGreatEconSpansM35
set_option maxHeartbeats 16000000
set_option maxRecDepth 100000
set_option linter.unusedSimpArgs false
set_option linter.unusedVariables false
section
namespace Go.Proofs.YtlmhakmoioogaaaGreat
open Go.RowKit Go.Sl
def pxR (xB : Nat) (L : List Ord) (m : Int) (ts : List Trd) (v : Value) : HP := fun f => ∃ (a : Option Addr) (c : Nat) (left : Int),v = .tuple #[.slice a ts.length c,.int .i64 left,.int .i64 0] ∧ sats [xkP xB L m,row (.slice a ts.length c) 8 251 ts.length (ts.flatMap Trd.cells)] f
section
variable {W w : World} {xB : Nat} {L : List Ord} {m n : Int} {ts : List Trd} {v : Value} {R : List HP}
theorem pxOpen (h : St W (pxR xB L m ts v :: R) w) : ∃ a c left,v = .tuple #[.slice a ts.length c,.int .i64 left,.int .i64 0] ∧ St W (xkP xB L m :: row (.slice a ts.length c) 8 251 ts.length (ts.flatMap Trd.cells) :: R) w := by
 obtain ⟨a,h⟩ := St.ex h
 obtain ⟨c,h⟩ := St.ex h
 obtain ⟨left,h⟩ := St.ex h
 obtain ⟨h1,h⟩ := St.and h
 refine ⟨a,c,left,h1,?_⟩
 exact (St.split (St.split h).swap).swap.drop.swap
theorem pxShut {a : Option Addr} {c : Nat} {left : Int} (hv : v = .tuple #[.slice a ts.length c,.int .i64 left,.int .i64 0]) (h : St W (xkP xB L m :: row (.slice a ts.length c) 8 251 ts.length (ts.flatMap Trd.cells) :: R) w) : St W (pxR xB L m ts v :: R) w := by
 refine St.mkEx a (St.mkEx c (St.mkEx left (St.mkAnd hv ?_)))
 refine St.join ?_
 refine St.swap (St.imp h.swap ?_)
 intro f hf
 exact ⟨fun _ => true,hf,trivial⟩
theorem pxTup {L1 R1 : List HP} (hS : St W L1 w) (hu : Take L1 (pxR xB L m ts v) R1) : ∃ vs : Array Value,v = .tuple vs ∧ vs.size = 3 := by
 obtain ⟨a,c,left,h,_⟩ := pxOpen (hS.take hu)
 exact ⟨_,h,rfl⟩
theorem place8F {o : Ord} {L2 : List Ord} (hm : MayP o) (hid : o.id = n) (hL : L.length < 32) (hmay : ∀ x ∈ L,MayP x) (h1 : runL L o = L2) (h2 : runT L o = ts) (hS : St W (xkP xB L n :: R) w) :
  Calls Tryz.prog 184 #[.pointer (some ⟨xB,0,none⟩),.agg o.cells.toArray] w fun e w' => ∃ v,e = .returned v ∧ St W (pxR xB L2 (n + 1) ts v :: R) w' := by
 subst h1 h2
 obtain ⟨a,c,last,hlast,hS⟩ := xkOpen hS
 have hno : ¬ (mayB o = false ∨ o.id ≤ last) := by rintro (h|h);(rw [Av7.2 hm] at h;cases h);omega
 have ht : (placeR L last o).trades = runT L o := by unfold placeR;rw [if_neg hno,if_neg (by omega)];rfl
 have hl : (placeR L last o).L = runL L o := by unfold placeR;rw [if_neg hno,if_neg (by omega)];rfl
 refine (Hz7 L last o xB _ (Av7.2 hm) (by omega) (by omega) (fun x hx => ⟨(hmay x hx).cnt0,(hmay x hx).cnt1⟩) W w R hS).mono ?_
 rw [ht,hl]
 rintro e w' ⟨v7,v',rfl,hS⟩
 obtain ⟨a7,c7,rfl⟩ := hS.drop.drop.rowVal
 exact ⟨_,rfl,pxShut rfl (xkShut (by omega) hS)⟩
end
def OxR (W : World) (F : Ps → List HP) (p : Ps) (ts : List Trd) (v : Value) (w : World) : Prop :=
 ∃ (k : Nat),v = .int .i64 k ∧ k ≤ ts.length ∧ St W (F ((ts.take k).foldl payT p)) w
section
variable (xb xB : Nat) (p : Ps) (L : List Ord) (n : Int) (N : Nat) (o : Ord) (W w : World) (R : List HP)
theorem Lg7 (hp : PsOk p) (hw : PsW p N) (hN : N + 150 ≤ 1000000) (hmay : ∀ x ∈ L,MayP x) (h : may1 o = true) (hn0 : 1 ≤ n) (hn : n ≤ 1099511627776) (hL : L.length < 32) (ht : takeE p o.who (holdsF o) = 0) (hS : St W (xvR xb xB p L n R) w) :
  Calls Tryz.prog 121 #[.pointer (some ⟨xb,0,none⟩),.agg o.cells.toArray] w fun e w' => e = .returned (.tuple #[.int .i64 n,.int .i64 0]) ∧
   St W (xvR xb xB ((runT L { o with id := n }).foldl payT (takeP p o.who (holdsF o))) (runL L { o with id := n }) (n + 1) R) w' := by
 obtain ⟨i,u,y,t,c,pr⟩ := o
 have hm : mayB ⟨1,u,y,t,c,pr⟩ = true := h
 have hm1 := Av7.1 hm
 have hm2 : MayP ⟨n,u,y,t,c,pr⟩ := ⟨hn0,hn,hm1.who0,hm1.who1,hm1.item0,hm1.item1,hm1.cnt0,hm1.cnt1,hm1.price0,hm1.price1⟩
 have eh : holdsF ⟨i,u,y,t,c,pr⟩ = holdsF ⟨n,u,y,t,c,pr⟩ := rfl
 have ht' : takeE p u (holdsF ⟨n,u,y,t,c,pr⟩) = 0 := ht
 have c0' : 1 ≤ c := hm2.cnt0
 have c1' : c ≤ 1048576 := hm2.cnt1
 have htr : ∀ x ∈ runT L ⟨n,u,y,t,c,pr⟩,TrB x := CY7 _ _ _ _ hmay ⟨show 0 ≤ c by omega,c1',hm2.item0,hm2.item1,hm2.price1⟩ fun t ht => (by cases ht)
 have htw : ∀ x ∈ runT L ⟨n,u,y,t,c,pr⟩,whoB x.buyer = true ∧ whoB x.seller = true := DH7 _ _ _ _ (fun x hx => DF7 (hmay x hx)) (DF7 hm2) fun t ht => (by cases ht)
 have htl : (runT L ⟨n,u,y,t,c,pr⟩).length ≤ 33 := by
  have := DG7 (L.length + 1) ⟨n,u,y,t,c,pr⟩ L []
  unfold runT
  rw [List.length_nil] at this
  omega
 have hok1 : PsOk (takeP p u (holdsF ⟨n,u,y,t,c,pr⟩)) := CV7 hp _ _
 have hw1 : PsW (takeP p u (holdsF ⟨n,u,y,t,c,pr⟩)) (N + 1) := Ee7 hw _ _
 simp only [eh]
 obtain ⟨p1,hp1⟩ : ∃ x,takeP p u (holdsF ⟨n,u,y,t,c,pr⟩) = x := ⟨_,rfl⟩
 rw [hp1] at hok1 hw1
 simp only [hp1]
 obtain ⟨it,hit⟩ : ∃ x,holdsF ⟨n,u,y,t,c,pr⟩ = x := ⟨_,rfl⟩
 rw [hit] at ht' hp1
 obtain ⟨h0,h1,h2,h3⟩ := it
 obtain ⟨ts,hts⟩ : ∃ x,runT L ⟨n,u,y,t,c,pr⟩ = x := ⟨_,rfl⟩
 obtain ⟨L2,hL2⟩ : ∃ x,runL L ⟨n,u,y,t,c,pr⟩ = x := ⟨_,rfl⟩
 simp only [hts,hL2]
 rw [hts] at htr htw htl
 have Hts := Lib.hid hts
 have HL2 := Lib.hid hL2
 clear hts hL2
 have Hm2 := Lib.hid hm2
 have Hit := Lib.hid hit
 have Hte := Lib.hid ht'
 have Htp := Lib.hid hp1
 have Hok := Lib.hid hok1
 have Hw := Lib.hid hw
 have Hw1 := Lib.hid hw1
 have Htr := Lib.hid htr
 have Htw := Lib.hid htw
 have Hmay := Lib.hid hmay
 have hN' := hN
 have hN : N ≤ 1000000 := by omega
 have d1 : decide ((32 : Int) ≤ (L.length : Int)) = false := by simp;omega
 have d2 : decide ((1099511627776 : Int) < n) = false := by simp;omega
 clear hit ht' hp1 h ht eh hok1 htr htw hmay hm1 hm2 hp hw hw1
 simp only [Ord.cells]
 obtain ⟨xv,hS1⟩ := xvOpen hS
 obtain ⟨la,lc,last,hlast,hS2⟩ := xkOpen (hS1.sel (L' := xkP xB L n :: blk xb _ _ :: hdR _ (hdL p) :: R) (by exact selS))
 clear hS hS1
 have hS := hS2
 clear hS2
 go_enter Tryz.func121,Tryz.ntmps121
 go_wp2_with (first|(go_at_call 182;refine (AZ7 ⟨1,u,y,t,c,pr⟩ W _ _ hS).mono ?_;clear hS;rw [hm];rintro e w ⟨rfl,hS⟩)|((with_reducible apply Ay7 hS);(with_reducible rfl);rfl;rfl;rfl;clear hS;intro b3 w hS;(refine frS ?_))|((with_reducible apply Au7 hS);(with_reducible rfl);rfl;(exact zsS);clear hS;intro b6 w hS;(refine frS ?_))|(refine zl1 hS ?_)|(refine zlN hS ?_)|(refine zs1 hS ?_;clear hS;intro w hS)|(refine zsN hS ?_;clear hS;intro w hS))
 refine Af7 5 (by kernel_rfl) (by kernel_rfl) hS ?_
 iterate 2 (refine qQ ?_;intro K hK;go_big_quiet_op;go_big_quiet_on)
 (refine zq1 ?_)
 (refine zqN ?_)
 (apply Ar7;rfl;(intro w;apply Ai7;(with_reducible rfl);decide +kernel;(focus (simp only [fD,fI,fJ,Act.eval,fE,fF,fG,fH,fK];try rfl)));(intro w hS;exact ES7 (o := ⟨n,u,y,t,c,pr⟩) Hm2.out Hit.out W w _ hS);(refine frS ?_))
 clear hS
 intro w hS
 simp only [List.drop_succ_cons,List.drop_zero]
 go_wp2_with (first|(go_at_call 120;refine (take8 xb _ n p N W _ _ Hw.out hN u ⟨h0,h1,h2,h3⟩ (xvShut (hS.sel (L' := blk xb _ _ :: hdR _ (hdL p) :: blk xB _ _ :: pileR _ L :: blk b6 _ _ :: blk b3 _ _ :: R) (by exact selS)))).mono ?_;clear hS;rw [Hte.out,Htp.out];rintro e w ⟨rfl,hS⟩;(have hS1 := xvOpen hS);clear hS;obtain ⟨xv2,hS⟩ := hS1)|(refine zl1 hS ?_)|(refine zs1 hS ?_;clear hS;intro w hS))
 have hSk := xkShut hlast (hS.sel (L' := blk xB _ _ :: pileR _ L :: blk b3 _ _ :: blk xb _ _ :: hdR _ (hdL p1) :: R) (by exact selS))
 clear hS
 refine Aa7 [0,1,3,7,0,31,63,127,127,127,255,1535,4095] (fun i => i == 5) (fun _ => none) [⟨some 5,none,fun nd => pxR xB L2 (n + 1) ts (nd 5)⟩] [some 5,none,none,none] (by kernel_rfl) (by kernel_rfl) rfl hSk (CongOk.cons (fun nd nd' h => by dsimp only;rw [h 5 rfl rfl]) CongOk.nil) ?_
 clear hSk
 intro nd
 (refine cQ ?_;intro K hK;go_big_quiet_op;go_big_quiet_on)
 (refine zcn ?_)
 (refine cQ ?_;intro K hK;go_big_quiet_op;go_big_quiet_on)
 (refine zc1 ?_)
 (refine zcN ?_)
 (apply AS7;rfl;rfl;(with_reducible rfl);decide +kernel;(focus (simp only [fD,fI,fJ,Act.eval,fE,fF,fG,fH,fK];try rfl));(intro _;rfl);(intro F w hS;exact place8F (o := ⟨n,u,y,t,c,pr⟩) Hm2.out rfl hL Hmay.out HL2.out Hts.out hS);(refine frS ?_))
 (refine cQ ?_;intro K hK;go_big_quiet_op;go_big_quiet_on)
 (apply DB7 (v := nd 5);rfl;kernel_rfl;(with_reducible rfl);rfl;rfl;(intro F w hS;exact pxTup hS (by exact takO));decide;(refine frS ?_))
 (apply DB7 (v := nd 5);rfl;kernel_rfl;(with_reducible rfl);rfl;rfl;(intro F w hS;exact pxTup hS (by exact takO));decide;(refine frS ?_))
 (apply DB7 (v := nd 5);rfl;kernel_rfl;(with_reducible rfl);rfl;rfl;(intro F w hS;exact pxTup hS (by exact takO));decide;(refine frS ?_))
 iterate 3 (refine cQ ?_;intro K hK;go_big_quiet_op;go_big_quiet_on)
 refine Ag7 ?_
 intro w hS
 have hS2 : St W [pxR xB _ _ _ (nd 5),blk b3 _ _,blk xb _ _,hdR _ (hdL p1),sats R] w := hS
 clear hS
 have hS := hS2.unpack [_,_,_,_]
 clear hS2
 simp only [fL,fM] at hS
 generalize nd 5 = v5 at *
 obtain ⟨ta,tc,left,hv5,hS5⟩ := pxOpen hS
 clear hS
 subst hv5
 have hS := xvShut (hS5.sel (L' := blk xb _ _ :: hdR _ (hdL p1) :: xkP xB L2 (n + 1) :: row (.slice ta ts.length tc) 8 _ _ _ :: blk b3 _ _ :: R) (by exact selS))
 clear hS5
 simp only [extrV,Array.getD_eq_getD_getElem?,List.getElem?_toArray,List.getElem?_cons_zero,List.getElem?_cons_succ,Option.getD_some]
 go_wp2_with (fail)
 go_loopw [11] (fun v wr => OxR W (fun q => [xvP xb (.pointer (some ⟨xB,0,none⟩)) (n + 1) q,xkP xB L2 (n + 1),row (.slice ta ts.length tc) 8 251 ts.length (ts.flatMap Trd.cells),blk b3 [.int .i64 n,.string u,.bool y,.int .i64 t,.int .i64 c,.int .i64 pr] 166] ++ R) p1 ts v wr) (fun v _ => ts.length - (intOf v).toNat)
 case atStart => exact ⟨0,rfl,Nat.zero_le _,hS⟩
 case round =>
  clear hS
  obtain ⟨k,rfl,hk,hS⟩ := hrel
  simp only [fL,fM] at hS
  by_cases hkn : k = ts.length
  ·subst hkn
   rw [List.take_length] at hS
   go_wp2_with (first|(refine zl1 hS ?_))
   go_ret2
   exact ⟨rfl,hS.sel (by exact selS)⟩
  ·have hk1 : k < ts.length := by omega
   clear hkn hk
   obtain ⟨⟨g,rfl⟩,hcap,hcn⟩ := St.rowAddr hS.drop.drop (by omega)
   have hcells : ∀ {K K' : List HP},Take K (row (.slice (some ⟨g,0,none⟩) ts.length tc) 8 251 ts.length (ts.flatMap Trd.cells)) K' → Cells K g (k * 8) (Trd.cells ts[k]) := fun hu => Cells.elemM (enc := Trd.cells) Trd.len hu hk1
   have hq : PsOk ((ts.take k).foldl payT p1) := CZ7 _ Hok.out fun x hx => Htr.out x (List.mem_of_mem_take hx)
   have hqw : PsW ((ts.take k).foldl payT p1) (N + 110) := As7 (FN7 _ Hw1.out fun x hx => Htw.out x (List.mem_of_mem_take hx)) (by rw [List.length_take];omega)
   have hstep : (ts.take (k + 1)).foldl payT p1 = payT ((ts.take k).foldl payT p1) ts[k] := by
    rw [List.take_succ_eq_append_getElem hk1,List.foldl_append];rfl
   have hb := Htr.out _ (List.getElem_mem hk1)
   have hb2 := Htw.out _ (List.getElem_mem hk1)
   have Hstep := Lib.hid hstep
   have Hq := Lib.hid hq
   have Hqw := Lib.hid hqw
   clear hstep hq hqw
   generalize (ts.take k).foldl payT p1 = q at hS Hstep Hq Hqw
   generalize ts[k] = x at hcells Hstep hb hb2
   obtain ⟨ub,us,xi,xj,xt,xc,xp,xd⟩ := x
   obtain ⟨⟨c0,c1⟩,⟨t0,t1⟩,⟨p0,p1'⟩,⟨b0,b1⟩⟩ := hb
   simp only at c0 c1 t0 t1 p0 p1' b0 b1 hb2
   have m1 := Cy7 c0 c1 b0 b1
   have m2 := Cy7 c0 c1 p0 p1'
   have n1 : xc * (xd - xp) ≤ 9223372036854775807 := by omega
   have n2 : -9223372036854775808 ≤ xc * (xd - xp) := by omega
   have n3 : xc * xp ≤ 9223372036854775807 := by omega
   have n4 : -9223372036854775808 ≤ xc * xp := by omega
   simp only [Trd.cells] at hcells
   have G1 := Lib.hid (show ∀ y,isIt (purseA q y) = true from Hq.out)
   have G2 := Lib.hid (show ∀ y,isIt (purseA (giveP q ub xt xc) y) = true from An7 Hq.out _ _ c0)
   have G3 := Lib.hid (show ∀ y,isIt (purseA (giveP (giveP q ub xt xc) ub 0 (xc * (xd - xp))) y) = true from An7 (An7 Hq.out _ _ c0) _ _ m1.1)
   have W1 := Lib.hid (show PsW q 1000000 from As7 Hqw.out (by omega))
   have W2 := Lib.hid (show PsW (giveP q ub xt xc) 1000000 from As7 (AB7 Hqw.out hb2.1 _ _) (by omega))
   have W3 := Lib.hid (show PsW (giveP (giveP q ub xt xc) ub 0 (xc * (xd - xp))) 1000000 from As7 (AB7 (AB7 Hqw.out hb2.1 _ _) hb2.1 _ _) (by omega))
   clear hb2
   go_wp2_with (fail)
   refine Af7 16 (by kernel_rfl) (by kernel_rfl) hS ?_
   iterate 5 (refine qQ ?_;intro K hK;go_big_quiet_op;go_big_quiet_on)
   (apply Aq7;(with_reducible rfl);rfl;rfl;decide +kernel;(exact hcells (by exact takeS) 0 _ rfl);(refine frS ?_))
   iterate 4 (refine qQ ?_;intro K hK;go_big_quiet_op;go_big_quiet_on)
   (apply Aq7;(with_reducible rfl);rfl;rfl;decide +kernel;(exact hcells (by exact takeS) 4 _ rfl);(refine frS ?_))
   iterate 4 (refine qQ ?_;intro K hK;go_big_quiet_op;go_big_quiet_on)
   (apply Aq7;(with_reducible rfl);rfl;rfl;decide +kernel;(exact hcells (by exact takeS) 5 _ rfl);(refine frS ?_))
   clear hS
   intro w hS
   simp only [List.drop_succ_cons,List.drop_zero]
   go_wp2_with (first|(go_at_call 185;refine (pays8 xb _ (n + 1) _ 1000000 W _ _ W1.out (Nat.le_refl _) _ _ _ (G1.out _) ⟨by omega,by omega⟩ ⟨by omega,by omega⟩ hS).mono ?_;clear hS;rintro e w ⟨rfl,hS⟩))
   refine Af7 23 (by kernel_rfl) (by kernel_rfl) hS ?_
   iterate 5 (refine qQ ?_;intro K hK;go_big_quiet_op;go_big_quiet_on)
   (apply Aq7;(with_reducible rfl);rfl;rfl;decide +kernel;(exact hcells (by exact takeS) 0 _ rfl);(refine frS ?_))
   iterate 4 (refine qQ ?_;intro K hK;go_big_quiet_op;go_big_quiet_on)
   (apply Aq7;(with_reducible rfl);rfl;rfl;decide +kernel;(exact hcells (by exact takeS) 5 _ rfl);(refine frS ?_))
   iterate 4 (refine qQ ?_;intro K hK;go_big_quiet_op;go_big_quiet_on)
   (apply Aq7;(with_reducible rfl);rfl;rfl;decide +kernel;(exact hcells (by exact takeS) 7 _ rfl);(refine frS ?_))
   iterate 4 (refine qQ ?_;intro K hK;go_big_quiet_op;go_big_quiet_on)
   (apply Aq7;(with_reducible rfl);rfl;rfl;decide +kernel;(exact hcells (by exact takeS) 6 _ rfl);(refine frS ?_))
   iterate 2 (refine qQ ?_;intro K hK;go_big_quiet_op;go_big_quiet_on)
   clear hS
   intro w hS
   simp only [List.drop_succ_cons,List.drop_zero]
   go_wp2_with (first|(go_at_call 185;refine (pays8 xb _ (n + 1) _ 1000000 W _ _ W2.out (Nat.le_refl _) _ _ _ (G2.out _) ⟨by omega,by omega⟩ ⟨by omega,by omega⟩ hS).mono ?_;clear hS;rintro e w ⟨rfl,hS⟩))
   refine Af7 17 (by kernel_rfl) (by kernel_rfl) hS ?_
   iterate 5 (refine qQ ?_;intro K hK;go_big_quiet_op;go_big_quiet_on)
   (apply Aq7;(with_reducible rfl);rfl;rfl;decide +kernel;(exact hcells (by exact takeS) 1 _ rfl);(refine frS ?_))
   iterate 4 (refine qQ ?_;intro K hK;go_big_quiet_op;go_big_quiet_on)
   (apply Aq7;(with_reducible rfl);rfl;rfl;decide +kernel;(exact hcells (by exact takeS) 5 _ rfl);(refine frS ?_))
   iterate 4 (refine qQ ?_;intro K hK;go_big_quiet_op;go_big_quiet_on)
   (apply Aq7;(with_reducible rfl);rfl;rfl;decide +kernel;(exact hcells (by exact takeS) 6 _ rfl);(refine frS ?_))
   (refine qQ ?_;intro K hK;go_big_quiet_op;go_big_quiet_on)
   clear hS
   intro w hS
   simp only [List.drop_succ_cons,List.drop_zero]
   go_wp2_with (first|(go_at_call 185;refine (pays8 xb _ (n + 1) _ 1000000 W _ _ W3.out (Nat.le_refl _) _ _ _ (G3.out _) ⟨by omega,by omega⟩ ⟨by omega,by omega⟩ hS).mono ?_;clear hS;rintro e w ⟨rfl,hS⟩))
   go_roundw
   case rel => exact ⟨k + 1,rfl,hk1,by rw [Hstep.out];exact hS⟩
   case measure => simp [intOf];omega
end
theorem ord8 (xb xB : Nat) (V : Vs) (N : Nat) (o : Ord) (hp : PsOk V.ps) (hw : PsW V.ps N) (hN : N + 150 ≤ 1000000) (hmay : ∀ x ∈ V.L,MayP x) (hn : 1 ≤ V.n) (W w : World) (R : List HP) (hS : St W (xvR xb xB V.ps V.L V.n R) w) :
  Calls Tryz.prog 121 #[.pointer (some ⟨xb,0,none⟩),.agg o.cells.toArray] w fun e w' => e = .returned (.tuple #[.int .i64 (ordV V o).1,.int .i64 (ordV V o).2.1]) ∧
   St W (xvR xb xB (ordV V o).2.2.ps (ordV V o).2.2.L (ordV V o).2.2.n R) w' := by
 unfold ordV
 by_cases h1 : may1 o = false
 ·rw [if_pos h1]
  exact Jy7 xb xB V.ps V.L V.n o W w R h1 hS
 ·rw [if_neg h1]
  have h1' : may1 o = true := by simpa using h1
  by_cases h2 : 32 ≤ V.L.length ∨ 1099511627776 < V.n
  ·rw [if_pos h2]
   exact HS7 xb xB V.ps V.L V.n o W w R h1' h2 hS
  ·rw [if_neg h2]
   by_cases h3 : takeE V.ps o.who (holdsF o) = 0
   ·rw [if_pos h3]
    exact Lg7 xb xB V.ps V.L V.n N o W w R hp hw hN hmay h1' hn (by omega) (by omega) h3 hS
   ·rw [if_neg h3]
    have h14 : takeE V.ps o.who (holdsF o) = 14 := by
     have hh := Ed7 h1'
     unfold takeE at h3 ⊢
     rw [if_pos hh] at h3 ⊢
     split
     ·rename_i hs;rw [if_pos hs] at h3;exact absurd rfl h3
     ·rfl
    exact GY7 xb xB V.ps V.L V.n N o W w R hw (by omega) h1' (by omega) hn (by omega) h14 hS
def CaR (W : World) (F : List HP) (L : List Ord) (id : Int) (who : ByteArray) (v : Value) (w : World) : Prop :=
 ∃ i : Nat,v = .int .i64 i ∧ i ≤ L.length ∧ (∀ x ∈ L.take i,hitC id who x = false) ∧ St W F w
section
variable (xb xB : Nat) (p : Ps) (L : List Ord) (n : Int) (N : Nat) (who : ByteArray) (id : Int) (W w : World) (R : List HP)
theorem cancel8 (hp : PsOk p) (hw : PsW p N) (hN : N + 150 ≤ 1000000) (hmay : ∀ x ∈ L,MayP x) (hl32 : L.length ≤ 32) (hS : St W (xvR xb xB p L n R) w) :
  Calls Tryz.prog 122 #[.pointer (some ⟨xb,0,none⟩),.string who,.int .i64 id] w fun e w' => e = .returned (.int .i64 (canV ⟨p,L,n⟩ who id).1) ∧ St W (xvR xb xB (canV ⟨p,L,n⟩ who id).2.ps (canV ⟨p,L,n⟩ who id).2.L n R) w' := by
 have Hp := Lib.hid hp
 have Hw := Lib.hid hw
 have Hmay := Lib.hid hmay
 clear hp hw hmay
 obtain ⟨xv,hS1⟩ := xvOpen hS
 obtain ⟨la,lc,last,hlast,hS2⟩ := xkOpen (hS1.sel (L' := xkP xB L n :: blk xb _ _ :: hdR _ (hdL p) :: R) (by exact selS))
 clear hS hS1
 have hS := hS2
 clear hS2
 go_enter Tryz.func122,Tryz.ntmps122
 go_wp2_with fail
 go_loopw [7] (fun v wr => CaR W (blk xB [.slice la L.length lc,.int .i64 last] 244 :: pileR (.slice la L.length lc) L :: blk xb [xv,.pointer (some ⟨xB,0,none⟩),.int .i64 n] 246 :: hdR xv (hdL p) :: R) L id who v wr) (fun v _ => L.length - (intOf v).toNat)
 case atStart => exact ⟨0,rfl,Nat.zero_le _,fun x hx => (by simp at hx),hS⟩
 case round =>
  clear hS
  obtain ⟨i,rfl,hil,hno,hS⟩ := hrel
  by_cases hin : i = L.length
  ·rw [hin,List.take_length] at hno
   have hany : L.any (hitC id who) = false := by
    rw [List.any_eq_false]
    intro x hx
    rw [hno x hx]
    simp
   have E := Lib.hid (show canV ⟨p,L,n⟩ who id = (7,⟨p,L,n⟩) by unfold canV;rw [if_neg (by rw [hany];simp)])
   subst hin
   clear hno hany
   go_wp2_with (first|(refine zl1 hS ?_))
   go_ret
   rw [E.out]
   have hS1 := xkShut hlast (hS.sel (L' := blk xB _ _ :: pileR _ L :: blk xb _ _ :: hdR _ (hdL p) :: R) (by exact selS))
   exact ⟨rfl,xvShut (hS1.sel (L' := blk xb _ _ :: hdR _ (hdL p) :: xkP xB L n :: R) (by exact selS))⟩
  ·have hi1 : i < L.length := by omega
   obtain ⟨⟨g,rfl⟩,hcap,hcn⟩ := St.rowAddr hS.drop (by omega)
   have q0 : (Ord.cells L[i])[0]? = some (.int .i64 L[i].id) := rfl
   have q1 : (Ord.cells L[i])[1]? = some (.string L[i].who) := rfl
   have hstep : hitC id who L[i] = false → ∀ x ∈ L.take (i + 1),hitC id who x = false := fun h x hx => by
    rw [List.take_succ_eq_append_getElem hi1] at hx
    rcases List.mem_append.1 hx with hx|hx
    ·exact hno x hx
    ·rw [List.mem_singleton.1 hx];exact h
   have hyes : hitC id who L[i] = true → L.any (hitC id who) = true := fun h => List.any_eq_true.2 ⟨_,List.getElem_mem hi1,h⟩
   have hd : hitC id who L[i] = ((L[i].id == id) && (L[i].who.toList == who.toList)) := rfl
   generalize hx : L[i] = x at q0 q1 hstep hyes hd
   have Hx := Lib.hid hx
   clear hx hno hin
   obtain ⟨xi,xu,xy,xt,xc,xp⟩ := x
   simp only at q0 q1 hd
   have c0 : ∀ {K K' : List HP},Take K (pileR (.slice (some ⟨g,0,none⟩) L.length lc) L) K' → Cell K g (i * 6) (.int .i64 xi) := fun hu => Cells.elemM (enc := Ord.cells) Ord.len hu hi1 0 _ (by rw [Hx.out];rfl)
   have c1 : ∀ {K K' : List HP},Take K (pileR (.slice (some ⟨g,0,none⟩) L.length lc) L) K' → Cell K g (i * 6 + 1) (.string xu) := fun hu => Cells.elemM (enc := Ord.cells) Ord.len hu hi1 1 _ (by rw [Hx.out];rfl)
   cases h1 : xi == id with
   | false =>
    rw [h1,Bool.false_and] at hd
    have Hs := Lib.hid (hstep hd)
    clear hstep hyes hd q0 q1
    go_wp2_with (first|(refine zl1 hS ?_)|(refine zl1 hS ?_ (hc := by exact c0 (by exact takeS))))
    go_roundw
    case rel => exact ⟨i + 1,rfl,hi1,Hs.out,hS⟩
    case measure => simp [intOf];omega
   | true =>
    cases h2 : xu.toList == who.toList with
    | false =>
     rw [h1,h2,Bool.and_false] at hd
     have Hs := Lib.hid (hstep hd)
     clear hstep hyes hd q0 q1
     go_wp2_with (first|(refine zl1 hS ?_)|(refine zl1 hS ?_ (hc := by exact c0 (by exact takeS)))|(refine zl1 hS ?_ (hc := by exact c1 (by exact takeS))))
     go_roundw
     case rel => exact ⟨i + 1,rfl,hi1,Hs.out,hS⟩
     case measure => simp [intOf];omega
    | true =>
     rw [h1,h2,Bool.and_true] at hd
     have hany := hyes hd
     obtain ⟨he0,hmem⟩ := DD7 hany
     have hmz := Hmay.out _ hmem
     have e : canV ⟨p,L,n⟩ who id = (0,⟨backP p who (holdsF (cancelR L id).o),(cancelR L id).L,n⟩) := by unfold canV;rw [if_pos hany]
     generalize hCR : cancelR L id = CR at he0 hmz e
     obtain ⟨⟨zi,zu,zy,zt,zc,zp⟩,en,L2⟩ := CR
     simp only at he0 hmz e
     subst he0
     obtain ⟨it,hit⟩ : ∃ y,holdsF ⟨zi,zu,zy,zt,zc,zp⟩ = y := ⟨_,rfl⟩
     have hii : isIt it = true := by
      rw [← hit]
      exact (Ed7 (o := ⟨zi,zu,zy,zt,zc,zp⟩) (Av7.2 ⟨show (1 : Int) ≤ 1 by decide,show (1 : Int) ≤ 1099511627776 by decide,hmz.who0,hmz.who1,hmz.item0,hmz.item1,hmz.cnt0,hmz.cnt1,hmz.price0,hmz.price1⟩)).2
     have hwho : whoB who = true := by
      have hxw : (⟨xi,xu,xy,xt,xc,xp⟩ : Ord) ∈ L := by rw [← Hx.out];exact List.getElem_mem hi1
      have e1 : xu = who := EI7 (by
       rw [Lib.toList_data,Lib.toList_data] at h2
       simpa using h2)
      rw [← e1]
      exact DF7 (Hmay.out _ hxw)
     rw [hit] at e
     obtain ⟨h0,h1',h2',h3'⟩ := it
     obtain ⟨a0,a1,a2,a3⟩ := Al7.1 hii
     simp only at a0 a1 a2 a3
     have HCR := Lib.hid hCR
     have Hmz := Lib.hid hmz
     have Hit := Lib.hid hit
     have E := Lib.hid e
     clear hCR hmz hit e hii hstep hyes hd q0 q1 hany hmem
     have G1 := Lib.hid (show ∀ y,isIt (purseA p y) = true from Hp.out)
     have G2 := Lib.hid (show ∀ y,isIt (purseA (giveP p who 0 h0) y) = true from An7 Hp.out _ _ a0.1)
     have G3 := Lib.hid (show ∀ y,isIt (purseA (giveP (giveP p who 0 h0) who 1 h1') y) = true from An7 (An7 Hp.out _ _ a0.1) _ _ a1.1)
     have G4 := Lib.hid (show ∀ y,isIt (purseA (giveP (giveP (giveP p who 0 h0) who 1 h1') who 2 h2') y) = true from An7 (An7 (An7 Hp.out _ _ a0.1) _ _ a1.1) _ _ a2.1)
     have W1 := Lib.hid (show PsW p 1000000 from As7 Hw.out (by omega))
     have W2 := Lib.hid (show PsW (giveP p who 0 h0) 1000000 from As7 (AB7 Hw.out hwho _ _) (by omega))
     have W3 := Lib.hid (show PsW (giveP (giveP p who 0 h0) who 1 h1') 1000000 from As7 (AB7 (AB7 Hw.out hwho _ _) hwho _ _) (by omega))
     have W4 := Lib.hid (show PsW (giveP (giveP (giveP p who 0 h0) who 1 h1') who 2 h2') 1000000 from As7 (AB7 (AB7 (AB7 Hw.out hwho _ _) hwho _ _) hwho _ _) (by omega))
     clear hwho
     go_wp2_with (first|(refine zl1 hS ?_)|(refine zl1 hS ?_ (hc := by exact c0 (by exact takeS)))|(refine zl1 hS ?_ (hc := by exact c1 (by exact takeS)))|(go_at_call 186;refine (Fb7 L id xB last _ hl32 W _ _ (hS.sel (L' := blk xB _ _ :: pileR _ L :: blk xb _ _ :: hdR _ (hdL p) :: R) (by exact selS))).mono ?_;clear hS;rw [HCR.out];simp only [Ord.cells];rintro e w ⟨rfl,v9,hS⟩)|(go_at_call 183;refine (ES7 (o := ⟨zi,zu,zy,zt,zc,zp⟩) Hmz.out Hit.out W _ _ hS).mono ?_;clear hS;rintro e w ⟨rfl,hS⟩)|((fail_if_success (have := b8));((with_reducible apply Au7 hS);(with_reducible rfl);rfl;(exact zsS);clear hS;intro b8 w hS;(refine frS ?_)))|((have := b8);(with_reducible apply Au7 hS);(with_reducible rfl);rfl;(exact zsS);clear hS;intro b10 w hS;(refine frS ?_))|(refine zlN hS ?_)|(refine zsN hS ?_;clear hS;intro w hS))
     have hS1 := xkShut hlast (hS.sel (L' := blk xB _ _ :: pileR _ L2 :: blk xb _ _ :: hdR _ (hdL p) :: blk b10 _ _ :: R) (by exact selS))
     clear hS
     have hS := xvShut (hS1.sel (L' := blk xb _ _ :: hdR _ (hdL p) :: xkP xB L2 n :: blk b10 _ _ :: R) (by exact selS))
     clear hS1
     go_loopw [11] (fun v wr => Cn4 W (fun q => [xvP xb (.pointer (some ⟨xB,0,none⟩)) n q,xkP xB L2 n,blk b10 [.int .i64 h0,.int .i64 h1',.int .i64 h2',.int .i64 h3'] 29] ++ R) p who ⟨h0,h1',h2',h3'⟩ v wr) (fun v _ => 4 - (intOf v).toNat)
     case atStart => exact .inl ⟨rfl,hS⟩
     case round =>
     clear hS
     simp only [Cn4,List.cons_append,List.nil_append] at hrel
     rcases hrel with ⟨rfl,hS⟩|⟨rfl,hS⟩|⟨rfl,hS⟩|⟨rfl,hS⟩|⟨rfl,hS⟩
     ·skip
      go_wp2_with (first|(refine zl1 hS ?_)|(go_at_call 185;refine (pays8 xb _ n _ 1000000 W _ _ W1.out (Nat.le_refl _) _ _ _ (G1.out _) ⟨by omega,by omega⟩ ⟨by omega,by omega⟩ hS).mono ?_;clear hS;rintro e w ⟨rfl,hS⟩))
      go_roundw
      case rel => exact .inr (.inl ⟨rfl,hS⟩)
      case measure => simp [intOf]
     ·skip
      go_wp2_with (first|(refine zl1 hS ?_)|(go_at_call 185;refine (pays8 xb _ n _ 1000000 W _ _ W2.out (Nat.le_refl _) _ _ _ (G2.out _) ⟨by omega,by omega⟩ ⟨by omega,by omega⟩ hS).mono ?_;clear hS;rintro e w ⟨rfl,hS⟩))
      go_roundw
      case rel => exact .inr (.inr (.inl ⟨rfl,hS⟩))
      case measure => simp [intOf]
     ·skip
      go_wp2_with (first|(refine zl1 hS ?_)|(go_at_call 185;refine (pays8 xb _ n _ 1000000 W _ _ W3.out (Nat.le_refl _) _ _ _ (G3.out _) ⟨by omega,by omega⟩ ⟨by omega,by omega⟩ hS).mono ?_;clear hS;rintro e w ⟨rfl,hS⟩))
      go_roundw
      case rel => exact .inr (.inr (.inr (.inl ⟨rfl,hS⟩)))
      case measure => simp [intOf]
     ·skip
      go_wp2_with (first|(refine zl1 hS ?_)|(go_at_call 185;refine (pays8 xb _ n _ 1000000 W _ _ W4.out (Nat.le_refl _) _ _ _ (G4.out _) ⟨by omega,by omega⟩ ⟨by omega,by omega⟩ hS).mono ?_;clear hS;rintro e w ⟨rfl,hS⟩))
      go_roundw
      case rel => exact .inr (.inr (.inr (.inr ⟨rfl,hS⟩)))
      case measure => simp [intOf]
     ·go_wp2_with (fail)
      go_ret
      rw [E.out]
      exact ⟨rfl,hS.sel (by exact selS)⟩
end
def sumW (k : Int) : Ps → Int
 | [] => 0
 | x :: p => getK x.2 k + sumW k p
def sumH (k : Int) : List Ord → Int
 | [] => 0
 | x :: L => getK (holdsF x) k + sumH k L
def payK (k : Int) (t : Trd) : Int := (if k = t.item then t.cnt else 0) + (if k = 0 then t.cnt * (t.bid - t.price) + t.cnt * t.price else 0)
def sumT (k : Int) : List Trd → Int
 | [] => 0
 | t :: ts => payK k t + sumT k ts
def sumI (k : Int) : List It → Int
 | [] => 0
 | i :: l => getK i k + sumI k l
def totV (V : Vs) (k : Int) : Int := sumW k V.ps + sumH k V.L
structure Kx (k : Int) : Prop where
 k0 : 0 ≤ k
 k3 : k ≤ 3
theorem FT7 (k : Int) : getK it0 k = 0 := by
 unfold getK it0;repeat' split
 all_goals rfl
theorem Oy7 {i : It} (h : isZ i = true) (k : Int) : getK i k = 0 := by rw [MS7 h,FT7]
theorem Lh7 {p : Ps} (h : (p.map (·.1)).Nodup) (k : ByteArray) (i : It) : ((layP p k i).map (·.1)).Nodup := by
 unfold layP
 split
 ·exact DE7 h k
 ·rw [List.map_cons,List.nodup_cons]
  refine ⟨fun hm => ?_,DE7 h k⟩
  obtain ⟨x,hx,e⟩ := List.mem_map.1 hm
  exact (Cv7 hx).2 e
theorem Li7 {p : Ps} (h : (p.map (·.1)).Nodup) {x : ByteArray × It} (hx : x ∈ p) : purseA p x.1 = x.2 := by
 have := Du7 (v := x.2) h hx
 unfold purseA
 rw [this]
 rfl
theorem Jz7 (x : ByteArray × It) (p : Ps) (k : ByteArray) : purseA (x :: p) k = if x.1 = k then x.2 else purseA p k := by
 unfold purseA getL
 split
 ·rename_i h
  rw [List.find?_cons_of_pos (by simpa using h)];rfl
 ·rename_i h
  rw [List.find?_cons_of_neg (by simpa using h)]
theorem IN7 (k : Int) (who : ByteArray) : ∀ {p : Ps},(p.map (·.1)).Nodup → sumW k (delL p who) = sumW k p - getK (purseA p who) k
 | [],_ => by
  show (0 : Int) = 0 - getK it0 k
  rw [FT7];rfl
 | x :: p,h => by
  rw [List.map_cons,List.nodup_cons] at h
  have ih := IN7 k who h.2
  rw [Jz7]
  by_cases hx : x.1 = who
  ·rw [if_pos hx]
   have e : delL (x :: p) who = p := by
    unfold delL
    rw [List.filter_cons,if_neg (by simpa using hx)]
    refine List.filter_eq_self.2 fun y hy => ?_
    have : y.1 ≠ who := fun e => h.1 (List.mem_map.2 ⟨y,hy,e.trans hx.symm⟩)
    simpa using this
   rw [e]
   show sumW k p = getK x.2 k + sumW k p - getK x.2 k
   omega
  ·rw [if_neg hx]
   have e : delL (x :: p) who = x :: delL p who := by
    unfold delL
    rw [List.filter_cons,if_pos (by simpa using hx)]
   rw [e]
   show getK x.2 k + sumW k (delL p who) = getK x.2 k + sumW k p - getK (purseA p who) k
   omega
theorem My7 {p : Ps} (h : (p.map (·.1)).Nodup) (k : Int) (who : ByteArray) (i : It) : sumW k (layP p who i) = sumW k p - getK (purseA p who) k + getK i k := by
 have hd := IN7 k who h
 unfold layP
 split
 ·rename_i hz
  rw [hd,Oy7 hz]
  omega
 ·show getK i k + sumW k (delL p who) = _
  omega
structure PsK (p : Ps) : Prop where
 nd : (p.map (·.1)).Nodup
 ok : PsOk p
theorem PsK.pos {p : Ps} (h : PsK p) (k : Int) : 0 ≤ sumW k p := by
 have hx : ∀ x ∈ p,0 ≤ getK x.2 k := fun x hx => by
  rw [← Li7 h.nd hx]
  exact (Kv7 (h.ok x.1) k).1
 clear h
 induction p with
 | nil => exact Int.le_refl _
 | cons x p ih =>
  have h1 := hx x (List.mem_cons_self ..)
  have h2 := ih fun y hy => hx y (List.mem_cons_of_mem _ hy)
  show 0 ≤ getK x.2 k + sumW k p
  omega
theorem NO7 : isIt it0 = true := by decide
theorem PsK.le {p : Ps} (h : PsK p) (who : ByteArray) (k : Int) : getK (purseA p who) k ≤ sumW k p := by
 have h1 := My7 h.nd k who it0
 have h2 := PsK.pos ⟨Lh7 h.nd who it0,Ec7 h.ok who NO7⟩ k
 rw [FT7] at h1
 omega
def withC (o : Ord) (c : Int) : Ord := ⟨o.id,o.who,o.buy,o.item,c,o.price⟩
def allV (V : Vs) : List It := (hdL V.ps).map Hd.has ++ V.L.map holdsF
def totI (V : Vs) : It := ⟨totV V 0,totV V 1,totV V 2,totV V 3⟩
abbrev itsR (v : Value) (l : List It) : HP := row v 4 29 l.length (l.flatMap It.cells)
def TtR (W : World) (F : List HP) (m : Nat) (acc : Nat → List It) (v7 vk : Value) (w : World) : Prop :=
 ∃ k : Nat,vk = .int .i64 k ∧ k ≤ m ∧ St W (itsR v7 (acc k) :: F) w
theorem new8 (W w : World) (R : List HP) (hS : St W R w) :
  Calls Tryz.prog 114 #[] w fun e w' => ∃ xb xB,e = .returned (.pointer (some ⟨xb,0,none⟩)) ∧ St W (xvR xb xB [] [] 1 R) w' := by
 go_enter Tryz.func114,Tryz.ntmps114
 go_wp2_with (first|((fail_if_success (have := bA));(with_reducible apply Ay7 hS);(with_reducible rfl);rfl;rfl;rfl;clear hS;intro bA w hS;(refine frS ?_))|((have := bA);(with_reducible apply Ay7 hS);(with_reducible rfl);rfl;rfl;rfl;clear hS;intro bB w hS;(refine frS ?_)))
 go_ret
 have hS1 := (hS.rowNil (k := 5) (T := 189)).rowNil (k := 6) (T := 166)
 have e0 : hdL [] = [] := List.eq_nil_of_length_eq_zero (by rw [EJ7];rfl)
 have hS2 : St W (pileR (.slice none 0 0) [] :: hdR (.slice none 0 0) [] :: _) _ := hS1
 rw [← e0] at hS2
 have hS3 := xkShut (n := 1) (last := 0) (by decide) (hS2.sel (L' := blk bA _ _ :: pileR _ [] :: blk bB _ _ :: hdR _ (hdL []) :: R) (by exact selS))
 exact ⟨bB,bA,rfl,xvShut (hS3.sel (L' := blk bB _ _ :: hdR _ (hdL []) :: xkP bA [] 1 :: R) (by exact selS))⟩
def OrdR (W : World) (Lr : List HP) (n : Nat) (v : Value) (w : World) : Prop := ∃ i : Nat,v = .int .i64 i ∧ i ≤ n ∧ St W Lr w
end Go.Proofs.YtlmhakmoioogaaaGreat
end
