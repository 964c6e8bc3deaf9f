/-
  Requests go on in both economies, and both say the same. For every two that are alike, all requests.
  The program's Total of an economy. For every economy.
  What a request changes of all that an economy has. The plain law: no program in sight.
-/
import Derived.Test.YtlmhakmoioogaaaGreatEconTotalM5
import Derived.Test.YtlmhakmoioogaaaGreatEconTotalM30
import Derived.Test.YtlmhakmoioogaaaGreatEconTotalM38
import Derived.Test.YtlmhakmoioogaaaGreatEconTotalM45
import Derived.Test.YtlmhakmoioogaaaGreatEconTotalM46
set_option maxHeartbeats 16000000
set_option linter.unusedSimpArgs false
set_option linter.unusedVariables false
section
namespace Go.Proofs.YtlmhakmoioogaaaGreat
open Go.RowKit Go.Sl
def runD (l : List Opn) (d : Ec) : Ec := l.foldl (fun d o => (appD d o).2.2) d
theorem runE_nx {xs : List Opn} {i : Nat} (h : i < xs.length) (e : Ec) : runE (xs.take (i + 1)) e = (appE (runE (xs.take i) e) xs[i]).2.2 := by
 unfold runE
 rw [List.take_succ_eq_append_getElem h,List.foldl_append]
 rfl
theorem runD_nx {xs : List Opn} {i : Nat} (h : i < xs.length) (d : Ec) : runD (xs.take (i + 1)) d = (appD (runD (xs.take i) d) xs[i]).2.2 := by
 unfold runD
 rw [List.take_succ_eq_append_getElem h,List.foldl_append]
 rfl
def GoR (W : World) (Lr : List HP) (eb xb : Nat) (xs : List Opn) (d e : Ec) (n : Nat) (v : Value) (w : World) : Prop :=
 ∃ i : Nat,v = .int .i64 i ∧ i ≤ xs.length ∧ GOk (runD (xs.take i) d) (runE (xs.take i) e) (n + i) ∧ St W (ecP eb (runE (xs.take i) e) :: xecP xb (runD (xs.take i) d) :: Lr) w
section
variable {W w : World} {L R : List HP} {eb xb : Nat} {d e : Ec} {i : Nat} {k u : ByteArray} {x0 x1 x2 x3 cl sq : Int} {b : Bool}
end
theorem apply8_at {xb : Nat} {d d2 : Ec} {i : Nat} (hi : i ≤ 5000) {kd cl sq : Int} {ak aw tk tw : ByteArray} {it ct pr : Int} {bu : Bool} {id : Int} (hd0 : DOk d ak i) {r0 r1 r2 r3 r4 r5 : Int} {b : Bool} (h : appD d ⟨kd,cl,sq,ak,aw,tk,tw,it,ct,pr,bu,id⟩ = (⟨r0,r1,⟨r2,r3,r4,r5⟩⟩,b,d2)) (W w : World) (R : List HP) (hS : St W (xecP xb d :: R) w) :
  Calls Tryz.prog 21 #[.pointer (some ⟨xb,0,none⟩),oV kd cl sq ak aw tk tw it ct pr bu id] w fun x w' => x = .returned (.tuple #[rV r0 r1 r2 r3 r4 r5,.bool b]) ∧ St W (xecP xb d2 :: R) w' := by
 have h1 := apply8_x hi (kd := kd) (cl := cl) (sq := sq) (aw := aw) (tk := tk) (tw := tw) (it := it) (ct := ct) (pr := pr) (bu := bu) (id := id) hd0 W w R hS
 rw [h] at h1
 exact h1
theorem applyE_at {eb : Nat} {e e2 : Ec} {i : Nat} (hE : EOk e i) (hi : i ≤ 1000000) {kd cl sq : Int} {ak aw tk tw : ByteArray} {it ct pr : Int} {bu : Bool} {id : Int} {r0 r1 r2 r3 r4 r5 : Int} {b : Bool} (h : appE e ⟨kd,cl,sq,ak,aw,tk,tw,it,ct,pr,bu,id⟩ = (⟨r0,r1,⟨r2,r3,r4,r5⟩⟩,b,e2)) (W w : World) (R : List HP) (hS : St W (ecP eb e :: R) w) :
  Calls Tryz.prog 16 #[.pointer (some ⟨eb,0,none⟩),oV kd cl sq ak aw tk tw it ct pr bu id] w fun x w' => EOk e2 (i + 1) ∧ x = .returned (.tuple #[rV r0 r1 r2 r3 r4 r5,.bool b]) ∧ St W (ecP eb e2 :: R) w' := apply_at hE hi h W w R hS
end Go.Proofs.YtlmhakmoioogaaaGreat
end
section
namespace Go.Proofs.YtlmhakmoioogaaaGreat
open Go.RowKit Go.Sl
def TeR (W : World) (R : List HP) (E : Ev) (m1 r : Nat) (v4 : Value) (w : World) : Prop :=
 ∃ done todo : List (ByteArray × Nat),(done ++ todo).Perm (ptrsE E) ∧ St W (itsR v4 (done.map fun y => totI (vAt E y.1)) :: itR eS eN r m1 (ptrsE E) todo :: vauP E :: R) w
set_option maxRecDepth 100000 in
theorem totalE_x {eb : Nat} {e : Ec} {i : Nat} (hE : EOk e i) (hi : i ≤ 1000000) (hl : e.vs.length ≤ 1000000) (hv : ∀ x ∈ e.vs,addL (allV x.2) it0 = some (totI x.2)) {t0 t1 t2 t3 : Int} (ht : ∀ l : List It,l.Perm (e.vs.map fun x => totI x.2) → addL l it0 = some ⟨t0,t1,t2,t3⟩) (W w : World) (R : List HP) (hS : St W (ecP eb e :: R) w) :
  Calls Tryz.prog 22 #[.pointer (some ⟨eb,0,none⟩)] w fun x w' => x = .returned (.tuple #[.agg #[.int .i64 t0,.int .i64 t1,.int .i64 t2,.int .i64 t3],.bool true]) ∧ St W (ecP eb e :: R) w' := by
 obtain ⟨m1,m2,m3,m4,E,hp,hn,hS0⟩ := ecOpenR hS
 have hS1 := evOpen hS0
 clear hS hS0
 have hEl : (ptrsE E).length ≤ 1000000 := by
  have h1 := hp.length_eq
  unfold stripE at h1
  unfold ptrsE
  rw [List.length_map] at h1 ⊢
  omega
 have hm : ∀ (y : ByteArray × Nat) (todo' : List (ByteArray × Nat)) {done todo : List (ByteArray × Nat)},(done ++ todo).Perm (ptrsE E) → todo.Perm (y :: todo') → ∃ V,E.Perm ((y.1,(y.2,V)) :: delL E y.1) ∧ vAt E y.1 = V ∧ PsW V.ps (100 * i) ∧ addL (allV ⟨V.ps,V.L,V.n⟩) it0 = some ⟨totV V 0,totV V 1,totV V 2,totV V 3⟩ := by
  intro y todo' done todo h1 h2
  have h3 : y ∈ ptrsE E := h1.mem_iff.1 (List.mem_append_right _ (h2.mem_iff.2 (List.mem_cons_self ..)))
  obtain ⟨x,hx,rfl⟩ := List.mem_map.1 h3
  have h4 : getL E x.1 = some x.2 := getL_at hn hx
  have h5 : (x.1,x.2.2) ∈ e.vs := hp.mem_iff.1 (List.mem_map.2 ⟨x,hx,rfl⟩)
  refine ⟨x.2.2,perm_get hn h4,?_,(hE _ h5).w,hv _ h5⟩
  unfold vAt
  rw [h4];rfl
 have hend : ∀ done : List (ByteArray × Nat),done.Perm (ptrsE E) → addL (done.map fun y => totI (vAt E y.1)) it0 = some ⟨t0,t1,t2,t3⟩ := by
  intro done h1
  refine ht _ ((h1.map _).trans ?_)
  refine List.Perm.trans ?_ (hp.map _)
  unfold ptrsE stripE
  rw [List.map_map,List.map_map]
  refine List.Perm.of_eq (List.map_congr_left fun x hx => ?_)
  show totI (vAt E x.1) = totI x.2.2
  unfold vAt
  rw [getL_at (v := x.2) hn hx];rfl
 have Hend := Lib.hid hend
 have Hp := Lib.hid hp
 clear hend hp hv ht hE
 have hS := hS1
 clear hS1
 go_enter Tryz.func22,Tryz.ntmps22
 go_wp2_with (first|go_big_skip|((fail_if_success (have := gA));(refine zal hS ?_;clear hS;have gA : Nat := 0;intro b0 w hS))|(refine zl1 hS ?_)|((with_reducible apply wl_arange (ek := eS) (ev := eN) hS);(with_reducible rfl);rfl;rfl;exact mV;(exact takeS);clear hS;intro r w hS;(refine frS ?_)))
 have hS1 := hS.rowNil (k := 4) (T := 29)
 clear hS
 have hS := hS1
 clear hS1
 go_loopw [4] (fun v4 wr => TeR W (blk eb [.map (some m1),.map (some m2),.map (some m3),.map (some m4)] 84 :: blk b0 [.int .i64 0,.int .i64 0,.int .i64 0,.int .i64 0] 29 :: amap eI eSs m2 e.ss :: amap eW eTn m3 e.ts :: amap eW eU m4 e.ar :: R) E m1 r v4 wr) (fun _ wr => itLeft r m1 wr)
 case atStart =>
  refine ⟨[],ptrsE E,List.Perm.refl _,?_⟩
  have h0 : St W (itsR (.slice none 0 0) ([] : List It) :: _) _ := hS
  show St W (itsR (.slice none 0 0) ([] : List It) :: _) _
  exact h0.sel (by exact selS)
 case round =>
  clear hS
  obtain ⟨done,todo,hdt,hS⟩ := hrel
  have hm1 := itLeft_eq hS.drop
  have hdl : done.length ≤ 1000000 := by
   have := hdt.length_eq
   rw [List.length_append] at this
   omega
  by_cases ht : todo = []
  ·have hall := Hend.out done (by rw [ht,List.append_nil] at hdt;exact hdt)
   have Hall := Lib.hid hall
   clear hall hdt hm1 hm
   generalize (done.map fun y => totI (vAt E y.1)) = acc at hS Hall
   go_wp2_with (first|go_big_skip|((with_reducible apply wl_inext0 (ek := eS) (ev := eN) hS);(with_reducible rfl);rfl;rfl;(exact takeS);exact ht;(refine frS ?_))|(go_at_call 58;refine (add_some Hall.out _ W _ _ hS).mono ?_;clear hS;rintro ex w ⟨rfl,hS⟩)|(refine zsN hS ?_;clear hS;intro w hS)|(refine zlN hS ?_))
   (apply bp_cell_tmp;rfl;rfl;rfl;rfl;exact hS;decide +kernel;(exact cesS);kernel_rfl)
   have h1 := itEnd (hS.sel (L' := itR eS eN r m1 (ptrsE E) todo :: vauP E :: blk eb _ _ :: amap eI eSs m2 e.ss :: amap eW eTn m3 e.ts :: amap eW eU m4 e.ar :: R) (by exact selS))
   exact ⟨rfl,ecShut Hp.out (h1.sel (by exact selS))⟩
  ·have hm' : ∀ (y : ByteArray × Nat) (todo' : List (ByteArray × Nat)),todo.Perm (y :: todo') → ∃ V,E.Perm ((y.1,(y.2,V)) :: delL E y.1) ∧ vAt E y.1 = V ∧ PsW V.ps (100 * i) ∧ addL (allV ⟨V.ps,V.L,V.n⟩) it0 = some ⟨totV V 0,totV V 1,totV V 2,totV V 3⟩ := fun y todo' h => hm y todo' hdt h
   have hnx : ∀ (y : ByteArray × Nat) (todo' : List (ByteArray × Nat)),todo.Perm (y :: todo') → (done ++ [y] ++ todo').Perm (ptrsE E) := fun y todo' h => by
    rw [List.append_assoc]
    exact (List.Perm.append_left done h.symm).trans hdt
   have Hm := Lib.hid hm'
   have Hnx := Lib.hid hnx
   have Hm1 := Lib.hid hm1
   clear hm hm' hnx hdt hm1
   obtain ⟨accj,hacc⟩ : ∃ l,(done.map fun y => totI (vAt E y.1)) = l := ⟨_,rfl⟩
   have hal : accj.length ≤ 1000000 := by rw [← hacc,List.length_map];exact hdl
   rw [hacc] at hS
   have Hacc := Lib.hid hacc
   clear hacc
   go_wp2_with (first|go_big_skip|((with_reducible apply wl_inext1 (ek := eS) (ev := eN) hS);(with_reducible rfl);rfl;rfl;(exact takeS);exact ht;clear hS;intro y todo' hy1 hy2 w hS;obtain ⟨yk,yb⟩ := y;have Hy := Lib.hid hy1;clear hy1 hy2;(refine frS ?_))|((with_reducible apply wl_ientry (ek := eS) (ev := eN) hS);(with_reducible rfl);rfl;rfl;(exact takeS);clear hS;intro hS;(refine frS ?_))|(go_at_call 57;obtain ⟨V,hp,hv,hw,hadd⟩ := Hm.out (yk,yb) todo' Hy.out;have h1 := vauOpen (vauPerm hp (hS.sel (L' := vauP E :: itR eS eN r m1 (ptrsE E) todo' :: itsR _ accj :: blk eb _ _ :: blk b0 _ _ :: amap eI eSs m2 e.ss :: amap eW eTn m3 e.ts :: amap eW eU m4 e.ar :: R) (by exact selS)));obtain ⟨mb,bb,h2⟩ := vaultOpen h1;clear hS h1;refine (totalV_spec yb mb bb V.ps V.L V.n hw (by omega) hadd W _ _ h2).mono ?_;clear h2;rintro ex w ⟨rfl,h3⟩;have hS := vauPerm hp.symm (vauShut (x := (yk,(yb,V))) (vaultShut h3));have Hv := Lib.hid hv;clear h3 hp hv hw hadd)|((have := gA);(refine zal hS ?_;clear hS;intro bt w hS))|(refine zsN hS ?_;clear hS;intro w hS)|(refine zlN hS ?_)|(refine zbs hS ?_;clear hS;intro bS w hS)|(refine zap hS ?_ (h63 := by unfold maxLen;omega) (hb := by omega);clear hS;intro v w hS))
   go_roundw
   case rel =>
    refine ⟨done ++ [(yk,yb)],todo',Hnx.out _ _ Hy.out,?_⟩
    rw [List.map_append,Hacc.out]
    show St W (itsR _ (accj ++ [totI (vAt E yk)]) :: _) w
    rw [Hv.out]
    unfold itsR
    rw [its_push,List.length_append,List.length_singleton]
    have h0 : St W (row v 4 29 (accj.length + 1) (accj.flatMap It.cells ++ It.cells (totI V)) :: _) w := hS
    exact h0.sel (by exact selS)
   case measure =>
    have h3 := itLeft_eq (hS.take (by exact takeS))
    have h4 := Hy.out.length_eq
    rw [List.length_cons] at h4
    have h5 := Hm1.out
    omega
end Go.Proofs.YtlmhakmoioogaaaGreat
end
section
namespace Go.Proofs.YtlmhakmoioogaaaGreat
open Go.RowKit Go.Sl
def sumVs (k : Int) : List (ByteArray × Vs) → Int
 | [] => 0
 | x :: l => totV x.2 k + sumVs k l
def totE (e : Ec) (k : Int) : Int := sumVs k e.vs
theorem sumVs_perm {l l' : List (ByteArray × Vs)} (h : l.Perm l') (k : Int) : sumVs k l = sumVs k l' := by
 induction h with
 | nil => rfl
 | cons x _ ih => rw [sumVs,sumVs,ih]
 | swap x y l => rw [sumVs,sumVs,sumVs,sumVs];omega
 | trans _ _ h1 h2 => rw [h1,h2]
theorem tot_vs0 (k : Int) : totV vs0 k = 0 := rfl
theorem sumVs_del {l : List (ByteArray × Vs)} (hn : (l.map (·.1)).Nodup) (u : ByteArray) (k : Int) : sumVs k l = totV ((getL l u).getD vs0) k + sumVs k (delL l u) := by
 cases hg : getL l u with
 | none => rw [delL_no (getL_none hg)];show _ = totV vs0 k + _;rw [tot_vs0];omega
 | some V => rw [sumVs_perm (perm_get hn hg) k];rfl
theorem totE_set {e : Ec} (hn : (e.vs.map (·.1)).Nodup) (u : ByteArray) (V : Vs) (k : Int) : sumVs k (setV e u V).vs = totE e k - totV (atV e u) k + totV V k := by
 have h := sumVs_del hn u k
 unfold totE
 rw [h]
 unfold atV
 show sumVs k (if noneV V = true then delL e.vs u else (u,V) :: delL e.vs u) = _
 split
 ·rename_i hv
  rw [noneV_eq hv,tot_vs0]
  omega
 ·show totV V k + sumVs k (delL e.vs u) = _
  omega
def EachV (e : Ec) : Prop := ∀ x ∈ e.vs,(∀ o ∈ x.2.L,MayP o) ∧ x.2.L.length ≤ 32
theorem vOk_k {p : Ps} {n : Int} {i : Nat} (h : VOk p n i) : PsK p := ⟨h.w.nd,h.ok⟩
theorem tot_nn {V : Vs} (hp : PsK V.ps) (hL : ∀ x ∈ V.L,MayP x) (k : Int) : 0 ≤ totV V k := by
 have h1 := hp.pos k
 have h2 := sumH_pos hL k
 unfold totV
 omega
theorem sumVs_nn {k : Int} : ∀ {l : List (ByteArray × Vs)},(∀ x ∈ l,0 ≤ totV x.2 k) → 0 ≤ sumVs k l
 | [],_ => Int.le_refl _
 | x :: l,h => by
  have h1 := h x (List.mem_cons_self ..)
  have h2 := sumVs_nn fun y hy => h y (List.mem_cons_of_mem x hy)
  rw [sumVs]
  omega
theorem sumVs_le {k : Int} : ∀ {l : List (ByteArray × Vs)},(∀ x ∈ l,0 ≤ totV x.2 k) → ∀ x ∈ l,totV x.2 k ≤ sumVs k l
 | [],_,_,hx => by cases hx
 | y :: l,h,x,hx => by
  have h1 := h y (List.mem_cons_self ..)
  have h2 := sumVs_nn fun y hy => h y (List.mem_cons_of_mem _ hy)
  rw [sumVs]
  rcases List.mem_cons.1 hx with rfl|hx
  ·omega
  ·have := sumVs_le (fun y hy => h y (List.mem_cons_of_mem _ hy)) x hx
   omega
theorem EOk.nn {e : Ec} {n : Nat} (h : EOk e n) (he : EachV e) (k : Int) : ∀ x ∈ e.vs,0 ≤ totV x.2 k := fun x hx => tot_nn (vOk_k (h x hx)) (he x hx).1 k
theorem totE_nn {e : Ec} {n : Nat} (h : EOk e n) (he : EachV e) (k : Int) : 0 ≤ totE e k := sumVs_nn (h.nn he k)
def addK (o : Opn) (r : Rpl) (b : Bool) (k : Int) : Int :=
 if b = true ∧ r.err = 0 then (if o.kind = 1 ∨ o.kind = 6 then (if k = o.item then o.cnt else 0) else if o.kind = 2 then -(if k = o.item then o.cnt else 0) else 0) else 0
theorem getK_one {it ct k : Int} (hi : Kx it) (hk : Kx k) : getK (oneI it ct) k = if k = it then ct else 0 := by
 unfold oneI
 rw [getK_set it0 hi hk,getK_it0]
section
variable {e : Ec} {o : Opn} {n : Nat}
theorem cnt_of (hm : mayO o = true) (h : o.kind = 1 ∨ o.kind = 2 ∨ o.kind = 6) : Kx o.item ∧ 1 ≤ o.cnt ∧ o.cnt ≤ 1048576 ∧ whoB o.aw = true := by
 unfold mayO headB plcB at hm
 simp only [Bool.and_eq_true] at hm
 obtain ⟨⟨_,_,_,_,_,hw⟩,hk⟩ := hm
 have hc : cntB o = true := by
  unfold kindB at hk
  rcases h with h|h|h
  ·rw [if_pos h] at hk
   unfold countsB at hk
   simp only [Bool.and_eq_true] at hk
   exact hk.1
  ·rw [if_neg (by omega),if_pos h] at hk
   unfold sendsB at hk
   simp only [Bool.and_eq_true] at hk
   exact hk.2.1
  ·rw [if_neg (by omega),if_neg (by omega),if_neg (by omega),if_neg (by omega),if_neg (by omega),if_pos h] at hk
   unfold countsB at hk
   simp only [Bool.and_eq_true] at hk
   exact hk.1
 obtain ⟨h0,h4,c0,c1⟩ := cntB_true hc
 exact ⟨⟨h0,by omega⟩,c0,c1,hw⟩
theorem one_is {it ct : Int} (hi : Kx it) (h0 : 0 ≤ ct) (h1 : ct ≤ 1048576) : isIt (oneI it ct) = true := isIt_of fun k hk => by
 rw [getK_one hi hk]
 split <;> omega
theorem put_yes {p : Ps} {u : ByteArray} {it ct : Int} (hp : PsK p) (hu : whoB u = true) (hi : Kx it) (h0 : 0 ≤ ct) (h1 : ct ≤ 1048576) (hb : ∀ k,Kx k → sumW k p ≤ 1000000000000) : putE p u (oneI it ct) = 0 := by
 have h3 := one_is hi h0 h1
 have h4 := hp.ok u
 have h2 : (addL [purseA p u,oneI it ct] it0).isSome = true := by
  rw [addL_sum [purseA p u,oneI it ct] (s := it0) (t := addIt (purseA p u) (oneI it ct)) (fun i hi => by
   rcases List.mem_cons.1 hi with rfl|hi
   ·exact h4
   ·rw [List.mem_singleton.1 hi];exact h3) isIt_0s (fun k hk => by
    rw [getK_add,getK_it0]
    simp [sumI]) (fun k hk => by
    rw [getK_add,getK_one hi hk]
    have := hp.le u k
    have := hb k hk
    split <;> omega)]
  rfl
 unfold putE
 rw [if_pos ⟨hu,h3⟩,if_pos h2]
theorem app_tot (hn : (e.vs.map (·.1)).Nodup) (hE : EOk e n) (he : EachV e) (he2 : EachV (appE e o).2.2) (hb : ∀ k, Kx k → totE e k ≤ 500000000) {k : Int} (hk : Kx k) :
    totE (appE e o).2.2 k = totE e k + addK o (appE e o).1 (appE e o).2.1 k := by
  cases hp : peekE e o with
  | mk r b =>
  cases b with
  | true =>
    rw [appE_old hp]
    unfold addK
    rw [if_neg (by simp)]
    show totE e k = totE e k + 0
    omega
  | false =>
    obtain ⟨rfl, hm⟩ := peek_new hp
    rw [appE_new hp] at he2 ⊢
    dsimp only at he2 ⊢
    obtain ⟨V, hV⟩ : ∃ V, atV e o.ak = V := ⟨_, rfl⟩
    rw [hV] at he2 ⊢
    have hVf : PsK V.ps ∧ (∀ x ∈ V.L, MayP x) ∧ ∀ k, Kx k → totV V k ≤ 500000000 := by
      rw [← hV]
      unfold atV
      cases hg : getL e.vs o.ak with
      | none => exact ⟨⟨List.nodup_nil, psOk_nil⟩, fun x hx => (by cases hx), fun k _ => by show totV vs0 k ≤ _; rw [tot_vs0]; omega⟩
      | some U =>
        have hu := getL_some hg
        exact ⟨vOk_k (hE _ hu), (he _ hu).1, fun k hk => Int.le_trans (sumVs_le (hE.nn he k) _ hu) (hb k hk)⟩
    obtain ⟨hpk, hmay, hvb⟩ := hVf
    have hset : totE ⟨(setV e o.ak (doV V o).2).vs, doS e o (doV V o).1, doT e o (doV V o).1, doA e o⟩ k = totE e k - totV V k + totV (doV V o).2 k := by
      have := totE_set hn o.ak (doV V o).2 k
      rw [hV] at this
      exact this
    rw [hset]
    have hL2 : ∀ x ∈ (doV V o).2.L, MayP x := by
      by_cases hz : noneV (doV V o).2 = true
      · rw [noneV_eq hz]; exact fun x hx => (by cases hx)
      · refine (he2 (o.ak, (doV V o).2) ?_).1
        show _ ∈ (if noneV (doV V o).2 = true then delL e.vs o.ak else (o.ak, (doV V o).2) :: delL e.vs o.ak)
        rw [if_neg hz]
        exact List.mem_cons_self ..
    have hwl : ∀ k, Kx k → sumW k V.ps ≤ 500000000 := fun k hk => by
      have h1 := hvb k hk
      have h2 := sumH_pos hmay k
      unfold totV at h1
      omega
    have hgoal : totV (doV V o).2 k = totV V k + addK o (doV V o).1 true k := by
      by_cases h1 : o.kind = 1
      · obtain ⟨hi, c0, c1, hw⟩ := cnt_of hm (.inl h1)
        have e1 : doV V o = (⟨putE V.ps o.aw (oneI o.item o.cnt), 0, it0⟩, { V with ps := putP V.ps o.aw (oneI o.item o.cnt) }) := by unfold doV; rw [if_pos h1]
        rw [e1]
        have h2 := (put_keeps (V := V) (k := o.aw) (i := oneI o.item o.cnt) hpk k).1
        dsimp only at h2 ⊢
        rw [h2, getK_one hi hk]
        unfold addK
        simp [h1]
      by_cases h2 : o.kind = 2
      · obtain ⟨hi, c0, c1, hw⟩ := cnt_of hm (.inr (.inl h2))
        have e1 : doV V o = (⟨takeE V.ps o.aw (oneI o.item o.cnt), 0, it0⟩, { V with ps := takeP V.ps o.aw (oneI o.item o.cnt) }) := by unfold doV; rw [if_neg h1, if_pos h2]
        rw [e1]
        have h3 := (take_keeps (V := V) (k := o.aw) (i := oneI o.item o.cnt) hpk k).1
        dsimp only at h3 ⊢
        rw [h3, getK_one hi hk]
        unfold addK
        simp [h2]
        split <;> omega
      by_cases h3 : o.kind = 3
      · have e1 : doV V o = (⟨(ordV V (ordOf o)).2.1, (ordV V (ordOf o)).1, it0⟩, (ordV V (ordOf o)).2.2) := by unfold doV; rw [if_neg h1, if_neg h2, if_pos h3]
        rw [e1] at hL2 ⊢
        have h4 := ordV_keeps (o := ordOf o) hpk hmay hL2 (fun k hk => by have := hvb k hk; omega) hk
        dsimp only at h4 ⊢
        rw [h4]
        unfold addK
        simp [h3]
      by_cases h4 : o.kind = 4
      · have e1 : doV V o = (⟨(canV V o.aw o.id).1, 0, it0⟩, (canV V o.aw o.id).2) := by unfold doV; rw [if_neg h1, if_neg h2, if_neg h3, if_pos h4]
        rw [e1]
        have h5 := canV_keeps (V := V) (who := o.aw) (id := o.id) hpk hmay (fun k hk => by have := hvb k hk; omega) hk
        dsimp only at h5 ⊢
        rw [h5]
        unfold addK
        simp [h4]
      by_cases h6 : o.kind = 6
      · obtain ⟨hi, c0, c1, hw⟩ := cnt_of hm (.inr (.inr h6))
        have e1 : doV V o = (rp0, { V with ps := putP V.ps o.aw (oneI o.item o.cnt) }) := by unfold doV; rw [if_neg h1, if_neg h2, if_neg h3, if_neg h4, if_neg (by omega), if_pos h6]
        rw [e1]
        have h7 := (put_keeps (V := V) (k := o.aw) (i := oneI o.item o.cnt) hpk k).1
        rw [if_pos (put_yes hpk hw hi (by omega) c1 (fun k hk => by have := hwl k hk; omega)), getK_one hi hk] at h7
        dsimp only at h7 ⊢
        rw [h7]
        unfold addK
        simp [h6]
      · have e1 : (doV V o).2 = V := by
          unfold doV
          rw [if_neg h1, if_neg h2, if_neg h3, if_neg h4]
          repeat' split
          all_goals first | rfl | exact absurd ‹_› h6
        rw [e1]
        unfold addK
        rw [if_neg (show ¬ (o.kind = 1 ∨ o.kind = 6) by omega), if_neg h2]
        split <;> omega
    rw [hgoal]
    omega
theorem addK_le (hm : mayO o = true) (r : Rpl) (b : Bool) (k : Int) : addK o r b k ≤ 1048576 := by
 unfold addK
 split
 ·split
  ·rename_i h
   have := cnt_of hm (by omega)
   split <;> omega
  ·split
   ·rename_i h
    have := cnt_of hm (.inr (.inl h))
    split <;> omega
   ·omega
 ·omega
theorem add_le (r : Rpl) (k : Int) : addK o r (appE e o).2.1 k ≤ 1048576 := by
 cases hp : peekE e o with
 | mk r2 c =>
 cases c with
 | true =>
  rw [appE_old hp]
  unfold addK
  rw [if_neg (by simp)]
  omega
 | false => exact addK_le (peek_new hp).2 _ _ _
end
end Go.Proofs.YtlmhakmoioogaaaGreat
end
