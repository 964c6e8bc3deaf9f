/-
  A script in both vaults: they go on alike. For every script.
-/
import Derived.Test.YtbcokphjpllbiaaGreatVaultBackM5
import Derived.Test.YtbcokphjpllbiaaGreatVaultBackM28

section
set_option linter.unusedSimpArgs false
set_option linter.unusedVariables false
namespace Go.Proofs.YtbcokphjpllbiaaGreat
open Go.RowKit Go.Sl
theorem vOk_put {p : Ps} {n : Int} {i : Nat} (h : VOk p n i) (who : ByteArray) (it : It) : VOk (putP p who it) n (i + 1) := ⟨psOk_put h.ok _ _, psW_mono (psW_put h.w _ _) (by omega), h.n0, by have := h.n1; omega⟩
theorem vOk_take {p : Ps} {n : Int} {i : Nat} (h : VOk p n i) (who : ByteArray) (it : It) : VOk (takeP p who it) n (i + 1) := ⟨psOk_take h.ok _ _, psW_mono (psW_take h.w _ _) (by omega), h.n0, by have := h.n1; omega⟩
theorem vOk_ord {V : Vs} {i : Nat} {o : Ord} (h : VOk V.ps V.n i) (hmay : ∀ x ∈ V.L, MayP x) (hl : V.L.length ≤ 32) : VOk (ordV V o).2.2.ps (ordV V o).2.2.n (i + 1) := by
  have h1 := ordV_ok (V := V) (o := o) h.ok h.n0 hmay
  have h2 := ordV_w (V := V) (o := o) h.w hmay hl
  have h3 : (ordV V o).2.2.n ≤ V.n + 1 := by
    unfold ordV
    repeat' split
    all_goals dsimp only
    all_goals omega
  exact ⟨h1.1, psW_mono h2 (by omega), h1.2, by have := h.n1; omega⟩
theorem canV_n (V : Vs) (who : ByteArray) (id : Int) : (canV V who id).2.n = V.n := by
  unfold canV
  split <;> rfl
theorem vOk_can {V : Vs} {i : Nat} {who : ByteArray} {id : Int} (h : VOk V.ps V.n i) (hmay : ∀ x ∈ V.L, MayP x) : VOk (canV V who id).2.ps V.n (i + 1) := by
  have h1 := canV_ok (V := V) (who := who) (id := id) h.ok h.n0 hmay
  have h2 := canV_w (V := V) (who := who) (id := id) h.w hmay
  exact ⟨h1.1, psW_mono h2 (by omega), h.n0, by have := h.n1; omega⟩
section
variable {W w : World} {vb mb bb : Nat} {p p2 : Ps} {L L2 : List Ord} {n r : Int} {u1 u2 : Value} {L1 R1 : List HP}
theorem put_in (who : ByteArray) (it : It) (hr : putE p who it = r) (hp : putP p who it = p2) (hu : Take L1 (blk vb [.map (some mb), u1, u2] 80) R1) (hS : St W (amap eS eP mb p :: L1) w) :
    Calls Tryz.prog 17 #[.pointer (some ⟨vb, 0, none⟩), .string who, .agg it.cells.toArray] w fun e w' => e = .returned (.int .i64 r) ∧ St W (amap eS eP mb p2 :: L1) w' := by
  refine (put_spec vb mb p who u1 u2 it W w _ (hS.take (.tail hu))).mono ?_
  rw [hr, hp]
  rintro e w' ⟨rfl, hS⟩
  exact ⟨rfl, hS.back (.tail hu)⟩
theorem take_in (who : ByteArray) (it : It) (hr : takeE p who it = r) (hp : takeP p who it = p2) (hu : Take L1 (blk vb [.map (some mb), u1, u2] 80) R1) (hS : St W (amap eS eP mb p :: L1) w) :
    Calls Tryz.prog 19 #[.pointer (some ⟨vb, 0, none⟩), .string who, .agg it.cells.toArray] w fun e w' => e = .returned (.int .i64 r) ∧ St W (amap eS eP mb p2 :: L1) w' := by
  refine (take_spec vb mb p who u1 u2 it W w _ (hS.take (.tail hu))).mono ?_
  rw [hr, hp]
  rintro e w' ⟨rfl, hS⟩
  exact ⟨rfl, hS.back (.tail hu)⟩
theorem can_in (who : ByteArray) (id : Int) (hok : PsOk p) (hr : (canV ⟨p, L, n⟩ who id).1 = r) (hp : (canV ⟨p, L, n⟩ who id).2.ps = p2) (hL : (canV ⟨p, L, n⟩ who id).2.L = L2) (hu : Take L1 (blk vb [.map (some mb), .pointer (some ⟨bb, 0, none⟩), .int .i64 n] 80) R1) (hS : St W (amap eS eP mb p :: bookL bb L n :: L1) w) :
    Calls Tryz.prog 21 #[.pointer (some ⟨vb, 0, none⟩), .string who, .int .i64 id] w fun e w' => e = .returned (.int .i64 r) ∧ St W (amap eS eP mb p2 :: bookL bb L2 n :: L1) w' := by
  refine (canV_spec vb mb bb ⟨p, L, n⟩ who id hok W w _ (hS.take (.tail (.tail hu)))).mono ?_
  rw [canV_n, hr, hp, hL]
  rintro e w' ⟨rfl, hS⟩
  exact ⟨rfl, hS.back (.tail (.tail hu))⟩
theorem has_in {k : ByteArray} {x0 x1 x2 x3 : Int} (hx : purseA p k = ⟨x0, x1, x2, x3⟩) (hs : Same L1 (blk vb [.map (some mb), u1, u2] 80 :: amap eS eP mb p :: R1)) (hS : St W L1 w) :
    Calls Tryz.prog 23 #[.pointer (some ⟨vb, 0, none⟩), .string k] w fun e w' => e = .returned (.agg #[.int .i64 x0, .int .i64 x1, .int .i64 x2, .int .i64 x3]) ∧ St W L1 w' := by
  refine (has_at vb mb W w R1 u1 u2 hx (hs.st hS)).mono ?_
  rintro e w' ⟨rfl, hS⟩
  exact ⟨rfl, ⟨hS.os, hS.tape, hS.output, hs.back hS.sat⟩⟩
end
section
variable {W w : World} {xb xB : Nat} {p p2 : Ps} {L L2 : List Ord} {n r : Int} {N : Nat} {R : List HP}
theorem put_x (hw : PsW p N) (hN : N ≤ 1000000) (who : ByteArray) (it : It) (hr : putE p who it = r) (hp : putP p who it = p2) (hS : St W (xvP xb (.pointer (some ⟨xB, 0, none⟩)) n p :: R) w) :
    Calls Tryz.prog 18 #[.pointer (some ⟨xb, 0, none⟩), .string who, .agg it.cells.toArray] w fun e w' => e = .returned (.int .i64 r) ∧ St W (xvP xb (.pointer (some ⟨xB, 0, none⟩)) n p2 :: R) w' := by
  refine (put8 xb _ n p N W w R hw hN who it hS).mono ?_
  rw [hr, hp]
  exact fun e w' h => h
theorem take_x (hw : PsW p N) (hN : N ≤ 1000000) (who : ByteArray) (it : It) (hr : takeE p who it = r) (hp : takeP p who it = p2) (hS : St W (xvP xb (.pointer (some ⟨xB, 0, none⟩)) n p :: R) w) :
    Calls Tryz.prog 20 #[.pointer (some ⟨xb, 0, none⟩), .string who, .agg it.cells.toArray] w fun e w' => e = .returned (.int .i64 r) ∧ St W (xvP xb (.pointer (some ⟨xB, 0, none⟩)) n p2 :: R) w' := by
  refine (take8 xb _ n p N W w R hw hN who it hS).mono ?_
  rw [hr, hp]
  exact fun e w' h => h
theorem can_x (hok : PsOk p) (hw : PsW p N) (hN : N + 150 ≤ 1000000) (hmay : ∀ x ∈ L, MayP x) (hl : L.length ≤ 32) (who : ByteArray) (id : Int) (hr : (canV ⟨p, L, n⟩ who id).1 = r) (hp : (canV ⟨p, L, n⟩ who id).2.ps = p2) (hL : (canV ⟨p, L, n⟩ who id).2.L = L2) (hS : St W (xvP xb (.pointer (some ⟨xB, 0, none⟩)) n p :: xkP xB L n :: R) w) :
    Calls Tryz.prog 22 #[.pointer (some ⟨xb, 0, none⟩), .string who, .int .i64 id] w fun e w' => e = .returned (.int .i64 r) ∧ St W (xvP xb (.pointer (some ⟨xB, 0, none⟩)) n p2 :: xkP xB L2 n :: R) w' := by
  refine (cancel8 xb xB p L n N who id W w R hok hw hN hmay hl hS).mono ?_
  rw [hr, hp, hL]
  exact fun e w' h => h
end
section
variable {W w : World} {vb mb bb xb xB : Nat} {p p2 : Ps} {L L2 : List Ord} {n n2 r1 r2 : Int} {N : Nat} {R : List HP} {o : Ord}
theorem ord_in (hok : PsOk p) (hn : 1 ≤ n) (h1 : (ordV ⟨p, L, n⟩ o).1 = r1) (h2 : (ordV ⟨p, L, n⟩ o).2.1 = r2) (hp : (ordV ⟨p, L, n⟩ o).2.2.ps = p2) (hL : (ordV ⟨p, L, n⟩ o).2.2.L = L2) (hn2 : (ordV ⟨p, L, n⟩ o).2.2.n = n2) (hS : St W (vaultL vb mb bb p L n R) w) :
    Calls Tryz.prog 13 #[.pointer (some ⟨vb, 0, none⟩), .agg o.cells.toArray] w fun e w' => e = .returned (.tuple #[.int .i64 r1, .int .i64 r2]) ∧ St W (vaultL vb mb bb p2 L2 n2 R) w' := by
  refine (ordV_spec vb mb bb ⟨p, L, n⟩ o hok hn W w R hS).mono ?_
  rw [h1, h2, hp, hL, hn2]
  exact fun e w' h => h
theorem ord_x (hok : PsOk p) (hw : PsW p N) (hN : N + 150 ≤ 1000000) (hmay : ∀ x ∈ L, MayP x) (hn : 1 ≤ n) (h1 : (ordV ⟨p, L, n⟩ o).1 = r1) (h2 : (ordV ⟨p, L, n⟩ o).2.1 = r2) (hp : (ordV ⟨p, L, n⟩ o).2.2.ps = p2) (hL : (ordV ⟨p, L, n⟩ o).2.2.L = L2) (hn2 : (ordV ⟨p, L, n⟩ o).2.2.n = n2) (hS : St W (xvR xb xB p L n R) w) :
    Calls Tryz.prog 14 #[.pointer (some ⟨xb, 0, none⟩), .agg o.cells.toArray] w fun e w' => e = .returned (.tuple #[.int .i64 r1, .int .i64 r2]) ∧ St W (xvR xb xB p2 L2 n2 R) w' := by
  refine (ord8 xb xB ⟨p, L, n⟩ N o hok hw hN hmay hn W w R hS).mono ?_
  rw [h1, h2, hp, hL, hn2]
  exact fun e w' h => h
end
def PlR (W : World) (Lr : List HP) (m vb mb bb xb xB : Nat) (v : Value) (w : World) : Prop :=
  ∃ (i : Nat) (p : Ps) (L : List Ord) (n : Int), v = .int .i64 i ∧ i ≤ m ∧ i ≤ 100 ∧ VOk p n i ∧ ApartL L ∧ St W (vaultL vb mb bb p L n (xvR xb xB p L n Lr)) w
set_option maxRecDepth 100000 in
set_option maxHeartbeats 8000000 in
theorem played_spec (xs : List Vact) (v : Value) (V : World) (hv : SliceV Vact.cells 13 V v xs) (W w : World) (Lr : List HP) (hS : St W (Old V :: Lr) w) :
    Calls Tryz.prog 7 #[v] w fun e w' => ∃ vb mb bb xb xB p L n, VOk p n 100 ∧ ApartL L ∧ e = .returned (.tuple #[.pointer (some ⟨vb, 0, none⟩), .pointer (some ⟨xb, 0, none⟩), .bool true]) ∧ St W (vaultL vb mb bb p L n (xvR xb xB p L n (Old V :: Lr))) w' := by
  obtain ⟨a, cap, rfl, h63, hact⟩ := hv.vact
  have Ha := Lib.hid hact
  clear hact hv
  go_enter Tryz.func7, Tryz.ntmps7
  go_wp2_with (first | (go_at_call 15; refine (newV_spec W _ _ hS).mono ?_; clear hS; rintro e w ⟨vb, mb, bb, rfl, hS⟩) | (go_at_call 16; refine (new8 W _ _ hS).mono ?_; clear hS; rintro e w ⟨xb, xB, rfl, hS⟩))
  have hS1 := hS.sel (L' := blk vb _ _ :: amap eS eP mb [] :: bookL bb [] 1 :: xvP xb _ 1 [] :: xkP xB [] 1 :: Old V :: Lr) (by exact selS)
  clear hS
  have hS := hS1
  clear hS1
  go_loopw [7] (fun v wr => PlR W (Old V :: Lr) xs.length vb mb bb xb xB v wr) (fun v _ => xs.length - (intOf v).toNat)
  case atStart => exact ⟨0, [], [], 1, rfl, by omega, by omega, vOk0, apart_nil, hS⟩
  case round =>
    clear hS
    obtain ⟨i, p, L, n, rfl, hi, hi2, hok, hap, hS⟩ := hrel
    have Hap := Lib.hid hap
    clear hap
    have Hok := Lib.hid hok
    by_cases hend : i = xs.length ∨ i = 100
    · have hok100 : VOk p n 100 := ⟨hok.ok, psW_mono hok.w (by omega), hok.n0, by have := hok.n1; omega⟩
      have H100 := Lib.hid hok100
      clear hok hok100
      rcases hend with hend | hend
      · subst hend
        go_wp2_with (first | go_big_skip)
        go_ret3
        exact ⟨vb, mb, bb, xb, xB, p, L, n, H100.out, Hap.out, rfl, hS⟩
      · subst hend
        by_cases hlt : 100 < xs.length
        · go_wp2_with (first | go_big_skip)
          go_ret3
          exact ⟨vb, mb, bb, xb, xB, p, L, n, H100.out, Hap.out, rfl, hS⟩
        · have d1 : decide ((100 : Int) < (xs.length : Int)) = false := by simp; omega
          go_wp2_with (first | go_big_skip)
          go_ret3
          exact ⟨vb, mb, bb, xb, xB, p, L, n, H100.out, Hap.out, rfl, hS⟩
    have hil : i < xs.length := by omega
    have hi3 : i < 100 := by omega
    have hi6 : 100 * i ≤ 1000000 := by omega
    have hi7 : 100 * i + 150 ≤ 1000000 := by omega
    clear hend hi hi2 hok
    have hl32 := bookL_len hS.drop.drop
    have hmay : ∀ x ∈ L, MayP x := fun x hx => (bookL_each hS.drop.drop x hx).1
    have Hmay := Lib.hid hmay
    clear hmay
    obtain ⟨pb, poff, rfl, hA⟩ := Ha.out i hil
    have hall := hA.all
    clear hA
    generalize xs[i] = x at hall
    obtain ⟨kd, nn, who, ⟨i0, i1, i2, i3⟩, ⟨oi, ou, oy, ot, oc, op⟩⟩ := x
    simp only [Vact.cells, It.cells, Ord.cells, List.cons_append, List.nil_append] at hall
    by_cases hk1 : kd = 1
    · subst hk1
      obtain ⟨r, hr⟩ : ∃ r, putE p who ⟨i0, i1, i2, i3⟩ = r := ⟨_, rfl⟩
      obtain ⟨p2, hp2⟩ : ∃ q, putP p who ⟨i0, i1, i2, i3⟩ = q := ⟨_, rfl⟩
      have Hap2 := Hap
      have hok2 := vOk_put Hok.out who ⟨i0, i1, i2, i3⟩
      rw [hp2] at hok2
      have Hr := Lib.hid hr
      have Hp2 := Lib.hid hp2
      have Hok2 := Lib.hid hok2
      have hrr : (r == r) = true := by simp
      clear hr hp2 hok2
      go_wp2_with (first | go_big_skip | ((with_reducible apply wl_ldN hS); (with_reducible rfl); rfl; rfl; decide +kernel; (exact Cells.old (by exact memS) hall); kernel_rfl; (refine frS ?_)) | ((with_reducible apply wl_alloc hS); (with_reducible rfl); rfl; (exact zsS); clear hS; intro b8 w hS; (refine frS ?_)) | (refine zsN hS ?_; clear hS; intro w hS) | (refine zl1 hS ?_))
      go_wp2_with (first | go_big_skip | (refine zl1 hS ?_))
      have hS2 := hS.sel (L' := amap eS eP mb p :: xvP xb _ n p :: blk b8 _ _ :: blk vb _ _ :: bookL bb L n :: xkP xB L n :: Old V :: Lr) (by exact selS)
      clear hS
      refine wp_region_flow3 [0, 0, 2, 0, 8, 31, 0, 0, 128, 0, 512, 2047, 4095, 8191] (fun _ => false) (fun i => if i == 5 then some (.int .i64 r) else if i == 11 then some (.int .i64 r) else none) [⟨some 5, none, fun _ => amap eS eP mb p2⟩, ⟨some 11, none, fun _ => xvP xb (.pointer (some ⟨xB, 0, none⟩)) n p2⟩] [some 5, some 11, none, none, none, none] (by kernel_rfl) (by kernel_rfl) rfl hS2 (CongOk.cons (fun _ _ _ => rfl) (CongOk.cons (fun _ _ _ => rfl) CongOk.nil)) ?_
      clear hS2
      intro nd
      iterate 2 (refine ch_pure rfl (by kernel_rfl) rfl rfl ?_; intro K hK; go_big_quiet_op; go_big_quiet_on)
      (refine zc1 ?_)
      (refine ch_pure rfl (by kernel_rfl) rfl rfl ?_; intro K hK; go_big_quiet_op; go_big_quiet_on)
      (apply ch_ldN; rfl; kernel_rfl; (with_reducible rfl); rfl; rfl; decide +kernel; (intro F; first | exact Cells.there (Cells.there (Cells.here (vs := [.int .i64 i0, .int .i64 i1, .int .i64 i2, .int .i64 i3]) rfl)) | exact Cells.there (Cells.here (vs := [.int .i64 i0, .int .i64 i1, .int .i64 i2, .int .i64 i3]) rfl)); kernel_rfl; (refine frS ?_))
      (refine zcv ?_ (hs := by (intro F w hS; (try clear hS0); exact put_in who ⟨i0, i1, i2, i3⟩ Hr.out Hp2.out (.tail (.tail .head)) hS)))
      iterate 2 (refine ch_pure rfl (by kernel_rfl) rfl rfl ?_; intro K hK; go_big_quiet_op; go_big_quiet_on)
      (refine zc1 ?_)
      (refine ch_pure rfl (by kernel_rfl) rfl rfl ?_; intro K hK; go_big_quiet_op; go_big_quiet_on)
      (apply ch_ldN; rfl; kernel_rfl; (with_reducible rfl); rfl; rfl; decide +kernel; (intro F; first | exact Cells.there (Cells.there (Cells.here (vs := [.int .i64 i0, .int .i64 i1, .int .i64 i2, .int .i64 i3]) rfl)) | exact Cells.there (Cells.here (vs := [.int .i64 i0, .int .i64 i1, .int .i64 i2, .int .i64 i3]) rfl)); kernel_rfl; (refine frS ?_))
      (refine zcv ?_ (hs := by (intro F w hS; (try clear hS0); exact put_x Hok.out.w hi6 who ⟨i0, i1, i2, i3⟩ Hr.out Hp2.out hS)))
      iterate 2 (refine ch_pure rfl (by kernel_rfl) rfl rfl ?_; intro K hK; go_big_quiet_op; go_big_quiet_on)
      refine ch_end ?_
      intro w hS
      have hS2 : St W [amap eS eP mb p2, xvP xb _ n p2, blk b8 _ _, blk vb _ _, bookL bb L n, xkP xB L n, sats (Old V :: Lr)] w := hS
      clear hS
      have hS := hS2.unpack [_, _, _, _, _, _]
      clear hS2
      simp only [List.cons_append, List.nil_append] at hS
      go_wp2_with (first | go_big_skip)
      have hS2 := hS.sel (L' := blk b8 _ _ :: blk vb _ _ :: amap eS eP mb p2 :: bookL bb L n :: xvP xb _ n p2 :: xkP xB L n :: Old V :: Lr) (by exact selS)
      clear hS
      have hS := hS2
      clear hS2
      obtain ⟨xx, hxx⟩ : ∃ x, purseA p2 who = x := ⟨_, rfl⟩
      obtain ⟨x0, x1, x2, x3⟩ := xx
      have Hx := Lib.hid hxx
      clear hxx
      have heq : ((x0 == x0) && ((x1 == x1) && ((x2 == x2) && (x3 == x3)))) = true := by simp
      refine wp_region_reads (by kernel_rfl) (by kernel_rfl) hS ?_
      iterate 5 (refine wq_pure rfl rfl ?_; intro K hK; go_big_quiet_op; go_big_quiet_on)
      (refine zq1 ?_)
      (apply wq_call; rfl; (intro w; apply exec_callF; (with_reducible rfl); decide +kernel; (focus (simp only [fD, List.map_cons, List.map_nil, Act.eval, fE, fF, fG, fH, Option.getD_some]; try rfl))); (intro w hS; exact has_in Hx.out (Same.of (.tail .head) (Same.of (.tail .head) Same.refl)) hS); (refine frS ?_))
      iterate 2 (refine wq_pure rfl rfl ?_; intro K hK; go_big_quiet_op; go_big_quiet_on)
      (refine zq1 ?_)
      (apply wq_call; rfl; (intro w; apply exec_callF; (with_reducible rfl); decide +kernel; (focus (simp only [fD, List.map_cons, List.map_nil, Act.eval, fE, fF, fG, fH, Option.getD_some]; try rfl))); (intro w hS; exact has8_take Hok2.out.w Hx.out hS (.tail (.tail (.tail (.tail .head))))); (refine frS ?_))
      ((with_reducible apply wq_neA); (with_reducible rfl); rfl; rfl; rfl; kernel_rfl; exact eqI _ _ _ _ _ _ _ _; (rw [heq]); (simp only [Bool.not_true]); (simp only [Act.put, fA, fB, fC, Nat.reduceAdd, eP, It.cells]))
      (refine wq_pure rfl rfl ?_; intro K hK; go_big_quiet_op; go_big_quiet_on)
      clear hS heq
      intro w hS
      go_wp2_with fail
      first | (go_roundw; (case rel => exact ⟨i + 1, p2, L, n, rfl, hil, hi3, Hok2.out, Hap2.out, hS.sel (by exact selS)⟩); (case measure => (simp [intOf]; try omega))) | (refine ⟨?_, ?measure⟩; (repeat apply Exists.intro); refine ⟨?rel, rfl⟩; (case rel => exact ⟨i + 1, p2, L, n, rfl, hil, hi3, Hok2.out, Hap2.out, hS.sel (by exact selS)⟩); (case measure => (simp [intOf]; try omega)))
    have hk1f : (kd == 1) = false := by simpa using hk1
    by_cases hk2 : kd = 2
    · subst hk2
      obtain ⟨r, hr⟩ : ∃ r, takeE p who ⟨i0, i1, i2, i3⟩ = r := ⟨_, rfl⟩
      obtain ⟨p2, hp2⟩ : ∃ q, takeP p who ⟨i0, i1, i2, i3⟩ = q := ⟨_, rfl⟩
      have Hap2 := Hap
      have hok2 := vOk_take Hok.out who ⟨i0, i1, i2, i3⟩
      rw [hp2] at hok2
      have Hr := Lib.hid hr
      have Hp2 := Lib.hid hp2
      have Hok2 := Lib.hid hok2
      have hrr : (r == r) = true := by simp
      clear hr hp2 hok2
      go_wp2_with (first | go_big_skip | ((with_reducible apply wl_ldN hS); (with_reducible rfl); rfl; rfl; decide +kernel; (exact Cells.old (by exact memS) hall); kernel_rfl; (refine frS ?_)) | ((with_reducible apply wl_alloc hS); (with_reducible rfl); rfl; (exact zsS); clear hS; intro b8 w hS; (refine frS ?_)) | (refine zsN hS ?_; clear hS; intro w hS) | (refine zl1 hS ?_))
      go_wp2_with (first | go_big_skip | (refine zl1 hS ?_))
      have hS2 := hS.sel (L' := amap eS eP mb p :: xvP xb _ n p :: blk b8 _ _ :: blk vb _ _ :: bookL bb L n :: xkP xB L n :: Old V :: Lr) (by exact selS)
      clear hS
      refine wp_region_flow3 [0, 0, 2, 0, 8, 31, 0, 0, 128, 0, 512, 2047, 4095, 8191] (fun _ => false) (fun i => if i == 5 then some (.int .i64 r) else if i == 11 then some (.int .i64 r) else none) [⟨some 5, none, fun _ => amap eS eP mb p2⟩, ⟨some 11, none, fun _ => xvP xb (.pointer (some ⟨xB, 0, none⟩)) n p2⟩] [some 5, some 11, none, none, none, none] (by kernel_rfl) (by kernel_rfl) rfl hS2 (CongOk.cons (fun _ _ _ => rfl) (CongOk.cons (fun _ _ _ => rfl) CongOk.nil)) ?_
      clear hS2
      intro nd
      iterate 2 (refine ch_pure rfl (by kernel_rfl) rfl rfl ?_; intro K hK; go_big_quiet_op; go_big_quiet_on)
      (refine zc1 ?_)
      (refine ch_pure rfl (by kernel_rfl) rfl rfl ?_; intro K hK; go_big_quiet_op; go_big_quiet_on)
      (apply ch_ldN; rfl; kernel_rfl; (with_reducible rfl); rfl; rfl; decide +kernel; (intro F; first | exact Cells.there (Cells.there (Cells.here (vs := [.int .i64 i0, .int .i64 i1, .int .i64 i2, .int .i64 i3]) rfl)) | exact Cells.there (Cells.here (vs := [.int .i64 i0, .int .i64 i1, .int .i64 i2, .int .i64 i3]) rfl)); kernel_rfl; (refine frS ?_))
      (refine zcv ?_ (hs := by (intro F w hS; (try clear hS0); exact take_in who ⟨i0, i1, i2, i3⟩ Hr.out Hp2.out (.tail (.tail .head)) hS)))
      iterate 2 (refine ch_pure rfl (by kernel_rfl) rfl rfl ?_; intro K hK; go_big_quiet_op; go_big_quiet_on)
      (refine zc1 ?_)
      (refine ch_pure rfl (by kernel_rfl) rfl rfl ?_; intro K hK; go_big_quiet_op; go_big_quiet_on)
      (apply ch_ldN; rfl; kernel_rfl; (with_reducible rfl); rfl; rfl; decide +kernel; (intro F; first | exact Cells.there (Cells.there (Cells.here (vs := [.int .i64 i0, .int .i64 i1, .int .i64 i2, .int .i64 i3]) rfl)) | exact Cells.there (Cells.here (vs := [.int .i64 i0, .int .i64 i1, .int .i64 i2, .int .i64 i3]) rfl)); kernel_rfl; (refine frS ?_))
      (refine zcv ?_ (hs := by (intro F w hS; (try clear hS0); exact take_x Hok.out.w hi6 who ⟨i0, i1, i2, i3⟩ Hr.out Hp2.out hS)))
      iterate 2 (refine ch_pure rfl (by kernel_rfl) rfl rfl ?_; intro K hK; go_big_quiet_op; go_big_quiet_on)
      refine ch_end ?_
      intro w hS
      have hS2 : St W [amap eS eP mb p2, xvP xb _ n p2, blk b8 _ _, blk vb _ _, bookL bb L n, xkP xB L n, sats (Old V :: Lr)] w := hS
      clear hS
      have hS := hS2.unpack [_, _, _, _, _, _]
      clear hS2
      simp only [List.cons_append, List.nil_append] at hS
      go_wp2_with (first | go_big_skip)
      have hS2 := hS.sel (L' := blk b8 _ _ :: blk vb _ _ :: amap eS eP mb p2 :: bookL bb L n :: xvP xb _ n p2 :: xkP xB L n :: Old V :: Lr) (by exact selS)
      clear hS
      have hS := hS2
      clear hS2
      obtain ⟨xx, hxx⟩ : ∃ x, purseA p2 who = x := ⟨_, rfl⟩
      obtain ⟨x0, x1, x2, x3⟩ := xx
      have Hx := Lib.hid hxx
      clear hxx
      have heq : ((x0 == x0) && ((x1 == x1) && ((x2 == x2) && (x3 == x3)))) = true := by simp
      refine wp_region_reads (by kernel_rfl) (by kernel_rfl) hS ?_
      iterate 5 (refine wq_pure rfl rfl ?_; intro K hK; go_big_quiet_op; go_big_quiet_on)
      (refine zq1 ?_)
      (apply wq_call; rfl; (intro w; apply exec_callF; (with_reducible rfl); decide +kernel; (focus (simp only [fD, List.map_cons, List.map_nil, Act.eval, fE, fF, fG, fH, Option.getD_some]; try rfl))); (intro w hS; exact has_in Hx.out (Same.of (.tail .head) (Same.of (.tail .head) Same.refl)) hS); (refine frS ?_))
      iterate 2 (refine wq_pure rfl rfl ?_; intro K hK; go_big_quiet_op; go_big_quiet_on)
      (refine zq1 ?_)
      (apply wq_call; rfl; (intro w; apply exec_callF; (with_reducible rfl); decide +kernel; (focus (simp only [fD, List.map_cons, List.map_nil, Act.eval, fE, fF, fG, fH, Option.getD_some]; try rfl))); (intro w hS; exact has8_take Hok2.out.w Hx.out hS (.tail (.tail (.tail (.tail .head))))); (refine frS ?_))
      ((with_reducible apply wq_neA); (with_reducible rfl); rfl; rfl; rfl; kernel_rfl; exact eqI _ _ _ _ _ _ _ _; (rw [heq]); (simp only [Bool.not_true]); (simp only [Act.put, fA, fB, fC, Nat.reduceAdd, eP, It.cells]))
      (refine wq_pure rfl rfl ?_; intro K hK; go_big_quiet_op; go_big_quiet_on)
      clear hS heq
      intro w hS
      go_wp2_with fail
      first | (go_roundw; (case rel => exact ⟨i + 1, p2, L, n, rfl, hil, hi3, Hok2.out, Hap2.out, hS.sel (by exact selS)⟩); (case measure => (simp [intOf]; try omega))) | (refine ⟨?_, ?measure⟩; (repeat apply Exists.intro); refine ⟨?rel, rfl⟩; (case rel => exact ⟨i + 1, p2, L, n, rfl, hil, hi3, Hok2.out, Hap2.out, hS.sel (by exact selS)⟩); (case measure => (simp [intOf]; try omega)))
    have hk2f : (kd == 2) = false := by simpa using hk2
    by_cases hk3 : kd = 3
    · subst hk3
      obtain ⟨r1, h1⟩ : ∃ r, (ordV ⟨p, L, n⟩ ⟨oi, ou, oy, ot, oc, op⟩).1 = r := ⟨_, rfl⟩
      obtain ⟨r2, h2⟩ : ∃ r, (ordV ⟨p, L, n⟩ ⟨oi, ou, oy, ot, oc, op⟩).2.1 = r := ⟨_, rfl⟩
      obtain ⟨p2, hp2⟩ : ∃ r, (ordV ⟨p, L, n⟩ ⟨oi, ou, oy, ot, oc, op⟩).2.2.ps = r := ⟨_, rfl⟩
      obtain ⟨L2, hL2⟩ : ∃ r, (ordV ⟨p, L, n⟩ ⟨oi, ou, oy, ot, oc, op⟩).2.2.L = r := ⟨_, rfl⟩
      obtain ⟨n2, hn2⟩ : ∃ r, (ordV ⟨p, L, n⟩ ⟨oi, ou, oy, ot, oc, op⟩).2.2.n = r := ⟨_, rfl⟩
      have hok2 := vOk_ord (V := ⟨p, L, n⟩) (o := ⟨oi, ou, oy, ot, oc, op⟩) Hok.out Hmay.out hl32
      rw [hp2, hn2] at hok2
      have hap2 := apart_ord (V := ⟨p, L, n⟩) (o := ⟨oi, ou, oy, ot, oc, op⟩) Hap.out Hmay.out
      rw [hL2] at hap2
      have Hap2 := Lib.hid hap2
      clear hap2
      have H1 := Lib.hid h1
      have H2 := Lib.hid h2
      have Hp2 := Lib.hid hp2
      have HL2 := Lib.hid hL2
      have Hn2 := Lib.hid hn2
      have Hok2 := Lib.hid hok2
      have hr1 : (r1 == r1) = true := by simp
      have hr2 : (r2 == r2) = true := by simp
      clear h1 h2 hp2 hL2 hn2 hok2
      go_wp2_with (first | go_big_skip | ((with_reducible apply wl_ldN hS); (with_reducible rfl); rfl; rfl; decide +kernel; (exact Cells.old (by exact memS) hall); kernel_rfl; (refine frS ?_)) | ((with_reducible apply wl_alloc hS); (with_reducible rfl); rfl; (exact zsS); clear hS; intro b8 w hS; (refine frS ?_)) | (refine zsN hS ?_; clear hS; intro w hS) | (refine zl1 hS ?_) | ((with_reducible apply wl_ldN hS); (with_reducible rfl); rfl; rfl; decide +kernel; (first | exact Cells.here (vs := [.int .i64 oi, .string ou, .bool oy, .int .i64 ot, .int .i64 oc, .int .i64 op]) rfl | exact Cells.there (Cells.there (Cells.there (Cells.here (vs := [.int .i64 oi, .string ou, .bool oy, .int .i64 ot, .int .i64 oc, .int .i64 op]) rfl)))); kernel_rfl; (refine frS ?_)) | (go_at_call 13; refine (ord_in (o := ⟨oi, ou, oy, ot, oc, op⟩) Hok.out.ok Hok.out.n0 H1.out H2.out Hp2.out HL2.out Hn2.out (hS.sel (L' := blk vb _ _ :: amap eS eP mb p :: bookL bb L n :: blk b8 _ _ :: xvP xb _ n p :: xkP xB L n :: Old V :: Lr) (by exact selS))).mono ?_; clear hS; rintro e w ⟨rfl, hS⟩) | (go_at_call 14; refine (ord_x (o := ⟨oi, ou, oy, ot, oc, op⟩) Hok.out.ok Hok.out.w hi7 Hmay.out Hok.out.n0 H1.out H2.out Hp2.out HL2.out Hn2.out (hS.sel (L' := xvP xb _ n p :: xkP xB L n :: blk vb _ _ :: amap eS eP mb p2 :: bookL bb L2 n2 :: blk b8 _ _ :: Old V :: Lr) (by exact selS))).mono ?_; clear hS; rintro e w ⟨rfl, hS⟩))
      have hS2 := hS.sel (L' := blk b8 _ _ :: blk vb _ _ :: amap eS eP mb p2 :: bookL bb L2 n2 :: xvP xb _ n2 p2 :: xkP xB L2 n2 :: Old V :: Lr) (by exact selS)
      clear hS
      have hS := hS2
      clear hS2
      obtain ⟨xx, hxx⟩ : ∃ x, purseA p2 who = x := ⟨_, rfl⟩
      obtain ⟨x0, x1, x2, x3⟩ := xx
      have Hx := Lib.hid hxx
      clear hxx
      have heq : ((x0 == x0) && ((x1 == x1) && ((x2 == x2) && (x3 == x3)))) = true := by simp
      refine wp_region_reads (by kernel_rfl) (by kernel_rfl) hS ?_
      iterate 5 (refine wq_pure rfl rfl ?_; intro K hK; go_big_quiet_op; go_big_quiet_on)
      (refine zq1 ?_)
      (apply wq_call; rfl; (intro w; apply exec_callF; (with_reducible rfl); decide +kernel; (focus (simp only [fD, List.map_cons, List.map_nil, Act.eval, fE, fF, fG, fH, Option.getD_some]; try rfl))); (intro w hS; exact has_in Hx.out (Same.of (.tail .head) (Same.of (.tail .head) Same.refl)) hS); (refine frS ?_))
      iterate 2 (refine wq_pure rfl rfl ?_; intro K hK; go_big_quiet_op; go_big_quiet_on)
      (refine zq1 ?_)
      (apply wq_call; rfl; (intro w; apply exec_callF; (with_reducible rfl); decide +kernel; (focus (simp only [fD, List.map_cons, List.map_nil, Act.eval, fE, fF, fG, fH, Option.getD_some]; try rfl))); (intro w hS; exact has8_take Hok2.out.w Hx.out hS (.tail (.tail (.tail (.tail .head))))); (refine frS ?_))
      ((with_reducible apply wq_neA); (with_reducible rfl); rfl; rfl; rfl; kernel_rfl; exact eqI _ _ _ _ _ _ _ _; (rw [heq]); (simp only [Bool.not_true]); (simp only [Act.put, fA, fB, fC, Nat.reduceAdd, eP, It.cells]))
      (refine wq_pure rfl rfl ?_; intro K hK; go_big_quiet_op; go_big_quiet_on)
      clear hS heq
      intro w hS
      go_wp2_with fail
      first | (go_roundw; (case rel => exact ⟨i + 1, p2, L2, n2, rfl, hil, hi3, Hok2.out, Hap2.out, hS.sel (by exact selS)⟩); (case measure => (simp [intOf]; try omega))) | (refine ⟨?_, ?measure⟩; (repeat apply Exists.intro); refine ⟨?rel, rfl⟩; (case rel => exact ⟨i + 1, p2, L2, n2, rfl, hil, hi3, Hok2.out, Hap2.out, hS.sel (by exact selS)⟩); (case measure => (simp [intOf]; try omega)))
    have hk3f : (kd == 3) = false := by simpa using hk3
    by_cases hk4 : kd = 4
    · subst hk4
      obtain ⟨r, hr⟩ : ∃ r, (canV ⟨p, L, n⟩ who nn).1 = r := ⟨_, rfl⟩
      obtain ⟨p2, hp2⟩ : ∃ q, (canV ⟨p, L, n⟩ who nn).2.ps = q := ⟨_, rfl⟩
      obtain ⟨L2, hL2⟩ : ∃ q, (canV ⟨p, L, n⟩ who nn).2.L = q := ⟨_, rfl⟩
      have hok2 := vOk_can (V := ⟨p, L, n⟩) (who := who) (id := nn) Hok.out Hmay.out
      rw [hp2] at hok2
      have hap2 := apart_can (V := ⟨p, L, n⟩) (who := who) (id := nn) Hap.out
      rw [hL2] at hap2
      have Hap2 := Lib.hid hap2
      clear hap2
      have Hr := Lib.hid hr
      have Hp2 := Lib.hid hp2
      have HL2 := Lib.hid hL2
      have Hok2 := Lib.hid (show VOk p2 n (i + 1) from hok2)
      have hrr : (r == r) = true := by simp
      clear hr hp2 hL2 hok2
      go_wp2_with (first | go_big_skip | ((with_reducible apply wl_ldN hS); (with_reducible rfl); rfl; rfl; decide +kernel; (exact Cells.old (by exact memS) hall); kernel_rfl; (refine frS ?_)) | ((with_reducible apply wl_alloc hS); (with_reducible rfl); rfl; (exact zsS); clear hS; intro b8 w hS; (refine frS ?_)) | (refine zsN hS ?_; clear hS; intro w hS) | (refine zl1 hS ?_))
      have hS2 := hS.sel (L' := amap eS eP mb p :: bookL bb L n :: xvP xb _ n p :: xkP xB L n :: blk b8 _ _ :: blk vb _ _ :: Old V :: Lr) (by exact selS)
      clear hS
      refine wp_region_flow3 [0, 0, 2, 0, 8, 31, 0, 0, 128, 0, 512, 2047, 4095, 8191] (fun _ => false) (fun i => if i == 5 then some (.int .i64 r) else if i == 11 then some (.int .i64 r) else none) [⟨some 5, none, fun _ => amap eS eP mb p2⟩, ⟨some 5, none, fun _ => bookL bb L2 n⟩, ⟨some 11, none, fun _ => xvP xb (.pointer (some ⟨xB, 0, none⟩)) n p2⟩, ⟨some 11, none, fun _ => xkP xB L2 n⟩] [some 5, some 5, some 11, some 11, none, none] (by kernel_rfl) (by kernel_rfl) rfl hS2 (CongOk.cons (fun _ _ _ => rfl) (CongOk.cons (fun _ _ _ => rfl) (CongOk.cons (fun _ _ _ => rfl) (CongOk.cons (fun _ _ _ => rfl) CongOk.nil)))) ?_
      clear hS2
      intro nd
      iterate 2 (refine ch_pure rfl (by kernel_rfl) rfl rfl ?_; intro K hK; go_big_quiet_op; go_big_quiet_on)
      (refine zc1 ?_)
      (refine ch_pure rfl (by kernel_rfl) rfl rfl ?_; intro K hK; go_big_quiet_op; go_big_quiet_on)
      (refine zc1 ?_)
      (refine zcv ?_ (hs := by (intro F w hS; (try clear hS0); exact can_in who nn Hok.out.ok Hr.out Hp2.out HL2.out (.tail (.tail (.tail .head))) hS)))
      iterate 2 (refine ch_pure rfl (by kernel_rfl) rfl rfl ?_; intro K hK; go_big_quiet_op; go_big_quiet_on)
      (refine zc1 ?_)
      (refine ch_pure rfl (by kernel_rfl) rfl rfl ?_; intro K hK; go_big_quiet_op; go_big_quiet_on)
      (refine zc1 ?_)
      (refine zcv ?_ (hs := by (intro F w hS; (try clear hS0); exact can_x Hok.out.ok Hok.out.w hi7 Hmay.out hl32 who nn Hr.out Hp2.out HL2.out hS)))
      iterate 2 (refine ch_pure rfl (by kernel_rfl) rfl rfl ?_; intro K hK; go_big_quiet_op; go_big_quiet_on)
      refine ch_end ?_
      intro w hS
      have hS2 : St W [amap eS eP mb p2, bookL bb L2 n, xvP xb _ n p2, xkP xB L2 n, blk b8 _ _, blk vb _ _, sats (Old V :: Lr)] w := hS
      clear hS
      have hS := hS2.unpack [_, _, _, _, _, _]
      clear hS2
      simp only [List.cons_append, List.nil_append] at hS
      go_wp2_with (first | go_big_skip)
      have hS2 := hS.sel (L' := blk b8 _ _ :: blk vb _ _ :: amap eS eP mb p2 :: bookL bb L2 n :: xvP xb _ n p2 :: xkP xB L2 n :: Old V :: Lr) (by exact selS)
      clear hS
      have hS := hS2
      clear hS2
      obtain ⟨xx, hxx⟩ : ∃ x, purseA p2 who = x := ⟨_, rfl⟩
      obtain ⟨x0, x1, x2, x3⟩ := xx
      have Hx := Lib.hid hxx
      clear hxx
      have heq : ((x0 == x0) && ((x1 == x1) && ((x2 == x2) && (x3 == x3)))) = true := by simp
      refine wp_region_reads (by kernel_rfl) (by kernel_rfl) hS ?_
      iterate 5 (refine wq_pure rfl rfl ?_; intro K hK; go_big_quiet_op; go_big_quiet_on)
      (refine zq1 ?_)
      (apply wq_call; rfl; (intro w; apply exec_callF; (with_reducible rfl); decide +kernel; (focus (simp only [fD, List.map_cons, List.map_nil, Act.eval, fE, fF, fG, fH, Option.getD_some]; try rfl))); (intro w hS; exact has_in Hx.out (Same.of (.tail .head) (Same.of (.tail .head) Same.refl)) hS); (refine frS ?_))
      iterate 2 (refine wq_pure rfl rfl ?_; intro K hK; go_big_quiet_op; go_big_quiet_on)
      (refine zq1 ?_)
      (apply wq_call; rfl; (intro w; apply exec_callF; (with_reducible rfl); decide +kernel; (focus (simp only [fD, List.map_cons, List.map_nil, Act.eval, fE, fF, fG, fH, Option.getD_some]; try rfl))); (intro w hS; exact has8_take Hok2.out.w Hx.out hS (.tail (.tail (.tail (.tail .head))))); (refine frS ?_))
      ((with_reducible apply wq_neA); (with_reducible rfl); rfl; rfl; rfl; kernel_rfl; exact eqI _ _ _ _ _ _ _ _; (rw [heq]); (simp only [Bool.not_true]); (simp only [Act.put, fA, fB, fC, Nat.reduceAdd, eP, It.cells]))
      (refine wq_pure rfl rfl ?_; intro K hK; go_big_quiet_op; go_big_quiet_on)
      clear hS heq
      intro w hS
      go_wp2_with fail
      first | (go_roundw; (case rel => exact ⟨i + 1, p2, L2, n, rfl, hil, hi3, Hok2.out, Hap2.out, hS.sel (by exact selS)⟩); (case measure => (simp [intOf]; try omega))) | (refine ⟨?_, ?measure⟩; (repeat apply Exists.intro); refine ⟨?rel, rfl⟩; (case rel => exact ⟨i + 1, p2, L2, n, rfl, hil, hi3, Hok2.out, Hap2.out, hS.sel (by exact selS)⟩); (case measure => (simp [intOf]; try omega)))
    have hk4f : (kd == 4) = false := by simpa using hk4
    have Hok2 := Lib.hid Hok.out.on
    have Hap2 := Hap
    obtain ⟨p2, rfl⟩ : ∃ x, x = p := ⟨_, rfl⟩
    go_wp2_with (first | go_big_skip | ((with_reducible apply wl_ldN hS); (with_reducible rfl); rfl; rfl; decide +kernel; (exact Cells.old (by exact memS) hall); kernel_rfl; (refine frS ?_)) | ((with_reducible apply wl_alloc hS); (with_reducible rfl); rfl; (exact zsS); clear hS; intro b8 w hS; (refine frS ?_)) | (refine zsN hS ?_; clear hS; intro w hS) | (refine zl1 hS ?_))
    have hS2 := hS.sel (L' := blk b8 _ _ :: blk vb _ _ :: amap eS eP mb p2 :: bookL bb L n :: xvP xb _ n p2 :: xkP xB L n :: Old V :: Lr) (by exact selS)
    clear hS
    have hS := hS2
    clear hS2
    obtain ⟨xx, hxx⟩ : ∃ x, purseA p2 who = x := ⟨_, rfl⟩
    obtain ⟨x0, x1, x2, x3⟩ := xx
    have Hx := Lib.hid hxx
    clear hxx
    have heq : ((x0 == x0) && ((x1 == x1) && ((x2 == x2) && (x3 == x3)))) = true := by simp
    refine wp_region_reads (by kernel_rfl) (by kernel_rfl) hS ?_
    iterate 5 (refine wq_pure rfl rfl ?_; intro K hK; go_big_quiet_op; go_big_quiet_on)
    (refine zq1 ?_)
    (apply wq_call; rfl; (intro w; apply exec_callF; (with_reducible rfl); decide +kernel; (focus (simp only [fD, List.map_cons, List.map_nil, Act.eval, fE, fF, fG, fH, Option.getD_some]; try rfl))); (intro w hS; exact has_in Hx.out (Same.of (.tail .head) (Same.of (.tail .head) Same.refl)) hS); (refine frS ?_))
    iterate 2 (refine wq_pure rfl rfl ?_; intro K hK; go_big_quiet_op; go_big_quiet_on)
    (refine zq1 ?_)
    (apply wq_call; rfl; (intro w; apply exec_callF; (with_reducible rfl); decide +kernel; (focus (simp only [fD, List.map_cons, List.map_nil, Act.eval, fE, fF, fG, fH, Option.getD_some]; try rfl))); (intro w hS; exact has8_take Hok2.out.w Hx.out hS (.tail (.tail (.tail (.tail .head))))); (refine frS ?_))
    ((with_reducible apply wq_neA); (with_reducible rfl); rfl; rfl; rfl; kernel_rfl; exact eqI _ _ _ _ _ _ _ _; (rw [heq]); (simp only [Bool.not_true]); (simp only [Act.put, fA, fB, fC, Nat.reduceAdd, eP, It.cells]))
    (refine wq_pure rfl rfl ?_; intro K hK; go_big_quiet_op; go_big_quiet_on)
    clear hS heq
    intro w hS
    go_wp2_with fail
    first | (go_roundw; (case rel => exact ⟨i + 1, p2, L, n, rfl, hil, hi3, Hok2.out, Hap2.out, hS.sel (by exact selS)⟩); (case measure => (simp [intOf]; try omega))) | (refine ⟨?_, ?measure⟩; (repeat apply Exists.intro); refine ⟨?rel, rfl⟩; (case rel => exact ⟨i + 1, p2, L, n, rfl, hil, hi3, Hok2.out, Hap2.out, hS.sel (by exact selS)⟩); (case measure => (simp [intOf]; try omega)))
end Go.Proofs.YtbcokphjpllbiaaGreat
end
