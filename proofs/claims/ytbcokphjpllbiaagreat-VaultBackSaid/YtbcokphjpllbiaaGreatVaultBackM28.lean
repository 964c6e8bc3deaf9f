/-
  Are the program's vault and the document's alike? They are, when they hold the same. For every vault.
  No two orders that stand in a vault's book meet: what Order and Cancel leave. Plain.
-/
import Derived.Test.YtbcokphjpllbiaaGreatVaultBackM5
import Derived.Test.YtbcokphjpllbiaaGreatVaultBackM26
import Derived.Test.YtbcokphjpllbiaaGreatVaultBackM27
import Derived.Laws.BytesString
section
set_option linter.unusedSimpArgs false
set_option linter.unusedVariables false
namespace Go.Sl
open Go.RowKit
/-- The same resources in another order. -/
structure Same (L L' : List HP) : Prop where
  to : ∀ {f : Frag}, sats L f → sats L' f
  back : ∀ {f : Frag}, sats L' f → sats L f
theorem Same.refl {L : List HP} : Same L L := ⟨fun h => h, fun h => h⟩
theorem Same.of {A : HP} {L R R' : List HP} (h : Take L A R) (h2 : Same R R') : Same L (A :: R') :=
  ⟨fun hs => sep_mono (fun _ x => x) (fun _ x => h2.to x) (h.sats hs), fun hs => h.back (sep_mono (fun _ x => x) (fun _ x => h2.back x) hs)⟩
theorem Same.st {W w : World} {L L' : List HP} (h : Same L L') (hS : St W L w) : St W L' w := ⟨hS.os, hS.tape, hS.output, h.to hS.sat⟩
theorem Same.ts {W w : World} {L L' : List HP} {X : HP} (h : Same L L') (hS : St W (X :: L') w) : St W (X :: L) w := ⟨hS.os, hS.tape, hS.output, sep_mono (fun _ x => x) (fun _ x => h.back x) hS.sat⟩
def bstr (ns : List Int) : ByteArray := ns.foldl (fun r n => r.push (UInt8.ofNat n.toNat)) ByteArray.empty
section
variable {P : Program} {W : World} {ops : Array Oper} {t : List Nat} {toks : List Tok} {fresh : Nat → Bool} {pin : Nat → Option Value} {Qf : Act → Prop} {nd : Nat → Value} {i : Nat} {l : List Oper} {a : Act} {o : Oper}
theorem ch_eqA {ty t2 : TypeId} {x y : Operand} {xs ys : Array Value} {r : Bool} (hf : fresh i = false) (hn : noTok toks i = true) (ho : o.op = .binOp .eql ty x y t2) (hg : Region.wanted o (yielded ops a.tmps) = true) (hx : a.eval x = .agg xs) (hy : a.eval y = .agg ys) (hm : P.eqGuardType P.depth ty = false) (hr : ∀ w : World, (Op.equalIn 10000 ty (.agg xs) (.agg ys)).run P w = .ok r w)
    (h : Chain P W ops t toks fresh pin Qf nd (i + 1) l (a.put o.dst (.bool r))) : Chain P W ops t toks fresh pin Qf nd i (o :: l) a :=
  ch_val hf hn hg (fun F w _ => by
    unfold execOp
    simp [ho, hx, hy, run_eqGuard_agg w .eql ty x y xs ys hm, run_eql_struct, hr]) h
/-- A string out of a row of bytes. -/
theorem ch_bytesStr {src dst e : TypeId} {x : Operand} {v0 : Value} {ns : List Int} (hf : fresh i = false) (hn : noTok toks i = true) (ho : o.op = .convert src dst x) (hg : Region.wanted o (yielded ops a.tmps) = true) (hx : a.eval x = v0)
    (hs : P.underlying src = some (.slice e)) (he : P.underlying e = some (.int .u8)) (hd : P.underlying dst = some .string) (hp : 0 < ns.length) (hr : ∀ F, ∃ R, Take (kpL toks t i nd ++ F) (row v0 1 e ns.length (ns.map (Value.int .u8))) R)
    (h : Chain P W ops t toks fresh pin Qf nd (i + 1) l (a.put o.dst (.string (bstr ns)))) : Chain P W ops t toks fresh pin Qf nd i (o :: l) a :=
  ch_val hf hn hg (fun F w hS => by
    obtain ⟨R, hu⟩ := hr F
    have hS1 := hS.take hu
    obtain ⟨b, c, rfl⟩ := hS1.rowVal
    obtain ⟨⟨g, rfl⟩, _, _⟩ := St.rowAddr hS1 hp
    have h1 := run_loadCells_list (P := P) w ⟨g, 0, none⟩ (ns.map (Value.int .u8)) (fun j v hj => by
      rw [Addr.add_lit, Nat.zero_add]
      exact Cell.row hp hj W w hS1)
    rw [List.length_map] at h1
    have h2 := run_bytesToString (P := P) w ⟨g, 0, none⟩ ns.length c ns h1
    unfold execOp
    simp [ho, hx, run_convert_bytes_string w src dst e (some ⟨g, 0, none⟩) ns.length c hs he hd, h2, bstr]) h
end
end Go.Sl
namespace Go.Proofs.YtbcokphjpllbiaaGreat
open Go.RowKit Go.Sl
theorem encV_pos (p : Ps) (L : List Ord) (n : Int) : 0 < (encV p L n).length := by
  unfold encV
  have := numB_pos n
  rw [List.length_append]
  omega
section
variable {W w : World} {vb mb bb xb xB : Nat} {p : Ps} {L : List Ord} {n : Int} {N : Nat} {L1 R3 : List HP}
theorem encodeV_take (hp : PsOk p) (hw : PsW p N) (hN : N ≤ 1000000) (hn0 : 1 ≤ n) (hn1 : n ≤ 1099511627777) (hs : Same L1 (vaultL vb mb bb p L n R3)) (hS : St W L1 w) :
    Calls Tryz.prog 12 #[.pointer (some ⟨vb, 0, none⟩)] w fun e w' => ∃ v, e = .returned v ∧ St W (byR v (encV p L n) :: L1) w' := by
  refine (encodeV vb mb bb p L n hp hw hN hn0 hn1 W w R3 (hs.st hS)).mono ?_
  rintro e w' ⟨v, rfl, hS⟩
  exact ⟨v, rfl, hs.ts hS⟩
theorem encode8_take {ha la : Option Addr} {hc lc : Nat} {last : Int} (hp : PsOk p) (hw : PsW p N) (hN : N ≤ 1000000) (hmay : ∀ x ∈ L, MayP x) (hl32 : L.length ≤ 32) (hn0 : 1 ≤ n) (hn1 : n ≤ 1099511627777)
    (hs : Same L1 (blk xB [.slice la L.length lc, .int .i64 last] 68 :: pileR (.slice la L.length lc) L :: blk xb [.slice ha (hdL p).length hc, .pointer (some ⟨xB, 0, none⟩), .int .i64 n] 65 :: hdR (.slice ha (hdL p).length hc) (hdL p) :: R3)) (hS : St W L1 w) :
    Calls Tryz.prog 30 #[.pointer (some ⟨xb, 0, none⟩)] w fun e w' => ∃ v, e = .returned v ∧ St W (byR v (encV p L n) :: L1) w' := by
  refine (encode8_o xb xB ha la hc lc last p L n hp hw hN hmay hl32 hn0 hn1 W w R3 (hs.st hS)).mono ?_
  rintro e w' ⟨v, rfl, hS⟩
  exact ⟨v, rfl, hs.ts hS⟩
end
set_option maxRecDepth 100000 in
set_option maxHeartbeats 8000000 in
theorem alike_spec (vb mb bb xb xB : Nat) (p : Ps) (L : List Ord) (n : Int) {N : Nat} (hp : PsOk p) (hw : PsW p N) (hN : N ≤ 1000000) (hn0 : 1 ≤ n) (hn1 : n ≤ 1099511627777) (W w : World) (R : List HP) (hS : St W (vaultL vb mb bb p L n (xvR xb xB p L n R)) w) :
    Calls Tryz.prog 8 #[.pointer (some ⟨vb, 0, none⟩), .pointer (some ⟨xb, 0, none⟩)] w fun e w' => e = .returned (.bool true) ∧ St W (vaultL vb mb bb p L n (xvR xb xB p L n R)) w' := by
  have hl32 := bookL_len hS.drop.drop
  have hmay : ∀ x ∈ L, MayP x := fun x hx => (bookL_each hS.drop.drop x hx).1
  have hN2 : N ≤ 1000000000 := by omega
  have Hmay := Lib.hid hmay
  have Hw := Lib.hid hw
  have Hp := Lib.hid hp
  obtain ⟨q, hq⟩ : ∃ q, addF (allV ⟨p, L, n⟩) = q := ⟨_, rfl⟩
  obtain ⟨s0, s1, s2, s3⟩ := q
  obtain ⟨bo, hbo⟩ : ∃ b, (addL (allV ⟨p, L, n⟩) it0).isSome = b := ⟨_, rfl⟩
  have Hq := Lib.hid hq
  have Hbo := Lib.hid hbo
  clear hmay hw hp hq hbo
  have heq : ((s0 == s0) && ((s1 == s1) && ((s2 == s2) && (s3 == s3)))) = true := by simp
  have hnn : (n == n) = true := by simp
  cases bo
  · skip
    go_enter Tryz.func8, Tryz.ntmps8
    go_wp2_with (first | go_big_skip | (go_at_call 25; refine (listV_spec vb mb bb p L n Hw.out hN2 W _ _ hS).mono ?_; clear hS; rintro e w ⟨sa, sc, oa, oc, rfl, hS⟩) | (go_at_call 26; refine (totalV_g vb mb bb p L n Hw.out hN2 W _ _ hS).mono ?_; clear hS; rw [Hq.out, Hbo.out]; simp only [It.cells]; rintro e w ⟨rfl, hS⟩) | (go_at_call 27; refine (total8 xb xB p L n Hw.out hN Hmay.out hl32 W _ _ (hS.sel (L' := xvP xb (.pointer (some ⟨xB, 0, none⟩)) n p :: xkP xB L n :: blk b8 _ _ :: blk vb _ _ :: amap eS eP mb p :: bookL bb L n :: hdR (.slice sa (hdL p).length sc) (hdL p) :: pileR (.slice oa L.length oc) L :: R) (by exact selS))).mono ?_; clear hS; rw [Hq.out, Hbo.out]; simp only [It.cells]; rintro e w ⟨rfl, hS⟩) | ((fail_if_success (have := b8)); (with_reducible apply wl_alloc hS); (with_reducible rfl); rfl; (exact zsS); clear hS; intro b8 w hS; (refine frS ?_)) | ((have := b8); (with_reducible apply wl_alloc hS); (with_reducible rfl); rfl; (exact zsS); clear hS; intro b10 w hS; (refine frS ?_)) | (refine zsN hS ?_; clear hS; intro w hS))
    have hS0 := hS.sel (L' := xvP xb (.pointer (some ⟨xB, 0, none⟩)) n p :: xkP xB L n :: blk b8 _ _ :: blk b10 _ _ :: blk vb _ _ :: amap eS eP mb p :: bookL bb L n :: hdR (.slice sa (hdL p).length sc) (hdL p) :: pileR (.slice oa L.length oc) L :: R) (by exact selS)
    clear hS
    obtain ⟨xv, hS1⟩ := xvOpen hS0
    obtain ⟨la, lc, last, hlast, hS2⟩ := xkOpen (hS1.sel (L' := xkP xB L n :: blk xb _ _ :: hdR xv (hdL p) :: blk b8 _ _ :: blk b10 _ _ :: blk vb _ _ :: amap eS eP mb p :: bookL bb L n :: hdR (.slice sa (hdL p).length sc) (hdL p) :: pileR (.slice oa L.length oc) L :: R) (by exact selS))
    clear hS0 hS1
    obtain ⟨ha, hc, rfl⟩ := hS2.drop.drop.drop.rowVal
    have hS := hS2.sel (L' := blk xb _ _ :: blk xB _ _ :: blk b8 _ _ :: blk b10 _ _ :: hdR (.slice ha (hdL p).length hc) (hdL p) :: pileR (.slice la L.length lc) L :: hdR (.slice sa (hdL p).length sc) (hdL p) :: pileR (.slice oa L.length oc) L :: blk vb _ _ :: amap eS eP mb p :: bookL bb L n :: R) (by exact selS)
    clear hS2
    refine wp_region_flow3 [0, 0, 2, 6, 14, 31, 63, 127, 127, 383, 895, 1919, 3967, 8063, 16255, 32767, 65535, 131071, 262143, 262143, 786431, 1835007, 3932159, 8388607, 16777215, 33554431, 67108863, 67108863, 268435455, 536870911, 1073741823, 2147483647, 2147483647, 8589934591, 17179869183, 34359738367, 68719476735, 137438953471, 274877906943, 68719476735, 824633720831, 1924145348607, 4398046511103, 8796093022207, 17592186044415] (fun i => i == 37 || i == 40) (fun i => if i == 5 then some (.bool true) else if i == 15 then some (.bool true) else none) [⟨some 37, none, fun nd => byR (nd 37) (encV p L n)⟩, ⟨some 40, none, fun nd => byR (nd 40) (encV p L n)⟩] [none, none, none, none, none, none, none, none, none, none, none] (by kernel_rfl) (by kernel_rfl) rfl hS (CongOk.cons (fun nd nd' h => by dsimp only; rw [h 37 rfl rfl]) (CongOk.cons (fun nd nd' h => by dsimp only; rw [h 40 rfl rfl]) CongOk.nil)) ?_
    intro nd
    iterate 2 (refine ch_pure rfl (by kernel_rfl) rfl rfl ?_; intro K hK; go_big_quiet_op; go_big_quiet_on)
    (refine zcn ?_)
    (refine ch_pure rfl (by kernel_rfl) rfl rfl ?_; intro K hK; go_big_quiet_op; go_big_quiet_on)
    (refine zc1 ?_)
    (refine zcv ?_ (hs := by (intro F w hS; (try clear hS0); exact holdings_take hS (.tail (.tail (.tail (.tail (.tail (.tail .head)))))) (.tail (.tail (.tail (.tail .head)))))))
    iterate 3 (refine ch_pure rfl (by kernel_rfl) rfl rfl ?_; intro K hK; go_big_quiet_op; go_big_quiet_on)
    (refine zcn ?_)
    (refine ch_pure rfl (by kernel_rfl) rfl rfl ?_; intro K hK; go_big_quiet_op; go_big_quiet_on)
    (refine zc1 ?_)
    (refine zcn ?_)
    (refine ch_pure rfl (by kernel_rfl) rfl rfl ?_; intro K hK; go_big_quiet_op; go_big_quiet_on)
    (refine zc1 ?_)
    (refine zcv ?_ (hs := by (intro F w hS; (try clear hS0); exact orders_take hl32 hS (.tail (.tail (.tail (.tail (.tail (.tail (.tail .head))))))) (.tail (.tail (.tail (.tail (.tail .head))))))))
    iterate 4 (refine ch_pure rfl (by kernel_rfl) rfl rfl ?_; intro K hK; go_big_quiet_op; go_big_quiet_on)
    (refine zcn ?_)
    (refine ch_pure rfl (by kernel_rfl) rfl rfl ?_; intro K hK; go_big_quiet_op; go_big_quiet_on)
    (refine zc1 ?_)
    iterate 3 (refine ch_pure rfl (by kernel_rfl) rfl rfl ?_; intro K hK; go_big_quiet_op; go_big_quiet_on)
    (refine zcN ?_)
    (refine zcN ?_)
    (apply ch_eqA; rfl; kernel_rfl; (with_reducible rfl); rfl; rfl; rfl; kernel_rfl; exact eqI _ _ _ _ _ _ _ _; (rw [heq]); (refine frS ?_))
    iterate 8 (refine ch_pure rfl (by kernel_rfl) rfl rfl ?_; intro K hK; go_big_quiet_op; go_big_quiet_on)
    (apply ch_callN; rfl; rfl; (with_reducible rfl); decide +kernel; (focus (simp only [fD, List.map_cons, List.map_nil, Act.eval, fE, fF, fG, fH, Option.getD_some]; try rfl)); (intro _; rfl); (intro F w hS; exact encodeV_take Hp.out Hw.out hN hn0 hn1 (Same.of (.tail (.tail (.tail (.tail (.tail (.tail (.tail (.tail .head)))))))) (Same.of (.tail (.tail (.tail (.tail (.tail (.tail (.tail (.tail .head)))))))) (Same.of (.tail (.tail (.tail (.tail (.tail (.tail (.tail (.tail .head)))))))) Same.refl))) hS); (refine frS ?_))
    (apply ch_bytesStr (ns := encV p L n); rfl; kernel_rfl; (with_reducible rfl); rfl; rfl; exact Tryz.underlying30; exact Tryz.underlying5; exact Tryz.underlying9; exact encV_pos _ _ _; (intro F; exact ⟨_, by exact takO⟩); (refine frS ?_))
    (refine ch_pure rfl (by kernel_rfl) rfl rfl ?_; intro K hK; go_big_quiet_op; go_big_quiet_on)
    (apply ch_callN; rfl; rfl; (with_reducible rfl); decide +kernel; (focus (simp only [fD, List.map_cons, List.map_nil, Act.eval, fE, fF, fG, fH, Option.getD_some]; try rfl)); (intro _; rfl); (intro F w hS; exact encode8_take Hp.out Hw.out hN Hmay.out hl32 hn0 hn1 (Same.of (.tail (.tail .head)) (Same.of (.tail (.tail (.tail (.tail (.tail .head))))) (Same.of (.tail .head) (Same.of (.tail (.tail (.tail .head))) Same.refl)))) hS); (refine frS ?_))
    (apply ch_bytesStr (ns := encV p L n); rfl; kernel_rfl; (with_reducible rfl); rfl; rfl; exact Tryz.underlying30; exact Tryz.underlying5; exact Tryz.underlying9; exact encV_pos _ _ _; (intro F; exact ⟨_, by exact takO⟩); (refine frS ?_))
    iterate 3 (refine ch_pure rfl (by kernel_rfl) rfl rfl ?_; intro K hK; go_big_quiet_op; go_big_quiet_on)
    refine ch_end ?_
    clear hS
    intro w hS
    have hS2 : St W [byR (nd 37) _, byR (nd 40) _, blk xb _ _, blk xB _ _, blk b8 _ _, blk b10 _ _, hdR (.slice ha (hdL p).length hc) (hdL p), pileR (.slice la L.length lc) L, hdR (.slice sa (hdL p).length sc) (hdL p), pileR (.slice oa L.length oc) L, blk vb _ _, amap eS eP mb p, bookL bb L n, sats R] w := hS
    clear hS
    have hS := hS2.unpack [_, _, _, _, _, _, _, _, _, _, _, _, _]
    clear hS2
    simp only [List.cons_append, List.nil_append] at hS
    go_wp2_with fail
    go_ret
    have h1 := xkShut hlast (hS.sel (L' := blk xB _ _ :: pileR (.slice la L.length lc) L :: blk xb _ _ :: hdR (.slice ha (hdL p).length hc) (hdL p) :: blk vb _ _ :: amap eS eP mb p :: bookL bb L n :: R) (by exact selS))
    have h2 := xvShut (h1.sel (L' := blk xb _ _ :: hdR (.slice ha (hdL p).length hc) (hdL p) :: xkP xB L n :: blk vb _ _ :: amap eS eP mb p :: bookL bb L n :: R) (by exact selS))
    exact ⟨rfl, h2.sel (by exact selS)⟩
  · skip
    go_enter Tryz.func8, Tryz.ntmps8
    go_wp2_with (first | go_big_skip | (go_at_call 25; refine (listV_spec vb mb bb p L n Hw.out hN2 W _ _ hS).mono ?_; clear hS; rintro e w ⟨sa, sc, oa, oc, rfl, hS⟩) | (go_at_call 26; refine (totalV_g vb mb bb p L n Hw.out hN2 W _ _ hS).mono ?_; clear hS; rw [Hq.out, Hbo.out]; simp only [It.cells]; rintro e w ⟨rfl, hS⟩) | (go_at_call 27; refine (total8 xb xB p L n Hw.out hN Hmay.out hl32 W _ _ (hS.sel (L' := xvP xb (.pointer (some ⟨xB, 0, none⟩)) n p :: xkP xB L n :: blk b8 _ _ :: blk vb _ _ :: amap eS eP mb p :: bookL bb L n :: hdR (.slice sa (hdL p).length sc) (hdL p) :: pileR (.slice oa L.length oc) L :: R) (by exact selS))).mono ?_; clear hS; rw [Hq.out, Hbo.out]; simp only [It.cells]; rintro e w ⟨rfl, hS⟩) | ((fail_if_success (have := b8)); (with_reducible apply wl_alloc hS); (with_reducible rfl); rfl; (exact zsS); clear hS; intro b8 w hS; (refine frS ?_)) | ((have := b8); (with_reducible apply wl_alloc hS); (with_reducible rfl); rfl; (exact zsS); clear hS; intro b10 w hS; (refine frS ?_)) | (refine zsN hS ?_; clear hS; intro w hS))
    have hS0 := hS.sel (L' := xvP xb (.pointer (some ⟨xB, 0, none⟩)) n p :: xkP xB L n :: blk b8 _ _ :: blk b10 _ _ :: blk vb _ _ :: amap eS eP mb p :: bookL bb L n :: hdR (.slice sa (hdL p).length sc) (hdL p) :: pileR (.slice oa L.length oc) L :: R) (by exact selS)
    clear hS
    obtain ⟨xv, hS1⟩ := xvOpen hS0
    obtain ⟨la, lc, last, hlast, hS2⟩ := xkOpen (hS1.sel (L' := xkP xB L n :: blk xb _ _ :: hdR xv (hdL p) :: blk b8 _ _ :: blk b10 _ _ :: blk vb _ _ :: amap eS eP mb p :: bookL bb L n :: hdR (.slice sa (hdL p).length sc) (hdL p) :: pileR (.slice oa L.length oc) L :: R) (by exact selS))
    clear hS0 hS1
    obtain ⟨ha, hc, rfl⟩ := hS2.drop.drop.drop.rowVal
    have hS := hS2.sel (L' := blk xb _ _ :: blk xB _ _ :: blk b8 _ _ :: blk b10 _ _ :: hdR (.slice ha (hdL p).length hc) (hdL p) :: pileR (.slice la L.length lc) L :: hdR (.slice sa (hdL p).length sc) (hdL p) :: pileR (.slice oa L.length oc) L :: blk vb _ _ :: amap eS eP mb p :: bookL bb L n :: R) (by exact selS)
    clear hS2
    refine wp_region_flow3 [0, 0, 2, 6, 14, 31, 63, 127, 127, 383, 895, 1919, 3967, 8063, 16255, 32767, 65535, 131071, 262143, 262143, 786431, 1835007, 3932159, 8388607, 16777215, 33554431, 67108863, 67108863, 268435455, 536870911, 1073741823, 2147483647, 2147483647, 8589934591, 17179869183, 34359738367, 68719476735, 137438953471, 274877906943, 68719476735, 824633720831, 1924145348607, 4398046511103, 8796093022207, 17592186044415] (fun i => i == 37 || i == 40) (fun i => if i == 5 then some (.bool true) else if i == 15 then some (.bool true) else none) [⟨some 37, none, fun nd => byR (nd 37) (encV p L n)⟩, ⟨some 40, none, fun nd => byR (nd 40) (encV p L n)⟩] [none, none, none, none, none, none, none, none, none, none, none] (by kernel_rfl) (by kernel_rfl) rfl hS (CongOk.cons (fun nd nd' h => by dsimp only; rw [h 37 rfl rfl]) (CongOk.cons (fun nd nd' h => by dsimp only; rw [h 40 rfl rfl]) CongOk.nil)) ?_
    intro nd
    iterate 2 (refine ch_pure rfl (by kernel_rfl) rfl rfl ?_; intro K hK; go_big_quiet_op; go_big_quiet_on)
    (refine zcn ?_)
    (refine ch_pure rfl (by kernel_rfl) rfl rfl ?_; intro K hK; go_big_quiet_op; go_big_quiet_on)
    (refine zc1 ?_)
    (refine zcv ?_ (hs := by (intro F w hS; (try clear hS0); exact holdings_take hS (.tail (.tail (.tail (.tail (.tail (.tail .head)))))) (.tail (.tail (.tail (.tail .head)))))))
    iterate 3 (refine ch_pure rfl (by kernel_rfl) rfl rfl ?_; intro K hK; go_big_quiet_op; go_big_quiet_on)
    (refine zcn ?_)
    (refine ch_pure rfl (by kernel_rfl) rfl rfl ?_; intro K hK; go_big_quiet_op; go_big_quiet_on)
    (refine zc1 ?_)
    (refine zcn ?_)
    (refine ch_pure rfl (by kernel_rfl) rfl rfl ?_; intro K hK; go_big_quiet_op; go_big_quiet_on)
    (refine zc1 ?_)
    (refine zcv ?_ (hs := by (intro F w hS; (try clear hS0); exact orders_take hl32 hS (.tail (.tail (.tail (.tail (.tail (.tail (.tail .head))))))) (.tail (.tail (.tail (.tail (.tail .head))))))))
    iterate 4 (refine ch_pure rfl (by kernel_rfl) rfl rfl ?_; intro K hK; go_big_quiet_op; go_big_quiet_on)
    (refine zcn ?_)
    (refine ch_pure rfl (by kernel_rfl) rfl rfl ?_; intro K hK; go_big_quiet_op; go_big_quiet_on)
    (refine zc1 ?_)
    iterate 3 (refine ch_pure rfl (by kernel_rfl) rfl rfl ?_; intro K hK; go_big_quiet_op; go_big_quiet_on)
    (refine zcN ?_)
    (refine zcN ?_)
    (apply ch_eqA; rfl; kernel_rfl; (with_reducible rfl); rfl; rfl; rfl; kernel_rfl; exact eqI _ _ _ _ _ _ _ _; (rw [heq]); (refine frS ?_))
    iterate 8 (refine ch_pure rfl (by kernel_rfl) rfl rfl ?_; intro K hK; go_big_quiet_op; go_big_quiet_on)
    (apply ch_callN; rfl; rfl; (with_reducible rfl); decide +kernel; (focus (simp only [fD, List.map_cons, List.map_nil, Act.eval, fE, fF, fG, fH, Option.getD_some]; try rfl)); (intro _; rfl); (intro F w hS; exact encodeV_take Hp.out Hw.out hN hn0 hn1 (Same.of (.tail (.tail (.tail (.tail (.tail (.tail (.tail (.tail .head)))))))) (Same.of (.tail (.tail (.tail (.tail (.tail (.tail (.tail (.tail .head)))))))) (Same.of (.tail (.tail (.tail (.tail (.tail (.tail (.tail (.tail .head)))))))) Same.refl))) hS); (refine frS ?_))
    (apply ch_bytesStr (ns := encV p L n); rfl; kernel_rfl; (with_reducible rfl); rfl; rfl; exact Tryz.underlying30; exact Tryz.underlying5; exact Tryz.underlying9; exact encV_pos _ _ _; (intro F; exact ⟨_, by exact takO⟩); (refine frS ?_))
    (refine ch_pure rfl (by kernel_rfl) rfl rfl ?_; intro K hK; go_big_quiet_op; go_big_quiet_on)
    (apply ch_callN; rfl; rfl; (with_reducible rfl); decide +kernel; (focus (simp only [fD, List.map_cons, List.map_nil, Act.eval, fE, fF, fG, fH, Option.getD_some]; try rfl)); (intro _; rfl); (intro F w hS; exact encode8_take Hp.out Hw.out hN Hmay.out hl32 hn0 hn1 (Same.of (.tail (.tail .head)) (Same.of (.tail (.tail (.tail (.tail (.tail .head))))) (Same.of (.tail .head) (Same.of (.tail (.tail (.tail .head))) Same.refl)))) hS); (refine frS ?_))
    (apply ch_bytesStr (ns := encV p L n); rfl; kernel_rfl; (with_reducible rfl); rfl; rfl; exact Tryz.underlying30; exact Tryz.underlying5; exact Tryz.underlying9; exact encV_pos _ _ _; (intro F; exact ⟨_, by exact takO⟩); (refine frS ?_))
    iterate 3 (refine ch_pure rfl (by kernel_rfl) rfl rfl ?_; intro K hK; go_big_quiet_op; go_big_quiet_on)
    refine ch_end ?_
    clear hS
    intro w hS
    have hS2 : St W [byR (nd 37) _, byR (nd 40) _, blk xb _ _, blk xB _ _, blk b8 _ _, blk b10 _ _, hdR (.slice ha (hdL p).length hc) (hdL p), pileR (.slice la L.length lc) L, hdR (.slice sa (hdL p).length sc) (hdL p), pileR (.slice oa L.length oc) L, blk vb _ _, amap eS eP mb p, bookL bb L n, sats R] w := hS
    clear hS
    have hS := hS2.unpack [_, _, _, _, _, _, _, _, _, _, _, _, _]
    clear hS2
    simp only [List.cons_append, List.nil_append] at hS
    go_wp2_with fail
    go_ret
    have h1 := xkShut hlast (hS.sel (L' := blk xB _ _ :: pileR (.slice la L.length lc) L :: blk xb _ _ :: hdR (.slice ha (hdL p).length hc) (hdL p) :: blk vb _ _ :: amap eS eP mb p :: bookL bb L n :: R) (by exact selS))
    have h2 := xvShut (h1.sel (L' := blk xb _ _ :: hdR (.slice ha (hdL p).length hc) (hdL p) :: xkP xB L n :: blk vb _ _ :: amap eS eP mb p :: bookL bb L n :: R) (by exact selS))
    exact ⟨rfl, h2.sel (by exact selS)⟩
end Go.Proofs.YtbcokphjpllbiaaGreat
end
section
set_option linter.unusedSimpArgs false
set_option linter.unusedVariables false
namespace Go.Proofs.YtbcokphjpllbiaaGreat
open Go.RowKit Go.Sl
/-- No two that stand there meet. -/
def ApartL (L : List Ord) : Prop := ∀ x ∈ L, ∀ z ∈ L, meetR x z = false
theorem meetR_cnt (x z : Ord) (c d : Int) : meetR { x with cnt := c } { z with cnt := d } = meetR x z := rfl
theorem apart_keep : ∀ (f : Nat) (o : Ord) (L : List Ord) (ts : List Trd), ApartL L → ApartL (refLoop f o L ts).2.1
  | 0, _, _, _, h => h
  | f + 1, o, L, ts, h => by
    rw [refLoop]
    by_cases h0 : 0 < o.cnt
    · rw [if_pos h0]
      cases hb : bestTo o L L.length with
      | none => exact h
      | some k =>
        obtain ⟨hk, _, _⟩ := best_some hb
        refine apart_keep f _ _ _ ?_
        intro x hx z hz
        have hm : ∀ y ∈ cutR L k ((at' L k).cnt - minI o.cnt (at' L k).cnt), ∃ y' ∈ L, ∃ c, y = { y' with cnt := c } := by
          intro y hy
          unfold cutR at hy
          split at hy
          · exact ⟨y, List.mem_of_mem_eraseIdx hy, y.cnt, rfl⟩
          · rcases List.mem_or_eq_of_mem_set hy with hy | rfl
            · exact ⟨y, hy, y.cnt, rfl⟩
            · exact ⟨_, at'_mem hk, _, rfl⟩
        obtain ⟨x', hx', c, rfl⟩ := hm x hx
        obtain ⟨z', hz', d, rfl⟩ := hm z hz
        rw [meetR_cnt]
        exact h x' hx' z' hz'
    · rw [if_neg h0]; exact h
/-- Behind the loop the order meets none, or nothing is left of it. -/
theorem ref_done : ∀ (f : Nat) (o : Ord) (L : List Ord) (ts : List Trd), (∀ x ∈ L, 1 ≤ x.cnt) → (L.length < f ∨ (o.cnt ≤ 0 ∧ 0 < f)) → (refLoop f o L ts).1.cnt ≤ 0 ∨ ∀ z ∈ (refLoop f o L ts).2.1, meetR (refLoop f o L ts).1 z = false
  | 0, _, _, _, _, h => by omega
  | f + 1, o, L, ts, hL, h => by
    rw [refLoop]
    by_cases h0 : 0 < o.cnt
    · rw [if_pos h0]
      cases hb : bestTo o L L.length with
      | none =>
        right
        intro z hz
        obtain ⟨i, hi, rfl⟩ := mem_at' hz
        exact best_none hb i hi
      | some k =>
        obtain ⟨hk, _, _⟩ := best_some hb
        have hx := hL _ (at'_mem hk)
        have hmin := minI_pos h0 (show 0 < (at' L k).cnt by omega)
        refine ref_done f _ _ _ ?_ ?_
        · unfold cutR
          split
          · exact fun x hx => hL x (List.mem_of_mem_eraseIdx hx)
          · intro x hxm
            rcases List.mem_or_eq_of_mem_set hxm with hx' | rfl
            · exact hL x hx'
            · simp only; omega
        · unfold cutR
          by_cases hz : (at' L k).cnt - minI o.cnt (at' L k).cnt = 0
          · left
            rw [if_pos hz, List.length_eraseIdx]
            split <;> omega
          · right
            refine ⟨?_, by omega⟩
            simp only
            unfold minI at hz ⊢
            split at hz <;> split <;> omega
    · rw [if_neg h0]
      left
      show o.cnt ≤ 0
      omega
theorem meetR_comm (x z : Ord) : meetR x z = meetR z x := by
  unfold meetR
  by_cases h1 : x.item = z.item
  · rw [h1]
    cases hx : x.buy <;> cases hz : z.buy <;> simp
  · have h2 : ¬ z.item = x.item := fun h => h1 h.symm
    simp [h1, h2]
theorem meetR_self (x : Ord) : meetR x x = false := by unfold meetR; simp
theorem cancel_apart {L : List Ord} (id : Int) (h : ApartL L) : ApartL (cancelR L id).L := by
  unfold cancelR
  split
  · exact h
  · exact fun x hx z hz => h x (List.mem_of_mem_eraseIdx hx) z (List.mem_of_mem_eraseIdx hz)
theorem apart_nil : ApartL [] := fun _ h => (by cases h)
theorem apart_run {L : List Ord} {o : Ord} (h : ApartL L) (hL : ∀ x ∈ L, 1 ≤ x.cnt) : ApartL (runL L o) := by
  have h1 := apart_keep (L.length + 1) o L [] h
  have h2 := ref_done (L.length + 1) o L [] hL (.inl (Nat.lt_succ_self _))
  unfold runL
  split
  · rename_i hc
    rcases h2 with h2 | h2
    · omega
    · intro x hx z hz
      rcases List.mem_append.1 hx with hx | hx <;> rcases List.mem_append.1 hz with hz | hz
      · exact h1 x hx z hz
      · rw [List.mem_singleton.1 hz, meetR_comm]; exact h2 x hx
      · rw [List.mem_singleton.1 hx]; exact h2 z hz
      · rw [List.mem_singleton.1 hx, List.mem_singleton.1 hz]; exact meetR_self _
  · exact h1
theorem apart_ord {V : Vs} {o : Ord} (h : ApartL V.L) (hmay : ∀ x ∈ V.L, MayP x) : ApartL (ordV V o).2.2.L := by
  unfold ordV
  split
  · exact h
  · split
    · exact h
    · split
      · exact apart_run h fun x hx => (hmay x hx).cnt0
      · exact h
theorem apart_can {V : Vs} {who : ByteArray} {id : Int} (h : ApartL V.L) : ApartL (canV V who id).2.L := by
  unfold canV
  split
  · exact cancel_apart id h
  · exact h
end Go.Proofs.YtbcokphjpllbiaaGreat
end
