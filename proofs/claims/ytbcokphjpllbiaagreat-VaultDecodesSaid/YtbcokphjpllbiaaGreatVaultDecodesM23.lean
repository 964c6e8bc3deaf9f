/-
  Are the program's vault and the document's alike? They are, when they hold the same. For every vault.
  Numbers and names out of bytes. The plain law: no program in sight.
  A reader of bytes, as memory holds it. For every row of bytes.
-/
import Derived.Test.YtbcokphjpllbiaaGreatVaultDecodesM5
import Derived.Test.YtbcokphjpllbiaaGreatVaultDecodesM21
import Derived.Test.YtbcokphjpllbiaaGreatVaultDecodesM22
import Derived.Laws.BytesString
section
set_option linter.unusedSimpArgs false
set_option linter.unusedVariables false
namespace Go.Sl
open Go.RowKit
/-- The same resources in another order. -/
structure Same (L L' : List HP) : Prop where
  to : ∀ {f : Frag}, sats L f → sats L' f
  back : ∀ {f : Frag}, sats L' f → sats L f
theorem Same.refl {L : List HP} : Same L L := ⟨fun h => h, fun h => h⟩
theorem Same.of {A : HP} {L R R' : List HP} (h : Take L A R) (h2 : Same R R') : Same L (A :: R') :=
  ⟨fun hs => sep_mono (fun _ x => x) (fun _ x => h2.to x) (h.sats hs), fun hs => h.back (sep_mono (fun _ x => x) (fun _ x => h2.back x) hs)⟩
theorem Same.st {W w : World} {L L' : List HP} (h : Same L L') (hS : St W L w) : St W L' w := ⟨hS.os, hS.tape, hS.output, h.to hS.sat⟩
theorem Same.ts {W w : World} {L L' : List HP} {X : HP} (h : Same L L') (hS : St W (X :: L') w) : St W (X :: L) w := ⟨hS.os, hS.tape, hS.output, sep_mono (fun _ x => x) (fun _ x => h.back x) hS.sat⟩
def bstr (ns : List Int) : ByteArray := ns.foldl (fun r n => r.push (UInt8.ofNat n.toNat)) ByteArray.empty
section
variable {P : Program} {W : World} {ops : Array Oper} {t : List Nat} {toks : List Tok} {fresh : Nat → Bool} {pin : Nat → Option Value} {Qf : Act → Prop} {nd : Nat → Value} {i : Nat} {l : List Oper} {a : Act} {o : Oper}
theorem ch_eqA {ty t2 : TypeId} {x y : Operand} {xs ys : Array Value} {r : Bool} (hf : fresh i = false) (hn : noTok toks i = true) (ho : o.op = .binOp .eql ty x y t2) (hg : Region.wanted o (yielded ops a.tmps) = true) (hx : a.eval x = .agg xs) (hy : a.eval y = .agg ys) (hm : P.eqGuardType P.depth ty = false) (hr : ∀ w : World, (Op.equalIn 10000 ty (.agg xs) (.agg ys)).run P w = .ok r w)
    (h : Chain P W ops t toks fresh pin Qf nd (i + 1) l (a.put o.dst (.bool r))) : Chain P W ops t toks fresh pin Qf nd i (o :: l) a :=
  ch_val hf hn hg (fun F w _ => by
    unfold execOp
    simp [ho, hx, hy, run_eqGuard_agg w .eql ty x y xs ys hm, run_eql_struct, hr]) h
/-- A string out of a row of bytes. -/
theorem ch_bytesStr {src dst e : TypeId} {x : Operand} {v0 : Value} {ns : List Int} (hf : fresh i = false) (hn : noTok toks i = true) (ho : o.op = .convert src dst x) (hg : Region.wanted o (yielded ops a.tmps) = true) (hx : a.eval x = v0)
    (hs : P.underlying src = some (.slice e)) (he : P.underlying e = some (.int .u8)) (hd : P.underlying dst = some .string) (hp : 0 < ns.length) (hr : ∀ F, ∃ R, Take (kpL toks t i nd ++ F) (row v0 1 e ns.length (ns.map (Value.int .u8))) R)
    (h : Chain P W ops t toks fresh pin Qf nd (i + 1) l (a.put o.dst (.string (bstr ns)))) : Chain P W ops t toks fresh pin Qf nd i (o :: l) a :=
  ch_val hf hn hg (fun F w hS => by
    obtain ⟨R, hu⟩ := hr F
    have hS1 := hS.take hu
    obtain ⟨b, c, rfl⟩ := hS1.rowVal
    obtain ⟨⟨g, rfl⟩, _, _⟩ := St.rowAddr hS1 hp
    have h1 := run_loadCells_list (P := P) w ⟨g, 0, none⟩ (ns.map (Value.int .u8)) (fun j v hj => by
      rw [Addr.add_lit, Nat.zero_add]
      exact Cell.row hp hj W w hS1)
    rw [List.length_map] at h1
    have h2 := run_bytesToString (P := P) w ⟨g, 0, none⟩ ns.length c ns h1
    unfold execOp
    simp [ho, hx, run_convert_bytes_string w src dst e (some ⟨g, 0, none⟩) ns.length c hs he hd, h2, bstr]) h
end
end Go.Sl
namespace Go.Proofs.YtbcokphjpllbiaaGreat
open Go.RowKit Go.Sl
theorem encV_pos (p : Ps) (L : List Ord) (n : Int) : 0 < (encV p L n).length := by
  unfold encV
  have := numB_pos n
  rw [List.length_append]
  omega
section
variable {W w : World} {vb mb bb xb xB : Nat} {p : Ps} {L : List Ord} {n : Int} {N : Nat} {L1 R3 : List HP}
theorem encodeV_take (hp : PsOk p) (hw : PsW p N) (hN : N ≤ 1000000) (hn0 : 1 ≤ n) (hn1 : n ≤ 1099511627777) (hs : Same L1 (vaultL vb mb bb p L n R3)) (hS : St W L1 w) :
    Calls Tryz.prog 12 #[.pointer (some ⟨vb, 0, none⟩)] w fun e w' => ∃ v, e = .returned v ∧ St W (byR v (encV p L n) :: L1) w' := by
  refine (encodeV vb mb bb p L n hp hw hN hn0 hn1 W w R3 (hs.st hS)).mono ?_
  rintro e w' ⟨v, rfl, hS⟩
  exact ⟨v, rfl, hs.ts hS⟩
theorem encode8_take {ha la : Option Addr} {hc lc : Nat} {last : Int} (hp : PsOk p) (hw : PsW p N) (hN : N ≤ 1000000) (hmay : ∀ x ∈ L, MayP x) (hl32 : L.length ≤ 32) (hn0 : 1 ≤ n) (hn1 : n ≤ 1099511627777)
    (hs : Same L1 (blk xB [.slice la L.length lc, .int .i64 last] 68 :: pileR (.slice la L.length lc) L :: blk xb [.slice ha (hdL p).length hc, .pointer (some ⟨xB, 0, none⟩), .int .i64 n] 65 :: hdR (.slice ha (hdL p).length hc) (hdL p) :: R3)) (hS : St W L1 w) :
    Calls Tryz.prog 30 #[.pointer (some ⟨xb, 0, none⟩)] w fun e w' => ∃ v, e = .returned v ∧ St W (byR v (encV p L n) :: L1) w' := by
  refine (encode8_o xb xB ha la hc lc last p L n hp hw hN hmay hl32 hn0 hn1 W w R3 (hs.st hS)).mono ?_
  rintro e w' ⟨v, rfl, hS⟩
  exact ⟨v, rfl, hs.ts hS⟩
end
set_option maxRecDepth 100000 in
set_option maxHeartbeats 8000000 in
theorem alike_spec (vb mb bb xb xB : Nat) (p : Ps) (L : List Ord) (n : Int) {N : Nat} (hp : PsOk p) (hw : PsW p N) (hN : N ≤ 1000000) (hn0 : 1 ≤ n) (hn1 : n ≤ 1099511627777) (W w : World) (R : List HP) (hS : St W (vaultL vb mb bb p L n (xvR xb xB p L n R)) w) :
    Calls Tryz.prog 8 #[.pointer (some ⟨vb, 0, none⟩), .pointer (some ⟨xb, 0, none⟩)] w fun e w' => e = .returned (.bool true) ∧ St W (vaultL vb mb bb p L n (xvR xb xB p L n R)) w' := by
  have hl32 := bookL_len hS.drop.drop
  have hmay : ∀ x ∈ L, MayP x := fun x hx => (bookL_each hS.drop.drop x hx).1
  have hN2 : N ≤ 1000000000 := by omega
  have Hmay := Lib.hid hmay
  have Hw := Lib.hid hw
  have Hp := Lib.hid hp
  obtain ⟨q, hq⟩ : ∃ q, addF (allV ⟨p, L, n⟩) = q := ⟨_, rfl⟩
  obtain ⟨s0, s1, s2, s3⟩ := q
  obtain ⟨bo, hbo⟩ : ∃ b, (addL (allV ⟨p, L, n⟩) it0).isSome = b := ⟨_, rfl⟩
  have Hq := Lib.hid hq
  have Hbo := Lib.hid hbo
  clear hmay hw hp hq hbo
  have heq : ((s0 == s0) && ((s1 == s1) && ((s2 == s2) && (s3 == s3)))) = true := by simp
  have hnn : (n == n) = true := by simp
  cases bo
  · skip
    go_enter Tryz.func8, Tryz.ntmps8
    go_wp2_with (first | go_big_skip | (go_at_call 25; refine (listV_spec vb mb bb p L n Hw.out hN2 W _ _ hS).mono ?_; clear hS; rintro e w ⟨sa, sc, oa, oc, rfl, hS⟩) | (go_at_call 26; refine (totalV_g vb mb bb p L n Hw.out hN2 W _ _ hS).mono ?_; clear hS; rw [Hq.out, Hbo.out]; simp only [It.cells]; rintro e w ⟨rfl, hS⟩) | (go_at_call 27; refine (total8 xb xB p L n Hw.out hN Hmay.out hl32 W _ _ (hS.sel (L' := xvP xb (.pointer (some ⟨xB, 0, none⟩)) n p :: xkP xB L n :: blk b8 _ _ :: blk vb _ _ :: amap eS eP mb p :: bookL bb L n :: hdR (.slice sa (hdL p).length sc) (hdL p) :: pileR (.slice oa L.length oc) L :: R) (by exact selS))).mono ?_; clear hS; rw [Hq.out, Hbo.out]; simp only [It.cells]; rintro e w ⟨rfl, hS⟩) | ((fail_if_success (have := b8)); (with_reducible apply wl_alloc hS); (with_reducible rfl); rfl; (exact zsS); clear hS; intro b8 w hS; (refine frS ?_)) | ((have := b8); (with_reducible apply wl_alloc hS); (with_reducible rfl); rfl; (exact zsS); clear hS; intro b10 w hS; (refine frS ?_)) | (refine zsN hS ?_; clear hS; intro w hS))
    have hS0 := hS.sel (L' := xvP xb (.pointer (some ⟨xB, 0, none⟩)) n p :: xkP xB L n :: blk b8 _ _ :: blk b10 _ _ :: blk vb _ _ :: amap eS eP mb p :: bookL bb L n :: hdR (.slice sa (hdL p).length sc) (hdL p) :: pileR (.slice oa L.length oc) L :: R) (by exact selS)
    clear hS
    obtain ⟨xv, hS1⟩ := xvOpen hS0
    obtain ⟨la, lc, last, hlast, hS2⟩ := xkOpen (hS1.sel (L' := xkP xB L n :: blk xb _ _ :: hdR xv (hdL p) :: blk b8 _ _ :: blk b10 _ _ :: blk vb _ _ :: amap eS eP mb p :: bookL bb L n :: hdR (.slice sa (hdL p).length sc) (hdL p) :: pileR (.slice oa L.length oc) L :: R) (by exact selS))
    clear hS0 hS1
    obtain ⟨ha, hc, rfl⟩ := hS2.drop.drop.drop.rowVal
    have hS := hS2.sel (L' := blk xb _ _ :: blk xB _ _ :: blk b8 _ _ :: blk b10 _ _ :: hdR (.slice ha (hdL p).length hc) (hdL p) :: pileR (.slice la L.length lc) L :: hdR (.slice sa (hdL p).length sc) (hdL p) :: pileR (.slice oa L.length oc) L :: blk vb _ _ :: amap eS eP mb p :: bookL bb L n :: R) (by exact selS)
    clear hS2
    refine wp_region_flow3 [0, 0, 2, 6, 14, 31, 63, 127, 127, 383, 895, 1919, 3967, 8063, 16255, 32767, 65535, 131071, 262143, 262143, 786431, 1835007, 3932159, 8388607, 16777215, 33554431, 67108863, 67108863, 268435455, 536870911, 1073741823, 2147483647, 2147483647, 8589934591, 17179869183, 34359738367, 68719476735, 137438953471, 274877906943, 68719476735, 824633720831, 1924145348607, 4398046511103, 8796093022207, 17592186044415] (fun i => i == 37 || i == 40) (fun i => if i == 5 then some (.bool true) else if i == 15 then some (.bool true) else none) [⟨some 37, none, fun nd => byR (nd 37) (encV p L n)⟩, ⟨some 40, none, fun nd => byR (nd 40) (encV p L n)⟩] [none, none, none, none, none, none, none, none, none, none, none] (by kernel_rfl) (by kernel_rfl) rfl hS (CongOk.cons (fun nd nd' h => by dsimp only; rw [h 37 rfl rfl]) (CongOk.cons (fun nd nd' h => by dsimp only; rw [h 40 rfl rfl]) CongOk.nil)) ?_
    intro nd
    iterate 2 (refine ch_pure rfl (by kernel_rfl) rfl rfl ?_; intro K hK; go_big_quiet_op; go_big_quiet_on)
    (refine zcn ?_)
    (refine ch_pure rfl (by kernel_rfl) rfl rfl ?_; intro K hK; go_big_quiet_op; go_big_quiet_on)
    (refine zc1 ?_)
    (refine zcv ?_ (hs := by (intro F w hS; (try clear hS0); exact holdings_take hS (.tail (.tail (.tail (.tail (.tail (.tail .head)))))) (.tail (.tail (.tail (.tail .head)))))))
    iterate 3 (refine ch_pure rfl (by kernel_rfl) rfl rfl ?_; intro K hK; go_big_quiet_op; go_big_quiet_on)
    (refine zcn ?_)
    (refine ch_pure rfl (by kernel_rfl) rfl rfl ?_; intro K hK; go_big_quiet_op; go_big_quiet_on)
    (refine zc1 ?_)
    (refine zcn ?_)
    (refine ch_pure rfl (by kernel_rfl) rfl rfl ?_; intro K hK; go_big_quiet_op; go_big_quiet_on)
    (refine zc1 ?_)
    (refine zcv ?_ (hs := by (intro F w hS; (try clear hS0); exact orders_take hl32 hS (.tail (.tail (.tail (.tail (.tail (.tail (.tail .head))))))) (.tail (.tail (.tail (.tail (.tail .head))))))))
    iterate 4 (refine ch_pure rfl (by kernel_rfl) rfl rfl ?_; intro K hK; go_big_quiet_op; go_big_quiet_on)
    (refine zcn ?_)
    (refine ch_pure rfl (by kernel_rfl) rfl rfl ?_; intro K hK; go_big_quiet_op; go_big_quiet_on)
    (refine zc1 ?_)
    iterate 3 (refine ch_pure rfl (by kernel_rfl) rfl rfl ?_; intro K hK; go_big_quiet_op; go_big_quiet_on)
    (refine zcN ?_)
    (refine zcN ?_)
    (apply ch_eqA; rfl; kernel_rfl; (with_reducible rfl); rfl; rfl; rfl; kernel_rfl; exact eqI _ _ _ _ _ _ _ _; (rw [heq]); (refine frS ?_))
    iterate 8 (refine ch_pure rfl (by kernel_rfl) rfl rfl ?_; intro K hK; go_big_quiet_op; go_big_quiet_on)
    (apply ch_callN; rfl; rfl; (with_reducible rfl); decide +kernel; (focus (simp only [fD, List.map_cons, List.map_nil, Act.eval, fE, fF, fG, fH, Option.getD_some]; try rfl)); (intro _; rfl); (intro F w hS; exact encodeV_take Hp.out Hw.out hN hn0 hn1 (Same.of (.tail (.tail (.tail (.tail (.tail (.tail (.tail (.tail .head)))))))) (Same.of (.tail (.tail (.tail (.tail (.tail (.tail (.tail (.tail .head)))))))) (Same.of (.tail (.tail (.tail (.tail (.tail (.tail (.tail (.tail .head)))))))) Same.refl))) hS); (refine frS ?_))
    (apply ch_bytesStr (ns := encV p L n); rfl; kernel_rfl; (with_reducible rfl); rfl; rfl; exact Tryz.underlying30; exact Tryz.underlying5; exact Tryz.underlying9; exact encV_pos _ _ _; (intro F; exact ⟨_, by exact takO⟩); (refine frS ?_))
    (refine ch_pure rfl (by kernel_rfl) rfl rfl ?_; intro K hK; go_big_quiet_op; go_big_quiet_on)
    (apply ch_callN; rfl; rfl; (with_reducible rfl); decide +kernel; (focus (simp only [fD, List.map_cons, List.map_nil, Act.eval, fE, fF, fG, fH, Option.getD_some]; try rfl)); (intro _; rfl); (intro F w hS; exact encode8_take Hp.out Hw.out hN Hmay.out hl32 hn0 hn1 (Same.of (.tail (.tail .head)) (Same.of (.tail (.tail (.tail (.tail (.tail .head))))) (Same.of (.tail .head) (Same.of (.tail (.tail (.tail .head))) Same.refl)))) hS); (refine frS ?_))
    (apply ch_bytesStr (ns := encV p L n); rfl; kernel_rfl; (with_reducible rfl); rfl; rfl; exact Tryz.underlying30; exact Tryz.underlying5; exact Tryz.underlying9; exact encV_pos _ _ _; (intro F; exact ⟨_, by exact takO⟩); (refine frS ?_))
    iterate 3 (refine ch_pure rfl (by kernel_rfl) rfl rfl ?_; intro K hK; go_big_quiet_op; go_big_quiet_on)
    refine ch_end ?_
    clear hS
    intro w hS
    have hS2 : St W [byR (nd 37) _, byR (nd 40) _, blk xb _ _, blk xB _ _, blk b8 _ _, blk b10 _ _, hdR (.slice ha (hdL p).length hc) (hdL p), pileR (.slice la L.length lc) L, hdR (.slice sa (hdL p).length sc) (hdL p), pileR (.slice oa L.length oc) L, blk vb _ _, amap eS eP mb p, bookL bb L n, sats R] w := hS
    clear hS
    have hS := hS2.unpack [_, _, _, _, _, _, _, _, _, _, _, _, _]
    clear hS2
    simp only [List.cons_append, List.nil_append] at hS
    go_wp2_with fail
    go_ret
    have h1 := xkShut hlast (hS.sel (L' := blk xB _ _ :: pileR (.slice la L.length lc) L :: blk xb _ _ :: hdR (.slice ha (hdL p).length hc) (hdL p) :: blk vb _ _ :: amap eS eP mb p :: bookL bb L n :: R) (by exact selS))
    have h2 := xvShut (h1.sel (L' := blk xb _ _ :: hdR (.slice ha (hdL p).length hc) (hdL p) :: xkP xB L n :: blk vb _ _ :: amap eS eP mb p :: bookL bb L n :: R) (by exact selS))
    exact ⟨rfl, h2.sel (by exact selS)⟩
  · skip
    go_enter Tryz.func8, Tryz.ntmps8
    go_wp2_with (first | go_big_skip | (go_at_call 25; refine (listV_spec vb mb bb p L n Hw.out hN2 W _ _ hS).mono ?_; clear hS; rintro e w ⟨sa, sc, oa, oc, rfl, hS⟩) | (go_at_call 26; refine (totalV_g vb mb bb p L n Hw.out hN2 W _ _ hS).mono ?_; clear hS; rw [Hq.out, Hbo.out]; simp only [It.cells]; rintro e w ⟨rfl, hS⟩) | (go_at_call 27; refine (total8 xb xB p L n Hw.out hN Hmay.out hl32 W _ _ (hS.sel (L' := xvP xb (.pointer (some ⟨xB, 0, none⟩)) n p :: xkP xB L n :: blk b8 _ _ :: blk vb _ _ :: amap eS eP mb p :: bookL bb L n :: hdR (.slice sa (hdL p).length sc) (hdL p) :: pileR (.slice oa L.length oc) L :: R) (by exact selS))).mono ?_; clear hS; rw [Hq.out, Hbo.out]; simp only [It.cells]; rintro e w ⟨rfl, hS⟩) | ((fail_if_success (have := b8)); (with_reducible apply wl_alloc hS); (with_reducible rfl); rfl; (exact zsS); clear hS; intro b8 w hS; (refine frS ?_)) | ((have := b8); (with_reducible apply wl_alloc hS); (with_reducible rfl); rfl; (exact zsS); clear hS; intro b10 w hS; (refine frS ?_)) | (refine zsN hS ?_; clear hS; intro w hS))
    have hS0 := hS.sel (L' := xvP xb (.pointer (some ⟨xB, 0, none⟩)) n p :: xkP xB L n :: blk b8 _ _ :: blk b10 _ _ :: blk vb _ _ :: amap eS eP mb p :: bookL bb L n :: hdR (.slice sa (hdL p).length sc) (hdL p) :: pileR (.slice oa L.length oc) L :: R) (by exact selS)
    clear hS
    obtain ⟨xv, hS1⟩ := xvOpen hS0
    obtain ⟨la, lc, last, hlast, hS2⟩ := xkOpen (hS1.sel (L' := xkP xB L n :: blk xb _ _ :: hdR xv (hdL p) :: blk b8 _ _ :: blk b10 _ _ :: blk vb _ _ :: amap eS eP mb p :: bookL bb L n :: hdR (.slice sa (hdL p).length sc) (hdL p) :: pileR (.slice oa L.length oc) L :: R) (by exact selS))
    clear hS0 hS1
    obtain ⟨ha, hc, rfl⟩ := hS2.drop.drop.drop.rowVal
    have hS := hS2.sel (L' := blk xb _ _ :: blk xB _ _ :: blk b8 _ _ :: blk b10 _ _ :: hdR (.slice ha (hdL p).length hc) (hdL p) :: pileR (.slice la L.length lc) L :: hdR (.slice sa (hdL p).length sc) (hdL p) :: pileR (.slice oa L.length oc) L :: blk vb _ _ :: amap eS eP mb p :: bookL bb L n :: R) (by exact selS)
    clear hS2
    refine wp_region_flow3 [0, 0, 2, 6, 14, 31, 63, 127, 127, 383, 895, 1919, 3967, 8063, 16255, 32767, 65535, 131071, 262143, 262143, 786431, 1835007, 3932159, 8388607, 16777215, 33554431, 67108863, 67108863, 268435455, 536870911, 1073741823, 2147483647, 2147483647, 8589934591, 17179869183, 34359738367, 68719476735, 137438953471, 274877906943, 68719476735, 824633720831, 1924145348607, 4398046511103, 8796093022207, 17592186044415] (fun i => i == 37 || i == 40) (fun i => if i == 5 then some (.bool true) else if i == 15 then some (.bool true) else none) [⟨some 37, none, fun nd => byR (nd 37) (encV p L n)⟩, ⟨some 40, none, fun nd => byR (nd 40) (encV p L n)⟩] [none, none, none, none, none, none, none, none, none, none, none] (by kernel_rfl) (by kernel_rfl) rfl hS (CongOk.cons (fun nd nd' h => by dsimp only; rw [h 37 rfl rfl]) (CongOk.cons (fun nd nd' h => by dsimp only; rw [h 40 rfl rfl]) CongOk.nil)) ?_
    intro nd
    iterate 2 (refine ch_pure rfl (by kernel_rfl) rfl rfl ?_; intro K hK; go_big_quiet_op; go_big_quiet_on)
    (refine zcn ?_)
    (refine ch_pure rfl (by kernel_rfl) rfl rfl ?_; intro K hK; go_big_quiet_op; go_big_quiet_on)
    (refine zc1 ?_)
    (refine zcv ?_ (hs := by (intro F w hS; (try clear hS0); exact holdings_take hS (.tail (.tail (.tail (.tail (.tail (.tail .head)))))) (.tail (.tail (.tail (.tail .head)))))))
    iterate 3 (refine ch_pure rfl (by kernel_rfl) rfl rfl ?_; intro K hK; go_big_quiet_op; go_big_quiet_on)
    (refine zcn ?_)
    (refine ch_pure rfl (by kernel_rfl) rfl rfl ?_; intro K hK; go_big_quiet_op; go_big_quiet_on)
    (refine zc1 ?_)
    (refine zcn ?_)
    (refine ch_pure rfl (by kernel_rfl) rfl rfl ?_; intro K hK; go_big_quiet_op; go_big_quiet_on)
    (refine zc1 ?_)
    (refine zcv ?_ (hs := by (intro F w hS; (try clear hS0); exact orders_take hl32 hS (.tail (.tail (.tail (.tail (.tail (.tail (.tail .head))))))) (.tail (.tail (.tail (.tail (.tail .head))))))))
    iterate 4 (refine ch_pure rfl (by kernel_rfl) rfl rfl ?_; intro K hK; go_big_quiet_op; go_big_quiet_on)
    (refine zcn ?_)
    (refine ch_pure rfl (by kernel_rfl) rfl rfl ?_; intro K hK; go_big_quiet_op; go_big_quiet_on)
    (refine zc1 ?_)
    iterate 3 (refine ch_pure rfl (by kernel_rfl) rfl rfl ?_; intro K hK; go_big_quiet_op; go_big_quiet_on)
    (refine zcN ?_)
    (refine zcN ?_)
    (apply ch_eqA; rfl; kernel_rfl; (with_reducible rfl); rfl; rfl; rfl; kernel_rfl; exact eqI _ _ _ _ _ _ _ _; (rw [heq]); (refine frS ?_))
    iterate 8 (refine ch_pure rfl (by kernel_rfl) rfl rfl ?_; intro K hK; go_big_quiet_op; go_big_quiet_on)
    (apply ch_callN; rfl; rfl; (with_reducible rfl); decide +kernel; (focus (simp only [fD, List.map_cons, List.map_nil, Act.eval, fE, fF, fG, fH, Option.getD_some]; try rfl)); (intro _; rfl); (intro F w hS; exact encodeV_take Hp.out Hw.out hN hn0 hn1 (Same.of (.tail (.tail (.tail (.tail (.tail (.tail (.tail (.tail .head)))))))) (Same.of (.tail (.tail (.tail (.tail (.tail (.tail (.tail (.tail .head)))))))) (Same.of (.tail (.tail (.tail (.tail (.tail (.tail (.tail (.tail .head)))))))) Same.refl))) hS); (refine frS ?_))
    (apply ch_bytesStr (ns := encV p L n); rfl; kernel_rfl; (with_reducible rfl); rfl; rfl; exact Tryz.underlying30; exact Tryz.underlying5; exact Tryz.underlying9; exact encV_pos _ _ _; (intro F; exact ⟨_, by exact takO⟩); (refine frS ?_))
    (refine ch_pure rfl (by kernel_rfl) rfl rfl ?_; intro K hK; go_big_quiet_op; go_big_quiet_on)
    (apply ch_callN; rfl; rfl; (with_reducible rfl); decide +kernel; (focus (simp only [fD, List.map_cons, List.map_nil, Act.eval, fE, fF, fG, fH, Option.getD_some]; try rfl)); (intro _; rfl); (intro F w hS; exact encode8_take Hp.out Hw.out hN Hmay.out hl32 hn0 hn1 (Same.of (.tail (.tail .head)) (Same.of (.tail (.tail (.tail (.tail (.tail .head))))) (Same.of (.tail .head) (Same.of (.tail (.tail (.tail .head))) Same.refl)))) hS); (refine frS ?_))
    (apply ch_bytesStr (ns := encV p L n); rfl; kernel_rfl; (with_reducible rfl); rfl; rfl; exact Tryz.underlying30; exact Tryz.underlying5; exact Tryz.underlying9; exact encV_pos _ _ _; (intro F; exact ⟨_, by exact takO⟩); (refine frS ?_))
    iterate 3 (refine ch_pure rfl (by kernel_rfl) rfl rfl ?_; intro K hK; go_big_quiet_op; go_big_quiet_on)
    refine ch_end ?_
    clear hS
    intro w hS
    have hS2 : St W [byR (nd 37) _, byR (nd 40) _, blk xb _ _, blk xB _ _, blk b8 _ _, blk b10 _ _, hdR (.slice ha (hdL p).length hc) (hdL p), pileR (.slice la L.length lc) L, hdR (.slice sa (hdL p).length sc) (hdL p), pileR (.slice oa L.length oc) L, blk vb _ _, amap eS eP mb p, bookL bb L n, sats R] w := hS
    clear hS
    have hS := hS2.unpack [_, _, _, _, _, _, _, _, _, _, _, _, _]
    clear hS2
    simp only [List.cons_append, List.nil_append] at hS
    go_wp2_with fail
    go_ret
    have h1 := xkShut hlast (hS.sel (L' := blk xB _ _ :: pileR (.slice la L.length lc) L :: blk xb _ _ :: hdR (.slice ha (hdL p).length hc) (hdL p) :: blk vb _ _ :: amap eS eP mb p :: bookL bb L n :: R) (by exact selS))
    have h2 := xvShut (h1.sel (L' := blk xb _ _ :: hdR (.slice ha (hdL p).length hc) (hdL p) :: xkP xB L n :: blk vb _ _ :: amap eS eP mb p :: bookL bb L n :: R) (by exact selS))
    exact ⟨rfl, h2.sel (by exact selS)⟩
end Go.Proofs.YtbcokphjpllbiaaGreat
end
section
set_option linter.unusedSimpArgs false
set_option linter.unusedVariables false
namespace Go.Proofs.YtbcokphjpllbiaaGreat
open Go.RowKit Go.Sl
/-- The bytes are bytes. -/
def ByB (s : List Int) : Prop := ∀ c ∈ s, 0 ≤ c ∧ c ≤ 255
theorem byB_drop {s : List Int} (h : ByB s) (n : Nat) : ByB (s.drop n) := fun c hc => h c (List.mem_of_mem_drop hc)
theorem byB_take {s : List Int} (h : ByB s) (n : Nat) : ByB (s.take n) := fun c hc => h c (List.mem_of_mem_take hc)
theorem byB_app {s t : List Int} (h : ByB (s ++ t)) : ByB s ∧ ByB t := ⟨fun c hc => h c (List.mem_append_left _ hc), fun c hc => h c (List.mem_append_right _ hc)⟩
def decF : Nat → Bool → List Int → Option (Nat × List Int)
  | _, _, [] => none
  | f, z, c :: s => if c < 128 then (if z = false ∧ c = 0 then none else some (c.toNat, s)) else
    match f with
    | 0 => none
    | f + 1 =>
      match decF f false s with
      | none => none
      | some (v, r) => some ((c - 128).toNat + 128 * v, r)
theorem decF_nil (f : Nat) (z : Bool) : decF f z [] = none := by
  unfold decF
  rfl
theorem decF_small {f : Nat} {z : Bool} {c : Int} {s : List Int} (h : c < 128) : decF f z (c :: s) = if z = false ∧ c = 0 then none else some (c.toNat, s) := by
  unfold decF
  rw [if_pos h]
theorem decF_big0 {z : Bool} {c : Int} {s : List Int} (h : ¬ c < 128) : decF 0 z (c :: s) = none := by
  unfold decF
  rw [if_neg h]
theorem decF_big {f : Nat} {z : Bool} {c : Int} {s : List Int} (h : ¬ c < 128) : decF (f + 1) z (c :: s) = match decF f false s with
    | none => none
    | some (v, r) => some ((c - 128).toNat + 128 * v, r) := by
  rw [decF, if_neg h]
def numD (s : List Int) : Option (Nat × List Int) :=
  match decF 8 true s with
  | none => none
  | some (u, r) => if u ≤ 4611686018427387904 then some (u, r) else none
theorem decF_enc : ∀ (f u : Nat) (z : Bool) (r : List Int), u < 128 ^ (f + 1) → (z = true ∨ u ≠ 0) → decF f z (encF f u ++ r) = some (u, r)
  | 0, u, z, r, hu, hz => by
    show decF 0 z ((u : Int) :: r) = _
    have h1 : (u : Int) < 128 := by simp at hu; omega
    have h2 : ¬ (z = false ∧ (u : Int) = 0) := by
      rintro ⟨h3, h4⟩
      rcases hz with h5 | h5
      · rw [h3] at h5; cases h5
      · omega
    unfold decF
    rw [if_pos h1, if_neg h2]
    simp
  | f + 1, u, z, r, hu, hz => by
    rw [encF]
    by_cases h : 128 ≤ u
    · rw [if_pos h, List.cons_append]
      have hu3 : u / 128 < 128 ^ (f + 1) := Nat.div_lt_of_lt_mul (by rw [Nat.pow_succ] at hu; omega)
      have ih := decF_enc f (u / 128) false r hu3 (.inr (by omega))
      unfold decF
      rw [if_neg (by omega)]
      dsimp only
      rw [ih]
      simp only [Option.some.injEq, Prod.mk.injEq, and_true]
      omega
    · rw [if_neg h]
      have h1 : (u : Int) < 128 := by omega
      have h2 : ¬ (z = false ∧ (u : Int) = 0) := by
        rintro ⟨h3, h4⟩
        rcases hz with h5 | h5
        · rw [h3] at h5; cases h5
        · omega
      show decF (f + 1) z ((u : Int) :: r) = _
      unfold decF
      rw [if_pos h1, if_neg h2]
      simp
theorem numD_enc (n : Int) (r : List Int) : numD (numB n ++ r) = some (numU n, r) := by
  have h := numU_le n
  unfold numD numB
  rw [decF_enc 8 (numU n) true r (lt_pow9 h) (.inl rfl)]
  exact if_pos h
theorem decF_inv : ∀ (s : List Int) (f : Nat) (z : Bool) (u : Nat) (r : List Int), ByB s → decF f z s = some (u, r) → s = encF f u ++ r ∧ u < 128 ^ (f + 1) ∧ (z = false → u ≠ 0)
  | [], f, z, u, r, _, h => by
    unfold decF at h
    cases h
  | c :: s, f, z, u, r, hb, h => by
    have hc := hb c (List.mem_cons_self ..)
    unfold decF at h
    by_cases h1 : c < 128
    · rw [if_pos h1] at h
      by_cases h2 : z = false ∧ c = 0
      · rw [if_pos h2] at h; cases h
      · rw [if_neg h2] at h
        simp only [Option.some.injEq, Prod.mk.injEq] at h
        obtain ⟨rfl, rfl⟩ := h
        have h3 : ((c.toNat : Nat) : Int) = c := by omega
        have h4 : c.toNat < 128 := by omega
        refine ⟨?_, ?_, ?_⟩
        · rw [encF_small h4, h3]; rfl
        · have h5 : 0 < 128 ^ f := Nat.pow_pos (by decide)
          rw [Nat.pow_succ]
          omega
        · intro hz h5
          exact h2 ⟨hz, by omega⟩
    · rw [if_neg h1] at h
      cases f with
      | zero => cases h
      | succ f =>
        simp only at h
        cases hd : decF f false s with
        | none => rw [hd] at h; cases h
        | some x =>
          obtain ⟨v, r2⟩ := x
          rw [hd] at h
          simp only [Option.some.injEq, Prod.mk.injEq] at h
          obtain ⟨rfl, rfl⟩ := h
          obtain ⟨i1, i2, i3⟩ := decF_inv s f false v r2 (fun x hx => hb x (List.mem_cons_of_mem _ hx)) hd
          have hv := i3 rfl
          have h6 : (c - 128).toNat < 128 := by omega
          refine ⟨?_, ?_, ?_⟩
          · rw [encF, if_pos (by omega)]
            have e1 : ((c - 128).toNat + 128 * v) / 128 = v := by omega
            have e2 : ((((c - 128).toNat + 128 * v) % 128 + 128 : Nat) : Int) = c := by omega
            rw [e1, e2, List.cons_append, ← i1]
          · rw [Nat.pow_succ]
            omega
          · omega
theorem numD_inv {s r : List Int} {u : Nat} (hb : ByB s) (h : numD s = some (u, r)) : s = numB u ++ r ∧ u ≤ 4611686018427387904 := by
  unfold numD at h
  cases hd : decF 8 true s with
  | none => rw [hd] at h; cases h
  | some x =>
    obtain ⟨v, r2⟩ := x
    rw [hd] at h
    simp only at h
    by_cases hv : v ≤ 4611686018427387904
    · rw [if_pos hv] at h
      simp only [Option.some.injEq, Prod.mk.injEq] at h
      obtain ⟨rfl, rfl⟩ := h
      obtain ⟨i1, i2, i3⟩ := decF_inv s 8 true v r2 hb hd
      refine ⟨?_, hv⟩
      have e : numU (v : Int) = v := by
        unfold numU
        split
        · omega
        · split
          · simp
          · omega
      unfold numB
      rw [e]
      exact i1
    · rw [if_neg hv] at h; cases h
theorem numU_nat {n : Int} (h0 : 0 ≤ n) (h1 : n ≤ 4611686018427387904) : ((numU n : Nat) : Int) = n := by
  unfold numU
  repeat' split
  all_goals omega
/-- What a reader has yet; none: it erred. -/
abbrev RS := Option (List Int)
def rdNum : RS → Int × RS
  | none => (0, none)
  | some l =>
    match numD l with
    | none => (0, none)
    | some (u, r) => ((u : Int), some r)
def rdRaw (n : Int) : RS → List Int × RS
  | none => ([], none)
  | some l => if 0 ≤ n ∧ n ≤ l.length then (l.take n.toNat, some (l.drop n.toNat)) else ([], none)
def rdBytes (s : RS) : List Int × RS := rdRaw (rdNum s).1 (rdNum s).2
def rdNums : Nat → RS → List Int × RS
  | 0, s => ([], s)
  | k + 1, s => ((rdNum s).1 :: (rdNums k (rdNum s).2).1, (rdNums k (rdNum s).2).2)
def BS (s : RS) : Prop := ∀ l, s = some l → ByB l
theorem rdNum_some {l r : List Int} {n : Int} (hb : ByB l) (h : rdNum (some l) = (n, some r)) : l = numB n ++ r ∧ 0 ≤ n ∧ n ≤ 4611686018427387904 ∧ ByB r := by
  unfold rdNum at h
  simp only at h
  cases hd : numD l with
  | none => rw [hd] at h; cases h
  | some x =>
    obtain ⟨u, r2⟩ := x
    rw [hd] at h
    simp only [Prod.mk.injEq, Option.some.injEq] at h
    obtain ⟨rfl, rfl⟩ := h
    obtain ⟨h1, h2⟩ := numD_inv hb hd
    refine ⟨h1, by omega, by omega, ?_⟩
    rw [h1] at hb
    exact (byB_app hb).2
theorem rdNum_none : rdNum none = (0, none) := rfl
theorem rdRaw_none (n : Int) : rdRaw n none = ([], none) := rfl
theorem rdNum_enc {n : Int} (h0 : 0 ≤ n) (h1 : n ≤ 4611686018427387904) (r : List Int) : rdNum (some (numB n ++ r)) = (n, some r) := by
  unfold rdNum
  simp only
  rw [numD_enc]
  simp only [numU_nat h0 h1]
theorem bstr_fold : ∀ (l : List Int) (b : ByteArray), (l.foldl (fun r n => r.push (UInt8.ofNat n.toNat)) b).data.toList = b.data.toList ++ l.map fun n => UInt8.ofNat n.toNat
  | [], b => by simp
  | n :: l, b => by
    rw [List.foldl_cons, bstr_fold l]
    simp [ByteArray.push]
theorem bstr_list (l : List Int) : (bstr l).data.toList = l.map fun n => UInt8.ofNat n.toNat := by
  unfold bstr
  rw [bstr_fold]
  rfl
theorem bstr_size (l : List Int) : (bstr l).size = l.length := by
  have h := congrArg List.length (bstr_list l)
  rw [List.length_map] at h
  exact h
theorem strI_bstr {l : List Int} (h : ByB l) : strI (bstr l) = l := by
  unfold strI
  rw [bstr_list, List.map_map]
  refine (List.map_congr_left fun n hn => ?_).trans (List.map_id _)
  have := h n hn
  show (((UInt8.ofNat n.toNat).toNat : Nat) : Int) = n
  simp
  omega
theorem bstr_strI (u : ByteArray) : bstr (strI u) = u := by
  refine bytes_ext ?_
  rw [bstr_list]
  unfold strI
  rw [List.map_map]
  refine (List.map_congr_left fun n hn => ?_).trans (List.map_id _)
  show UInt8.ofNat (((n.toNat : Nat) : Int)).toNat = n
  simp
theorem strI_byB (u : ByteArray) : ByB (strI u) := by
  intro c hc
  unfold strI at hc
  obtain ⟨b, _, rfl⟩ := List.mem_map.1 hc
  have := b.toNat_lt
  omega
theorem rdBytes_some {l r x : List Int} (hb : ByB l) (h : rdBytes (some l) = (x, some r)) : l = strE (bstr x) ++ r ∧ ByB x ∧ ByB r := by
  unfold rdBytes at h
  cases hn : rdNum (some l) with
  | mk n s =>
    rw [hn] at h
    simp only at h
    cases s with
    | none => rw [rdRaw_none] at h; cases h
    | some l2 =>
      obtain ⟨h1, h2, h3, h4⟩ := rdNum_some hb hn
      unfold rdRaw at h
      simp only at h
      by_cases hc : 0 ≤ n ∧ n ≤ l2.length
      · rw [if_pos hc] at h
        simp only [Prod.mk.injEq, Option.some.injEq] at h
        obtain ⟨rfl, rfl⟩ := h
        refine ⟨?_, byB_take h4 _, byB_drop h4 _⟩
        unfold strE
        rw [bstr_size, strI_bstr (byB_take h4 _), List.length_take, List.append_assoc, List.take_append_drop]
        have e : ((min n.toNat l2.length : Nat) : Int) = n := by omega
        rw [e]
        exact h1
      · rw [if_neg hc] at h; cases h
theorem rdBytes_enc (u : ByteArray) (h : u.size ≤ 1000000) (r : List Int) : rdBytes (some (strE u ++ r)) = (strI u, some r) := by
  unfold rdBytes strE
  rw [List.append_assoc, rdNum_enc (by omega) (by omega)]
  unfold rdRaw
  simp only
  rw [if_pos ⟨by omega, by rw [List.length_append, strI_len]; omega⟩]
  have e : ((u.size : Int)).toNat = (strI u).length := by rw [strI_len]; omega
  rw [e, List.take_left, List.drop_left]
end Go.Proofs.YtbcokphjpllbiaaGreat
end
section
set_option linter.unusedSimpArgs false
set_option linter.unusedVariables false
namespace Go.Sl
open Go.RowKit
theorem sats_frame {w : World} {L : List HP} (hL : sats L (fun b => w.heap[b]?)) : ∀ (X : List HP) {g : Frag}, sats (X ++ [Old w]) g → sats (X ++ L) g
  | [], g, h => by
    obtain ⟨S2, h1, _⟩ := h
    refine sats_cut (S := fun b => decide (w.heap.size ≤ b)) ?_
    have e : cutOut (fun b => decide (w.heap.size ≤ b)) g = fun b => w.heap[b]? := by
      funext b
      unfold cutOut
      by_cases hb : w.heap.size ≤ b
      · simp only [decide_eq_true hb, cond_true]
        exact (Array.getElem?_eq_none hb).symm
      · simp only [decide_eq_false hb, cond_false]
        have h2 : cond (S2 b) (g b) none = w.heap[b]? := h1 b (by omega)
        cases hS : S2 b with
        | false =>
          rw [hS, Array.getElem?_eq_getElem (by omega)] at h2
          cases h2
        | true =>
          rw [hS] at h2
          exact h2
    rw [e]
    exact hL
  | A :: X, g, h => by
    obtain ⟨S, h1, h2⟩ := h
    exact ⟨S, h1, sats_frame hL X h2⟩
/-- What was done with all of a world kept: it is kept with all that it held. -/
theorem St.framed {W w w' : World} {L : List HP} (h : St W L w) (X : List HP) (h2 : St w (X ++ [Old w]) w') : St W (X ++ L) w' :=
  ⟨h2.os.trans h.os, h2.tape.trans h.tape, h2.output.trans h.output, sats_frame h.sat X h2.sat⟩
section
variable {P : Program} {ops : Array Oper} {Q : Exit → Act → World → Prop} {a : Act} {w : World} {W : World} {L R : List HP} {rest : List Oper} {o : Oper}
theorem run_append_empty (t ty e : TypeId) (i : TypeInfo) (ht : P.underlying t = some (.slice e)) (hi : P.info? e = some i) (b : Option Addr) (n cap : Nat) (hn : n ≤ cap) (p : Addr) (c : Nat) :
    (Builtin.append_ #[t, t] ty #[.slice b n cap, .slice (some p) 0 c]).run P w = .ok (.slice b n cap) w := by
  cases b with
  | none => simp [Builtin.append_, run_underlying ht, sizeOf, typeInfo, hi, Builtin.lenOf, hn, Builtin.firstCells, loadCells, loadCellsFrom]
  | some q => simp [Builtin.append_, run_underlying ht, sizeOf, typeInfo, hi, Builtin.lenOf, hn, Builtin.firstCells, loadCells, loadCellsFrom, storeCells]
/-- append of an empty slice, wherever it stands. -/
theorem wl_append0 {s x : Operand} {t e : TypeId} {z : Value} {k k2 bytes : Nat} {v : Value} {n c : Nat} {p : Addr} {cs : List Value} (hS : St W L w) (ho : o.op = .call { callee := .builtin .append, args := #[s, x], argTypes := #[t, t] })
    (hg : Region.wanted o (yielded ops a.tmps) = true) (hs : a.eval s = v) (hx : a.eval x = .slice (some p) 0 c) (ht : tyElem P t = some e) (hi : tyRow P e = some (some z, k2, bytes)) (hu : Take L (row v k e n cs) R)
    (h : wpList P ops Q rest (a.put o.dst v) w) : wpList P ops Q (o :: rest) a w := by
  have ht' := tyElem_spec ht
  unfold tyRow at hi
  obtain ⟨i, hi', hi2⟩ := Option.map_eq_some_iff.1 hi
  obtain ⟨b, n', cap, hv, hn⟩ : ∃ b n' cap, v = .slice b n' cap ∧ n' ≤ cap := by
    rcases (hS.take hu).rowOpen with ⟨hv, _⟩ | ⟨g, cap, junk, hv, hn, _⟩
    · exact ⟨_, _, _, hv, Nat.le_refl _⟩
    · exact ⟨_, _, _, hv, hn⟩
  have h1 := run_append_empty (P := P) (w := w) t o.type e i ht' hi' b n' cap hn p c
  refine wpList_run hg (v := v) (w' := w) ?_ h
  rw [← hv] at h1
  unfold execOp
  simp only [ho, resolve, invoke, builtin, Sem.run_bind, Sem.run_pure, Result.andThen_ok, List.map_toArray, List.map_cons, List.map_nil, hs, hx, h1]
/-- A slice beside nil. -/
theorem wl_eqSv {t t2 e : TypeId} {x y : Operand} {a0 : Option Addr} {n c : Nat} (ho : o.op = .binOp .eql t x y t2) (hg : Region.wanted o (yielded ops a.tmps) = true) (hx : a.eval x = .slice a0 n c) (hy : a.eval y = .slice none 0 0) (ht : P.underlying t = some (.slice e))
    (h : wpList P ops Q rest (a.put o.dst (.bool a0.isNone)) w) : wpList P ops Q (o :: rest) a w := by
  refine wpList_run hg (v := .bool a0.isNone) (w' := w) ?_ h
  have h1 : (binOp .eql t (.slice a0 n c) (.slice none 0 0)).run P w = .ok (.bool a0.isNone) w := Lib.run_eql_slice_nil w t e a0 n c 0 0 ht
  unfold execOp
  simp [ho, hx, hy, eqGuard, h1]
end
end Go.Sl
namespace Go.Proofs.YtbcokphjpllbiaaGreat
open Go.RowKit Go.Sl
/-- In what D holds, these bytes stand. -/
def Dat (D : HP) (g off : Nat) (l : List Int) : Prop := ∀ K K', Take K D K' → Cells K g off (u8s l)
theorem Dat.drop {D : HP} {g off : Nat} {l : List Int} (h : Dat D g off l) (n : Nat) : Dat D g (off + n) (l.drop n) := fun K K' ht j v hj => by
  unfold u8s at hj
  rw [List.map_drop, List.getElem?_drop] at hj
  rw [Nat.add_assoc]
  exact h K K' ht (n + j) v hj
theorem Dat.take {D : HP} {g off : Nat} {l : List Int} (h : Dat D g off l) (n : Nat) : Dat D g off (l.take n) := fun K K' ht j v hj => by
  unfold u8s at hj
  rw [List.map_take, List.getElem?_take] at hj
  split at hj
  · exact h K K' ht j v hj
  · cases hj
theorem Dat.old {V : World} {g off : Nat} {l : List Int} (h : ∀ (j : Nat) (v : Value), (u8s l)[j]? = some v → V.cell? ⟨g, off + j, none⟩ = some v) : Dat (Old V) g off l := fun K K' ht j v hj W w hS => (hS.take ht).oldCell .head (h j v hj)
theorem Dat.row {g c : Nat} {l : List Int} (h : 0 < l.length) : Dat (byR (.slice (some ⟨g, 0, none⟩) l.length c) l) g 0 l := fun K K' ht j v hj W w hS => by
  rw [Nat.zero_add]
  exact Cell.row h hj W w (hS.take ht)
/-- The slice a reader has yet. -/
def rdV (D : HP) (v : Value) (e : Bool) : RS → Prop
  | none => v = .slice none 0 0 ∧ e = true
  | some l => e = false ∧ ∃ a c, v = .slice a l.length c ∧ l.length ≤ c ∧ c ≤ 9223372036854775807 ∧ ((l = [] ∧ a = none ∧ c = 0) ∨ (l = [] ∧ ∃ p, a = some p) ∨ ∃ g off, a = some ⟨g, off, none⟩ ∧ Dat D g off l)
def rdR (T : TypeId) (D : HP) (rb : Nat) (s : RS) : HP := fun f => ∃ v e, rdV D v e s ∧ blk rb [v, .bool e] T f
section
variable {W w : World} {T : TypeId} {D : HP} {rb : Nat} {s : RS} {R : List HP}
theorem rdOpen (h : St W (rdR T D rb s :: R) w) : ∃ v e, rdV D v e s ∧ St W (blk rb [v, .bool e] T :: R) w := by
  obtain ⟨v, h⟩ := St.ex h
  obtain ⟨e, h⟩ := St.ex h
  obtain ⟨h1, h⟩ := St.and h
  exact ⟨v, e, h1, h⟩
theorem rdSome {v : Value} {e : Bool} {l : List Int} (h : rdV D v e (some l)) : ∃ a c, e = false ∧ v = .slice a l.length c ∧ RowKit.Hid (rdV D (.slice a l.length c) false (some l)) := by
  obtain ⟨rfl, a, c, rfl, h⟩ := h
  exact ⟨a, c, rfl, rfl, Lib.hid ⟨rfl, a, c, rfl, h⟩⟩
theorem rdShut {v : Value} {e : Bool} (h1 : rdV D v e s) (h : St W (blk rb [v, .bool e] T :: R) w) : St W (rdR T D rb s :: R) w := St.mkEx v (St.mkEx e (St.mkAnd h1 h))
end
/-- A string out of a row of bytes. -/
theorem wl_bytesStrR {P : Program} {ops : Array Oper} {Q : Exit → Act → World → Prop} {a : Act} {w : World} {W : World} {L R : List HP} {rest : List Oper} {o : Oper} {src dst e : TypeId} {x : Operand} {v0 : Value} {ns : List Int} (hS : St W L w) (ho : o.op = .convert src dst x) (hg : Region.wanted o (yielded ops a.tmps) = true) (hx : a.eval x = v0)
    (hs : P.underlying src = some (.slice e)) (he : P.underlying e = some (.int .u8)) (hd : P.underlying dst = some .string) (hu : Take L (row v0 1 e ns.length (ns.map (Value.int .u8))) R)
    (h : wpList P ops Q rest (a.put o.dst (.string (bstr ns))) w) : wpList P ops Q (o :: rest) a w := by
  refine wpList_run hg (v := .string (bstr ns)) (w' := w) ?_ h
  rcases (hS.take hu).rowOpen with ⟨rfl, h0, _, _⟩ | ⟨g, cap, junk, rfl, _, _, _, _, hS'⟩
  · have hn : ns = [] := List.eq_nil_of_length_eq_zero h0
    subst hn
    unfold execOp
    simp [ho, hx, run_convert_bytes_string w src dst e none 0 0 hs he hd, Conv.bytesToString, bstr, Sem.run_pure]
  · have h1 := run_loadCells_list (P := P) w ⟨g, 0, none⟩ (ns.map (Value.int .u8)) (fun j v hj => by
      rw [Addr.add_lit, Nat.zero_add]
      exact hS'.cell .head (by rw [List.getElem?_append_left (List.getElem?_eq_some_iff.1 hj).1]; exact hj))
    rw [List.length_map] at h1
    have h2 := run_bytesToString (P := P) w ⟨g, 0, none⟩ ns.length cap ns h1
    unfold execOp
    simp [ho, hx, run_convert_bytes_string w src dst e (some ⟨g, 0, none⟩) ns.length cap hs he hd, h2, bstr]
/-! Bits. -/
theorem or_add {u v k : Nat} (hu : u < 2 ^ k) : u ||| v * 2 ^ k = u + v * 2 ^ k := by
  rw [Nat.or_comm, Nat.mul_comm v, Nat.add_comm]
  exact (Nat.two_pow_add_eq_or_of_lt hu v).symm
end Go.Proofs.YtbcokphjpllbiaaGreat
end
