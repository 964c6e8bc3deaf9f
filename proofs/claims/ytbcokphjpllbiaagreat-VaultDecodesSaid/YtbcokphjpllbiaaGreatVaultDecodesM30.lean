/-
  A row of bytes that comes in as an argument. For every row.
  VaultDecodes: the walk. For all bytes.
  What a law's walk gives its row: true came back, and what was there before the call is as it was: so the arguments read as they did. For every law that writes only what it made itself.
-/
import Derived.Test.YtbcokphjpllbiaaGreatVaultDecodesM1
import Derived.Test.YtbcokphjpllbiaaGreatVaultDecodesM5
import Derived.Test.YtbcokphjpllbiaaGreatVaultDecodesM29
import Derived.Test.YtbcokphjpllbiaaGreatRows
import Derived.Lib.SmallJoins
import Derived.ChangeArms
import Derived.ProofKit
import Derived.WalkKit
import Derived.OpenShut
import Derived.ChangeSame
import Derived.ReadAgain
section
set_option linter.unusedSimpArgs false
set_option linter.unusedVariables false
namespace Go.Proofs.YtbcokphjpllbiaaGreat
open Go.Joins Go.ChangeShapes Go.WideShapes Go.RowKit Go.Deep Go.Sl
/-- append of bytes that are read, to an empty row. -/
theorem wl_appendA {P : Program} {ops : Array Oper} {Q : Exit → Act → World → Prop} {a : Act} {w W : World} {L R L' : List HP} {rest : List Oper} {o : Oper} {D : HP} {s x : Operand} {t e : TypeId} {z : Value} {bytes : Nat} {v : Value} {ad : Option Addr} {c : Nat} {zs : List Int} (hS : St W L w) (ho : o.op = .call { callee := .builtin .append, args := #[s, x], argTypes := #[t, t] })
    (hg : Region.wanted o (yielded ops a.tmps) = true) (hs : a.eval s = v) (hx : a.eval x = .slice ad zs.length c) (ht : tyElem P t = some e) (hi : tyRow P e = some (some z, 1, bytes)) (hz : z.cells.size = 1) (hu : Take L (row v 1 e 0 []) R) (hat : At D ad c zs) (hD : Take L D L')
    (h63 : zs.length ≤ maxLen) (hb : zs.length * bytes ≤ 140737488355328) (h : ∀ v' w', St W (row v' 1 e zs.length (u8s zs) :: R) w' → wpList P ops Q rest (a.put o.dst v') w') : wpList P ops Q (o :: rest) a w := by
  rcases hat with ⟨rfl, rfl, rfl⟩ | ⟨rfl, p, rfl⟩ | ⟨g, off, rfl, hDat⟩
  · exact wl_append hS ho hg hs hx ht hi hz (by decide) hu (.inl ⟨rfl, rfl, rfl⟩) rfl rfl (by simp) (by simp) h
  · exact wl_append0 hS ho hg hs hx ht hi hu (h _ _ (hS.take hu))
  · refine wl_append hS ho hg hs hx ht hi hz (by decide) hu (Src.mk (hDat _ _ hD)) (by rw [u8s_len, Nat.mul_one]) (u8_one _) (by omega) (by rw [Nat.zero_add]; exact hb) fun v' w' h1 => h v' w' ?_
    rw [Nat.zero_add, List.nil_append] at h1
    exact h1
/-- v is a slice that holds these bytes in the world w. -/
def BytesV (w : World) (v : Value) (zs : List Int) : Prop :=
  ByB zs ∧ ∃ a c, v = .slice a zs.length c ∧ zs.length ≤ c ∧ c ≤ 9223372036854775807 ∧ At (Old w) a c zs
set_option maxRecDepth 100000 in
theorem open_bytesV {H : Type} {enc : TypeId × Value → H} {w : World} {base : Nat} {spare : Nat → Bool} {held : Bool} {r : Reach} {b0 : Nat} {v : Value} {d : DataW H} {p : List MemPlace}
    (hv : Value.okWide Tryz.prog w r b0 30 v) (h : DataW.Trod enc Tryz.prog w base spare held 30 v d p) : ∃ zs, BytesV w v zs := by
  obtain ⟨a0, len, cap, rfl⟩ := okWide_slice Tryz.underlying30 hv
  obtain ⟨fuel, hf⟩ := h
  rcases open_ints Tryz.underlying30 Tryz.underlying5 (by kernel_rfl) hf with ⟨hcs, hx⟩ | ⟨a, len', cap', zs, hcs, _, hl, hm, hz, hx, hcell, hwz⟩
  · simp [Value.cells] at hcs
    obtain ⟨rfl, rfl, rfl⟩ := hcs
    exact ⟨[], fun c hc => (by cases hc), none, 0, rfl, Nat.le_refl _, by decide, .inl ⟨rfl, rfl, rfl⟩⟩
  · simp [Value.cells] at hcs
    obtain ⟨rfl, rfl, rfl⟩ := hcs
    have hmc : cap ≤ 9223372036854775807 := by unfold maxLen at hm; omega
    by_cases h0 : len = 0
    · subst h0
      exact ⟨[], fun c hc => (by cases hc), some a, cap, rfl, Nat.zero_le _, hmc, .inr (.inl ⟨rfl, a, rfl⟩)⟩
    · have hzl : len ≤ zs.length := by rw [hz]; split <;> omega
      obtain ⟨b, off, spot⟩ := a
      have hspot : spot = none := by simpa [Addr.add] using World.cell?_spot (hcell 0 (by omega))
      subst hspot
      have hlen : (zs.take len).length = len := by rw [List.length_take, Nat.min_eq_left hzl]
      refine ⟨zs.take len, ?_, some ⟨b, off, none⟩, cap, by rw [hlen], by rw [hlen]; exact hl, hmc, .inr (.inr ⟨b, off, rfl, Dat.old ?_⟩)⟩
      · intro c hc
        have h1 := hwz c (List.mem_of_mem_take hc)
        have e1 : IntKind.u8.min = 0 := rfl
        have e2 : IntKind.u8.max = 255 := rfl
        simp only [Lit.wf, e1, e2, Bool.and_eq_true, decide_eq_true_eq] at h1
        exact h1
      · intro j u hj
        unfold u8s at hj
        rw [List.getElem?_map, List.getElem?_take] at hj
        split at hj
        · rename_i hjl
          have h1 := hcell j (by omega)
          rw [Addr.add_lit] at h1
          rw [List.getElem?_eq_getElem (by omega)] at hj
          simp only [Option.map_some, Option.some.injEq] at hj
          rw [h1, ← hj, List.getD_eq_getElem?_getD, List.getElem?_eq_getElem (by omega)]
          rfl
        · cases hj
end Go.Proofs.YtbcokphjpllbiaaGreat
end
section
set_option linter.unusedSimpArgs false
set_option linter.unusedVariables false
namespace Go.Proofs.YtbcokphjpllbiaaGreat
open Go.RowKit Go.Sl
theorem gok_uniq {b : List Int} {p p2 : Ps} {l l2 : List Ord} {n n2 : Int} (h : GOk b p l n) (h2 : GOk b p2 l2 n2) : p2 = p ∧ l2 = l ∧ n2 = n := by
  obtain ⟨s, a1, a2, a3, a4, a5⟩ := h
  obtain ⟨s2, b1, b2, b3, b4, b5⟩ := h2
  rw [a1] at b1
  cases b1
  rw [a2] at b2
  rw [a3] at b3
  cases b3
  exact ⟨rfl, b2.symm, rfl⟩
theorem dok_gok {b : List Int} (hb : ByB b) (h : DOk b) : ∃ p l n, GOk b p l n := by
  obtain ⟨p, s, h1, h2, h3, h4⟩ := doc_good hb h
  refine ⟨p, (dO b).1, (dN b).1, s, h1, by rw [h3], ?_, h.2, h4⟩
  unfold gN
  rw [h3]
  have h5 := h.1
  unfold dN at h5 ⊢
  rw [← h5]
theorem gok_dok {b : List Int} (hb : ByB b) (hN : b.length ≤ 1000) {p : Ps} {l : List Ord} {n : Int} (h : GOk b p l n) : DOk b ∧ (dP b).1 = hdL p ∧ (dO b).1 = l ∧ (dN b).1 = n := by
  obtain ⟨s, a1, a2, a3, a4, a5⟩ := h
  have e : (gN s).1 = n := by rw [a3]
  have h1 := prog_good hb a1 (by omega) (by rw [a2, e]; exact a4) (by rw [a2, e]; exact a5)
  rw [a2, e] at h1
  exact h1
section
variable {D0 : HP} {a : Option Addr} {c : Nat} {b : List Int} {W w : World} {R R' : List HP}
theorem decG_no (hno : ∀ p l n, ¬ GOk b p l n) (hat : At D0 a c b) (hb : ByB b) (hN : b.length ≤ 900000) (ht : Take R D0 R') (hS : St W R w) :
    Calls Tryz.prog 10 #[.slice a b.length c] w fun e w' => e = .returned (.tuple #[.pointer none, .int .i64 3]) ∧ St W R w' := by
  refine (decode_g D0 a c b hat hb hN W w R R' ht hS).mono ?_
  rintro e w' (⟨_, h2, h3⟩ | ⟨p, l, n, h, _⟩)
  · exact ⟨h2, h3⟩
  · exact absurd h (hno p l n)
theorem decG_yes {p : Ps} {l : List Ord} {n : Int} (h : GOk b p l n) (hat : At D0 a c b) (hb : ByB b) (hN : b.length ≤ 900000) (ht : Take R D0 R') (hS : St W R w) :
    Calls Tryz.prog 10 #[.slice a b.length c] w fun e w' => ∃ vb mb bb, e = .returned (.tuple #[.pointer (some ⟨vb, 0, none⟩), .int .i64 0]) ∧ St W (vaultL vb mb bb p l n R) w' := by
  refine (decode_g D0 a c b hat hb hN W w R R' ht hS).mono ?_
  rintro e w' (⟨h1, _⟩ | ⟨p2, l2, n2, h2, vb, mb, bb, h3, h4⟩)
  · exact absurd h (h1 p l n)
  · obtain ⟨rfl, rfl, rfl⟩ := gok_uniq h h2
    exact ⟨vb, mb, bb, h3, h4⟩
theorem decX_no (hno : ∀ p l n, ¬ GOk b p l n) (hat : At D0 a c b) (hcap : b.length ≤ c ∧ c ≤ 9223372036854775807) (hb : ByB b) (hN : b.length ≤ 1000) (ht : Take R D0 R') (hS : St W R w) :
    Calls Tryz.prog 11 #[.slice a b.length c] w fun e w' => e = .returned (.tuple #[.pointer none, .int .i64 3]) ∧ St W R w' := by
  refine (decode_x D0 a c b hat hcap hb hN W w R R' ht hS).mono ?_
  rintro e w' (⟨_, h2, h3⟩ | ⟨h1, _⟩)
  · exact ⟨h2, h3⟩
  · obtain ⟨p, l, n, h⟩ := dok_gok hb h1
    exact absurd h (hno p l n)
theorem decX_yes {p : Ps} {l : List Ord} {n : Int} (h : GOk b p l n) (hat : At D0 a c b) (hcap : b.length ≤ c ∧ c ≤ 9223372036854775807) (hb : ByB b) (hN : b.length ≤ 1000) (ht : Take R D0 R') (hS : St W R w) :
    Calls Tryz.prog 11 #[.slice a b.length c] w fun e w' => ∃ xb xB, e = .returned (.tuple #[.pointer (some ⟨xb, 0, none⟩), .int .i64 0]) ∧ St W (xvR xb xB p l n R) w' := by
  obtain ⟨h1, h2, h3, h4⟩ := gok_dok hb hN h
  refine (decode_x D0 a c b hat hcap hb hN W w R R' ht hS).mono ?_
  rw [h2, h3, h4]
  rintro e w' (⟨h5, _⟩ | ⟨_, xb, xB, v, h6, h7⟩)
  · exact absurd h1 h5
  · exact ⟨xb, xB, h6, xvShut h7⟩
end
set_option maxRecDepth 100000 in
set_option maxHeartbeats 4000000 in
theorem decodes_spec (zs : List Int) (v : Value) (V : World) (hv : BytesV V v zs) (W w : World) (Lr : List HP) (hS : St W (Old V :: Lr) w) :
    Calls Tryz.prog 4 #[v] w fun e w' => e = .returned (.bool true) ∧ St W (Old V :: Lr) w' := by
  obtain ⟨hb, a, c, rfl, hlc, hcm, hat⟩ := hv
  have Hb := Lib.hid hb
  clear hb
  by_cases hN : zs.length ≤ 1000
  · have hd : decide (1000 < zs.length) = false := by simp; omega
    by_cases hG : ∃ p l n, GOk zs p l n
    · obtain ⟨p, l, n, hg⟩ := hG
      have hpi : PuI p 1000000 := by
        obtain ⟨s, h1, _⟩ := hg
        exact puI_mono (gP_ok Hb.out h1).1 (by omega)
      have hok : OkN l n := by
        obtain ⟨s, _, _, _, h1, _⟩ := hg
        exact h1
      have Hg := Lib.hid hg
      have Hpi := Lib.hid hpi
      have Hok := Lib.hid hok
      clear hg hpi hok
      go_enter Tryz.func4, Tryz.ntmps4
      go_wp2_with (first | go_big_skip | ((with_reducible apply wl_bsR (n := 0) hS); (with_reducible rfl); rfl; (focus (simp only [fD, List.map_cons, List.map_nil, Act.eval, fE, fF, fG, fH, Option.getD_some]; try rfl)); (exact esS); (exact rsS); rfl; rfl; rfl; rfl; rfl; decide; clear hS; intro bv w hS; (refine frS ?_)) | ((with_reducible apply wl_appendA (D := Old V) (zs := zs) hS); (with_reducible rfl); rfl; rfl; rfl; (exact esS); (exact rsS); rfl; (exact takeS); exact hat; (exact takeS); (focus (unfold maxLen; omega)); (focus omega); clear hS; intro v w hS; (have hv := byR_at hS; obtain ⟨da, dc, rfl, hvd⟩ := hv); have hat2 := rdV_at hvd; have Hat2 := Lib.hid hat2; clear hvd hat2; (refine frS ?_)) | (go_at_call 10; refine (decG_yes Hg.out Hat2.out Hb.out (by omega) .head hS).mono ?_; clear hS; rintro e w ⟨vb, mb, bb, rfl, hS⟩) | (go_at_call 11; refine (decX_yes Hg.out hat ⟨hlc, hcm⟩ Hb.out hN (.tail (.tail (.tail (.tail .head)))) hS).mono ?_; clear hS; rintro e w ⟨xb, xB, rfl, hS⟩) | (go_at_call 8; refine (alike_spec vb mb bb xb xB p l n Hpi.out.ok Hpi.out.w (Nat.le_refl _) Hok.out.n0 Hok.out.n1 W _ _ (hS.sel (L' := blk vb _ _ :: amap eS eP mb p :: bookL bb l n :: xvP xb _ n p :: xkP xB l n :: Old V :: Lr) (by exact selS))).mono ?_; clear hS; rintro e w ⟨rfl, hS⟩) | (go_at_call 9; refine (knownV_spec W _ _ hS).mono ?_; clear hS; rintro e w ⟨rfl, hS⟩))
      go_ret
      exact ⟨rfl, hS.drop.drop.drop.drop.drop⟩
    · have hno : ∀ p l n, ¬ GOk zs p l n := fun p l n h => hG ⟨p, l, n, h⟩
      have Hno := Lib.hid hno
      clear hno hG
      go_enter Tryz.func4, Tryz.ntmps4
      go_wp2_with (first | go_big_skip | ((with_reducible apply wl_bsR (n := 0) hS); (with_reducible rfl); rfl; (focus (simp only [fD, List.map_cons, List.map_nil, Act.eval, fE, fF, fG, fH, Option.getD_some]; try rfl)); (exact esS); (exact rsS); rfl; rfl; rfl; rfl; rfl; decide; clear hS; intro bv w hS; (refine frS ?_)) | ((with_reducible apply wl_appendA (D := Old V) (zs := zs) hS); (with_reducible rfl); rfl; rfl; rfl; (exact esS); (exact rsS); rfl; (exact takeS); exact hat; (exact takeS); (focus (unfold maxLen; omega)); (focus omega); clear hS; intro v w hS; (have hv := byR_at hS; obtain ⟨da, dc, rfl, hvd⟩ := hv); have hat2 := rdV_at hvd; have Hat2 := Lib.hid hat2; clear hvd hat2; (refine frS ?_)) | (go_at_call 10; refine (decG_no Hno.out Hat2.out Hb.out (by omega) .head hS).mono ?_; clear hS; rintro e w ⟨rfl, hS⟩) | (go_at_call 11; refine (decX_no Hno.out hat ⟨hlc, hcm⟩ Hb.out hN (.tail .head) hS).mono ?_; clear hS; rintro e w ⟨rfl, hS⟩) | (go_at_call 9; refine (knownV_spec W _ _ hS).mono ?_; clear hS; rintro e w ⟨rfl, hS⟩))
      go_ret
      exact ⟨rfl, hS.drop⟩
  · have hd : decide (1000 < zs.length) = true := by simp; omega
    go_enter Tryz.func4, Tryz.ntmps4
    go_wp2_with (first | go_big_skip)
    go_ret
    exact ⟨rfl, hS⟩
end Go.Proofs.YtbcokphjpllbiaaGreat
end
section
set_option linter.unusedSimpArgs false
set_option linter.unusedVariables false
namespace Go.Sl
open Go.ChangeShapes Go.WideShapes Go.ChangeAt Go.RowKit
section
variable {H : Type} {enc : TypeId × Value → H} {P : Program}
theorem trodAll_carry {w w' : World} {base : Nat} {spare : Nat → Bool} {held : Bool} : ∀ {ts : List TypeId} {vs : List Value} {ds : List (DataW H)} {ps : List MemPlace},
    DataW.TrodAll enc P w base spare held ts vs ds ps → (∀ p ∈ ps, w.sameAt w' p) → DataW.TrodAll enc P w' base spare held ts vs ds ps
  | [], [], [], _, h, _ => h
  | _ :: _, _ :: _, _ :: _, _, ⟨p, q, ⟨n, hn⟩, h2, e⟩, hs =>
    ⟨p, q, ⟨n, DataW.trod_carry n _ _ _ hn fun x hx => hs x (by rw [e]; exact List.mem_append_left _ hx)⟩, trodAll_carry h2 (fun x hx => hs x (by rw [e]; exact List.mem_append_right _ hx)), e⟩

/-- The end of a law: true, nothing that was there has turned. -/
theorem law_post {f : Func} {s : ChangeSpec} {apart fresh handsOn again : Bool} {W W' : World} {args : Array Value} {ds gs : List (DataW H)} {before : List MemPlace} {tb : TypeId}
    (hl : laidOutB P = true) (hm : mapsRowed P = true) (hz : ((List.range P.types.size).all fun t => match P.underlying t with | some (.slice e) => decide (0 < P.cellsOf e) | _ => true) = true)
    (hT : f.params.toList.all (· < P.types.size) = true) (hr : f.resultTypes = #[tb]) (hb : P.underlying tb = some .bool) (hv : s.vars = [])
    (hW : DataW.Whole enc P f.params.toList s.vars apart W args.toList ds gs before)
    (hres : (s.fn H (ds ++ gs)).results = [.lit (.bool true)]) (hargs : (s.fn H (ds ++ gs)).args = ds) (hvars : (s.fn H (ds ++ gs)).vars = [])
    (hB : Below W.heap.size W W') : s.post enc P f apart fresh handsOn again W args (.bool true) W' := by
  have hW0 := hW
  obtain ⟨p, q, hA, hV, rfl, hfz, hnd⟩ := hW
  rw [hv] at hV
  obtain ⟨rfl, rfl⟩ := trodVars_none hV
  have hlt : ∀ x ∈ p ++ [], x.block < W.heap.size := fun x hx => hW0.lt x hx
  have hA' : ∀ sp : Nat → Bool, (∀ x ∈ p ++ [], sp x.block = true) → DataW.TrodAll enc P W' 0 sp true f.params.toList args.toList (s.fn H (ds ++ [])).args p := fun sp hs => by
    rw [hargs]
    refine trodAll_carry (DataW.TrodAll.respare (kids_rows hl hm) (fun t e => slices_full_of P hz t e) (fun t ht => by simpa using List.all_eq_true.1 hT t ht) hA fun x hx => hs x (by simpa using hx)) fun x hx => hB.same (hlt x (by simpa using hx))
  have hR : ∀ (b : Nat) (sp : Nat → Bool) (hd : Bool), DataW.TrodAll enc P W' b sp hd f.resultTypes.toList ((Value.bool true).resultList f.resultTypes.size) (s.fn H (ds ++ [])).results [] := fun b sp hd => by
    rw [hres, hr]
    exact trodAll_cons_mk (shut_bool hb _) trodAll_mk0
  have hU : ∀ sp : Nat → Bool, DataW.TrodVars enc P W' sp s.vars (s.fn H (ds ++ [])).vars [] := fun sp => by
    rw [hv, hvars]; rfl
  have hold : ∀ x ∈ p ++ [], (fun b => decide (b < W.heap.size)) x.block = true := fun x hx => by simpa using hlt x hx
  refine ⟨ds, [], p ++ [], [], p, [], hW0, hR _ _ _, hA' _ hold, hU _, World.keptBut_mono (fun x hx => ⟨hx, ?_⟩) (hB.frame (· ∈ p ++ [])), fun _ => ?_⟩
  · exact Or.inr (by simpa using hx)
  · refine ⟨ok_one hr rfl (okWide_bool_mk hb _), _, _, ([] ++ p) ++ [], ⟨[] ++ p, [], trodAll_append (hA' _ (fun _ _ => rfl)) (hR _ _ _), hU _, rfl, ?_, ?_⟩, ?_⟩
    · intro b off hx
      rw [hB.frozen (hlt _ (by simpa using hx))]
      exact hfz b off (by simpa using hx)
    · intro ha
      simpa using hnd ha
    · intro x hx _
      simpa using hx
end
end Go.Sl
end
