/-
  Apply, At, New over an economy as one resource. For every economy, every request.
  A client's requests at one purse: a mint, a look; a mint, what is sent, that it arrived, that it is done. The plain law.
  Requests that come in: one, a slice of them. For every request.
  EconOld: the walk; requests that are more than is looked at; a mint twice. For every request.
  A mint, what is sent, that it arrived, that it is done: what each request leaves. The plain law of EconSends.
  Has something arrived? For every economy.
-/
import Derived.Test.YtlmhakmoioogaaaGreatEconSendsM5
import Derived.Test.YtlmhakmoioogaaaGreatEconSendsM17
import Derived.Test.YtlmhakmoioogaaaGreatEconSendsM21
import Derived.Test.YtlmhakmoioogaaaGreatEconSendsM28
import Derived.Test.YtlmhakmoioogaaaGreatRows
import Derived.Lib.SmallJoins
import Derived.ChangeArms
import Derived.ProofKit
section
set_option linter.unusedSimpArgs false
set_option linter.unusedVariables false
namespace Go.Proofs.YtlmhakmoioogaaaGreat
open Go.RowKit Go.Sl
/-- What holds of an economy behind i requests. -/
def EOk (e : Ec) (i : Nat) : Prop := ∀ x ∈ e.vs, VOk x.2.ps x.2.n i
theorem eOk0 (i : Nat) : EOk ec0 i := fun _ h => (by cases h)
theorem eOk_ev {E : Ev} {e : Ec} {i : Nat} (h : EOk e i) (hp : (stripE E).Perm e.vs) : EvOk E i := fun x hx => h (x.1, x.2.2) (hp.mem_iff.1 (List.mem_map.2 ⟨x, hx, rfl⟩))
theorem ev_eOk {E : Ev} {e : Ec} {i : Nat} (h : EvOk E i) (hp : (stripE E).Perm e.vs) : EOk e i := fun y hy => by
  obtain ⟨x, hx, rfl⟩ := List.mem_map.1 (hp.mem_iff.2 hy)
  exact h x hx
theorem peek_new {e : Ec} {o : Opn} {r : Rpl} (h : peekE e o = (r, false)) : r = rp0 ∧ mayO o = true := by
  unfold peekE at h
  split at h
  · cases h
  · rename_i hm
    refine ⟨?_, by simpa using hm⟩
    split at h
    · exact (congrArg Prod.fst h).symm
    · split at h
      · exact (congrArg Prod.fst h).symm
      · split at h
        · exact (congrArg Prod.fst h).symm
        · split at h
          · cases h
          · split at h
            · cases h
            · exact (congrArg Prod.fst h).symm
theorem appE_old {e : Ec} {o : Opn} {r : Rpl} (h : peekE e o = (r, true)) : appE e o = (r, false, e) := by
  unfold appE
  rw [h]
  rfl
theorem appE_new {e : Ec} {o : Opn} (h : peekE e o = (rp0, false)) : appE e o = ((doV (atV e o.ak) o).1, true, ⟨(setV e o.ak (doV (atV e o.ak) o).2).vs, doS e o (doV (atV e o.ak) o).1, doT e o (doV (atV e o.ak) o).1, doA e o⟩) := by
  unfold appE
  rw [h]
  rfl
theorem cntB_true {o : Opn} (h : cntB o = true) : 0 ≤ o.item ∧ o.item < 4 ∧ 1 ≤ o.cnt ∧ o.cnt ≤ 1048576 := by
  unfold cntB at h
  simpa using h
section
variable {W w : World} {R : List HP} {eb m1 m2 m3 m4 : Nat} {E : Ev} {i : Nat} {e : Ec}
theorem ec_close {vs : List (ByteArray × Vs)} {ss : List (Int × (Int × Rpl))} {ts : List ((Int × Int) × Tns)} {ar : List ((Int × Int) × Unit)} (hok : EvOk E i) (hp : (stripE E).Perm vs) (hS : St W (ecR eb m1 m2 m3 m4 E ss ts ar R) w) : EOk ⟨vs, ss, ts, ar⟩ i ∧ St W (ecP eb ⟨vs, ss, ts, ar⟩ :: R) w :=
  ⟨ev_eOk (e := ⟨vs, ss, ts, ar⟩) hok hp, ecShut (e := ⟨vs, ss, ts, ar⟩) hp (evOpen hS)⟩
theorem ecOpenR (h : St W (ecP eb e :: R) w) : ∃ m1 m2 m3 m4 E, (stripE E).Perm e.vs ∧ (E.map (·.1)).Nodup ∧ St W (ecR eb m1 m2 m3 m4 E e.ss e.ts e.ar R) w := by
  obtain ⟨m1, m2, m3, m4, E, hp, h⟩ := ecOpen h
  exact ⟨m1, m2, m3, m4, E, hp, by rw [← ptrs_keys]; exact amapKeys h.drop, evShut h⟩
theorem atV_vAt (hn : (E.map (·.1)).Nodup) (hp : (stripE E).Perm e.vs) (k : ByteArray) : atV e k = vAt E k := by
  unfold atV vAt
  rw [vs_get hn hp]
end
/-- What a place has. -/
theorem atP_spec {eb : Nat} {e : Ec} (k u : ByteArray) {x0 x1 x2 x3 : Int} (hx : purseA (atV e k).ps u = ⟨x0, x1, x2, x3⟩) (W w : World) (R : List HP) (hS : St W (ecP eb e :: R) w) :
    Calls Tryz.prog 18 #[.pointer (some ⟨eb, 0, none⟩), .agg #[.string k, .string u]] w fun x w' => x = .returned (.agg #[.int .i64 x0, .int .i64 x1, .int .i64 x2, .int .i64 x3]) ∧ St W (ecP eb e :: R) w' := by
  obtain ⟨m1, m2, m3, m4, E, hp, hn, hS⟩ := ecOpenR hS
  rw [atV_vAt hn hp] at hx
  refine (atE_spec k u hx W w _ hS).mono ?_
  rintro x w' ⟨rfl, hS⟩
  exact ⟨rfl, ecShut hp (evOpen hS)⟩
set_option maxHeartbeats 2000000 in
theorem apply_ec {eb : Nat} {e : Ec} {i : Nat} (hE : EOk e i) (hi : i ≤ 1000000) (kd cl sq : Int) (ak aw tk tw : ByteArray) (it ct pr : Int) (bu : Bool) (id : Int) (W w : World) (R : List HP) (hS : St W (ecP eb e :: R) w) :
    Calls Tryz.prog 16 #[.pointer (some ⟨eb, 0, none⟩), oV kd cl sq ak aw tk tw it ct pr bu id] w fun x w' => EOk (appE e ⟨kd, cl, sq, ak, aw, tk, tw, it, ct, pr, bu, id⟩).2.2 (i + 1) ∧
      x = .returned (.tuple #[rV (appE e ⟨kd, cl, sq, ak, aw, tk, tw, it, ct, pr, bu, id⟩).1.err (appE e ⟨kd, cl, sq, ak, aw, tk, tw, it, ct, pr, bu, id⟩).1.id (appE e ⟨kd, cl, sq, ak, aw, tk, tw, it, ct, pr, bu, id⟩).1.has.x0 (appE e ⟨kd, cl, sq, ak, aw, tk, tw, it, ct, pr, bu, id⟩).1.has.x1 (appE e ⟨kd, cl, sq, ak, aw, tk, tw, it, ct, pr, bu, id⟩).1.has.x2 (appE e ⟨kd, cl, sq, ak, aw, tk, tw, it, ct, pr, bu, id⟩).1.has.x3, .bool (appE e ⟨kd, cl, sq, ak, aw, tk, tw, it, ct, pr, bu, id⟩).2.1]) ∧
      St W (ecP eb (appE e ⟨kd, cl, sq, ak, aw, tk, tw, it, ct, pr, bu, id⟩).2.2 :: R) w' := by
  obtain ⟨m1, m2, m3, m4, E, hp, hn, hS⟩ := ecOpenR hS
  have hEv := eOk_ev hE hp
  have hV := atV_vAt hn hp ak
  have hnv : (e.vs.map (·.1)).Nodup := by
    rw [← strip_keys] at hn
    exact (hp.map (·.1)).nodup_iff.1 hn
  cases hpk : peekE e ⟨kd, cl, sq, ak, aw, tk, tw, it, ct, pr, bu, id⟩ with
  | mk r k =>
  cases k with
  | true =>
    rw [appE_old hpk]
    refine (app_old (vs := e.vs) kd cl sq ak aw tk tw it ct pr bu id e.ss e.ts e.ar W w R hpk hS).mono ?_
    rintro x w' ⟨rfl, hS⟩
    exact ⟨fun x hx => (hE x hx).on, rfl, ecShut hp (evOpen hS)⟩
  | false =>
    obtain ⟨rfl, hm⟩ := peek_new hpk
    have hap := appE_new hpk
    dsimp only at hap
    rw [hV] at hap
    have hm2 : kindB ⟨kd, cl, sq, ak, aw, tk, tw, it, ct, pr, bu, id⟩ = true := by
      unfold mayO at hm
      exact (Bool.and_eq_true _ _ ▸ hm).2
    have hk : kd = 1 ∨ kd = 2 ∨ kd = 3 ∨ kd = 4 ∨ kd = 5 ∨ kd = 6 ∨ kd = 7 := by
      unfold kindB at hm2
      dsimp only at hm2
      repeat' split at hm2
      all_goals first | omega | cases hm2
    have hs : ∀ V, (tidV ((ak, V) :: delL e.vs ak) ak).Perm (setV e ak V).vs := fun V => by rw [tidV_set]
    have hsame : (tidV e.vs ak).Perm (setV e ak (vAt E ak)).vs := by rw [← hV]; exact tidV_same e ak hnv
    rcases hk with rfl | rfl | rfl | rfl | rfl | rfl | rfl
    · have hm3 : countsB ⟨1, cl, sq, ak, aw, tk, tw, it, ct, pr, bu, id⟩ = true := hm2
      have hc : cntB ⟨1, cl, sq, ak, aw, tk, tw, it, ct, pr, bu, id⟩ = true := by unfold countsB at hm3; exact (Bool.and_eq_true _ _ ▸ hm3).1
      obtain ⟨h0, h4, c0, c1⟩ := cntB_true hc
      refine (app1 (vs := e.vs) cl sq ak aw tk tw it ct pr bu id e.ss e.ts e.ar W w R hpk hEv hi hp h0 h4 c0 c1 rfl rfl hS).mono ?_
      rintro x w' ⟨E', h1, h2, rfl, hS⟩
      rw [hap]
      obtain ⟨h3, h5⟩ := ec_close h1 (h2.trans (hs _)) hS
      exact ⟨h3, rfl, h5⟩
    · have hm3 : sendsB ⟨2, cl, sq, ak, aw, tk, tw, it, ct, pr, bu, id⟩ = true := hm2
      have hc : cntB ⟨2, cl, sq, ak, aw, tk, tw, it, ct, pr, bu, id⟩ = true := by unfold sendsB at hm3; exact (Bool.and_eq_true _ _ ▸ (Bool.and_eq_true _ _ ▸ hm3).2).1
      obtain ⟨h0, h4, c0, c1⟩ := cntB_true hc
      by_cases hr : takeE (vAt E ak).ps aw (oneI it ct) = 0
      · have hd : doT e ⟨2, cl, sq, ak, aw, tk, tw, it, ct, pr, bu, id⟩ (doV (vAt E ak) ⟨2, cl, sq, ak, aw, tk, tw, it, ct, pr, bu, id⟩).1 = ((cl, sq), ⟨cl, sq, ak, aw, tk, tw, it, ct⟩) :: delL e.ts (cl, sq) := if_pos ⟨rfl, hr⟩
        have hv : (doV (vAt E ak) ⟨2, cl, sq, ak, aw, tk, tw, it, ct, pr, bu, id⟩).1 = rp0 := by
          show (⟨takeE (vAt E ak).ps aw (oneI it ct), 0, it0⟩ : Rpl) = rp0
          rw [hr]
        rw [hd, hv] at hap
        refine (app2y (vs := e.vs) cl sq ak aw tk tw it ct pr bu id e.ss e.ts e.ar W w R hpk hEv hi hp h0 h4 c0 c1 hr rfl hS).mono ?_
        rintro x w' ⟨E', h1, h2, rfl, hS⟩
        rw [hap]
        obtain ⟨h3, h5⟩ := ec_close h1 (h2.trans (hs _)) hS
        exact ⟨h3, rfl, h5⟩
      · have hd : doT e ⟨2, cl, sq, ak, aw, tk, tw, it, ct, pr, bu, id⟩ (doV (vAt E ak) ⟨2, cl, sq, ak, aw, tk, tw, it, ct, pr, bu, id⟩).1 = e.ts := (if_neg (fun h => hr h.2)).trans (if_neg (by show ¬ ((2 : Int) = 7); decide))
        rw [hd] at hap
        refine (app2n (vs := e.vs) cl sq ak aw tk tw it ct pr bu id e.ss e.ts e.ar W w R hpk hEv hi hp h0 h4 c0 c1 rfl (by simpa using hr) rfl hS).mono ?_
        rintro x w' ⟨E', h1, h2, rfl, hS⟩
        rw [hap]
        obtain ⟨h3, h5⟩ := ec_close h1 (h2.trans (hs _)) hS
        exact ⟨h3, rfl, h5⟩
    · skip
      refine (app3 (vs := e.vs) cl sq ak aw tk tw it ct pr bu id e.ss e.ts e.ar W w R hpk hEv hi hp rfl rfl rfl hS).mono ?_
      rintro x w' ⟨E', h1, h2, rfl, hS⟩
      rw [hap]
      obtain ⟨h3, h5⟩ := ec_close h1 (h2.trans (hs _)) hS
      exact ⟨h3, rfl, h5⟩
    · skip
      refine (app4 (vs := e.vs) cl sq ak aw tk tw it ct pr bu id e.ss e.ts e.ar W w R hpk hEv hi hp rfl rfl hS).mono ?_
      rintro x w' ⟨E', h1, h2, rfl, hS⟩
      rw [hap]
      obtain ⟨h3, h5⟩ := ec_close h1 (h2.trans (hs _)) hS
      exact ⟨h3, rfl, h5⟩
    · skip
      refine (app5 (vs := e.vs) cl sq ak aw tk tw it ct pr bu id e.ss e.ts e.ar W w R hpk hEv hi hp rfl hS).mono ?_
      rintro x w' ⟨E', h1, h2, rfl, hS⟩
      rw [hap]
      obtain ⟨h3, h5⟩ := ec_close h1 (h2.trans hsame) hS
      exact ⟨h3, rfl, h5⟩
    · have hm3 : countsB ⟨6, cl, sq, ak, aw, tk, tw, it, ct, pr, bu, id⟩ = true := hm2
      have hc : cntB ⟨6, cl, sq, ak, aw, tk, tw, it, ct, pr, bu, id⟩ = true := by unfold countsB at hm3; exact (Bool.and_eq_true _ _ ▸ hm3).1
      obtain ⟨h0, h4, c0, c1⟩ := cntB_true hc
      refine (app6 (vs := e.vs) cl sq ak aw tk tw it ct pr bu id e.ss e.ts e.ar W w R hpk hEv hi hp h0 h4 c0 c1 rfl hS).mono ?_
      rintro x w' ⟨E', h1, h2, rfl, hS⟩
      rw [hap]
      obtain ⟨h3, h5⟩ := ec_close h1 (h2.trans (hs _)) hS
      exact ⟨h3, rfl, h5⟩
    · skip
      refine (app7 (vs := e.vs) cl sq ak aw tk tw it ct pr bu id e.ss e.ts e.ar W w R hpk hEv hi hp hS).mono ?_
      rintro x w' ⟨E', h1, h2, rfl, hS⟩
      rw [hap]
      obtain ⟨h3, h5⟩ := ec_close h1 (h2.trans hsame) hS
      exact ⟨h3, rfl, h5⟩
/-- The same, at what it comes to. -/
theorem apply_at {eb : Nat} {e e2 : Ec} {i : Nat} {r : Rpl} {b : Bool} (hE : EOk e i) (hi : i ≤ 1000000) {kd cl sq : Int} {ak aw tk tw : ByteArray} {it ct pr : Int} {bu : Bool} {id : Int} (h : appE e ⟨kd, cl, sq, ak, aw, tk, tw, it, ct, pr, bu, id⟩ = (r, b, e2)) (W w : World) (R : List HP) (hS : St W (ecP eb e :: R) w) :
    Calls Tryz.prog 16 #[.pointer (some ⟨eb, 0, none⟩), oV kd cl sq ak aw tk tw it ct pr bu id] w fun x w' => EOk e2 (i + 1) ∧ x = .returned (.tuple #[rV r.err r.id r.has.x0 r.has.x1 r.has.x2 r.has.x3, .bool b]) ∧ St W (ecP eb e2 :: R) w' := by
  have h1 := apply_ec hE hi kd cl sq ak aw tk tw it ct pr bu id W w R hS
  rw [h] at h1
  exact h1
end Go.Proofs.YtlmhakmoioogaaaGreat
end
section
set_option linter.unusedSimpArgs false
set_option linter.unusedVariables false
namespace Go.Proofs.YtlmhakmoioogaaaGreat
open Go.RowKit Go.Sl
abbrev kA : ByteArray := ⟨#[97]⟩
abbrev kX : ByteArray := ⟨#[120]⟩
abbrev kB : ByteArray := ⟨#[98]⟩
abbrev kY : ByteArray := ⟨#[121]⟩
abbrev kN : ByteArray := ⟨#[]⟩
abbrev oldM (last : Int) : Opn := ⟨1, 7, last, kA, kX, kN, kN, 0, 3, 0, false, 0⟩
abbrev oldL (now : Int) : Opn := ⟨5, 7, now, kA, kX, kN, kN, 0, 0, 0, false, 0⟩
abbrev old1 (last : Int) : Ec := ⟨[(kA, ⟨[(kX, ⟨3, 0, 0, 0⟩)], [], 1⟩)], [(7, (last, rp0))], [], []⟩
/-- A mint twice: the second time it is not done. -/
abbrev knO : Opn := ⟨1, 1, 1, kA, kX, kN, kN, 0, 5, 0, false, 0⟩
abbrev kn1 : Ec := ⟨[(kA, ⟨[(kX, ⟨5, 0, 0, 0⟩)], [], 1⟩)], [(1, (1, rp0))], [], []⟩
theorem kn_app : appE ec0 knO = (rp0, true, kn1) := by kernel_rfl
theorem kn_again : appE kn1 knO = (rp0, false, kn1) := by kernel_rfl
theorem kn_at : purseA (atV kn1 kA).ps kX = ⟨5, 0, 0, 0⟩ := by kernel_rfl
end Go.Proofs.YtlmhakmoioogaaaGreat
end
section
set_option linter.unusedSimpArgs false
set_option linter.unusedVariables false
namespace Go.Proofs.YtlmhakmoioogaaaGreat
open Go.Joins Go.ChangeShapes Go.WideShapes Go.RowKit Go.Deep Go.Sl
/-- What a request of a script holds, cell by cell. -/
structure OpnAt (V : World) (b off : Nat) (x : Opn) : Prop where
  kind : V.cell? ⟨b, off, none⟩ = some (.int .i64 x.kind)
  client : V.cell? ⟨b, off + 1, none⟩ = some (.int .i64 x.client)
  seq : V.cell? ⟨b, off + 2, none⟩ = some (.int .i64 x.seq)
  ak : V.cell? ⟨b, off + 3, none⟩ = some (.string x.ak)
  aw : V.cell? ⟨b, off + 4, none⟩ = some (.string x.aw)
  tk : V.cell? ⟨b, off + 5, none⟩ = some (.string x.tk)
  tw : V.cell? ⟨b, off + 6, none⟩ = some (.string x.tw)
  all : ∀ (j : Nat) (v : Value), x.cells[j]? = some v → V.cell? ⟨b, off + j, none⟩ = some v
end Go.Proofs.YtlmhakmoioogaaaGreat
end
section
set_option linter.unusedSimpArgs false
set_option linter.unusedVariables false
namespace Go.Proofs.YtlmhakmoioogaaaGreat
open Go.RowKit Go.Sl
def HopR (W : World) (L : List HP) (n : Nat) (v : Value) (w : World) : Prop := ∃ i : Nat, v = .int .i64 i ∧ i ≤ n ∧ St W L w
theorem eqRpl_at {r0 r1 r2 r3 r4 r5 q0 q1 q2 q3 q4 q5 : Int} {b : Bool} (h : Rpl.eqB ⟨r0, r1, ⟨r2, r3, r4, r5⟩⟩ ⟨q0, q1, ⟨q2, q3, q4, q5⟩⟩ = b) (w : World) : (Op.equalIn 10000 31 (rV r0 r1 r2 r3 r4 r5) (rV q0 q1 q2 q3 q4 q5)).run Tryz.prog w = .ok b w := h ▸ eqRpl ⟨r0, r1, ⟨r2, r3, r4, r5⟩⟩ ⟨q0, q1, ⟨q2, q3, q4, q5⟩⟩ w
set_option maxRecDepth 100000 in
set_option maxHeartbeats 4000000 in
theorem knownE_spec (W w : World) (R : List HP) (hS : St W R w) :
    Calls Tryz.prog 14 #[] w fun e w' => e = .returned (.bool true) ∧ St W R w' := by
  go_enter Tryz.func14, Tryz.ntmps14
  go_wp2_with (first | go_big_skip | (go_at_call 15; refine (newE_spec W _ _ hS).mono ?_; clear hS; rintro e w ⟨eb, rfl, hS⟩) | ((fail_if_success (have := q1)); (refine zal hS ?_; clear hS; have q1 : Nat := 0; intro b1 w hS)) | ((have := q1); (fail_if_success (have := q2)); (refine zal hS ?_; clear hS; have q2 : Nat := 0; intro b2 w hS)) | ((have := q2); (refine zal hS ?_; clear hS; intro b3 w hS)) | (refine zlN hS ?_) | (refine zlN hS ?_ (vs := [.string kA, .string kX]) (hc := by first | exact Cells.here rfl | exact Cells.there (Cells.here rfl) | exact Cells.there (Cells.there (Cells.here rfl)) | exact Cells.there (Cells.there (Cells.there (Cells.here rfl))))) | (refine zsN hS ?_; clear hS; intro w hS) | ((fail_if_success (have := gA)); go_at_call 16; refine (apply_at (eOk0 0) (by decide) kn_app W _ _ (hS.sel (L' := ecP eb ec0 :: blk b1 _ _ :: R) (by exact selS))).mono ?_; clear hS; have gA : Nat := 0; rintro e w ⟨hok, rfl, hS⟩; have Hok := Lib.hid hok; clear hok) | ((have := gA); go_at_call 16; refine (apply_at Hok.out (by decide) kn_again W _ _ (hS.sel (L' := ecP eb (kn1) :: blk b2 _ _ :: blk b1 _ _ :: R) (by exact selS))).mono ?_; clear hS; rintro e w ⟨_, rfl, hS⟩) | ((with_reducible apply wl_eqA); (with_reducible rfl); rfl; rfl; rfl; kernel_rfl; exact eqRpl_at (rfl : Rpl.eqB ⟨0, 0, ⟨0, 0, 0, 0⟩⟩ ⟨0, 0, ⟨0, 0, 0, 0⟩⟩ = true); (refine frS ?_)) | ((with_reducible apply wl_eqA); (with_reducible rfl); rfl; rfl; rfl; kernel_rfl; exact eqI _ _ _ _ _ _ _ _; (refine frS ?_)) | (go_at_call 18; refine (atP_spec kA kX kn_at W _ _ (hS.sel (L' := ecP eb kn1 :: blk b3 _ _ :: blk b2 _ _ :: blk b1 _ _ :: R) (by exact selS))).mono ?_; clear hS; rintro e w ⟨rfl, hS⟩))
  go_ret
  exact ⟨rfl, hS.drop.drop.drop.drop⟩
end Go.Proofs.YtlmhakmoioogaaaGreat
end
section
set_option linter.unusedSimpArgs false
set_option linter.unusedVariables false
namespace Go.Proofs.YtlmhakmoioogaaaGreat
open Go.RowKit Go.Sl
abbrev sM (n : Int) : Opn := ⟨1, 1, 1, kA, kX, kN, kN, 0, n, 0, false, 0⟩
abbrev sS (c : Int) : Opn := ⟨2, 1, 2, kA, kX, kB, kY, 0, c, 0, false, 0⟩
abbrev sA (c : Int) : Opn := ⟨6, 1, 2, kB, kY, kN, kN, 0, c, 0, false, 0⟩
abbrev sD : Opn := ⟨7, 1, 2, kA, kX, kN, kN, 0, 0, 0, false, 0⟩
section
variable {n c : Int}
theorem sM_may (n0 : 1 ≤ n) (n1 : n ≤ 1048576) : mayO (sM n) = true := by
  have h : headB (sM n) = true := by kernel_rfl
  have h2 : kindB (sM n) = countsB (sM n) := rfl
  have h3 : restB (sM n) = true := by kernel_rfl
  unfold mayO
  rw [h, h2]
  unfold countsB cntB
  rw [h3]
  simp
  omega
theorem sS_may (c0 : 1 ≤ c) (c1 : c ≤ 1048576) : mayO (sS c) = true := by
  have h : headB (sS c) = true := by kernel_rfl
  have h2 : kindB (sS c) = sendsB (sS c) := rfl
  have h3 : plcB (sS c).tk (sS c).tw = true := by kernel_rfl
  unfold mayO
  rw [h, h2]
  unfold sendsB cntB
  rw [h3]
  simp
  omega
theorem sA_may (c0 : 1 ≤ c) (c1 : c ≤ 1048576) : mayO (sA c) = true := by
  have h : headB (sA c) = true := by kernel_rfl
  have h2 : kindB (sA c) = countsB (sA c) := rfl
  have h3 : restB (sA c) = true := by kernel_rfl
  unfold mayO
  rw [h, h2]
  unfold countsB cntB
  rw [h3]
  simp
  omega
theorem sD_may : mayO sD = true := by kernel_rfl
theorem isIt_n {x : Int} (h0 : 0 ≤ x) (h1 : x ≤ 1048576) : isIt ⟨x, 0, 0, 0⟩ = true := by
  unfold isIt inH
  simp
  omega
theorem isZ_n {x : Int} (h0 : 1 ≤ x) : isZ ⟨x, 0, 0, 0⟩ = false := by
  unfold isZ
  simp
  omega
theorem put_new {k : ByteArray} (hk : whoB k = true) {x : Int} (h0 : 1 ≤ x) (h1 : x ≤ 1048576) : putE [] k ⟨x, 0, 0, 0⟩ = 0 ∧ putP [] k ⟨x, 0, 0, 0⟩ = [(k, ⟨x, 0, 0, 0⟩)] := by
  have hi := isIt_n (show 0 ≤ x by omega) h1
  have ha : addL [purseA [] k, ⟨x, 0, 0, 0⟩] it0 = some ⟨x, 0, 0, 0⟩ := by
    have e1 : addIt it0 (purseA [] k) = it0 := rfl
    have e2 : addIt it0 ⟨x, 0, 0, 0⟩ = ⟨x, 0, 0, 0⟩ := by unfold addIt it0; simp
    rw [addL, e1, if_pos ⟨rfl, rfl⟩, addL, e2, if_pos ⟨hi, hi⟩, addL]
  constructor
  · unfold putE
    rw [if_pos ⟨hk, hi⟩, ha]
    rfl
  unfold putP
  rw [if_pos ⟨hk, hi⟩, ha]
  show layP [] k ⟨x, 0, 0, 0⟩ = _
  unfold layP
  rw [if_neg (by rw [isZ_n h0]; exact Bool.noConfusion)]
  rfl
abbrev s1 (n : Int) : Ec := ⟨[(kA, ⟨[(kX, ⟨n, 0, 0, 0⟩)], [], 1⟩)], [(1, (1, rp0))], [], []⟩
theorem app_sM (n0 : 1 ≤ n) (n1 : n ≤ 1048576) : appE ec0 (sM n) = (rp0, true, s1 n) := by
  have hp : peekE ec0 (sM n) = (rp0, false) := by
    unfold peekE
    rw [if_neg (by rw [sM_may n0 n1]; exact Bool.noConfusion)]
    rfl
  obtain ⟨h1, h2⟩ := put_new (k := kX) (by kernel_rfl) n0 n1
  have hd : doV (atV ec0 kA) (sM n) = (rp0, ⟨[(kX, ⟨n, 0, 0, 0⟩)], [], 1⟩) := by
    show ((⟨putE [] kX ⟨n, 0, 0, 0⟩, 0, it0⟩ : Rpl), (⟨putP [] kX ⟨n, 0, 0, 0⟩, [], 1⟩ : Vs)) = _
    rw [h1, h2]
  unfold appE
  rw [hp, hd]
  rfl
theorem sub_ok (x y : Int) (x0 : 0 ≤ x) (x1 : x ≤ 1048576) (y0 : 0 ≤ y) (y1 : y ≤ 1048576) : subOk ⟨x, 0, 0, 0⟩ ⟨y, 0, 0, 0⟩ = decide (y ≤ x) := by
  unfold subOk
  rw [isIt_n x0 x1, isIt_n y0 y1]
  unfold lessIt
  by_cases h : y ≤ x
  · rw [decide_eq_true h]
    simp
    omega
  · rw [decide_eq_false h]
    simp
    omega
abbrev s2n (n : Int) : Ec := ⟨[(kA, ⟨[(kX, ⟨n, 0, 0, 0⟩)], [], 1⟩)], [(1, (2, ⟨14, 0, it0⟩))], [], []⟩
theorem sS_peek (c0 : 1 ≤ c) (c1 : c ≤ 1048576) : peekE (s1 n) (sS c) = (rp0, false) := by
  unfold peekE
  rw [if_neg (by rw [sS_may c0 c1]; exact Bool.noConfusion)]
  rfl
theorem app_no (n0 : 1 ≤ n) (n1 : n ≤ 1048576) (c0 : 1 ≤ c) (c1 : c ≤ 1048576) (h : n < c) : appE (s1 n) (sS c) = (⟨14, 0, it0⟩, true, s2n n) := by
  have hs := sub_ok n c (by omega) n1 (by omega) c1
  rw [decide_eq_false (by omega)] at hs
  have hi := isIt_n (show 0 ≤ c by omega) c1
  have hk : whoB kX = true := by kernel_rfl
  have hd : doV (atV (s1 n) kA) (sS c) = (⟨14, 0, it0⟩, ⟨[(kX, ⟨n, 0, 0, 0⟩)], [], 1⟩) := by
    have e1 : takeE [(kX, ⟨n, 0, 0, 0⟩)] kX ⟨c, 0, 0, 0⟩ = 14 := by
      unfold takeE
      rw [if_pos ⟨hk, hi⟩]
      exact if_neg (by show ¬ subOk ⟨n, 0, 0, 0⟩ ⟨c, 0, 0, 0⟩ = true; rw [hs]; exact Bool.noConfusion)
    have e2 : takeP [(kX, ⟨n, 0, 0, 0⟩)] kX ⟨c, 0, 0, 0⟩ = [(kX, ⟨n, 0, 0, 0⟩)] := by
      unfold takeP
      rw [if_pos ⟨hk, hi⟩]
      exact if_neg (by show ¬ subOk ⟨n, 0, 0, 0⟩ ⟨c, 0, 0, 0⟩ = true; rw [hs]; exact Bool.noConfusion)
    show ((⟨takeE [(kX, ⟨n, 0, 0, 0⟩)] kX ⟨c, 0, 0, 0⟩, 0, it0⟩ : Rpl), (⟨takeP [(kX, ⟨n, 0, 0, 0⟩)] kX ⟨c, 0, 0, 0⟩, [], 1⟩ : Vs)) = _
    rw [e1, e2]
  unfold appE
  rw [sS_peek c0 c1, hd]
  rfl
abbrev qS (n c : Int) : Ps := layP [(kX, ⟨n, 0, 0, 0⟩)] kX ⟨n - c, 0, 0, 0⟩
abbrev s2 (n c : Int) : Ec := ⟨(setV (s1 n) kA ⟨qS n c, [], 1⟩).vs, [(1, (2, rp0))], [((1, 2), tnsOf (sS c))], []⟩
theorem app_yes (n0 : 1 ≤ n) (n1 : n ≤ 1048576) (c0 : 1 ≤ c) (c1 : c ≤ 1048576) (h : c ≤ n) : appE (s1 n) (sS c) = (rp0, true, s2 n c) := by
  have hs := sub_ok n c (by omega) n1 (by omega) c1
  rw [decide_eq_true h] at hs
  have hi := isIt_n (show 0 ≤ c by omega) c1
  have hk : whoB kX = true := by kernel_rfl
  have hd : doV (atV (s1 n) kA) (sS c) = (rp0, ⟨qS n c, [], 1⟩) := by
    have e1 : takeE [(kX, ⟨n, 0, 0, 0⟩)] kX ⟨c, 0, 0, 0⟩ = 0 := by
      unfold takeE
      rw [if_pos ⟨hk, hi⟩]
      exact if_pos hs
    have e2 : takeP [(kX, ⟨n, 0, 0, 0⟩)] kX ⟨c, 0, 0, 0⟩ = qS n c := by
      unfold takeP
      rw [if_pos ⟨hk, hi⟩]
      exact if_pos hs
    show ((⟨takeE [(kX, ⟨n, 0, 0, 0⟩)] kX ⟨c, 0, 0, 0⟩, 0, it0⟩ : Rpl), (⟨takeP [(kX, ⟨n, 0, 0, 0⟩)] kX ⟨c, 0, 0, 0⟩, [], 1⟩ : Vs)) = _
    rw [e1, e2]
  unfold appE
  rw [sS_peek c0 c1, hd]
  rfl
theorem s2_atA : purseA (atV (s2 n c) kA).ps kX = ⟨n - c, 0, 0, 0⟩ := by
  have h := atV_set (s1 n) kA kA ⟨qS n c, [], 1⟩
  rw [if_pos rfl] at h
  have h2 : atV (s2 n c) kA = ⟨qS n c, [], 1⟩ := h
  rw [h2]
  exact purse_same _ _ _
theorem s2_atB : atV (s2 n c) kB = vs0 := by
  have h := atV_set (s1 n) kA kB ⟨qS n c, [], 1⟩
  rw [if_neg (by decide)] at h
  exact h
abbrev s3 (n c : Int) : Ec := ⟨(setV (s2 n c) kB ⟨[(kY, ⟨c, 0, 0, 0⟩)], [], 1⟩).vs, [(1, (2, rp0))], [((1, 2), tnsOf (sS c))], [((1, 2), ())]⟩
theorem app_sA (c0 : 1 ≤ c) (c1 : c ≤ 1048576) : appE (s2 n c) (sA c) = (rp0, true, s3 n c) := by
  have hp : peekE (s2 n c) (sA c) = (rp0, false) := by
    unfold peekE
    rw [if_neg (by rw [sA_may c0 c1]; exact Bool.noConfusion)]
    rfl
  obtain ⟨_, h2⟩ := put_new (k := kY) (by kernel_rfl) c0 c1
  have hd : doV (atV (s2 n c) kB) (sA c) = (rp0, ⟨[(kY, ⟨c, 0, 0, 0⟩)], [], 1⟩) := by
    rw [s2_atB]
    show (rp0, (⟨putP [] kY ⟨c, 0, 0, 0⟩, [], 1⟩ : Vs)) = _
    rw [h2]
  unfold appE
  rw [hp, hd]
  rfl
theorem s3_atB : purseA (atV (s3 n c) kB).ps kY = ⟨c, 0, 0, 0⟩ := by
  have h := atV_set (s2 n c) kB kB ⟨[(kY, ⟨c, 0, 0, 0⟩)], [], 1⟩
  rw [if_pos rfl] at h
  have h2 : atV (s3 n c) kB = ⟨[(kY, ⟨c, 0, 0, 0⟩)], [], 1⟩ := h
  rw [h2]
  rfl
theorem app_sA2 (c0 : 1 ≤ c) (c1 : c ≤ 1048576) : appE (s3 n c) (sA c) = (rp0, false, s3 n c) := by
  have hp : peekE (s3 n c) (sA c) = (rp0, true) := by
    unfold peekE
    rw [if_neg (by rw [sA_may c0 c1]; exact Bool.noConfusion)]
    rfl
  unfold appE
  rw [hp]
  rfl
abbrev s4 (n c : Int) : Ec := ⟨(setV (s3 n c) kA (atV (s3 n c) kA)).vs, [(1, (2, rp0))], [], [((1, 2), ())]⟩
theorem app_sD : appE (s3 n c) sD = (rp0, true, s4 n c) := by
  have hp : peekE (s3 n c) sD = (rp0, false) := by
    unfold peekE
    rw [if_neg (by rw [sD_may]; exact Bool.noConfusion)]
    rfl
  unfold appE
  rw [hp]
  rfl
theorem app_sD2 : appE (s4 n c) sD = (rp0, false, s4 n c) := by
  have hp : peekE (s4 n c) sD = (rp0, true) := by
    unfold peekE
    rw [if_neg (by rw [sD_may]; exact Bool.noConfusion)]
    rfl
  unfold appE
  rw [hp]
  rfl
end
end Go.Proofs.YtlmhakmoioogaaaGreat
end
section
set_option linter.unusedSimpArgs false
set_option linter.unusedVariables false
namespace Go.Proofs.YtlmhakmoioogaaaGreat
open Go.RowKit Go.Sl
set_option maxRecDepth 100000 in
theorem arrived_spec {eb : Nat} {e : Ec} (cl sq : Int) {b : Bool} (hb : (getL e.ar (cl, sq)).isSome = b) (W w : World) (R : List HP) (hS : St W (ecP eb e :: R) w) :
    Calls Tryz.prog 19 #[.pointer (some ⟨eb, 0, none⟩), .int .i64 cl, .int .i64 sq] w fun x w' => x = .returned (.bool b) ∧ St W (ecP eb e :: R) w' := by
  obtain ⟨m1, m2, m3, m4, E, hp, hn, hS⟩ := ecOpenR hS
  have hS1 := evOpen hS
  clear hS
  have hS := hS1
  clear hS1
  have Hp := Lib.hid hp
  clear hp hn
  cases hg : getL e.ar (cl, sq) with
  | none =>
    rw [hg] at hb
    obtain rfl : false = b := hb
    go_enter Tryz.func19, Tryz.ntmps19
    go_wp2_with (first | go_big_skip | (refine zl1 hS ?_) | ((with_reducible apply wl_alook0 (ek := eW) (ev := eU) (k := (cl, sq)) hS); (with_reducible rfl); rfl; rfl; rfl; (exact takeS); exact mAr; exact kW; exact zA; exact hg; (refine frS ?_)))
    go_ret
    exact ⟨rfl, ecShut Hp.out (hS.sel (by exact selS))⟩
  | some u =>
    rw [hg] at hb
    obtain rfl : true = b := hb
    go_enter Tryz.func19, Tryz.ntmps19
    go_wp2_with (first | go_big_skip | (refine zl1 hS ?_) | ((with_reducible apply wl_alook1 (ek := eW) (ev := eU) (k := (cl, sq)) hS); (with_reducible rfl); rfl; rfl; rfl; (exact takeS); exact mAr; exact kW; exact zA; exact hg; (refine frS ?_)))
    go_ret
    exact ⟨rfl, ecShut Hp.out (hS.sel (by exact selS))⟩
end Go.Proofs.YtlmhakmoioogaaaGreat
end
