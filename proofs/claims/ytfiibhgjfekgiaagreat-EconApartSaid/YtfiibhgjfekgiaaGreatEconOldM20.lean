/-
  An economy as a resource: its block, its maps, the vaults that the first of them points to. Over any program.
  Requests, replies, places compared field by field. For all of them.
  What may be requested: isPlace, rest, counts, sends, orders, cancels, bare. For every request.
  What may be requested: of each kind, through the table of its functions. For every request.
-/
import Derived.Test.YtfiibhgjfekgiaaGreatEconOldM5
import Derived.Test.YtfiibhgjfekgiaaGreatEconOldM19
import Derived.Laws.StructEq
section
set_option linter.unusedSimpArgs false
set_option linter.unusedVariables false
namespace Go.Sl
open Go.RowKit
section
variable {W w : World} {R A : List HP}
theorem sats_all {h : Frag} {R : List HP} (hs : sats R h) : sep (fun _ => True) (sats R) h := ⟨fun _ => false, trivial, by
  have : cutOut (fun _ => false) h = h := by funext b; rfl
  rw [this]; exact hs⟩
theorem satsOpen : ∀ {A : List HP} {h : Frag}, sep (sats A) (sats R) h → sats (A ++ R) h
  | [], _, ⟨_, _, h2⟩ => sats_cut h2
  | _ :: _, _, hs => sep_mono (fun _ x => x) (fun _ x => satsOpen x) (sep_assoc hs)
theorem satsShut : ∀ {A : List HP} {h : Frag}, sats (A ++ R) h → sep (sats A) (sats R) h
  | [], _, hs => sats_all hs
  | _ :: _, _, hs => sep_join (sep_mono (fun _ x => x) (fun _ x => satsShut x) hs)
theorem St.openS (h : St W (sats A :: R) w) : St W (A ++ R) w := ⟨h.os, h.tape, h.output, satsOpen h.sat⟩
theorem St.shutS (A : List HP) (h : St W (A ++ R) w) : St W (sats A :: R) w := ⟨h.os, h.tape, h.output, satsShut h.sat⟩
theorem sats_permE {L L' : List HP} (hp : L.Perm L') : ∀ {h : Frag}, sats L h → sats L' h := by
  induction hp with
  | nil => exact fun h => h
  | cons _ _ ih => exact fun h => sep_mono (fun _ x => x) (fun _ x => ih x) h
  | swap _ _ _ => exact fun h => sep_swap h
  | trans _ _ i1 i2 => exact fun h => i2 (i1 h)
end
section
variable {κ ν : Type} [DecidableEq κ]
theorem perm_get {k : κ} {v : ν} : ∀ {l : List (κ × ν)}, (l.map (·.1)).Nodup → getL l k = some v → l.Perm ((k, v) :: delL l k)
  | [], _, h => (by cases h)
  | y :: l, hn, h => by
    rw [List.map_cons, List.nodup_cons] at hn
    have e : delL (y :: l) k = if y.1 = k then delL l k else y :: delL l k := by
      unfold delL
      rw [List.filter_cons]
      by_cases hk : y.1 = k <;> simp [hk]
    by_cases hk : y.1 = k
    · have h0 : ∀ x ∈ l, x.1 ≠ k := fun x hx e => hn.1 (List.mem_map.2 ⟨x, hx, e.trans hk.symm⟩)
      have hv : y = (k, v) := by
        have h2 := getL_some h
        rcases List.mem_cons.1 h2 with h2 | h2
        · exact h2.symm
        · exact absurd rfl (h0 _ h2)
      rw [e, if_pos hk, delL_no h0, hv]
    · have h2 : getL l k = some v := by
        unfold getL at h ⊢
        rw [List.find?_cons] at h
        simpa [hk] using h
      rw [e, if_neg hk]
      exact ((perm_get hn.2 h2).cons y).trans (List.Perm.swap _ _ _)
end
end Go.Sl
namespace Go.Proofs.YtfiibhgjfekgiaaGreat
open Go.RowKit Go.Sl
abbrev eN (b : Nat) : Value := .pointer (some ⟨b, 0, none⟩)
abbrev eI (z : Int) : Value := .int .i64 z
abbrev eU (_ : Unit) : Value := .bool true
abbrev eW (x : Int × Int) : Value := .agg #[.int .i64 x.1, .int .i64 x.2]
abbrev eSs (x : Int × Rpl) : Value := .agg #[.int .i64 x.1, .int .i64 x.2.err, .int .i64 x.2.id, .int .i64 x.2.has.x0, .int .i64 x.2.has.x1, .int .i64 x.2.has.x2, .int .i64 x.2.has.x3]
abbrev eTn (t : Tns) : Value := .agg #[.int .i64 t.client, .int .i64 t.seq, .string t.ak, .string t.aw, .string t.tk, .string t.tw, .int .i64 t.item, .int .i64 t.cnt]
abbrev Ev := List (ByteArray × (Nat × Vs))
def ptrsE (E : Ev) : List (ByteArray × Nat) := E.map fun x => (x.1, x.2.1)
def stripE (E : Ev) : List (ByteArray × Vs) := E.map fun x => (x.1, x.2.2)
/-- A vault, its parts owned. -/
def vaultP (vb : Nat) (V : Vs) : HP := fun f => ∃ mb bb : Nat, sats [blk vb [.map (some mb), .pointer (some ⟨bb, 0, none⟩), .int .i64 V.n] 86, amap eS eP mb V.ps, bookL bb V.L V.n] f
/-- All vaults. -/
def vauP (E : Ev) : HP := sats (E.map fun x => vaultP x.2.1 x.2.2)
abbrev ecL (eb m1 m2 m3 m4 : Nat) (E : Ev) (e : Ec) (R : List HP) : List HP :=
  blk eb [.map (some m1), .map (some m2), .map (some m3), .map (some m4)] 53 :: amap eS eN m1 (ptrsE E) :: vauP E :: amap eI eSs m2 e.ss :: amap eW eTn m3 e.ts :: amap eW eU m4 e.ar :: R
/-- An economy, its parts owned. -/
def ecP (eb : Nat) (e : Ec) : HP := fun f => ∃ (m1 m2 m3 m4 : Nat) (E : Ev), (stripE E).Perm e.vs ∧ sats (ecL eb m1 m2 m3 m4 E e []) f
section
variable {W w : World} {R L : List HP} {vb eb m1 m2 m3 m4 : Nat} {V : Vs} {E E' : Ev} {e : Ec} {k : ByteArray}
theorem vaultOpen (h : St W (vaultP vb V :: R) w) : ∃ mb bb, St W (vaultL vb mb bb V.ps V.L V.n R) w := by
  obtain ⟨mb, h⟩ := St.ex h
  obtain ⟨bb, h⟩ := St.ex h
  exact ⟨mb, bb, h.openS⟩
theorem vaultShut {mb bb : Nat} (h : St W (vaultL vb mb bb V.ps V.L V.n R) w) : St W (vaultP vb V :: R) w :=
  St.mkEx mb (St.mkEx bb (St.shutS [_, _, _] h))
theorem vauOpen {x : ByteArray × (Nat × Vs)} (h : St W (vauP (x :: E) :: R) w) : St W (vaultP x.2.1 x.2.2 :: vauP E :: R) w := St.split h
theorem vauShut {x : ByteArray × (Nat × Vs)} (h : St W (vaultP x.2.1 x.2.2 :: vauP E :: R) w) : St W (vauP (x :: E) :: R) w := St.join h
theorem vauPerm (hp : E.Perm E') (h : St W (vauP E :: R) w) : St W (vauP E' :: R) w := h.imp fun _ => sats_permE (hp.map _)
theorem ecOpen (h : St W (ecP eb e :: R) w) : ∃ m1 m2 m3 m4 E, (stripE E).Perm e.vs ∧ St W (ecL eb m1 m2 m3 m4 E e R) w := by
  obtain ⟨m1, h⟩ := St.ex h
  obtain ⟨m2, h⟩ := St.ex h
  obtain ⟨m3, h⟩ := St.ex h
  obtain ⟨m4, h⟩ := St.ex h
  obtain ⟨E, h⟩ := St.ex h
  obtain ⟨hp, h⟩ := St.and h
  exact ⟨m1, m2, m3, m4, E, hp, h.openS⟩
theorem ecShut (hp : (stripE E).Perm e.vs) (h : St W (ecL eb m1 m2 m3 m4 E e R) w) : St W (ecP eb e :: R) w :=
  St.mkEx m1 (St.mkEx m2 (St.mkEx m3 (St.mkEx m4 (St.mkEx E (St.mkAnd hp (St.shutS [_, _, _, _, _, _] h))))))
theorem ptrs_keys (E : Ev) : (ptrsE E).map (·.1) = E.map (·.1) := by unfold ptrsE; rw [List.map_map]; rfl
theorem strip_keys (E : Ev) : (stripE E).map (·.1) = E.map (·.1) := by unfold stripE; rw [List.map_map]; rfl
theorem ptrs_del (E : Ev) (k : ByteArray) : delL (ptrsE E) k = ptrsE (delL E k) := by unfold ptrsE delL; rw [List.filter_map]; rfl
theorem strip_del (E : Ev) (k : ByteArray) : delL (stripE E) k = stripE (delL E k) := by unfold stripE delL; rw [List.filter_map]; rfl
theorem getL_map {α β : Type} (f : α → β) (l : List (ByteArray × α)) (k : ByteArray) : getL (l.map fun x => (x.1, f x.2)) k = (getL l k).map f := by
  unfold getL
  rw [List.find?_map]
  show ((l.find? fun x => decide (x.1 = k)).map fun x => (x.1, f x.2)).map (·.2) = _
  rw [Option.map_map, Option.map_map]
  rfl
theorem ptrs_get (E : Ev) (k : ByteArray) : getL (ptrsE E) k = (getL E k).map (·.1) := getL_map (fun x : Nat × Vs => x.1) E k
theorem strip_get (E : Ev) (k : ByteArray) : getL (stripE E) k = (getL E k).map (·.2) := getL_map (fun x : Nat × Vs => x.2) E k
/-- What stands at a key, as the plain economy says it. -/
theorem vs_get (hn : (E.map (·.1)).Nodup) (hp : (stripE E).Perm e.vs) (k : ByteArray) : getL e.vs k = (getL E k).map (·.2) := by
  rw [← getL_perm (by rw [strip_keys]; exact hn) hp k, strip_get]
end
end Go.Proofs.YtfiibhgjfekgiaaGreat
end
section
set_option linter.unusedSimpArgs false
set_option linter.unusedVariables false
namespace Go.Proofs.YtfiibhgjfekgiaaGreat
open Go.RowKit Go.Sl
set_option maxRecDepth 100000 in
theorem eqPlace (k u k2 u2 : ByteArray) (d : Nat) (w : World) : (Op.equalIn (d + 2) 23 (.agg #[.string k, .string u]) (.agg #[.string k2, .string u2])).run Tryz.prog w = .ok (k.toList == k2.toList && u.toList == u2.toList) w := by
  have u9 := Tryz.underlying9
  have a9 := Tryz.isAgg9
  have z9 := Tryz.sizeOf9
  have hs : Tryz.prog.stoodInHeld 23 = false := by kernel_rfl
  rw [Op.equalIn]
  simp only [Sem.run_bind, run_underlying Tryz.underlying23, Result.andThen_ok, run_program, hs, Bool.false_eq_true, if_false]
  rw [← Array.forIn_toList]
  simp only [List.forIn_cons, List.forIn_nil]
  go_simp
  by_cases h1 : k.toList = k2.toList <;> by_cases h2 : u.toList = u2.toList <;> simp [h1, h2]
def Opn.eqB (o q : Opn) : Bool :=
  decide (o.kind = q.kind) && (decide (o.client = q.client) && (decide (o.seq = q.seq) && (decide (o.ak.toList = q.ak.toList) && (decide (o.aw.toList = q.aw.toList) && (decide (o.tk.toList = q.tk.toList) && (decide (o.tw.toList = q.tw.toList) &&
    (decide (o.item = q.item) && (decide (o.cnt = q.cnt) && (decide (o.price = q.price) && (decide (o.buy = q.buy) && decide (o.id = q.id)))))))))))
set_option maxRecDepth 100000 in
set_option maxHeartbeats 2000000 in
theorem eqReq (o q : Opn) (w : World) : (Op.equalIn 10000 93 (.agg o.cells.toArray) (.agg q.cells.toArray)).run Tryz.prog w = .ok (o.eqB q) w := by
  have u9 := Tryz.underlying9
  have a9 := Tryz.isAgg9
  have z9 := Tryz.sizeOf9
  have u3 := Tryz.underlying3
  have a3 := Tryz.isAgg3
  have z3 := Tryz.sizeOf3
  have u4 := Tryz.underlying4
  have a4 := Tryz.isAgg4
  have z4 := Tryz.sizeOf4
  have u5 := Tryz.underlying23
  have a5 := Tryz.isAgg23
  have z5 := Tryz.sizeOf23
  have hp := fun k u k2 u2 w => eqPlace k u k2 u2 9997 w
  have hs : Tryz.prog.stoodInHeld 93 = false := by kernel_rfl
  obtain ⟨o0, o1, o2, o3, o4, o5, o6, o7, o8, o9, o10, o11⟩ := o
  obtain ⟨q0, q1, q2, q3, q4, q5, q6, q7, q8, q9, q10, q11⟩ := q
  unfold Opn.eqB Opn.cells
  dsimp only
  rw [Op.equalIn]
  simp only [Sem.run_bind, run_underlying Tryz.underlying93, Result.andThen_ok, run_program, hs, Bool.false_eq_true, if_false]
  rw [← Array.forIn_toList]
  simp only [List.forIn_cons, List.forIn_nil]
  go_simp
  by_cases h : o0 = q0
  case neg => simp [h]
  rw [if_pos h, decide_eq_true h, Bool.true_and]
  clear h
  by_cases h : o1 = q1
  case neg => simp [h]
  rw [if_pos h, decide_eq_true h, Bool.true_and]
  clear h
  by_cases h : o2 = q2
  case neg => simp [h]
  rw [if_pos h, decide_eq_true h, Bool.true_and]
  clear h
  by_cases h : o3.toList = q3.toList
  case neg => simp [h]
  by_cases h2 : o4.toList = q4.toList
  case neg => simp [h2]
  rw [if_neg (fun f => f h h2), decide_eq_true h, decide_eq_true h2, Bool.true_and, Bool.true_and]
  clear h h2
  by_cases h : o5.toList = q5.toList
  case neg => simp [h]
  by_cases h2 : o6.toList = q6.toList
  case neg => simp [h2]
  rw [if_neg (fun f => f h h2), decide_eq_true h, decide_eq_true h2, Bool.true_and, Bool.true_and]
  clear h h2
  by_cases h : o7 = q7
  case neg => simp [h]
  rw [if_pos h, decide_eq_true h, Bool.true_and]
  clear h
  by_cases h : o8 = q8
  case neg => simp [h]
  rw [if_pos h, decide_eq_true h, Bool.true_and]
  clear h
  by_cases h : o9 = q9
  case neg => simp [h]
  rw [if_pos h, decide_eq_true h, Bool.true_and]
  clear h
  by_cases h : o10 = q10
  case neg => simp [h]
  rw [if_pos h, decide_eq_true h, Bool.true_and]
  clear h
  by_cases h : o11 = q11 <;> simp [h]
theorem eqItemsD (d : Nat) (x0 x1 x2 x3 y0 y1 y2 y3 : Int) (w : World) : (Op.equalIn (d + 2) 32 (.agg #[.int .i64 x0, .int .i64 x1, .int .i64 x2, .int .i64 x3]) (.agg #[.int .i64 y0, .int .i64 y1, .int .i64 y2, .int .i64 y3])).run Tryz.prog w = .ok (x0 == y0 && (x1 == y1 && (x2 == y2 && x3 == y3))) w := by
  have u3 := Tryz.underlying3
  have a3 := Tryz.isAgg3
  have z3 := Tryz.sizeOf3
  rw [Op.equalIn]
  simp only [Sem.run_bind, run_underlying Tryz.underlying32, Result.andThen_ok]
  simp only [Std.Legacy.Range.forIn_eq_forIn_range', Std.Legacy.Range.size, Nat.sub_zero, Nat.add_sub_cancel, Nat.div_one, List.range'_succ, List.range'_zero, List.forIn_cons, List.forIn_nil]
  go_simp
  by_cases h1 : x0 = y0 <;> by_cases h2 : x1 = y1 <;> by_cases h3 : x2 = y2 <;> by_cases h4 : x3 = y3 <;> simp [h1, h2, h3, h4]
/-- Replies. -/
def Rpl.eqB (r q : Rpl) : Bool := decide (r.err = q.err) && (decide (r.id = q.id) && (r.has.x0 == q.has.x0 && (r.has.x1 == q.has.x1 && (r.has.x2 == q.has.x2 && r.has.x3 == q.has.x3))))
set_option maxRecDepth 100000 in
set_option maxHeartbeats 2000000 in
theorem eqRpl (r q : Rpl) (w : World) : (Op.equalIn 10000 34 (.agg #[.int .i64 r.err, .int .i64 r.id, .int .i64 r.has.x0, .int .i64 r.has.x1, .int .i64 r.has.x2, .int .i64 r.has.x3]) (.agg #[.int .i64 q.err, .int .i64 q.id, .int .i64 q.has.x0, .int .i64 q.has.x1, .int .i64 q.has.x2, .int .i64 q.has.x3])).run Tryz.prog w = .ok (r.eqB q) w := by
  have u3 := Tryz.underlying3
  have a3 := Tryz.isAgg3
  have z3 := Tryz.sizeOf3
  have u4 := Tryz.underlying30
  have a4 := Tryz.isAgg30
  have z4 := Tryz.sizeOf30
  have u5 := Tryz.underlying32
  have a5 := Tryz.isAgg32
  have z5 := Tryz.sizeOf32
  have hp := eqItemsD 9997
  have hs : Tryz.prog.stoodInHeld 34 = false := by kernel_rfl
  obtain ⟨r0, r1, r2, r3, r4, r5⟩ := r
  obtain ⟨q0, q1, q2, q3, q4, q5⟩ := q
  unfold Rpl.eqB
  dsimp only
  rw [Op.equalIn]
  simp only [Sem.run_bind, run_underlying Tryz.underlying34, Result.andThen_ok, run_program, hs, Bool.false_eq_true, if_false]
  rw [← Array.forIn_toList]
  simp only [List.forIn_cons, List.forIn_nil]
  go_simp
  by_cases h : r0 = q0
  case neg => simp [h]
  rw [if_pos h, decide_eq_true h, Bool.true_and]
  clear h
  by_cases h : r1 = q1
  case neg => simp [h]
  rw [if_pos h, decide_eq_true h, Bool.true_and]
  clear h
  by_cases h1 : r2 = q2 <;> by_cases h2 : r3 = q3 <;> by_cases h3 : r4 = q4 <;> by_cases h4 : r5 = q5 <;> simp [h1, h2, h3, h4]
end Go.Proofs.YtfiibhgjfekgiaaGreat
end
section
set_option linter.unusedSimpArgs false
set_option linter.unusedVariables false
namespace Go.Proofs.YtfiibhgjfekgiaaGreat
open Go.RowKit Go.Sl
set_option maxRecDepth 100000 in
theorem isPl_spec (k u : ByteArray) (W w : World) (R : List HP) (hS : St W R w) :
    Calls Tryz.prog 44 #[.agg #[.string k, .string u]] w fun e w' => e = .returned (.bool (plcB k u)) ∧ St W R w' := by
  go_enter Tryz.func44, Tryz.ntmps44
  by_cases h1 : 1 ≤ k.size
  case neg =>
    have e : plcB k u = false := by unfold plcB whoB; simp; omega
    have d1 : decide ((1 : Int) ≤ (k.size : Int)) = false := by simp; omega
    rw [e]
    go_wp2_with (first | go_big_skip | (refine zbx hS ?_; clear hS; intro b w hS) | (refine zl1 hS ?_))
    go_ret
    exact ⟨rfl, hS.drop⟩
  have d1 : (1 : Int) ≤ (k.size : Int) := by omega
  by_cases h2 : k.size ≤ 16
  case neg =>
    have e : plcB k u = false := by unfold plcB whoB; simp; omega
    have d2 : decide ((k.size : Int) ≤ 16) = false := by simp; omega
    rw [e]
    go_wp2_with (first | go_big_skip | (refine zbx hS ?_; clear hS; intro b w hS) | (refine zl1 hS ?_))
    go_ret
    exact ⟨rfl, hS.drop⟩
  have d2 : (k.size : Int) ≤ 16 := by omega
  by_cases h3 : 1 ≤ u.size
  case neg =>
    have e : plcB k u = false := by unfold plcB whoB; simp; omega
    have d3 : decide ((1 : Int) ≤ (u.size : Int)) = false := by simp; omega
    rw [e]
    go_wp2_with (first | go_big_skip | (refine zbx hS ?_; clear hS; intro b w hS) | (refine zl1 hS ?_))
    go_ret
    exact ⟨rfl, hS.drop⟩
  have d3 : (1 : Int) ≤ (u.size : Int) := by omega
  by_cases h4 : u.size ≤ 16
  case neg =>
    have e : plcB k u = false := by unfold plcB whoB; simp; omega
    have d4 : decide ((u.size : Int) ≤ 16) = false := by simp; omega
    rw [e]
    go_wp2_with (first | go_big_skip | (refine zbx hS ?_; clear hS; intro b w hS) | (refine zl1 hS ?_))
    go_ret
    exact ⟨rfl, hS.drop⟩
  have d4 : (u.size : Int) ≤ 16 := by omega
  have e : plcB k u = true := by unfold plcB whoB; simp; omega
  rw [e]
  go_wp2_with (first | go_big_skip | (refine zbx hS ?_; clear hS; intro b w hS) | (refine zl1 hS ?_))
  go_ret
  exact ⟨rfl, hS.drop⟩
theorem isPl_at {k u : ByteArray} {r : Bool} (h : plcB k u = r) (W w : World) (R : List HP) (hS : St W R w) :
    Calls Tryz.prog 44 #[.agg #[.string k, .string u]] w fun e w' => e = .returned (.bool r) ∧ St W R w' := h ▸ isPl_spec k u W w R hS
abbrev oV (kd cl sq : Int) (ak aw tk tw : ByteArray) (it ct pr : Int) (bu : Bool) (i : Int) : Value :=
  .agg #[.int .i64 kd, .int .i64 cl, .int .i64 sq, .string ak, .string aw, .string tk, .string tw, .int .i64 it, .int .i64 ct, .int .i64 pr, .bool bu, .int .i64 i]
section
variable (kd cl sq : Int) (ak aw tk tw : ByteArray) (it ct pr : Int) (bu : Bool) (i : Int) (W w : World) (R : List HP)
set_option maxRecDepth 100000 in
theorem rest_spec (hS : St W R w) :
    Calls Tryz.prog 66 #[oV kd cl sq ak aw tk tw it ct pr bu i] w fun e w' => e = .returned (oV 0 0 0 ⟨#[]⟩ ⟨#[]⟩ tk tw it ct pr bu i) ∧ St W R w' := by
  go_enter Tryz.func66, Tryz.ntmps66
  go_wp2_with (first | ((fail_if_success (have := mA)); (refine zbx hS ?_; clear hS; have mA : Nat := 0; intro bA w hS)) | (refine zal hS ?_; clear hS; intro b w hS) | (refine zs1 hS ?_; clear hS; intro w hS) | (refine zsN hS ?_; clear hS; intro w hS) | (refine zlN hS ?_))
  (apply bp_cell; rfl; rfl; rfl; exact hS; decide +kernel; (exact cesS); kernel_rfl)
  exact ⟨rfl, hS.drop.drop⟩
end
theorem noB_list (u : ByteArray) : decide (u.toList = (⟨#[]⟩ : ByteArray).toList) = noB u := by
  rw [Lib.toList_data, Lib.toList_data]
  obtain ⟨⟨l⟩⟩ := u
  cases l <;> simp [noB, ByteArray.size]
theorem eq_rest (tk tw : ByteArray) (it ct pr : Int) (bu : Bool) (i : Int) (w : World) :
    (Op.equalIn 10000 93 (oV 0 0 0 ⟨#[]⟩ ⟨#[]⟩ tk tw it ct pr bu i) (oV 0 0 0 ⟨#[]⟩ ⟨#[]⟩ ⟨#[]⟩ ⟨#[]⟩ it ct 0 false 0)).run Tryz.prog w = .ok (noB tk && (noB tw && (decide (pr = 0) && (!bu && decide (i = 0))))) w := by
  have h := eqReq ⟨0, 0, 0, ⟨#[]⟩, ⟨#[]⟩, tk, tw, it, ct, pr, bu, i⟩ ⟨0, 0, 0, ⟨#[]⟩, ⟨#[]⟩, ⟨#[]⟩, ⟨#[]⟩, it, ct, 0, false, 0⟩ w
  refine h.trans ?_
  unfold Opn.eqB
  simp only [noB_list, decide_true, Bool.true_and]
  cases bu <;> rfl
theorem eq_bare (tk tw : ByteArray) (it ct pr : Int) (bu : Bool) (i : Int) (w : World) :
    (Op.equalIn 10000 93 (oV 0 0 0 ⟨#[]⟩ ⟨#[]⟩ tk tw it ct pr bu i) (oV 0 0 0 ⟨#[]⟩ ⟨#[]⟩ ⟨#[]⟩ ⟨#[]⟩ 0 0 0 false 0)).run Tryz.prog w = .ok (noB tk && (noB tw && (decide (it = 0) && (decide (ct = 0) && (decide (pr = 0) && (!bu && decide (i = 0))))))) w := by
  have h := eqReq ⟨0, 0, 0, ⟨#[]⟩, ⟨#[]⟩, tk, tw, it, ct, pr, bu, i⟩ ⟨0, 0, 0, ⟨#[]⟩, ⟨#[]⟩, ⟨#[]⟩, ⟨#[]⟩, 0, 0, 0, false, 0⟩ w
  refine h.trans ?_
  unfold Opn.eqB
  simp only [noB_list, decide_true, Bool.true_and]
  cases bu <;> rfl
theorem eq_id (tk tw : ByteArray) (it ct pr : Int) (bu : Bool) (i : Int) (w : World) :
    (Op.equalIn 10000 93 (oV 0 0 0 ⟨#[]⟩ ⟨#[]⟩ tk tw it ct pr bu i) (oV 0 0 0 ⟨#[]⟩ ⟨#[]⟩ ⟨#[]⟩ ⟨#[]⟩ 0 0 0 false i)).run Tryz.prog w = .ok (noB tk && (noB tw && (decide (it = 0) && (decide (ct = 0) && (decide (pr = 0) && !bu))))) w := by
  have h := eqReq ⟨0, 0, 0, ⟨#[]⟩, ⟨#[]⟩, tk, tw, it, ct, pr, bu, i⟩ ⟨0, 0, 0, ⟨#[]⟩, ⟨#[]⟩, ⟨#[]⟩, ⟨#[]⟩, 0, 0, 0, false, i⟩ w
  refine h.trans ?_
  unfold Opn.eqB
  simp only [noB_list, decide_true, Bool.true_and, Bool.and_true]
  cases bu <;> rfl
section
variable (kd cl sq : Int) (ak aw tk tw : ByteArray) (it ct pr : Int) (bu : Bool) (i : Int) (W w : World) (R : List HP)
set_option maxRecDepth 100000 in
set_option maxHeartbeats 2000000 in
theorem counts_spec (hS : St W R w) :
    Calls Tryz.prog 39 #[oV kd cl sq ak aw tk tw it ct pr bu i] w fun e w' => e = .returned (.bool (countsB ⟨kd, cl, sq, ak, aw, tk, tw, it, ct, pr, bu, i⟩)) ∧ St W R w' := by
  go_enter Tryz.func39, Tryz.ntmps39
  by_cases h1 : 0 ≤ it
  case neg =>
    have e : countsB ⟨kd, cl, sq, ak, aw, tk, tw, it, ct, pr, bu, i⟩ = false := by unfold countsB cntB; simp; omega
    have d1 : decide (0 ≤ it) = false := by simpa using h1
    rw [e]
    go_wp2_with (first | (refine zbx hS ?_; clear hS; intro b w hS))
    refine wp_region_reads (by kernel_rfl) (by kernel_rfl) hS ?_
    repeat (first | go_big_quiet_skip | (refine zq1 ?_) | (refine zqN ?_) | (apply wq_call; rfl; (intro w; apply exec_callF; (with_reducible rfl); decide +kernel; (focus (simp only [fD, List.map_cons, List.map_nil, Act.eval, fE, fF, fG, fH, Option.getD_some]; try rfl))); (intro w hS; exact rest_spec _ _ _ _ _ _ _ _ _ _ _ _ W w _ hS); (refine frS ?_)) | ((with_reducible apply wq_eqA); (with_reducible rfl); rfl; rfl; rfl; kernel_rfl; exact eq_rest tk tw it ct pr bu i; (refine frS ?_)) | (refine wq_pure rfl rfl ?_; intro K hK; go_big_quiet_op; go_big_quiet_on))
    clear hS
    intro w hS
    go_wp2_with fail
    go_ret
    exact ⟨by rfl, hS.drop⟩
  by_cases h2 : it < 4
  case neg =>
    have e : countsB ⟨kd, cl, sq, ak, aw, tk, tw, it, ct, pr, bu, i⟩ = false := by unfold countsB cntB; simp; omega
    have d2 : decide (it < 4) = false := by simpa using h2
    rw [e]
    go_wp2_with (first | (refine zbx hS ?_; clear hS; intro b w hS))
    refine wp_region_reads (by kernel_rfl) (by kernel_rfl) hS ?_
    repeat (first | go_big_quiet_skip | (refine zq1 ?_) | (refine zqN ?_) | (apply wq_call; rfl; (intro w; apply exec_callF; (with_reducible rfl); decide +kernel; (focus (simp only [fD, List.map_cons, List.map_nil, Act.eval, fE, fF, fG, fH, Option.getD_some]; try rfl))); (intro w hS; exact rest_spec _ _ _ _ _ _ _ _ _ _ _ _ W w _ hS); (refine frS ?_)) | ((with_reducible apply wq_eqA); (with_reducible rfl); rfl; rfl; rfl; kernel_rfl; exact eq_rest tk tw it ct pr bu i; (refine frS ?_)) | (refine wq_pure rfl rfl ?_; intro K hK; go_big_quiet_op; go_big_quiet_on))
    clear hS
    intro w hS
    go_wp2_with fail
    go_ret
    exact ⟨by rfl, hS.drop⟩
  by_cases h3 : 1 ≤ ct
  case neg =>
    have e : countsB ⟨kd, cl, sq, ak, aw, tk, tw, it, ct, pr, bu, i⟩ = false := by unfold countsB cntB; simp; omega
    have d3 : decide (1 ≤ ct) = false := by simpa using h3
    rw [e]
    go_wp2_with (first | (refine zbx hS ?_; clear hS; intro b w hS))
    refine wp_region_reads (by kernel_rfl) (by kernel_rfl) hS ?_
    repeat (first | go_big_quiet_skip | (refine zq1 ?_) | (refine zqN ?_) | (apply wq_call; rfl; (intro w; apply exec_callF; (with_reducible rfl); decide +kernel; (focus (simp only [fD, List.map_cons, List.map_nil, Act.eval, fE, fF, fG, fH, Option.getD_some]; try rfl))); (intro w hS; exact rest_spec _ _ _ _ _ _ _ _ _ _ _ _ W w _ hS); (refine frS ?_)) | ((with_reducible apply wq_eqA); (with_reducible rfl); rfl; rfl; rfl; kernel_rfl; exact eq_rest tk tw it ct pr bu i; (refine frS ?_)) | (refine wq_pure rfl rfl ?_; intro K hK; go_big_quiet_op; go_big_quiet_on))
    clear hS
    intro w hS
    go_wp2_with fail
    go_ret
    exact ⟨by rfl, hS.drop⟩
  by_cases h4 : ct ≤ 1048576
  case neg =>
    have e : countsB ⟨kd, cl, sq, ak, aw, tk, tw, it, ct, pr, bu, i⟩ = false := by unfold countsB cntB; simp; omega
    have d4 : decide (ct ≤ 1048576) = false := by simpa using h4
    rw [e]
    go_wp2_with (first | (refine zbx hS ?_; clear hS; intro b w hS))
    refine wp_region_reads (by kernel_rfl) (by kernel_rfl) hS ?_
    repeat (first | go_big_quiet_skip | (refine zq1 ?_) | (refine zqN ?_) | (apply wq_call; rfl; (intro w; apply exec_callF; (with_reducible rfl); decide +kernel; (focus (simp only [fD, List.map_cons, List.map_nil, Act.eval, fE, fF, fG, fH, Option.getD_some]; try rfl))); (intro w hS; exact rest_spec _ _ _ _ _ _ _ _ _ _ _ _ W w _ hS); (refine frS ?_)) | ((with_reducible apply wq_eqA); (with_reducible rfl); rfl; rfl; rfl; kernel_rfl; exact eq_rest tk tw it ct pr bu i; (refine frS ?_)) | (refine wq_pure rfl rfl ?_; intro K hK; go_big_quiet_op; go_big_quiet_on))
    clear hS
    intro w hS
    go_wp2_with fail
    go_ret
    exact ⟨by rfl, hS.drop⟩
  have e : countsB ⟨kd, cl, sq, ak, aw, tk, tw, it, ct, pr, bu, i⟩ = (noB tk && (noB tw && (decide (pr = 0) && (!bu && decide (i = 0))))) := by unfold countsB cntB restB; simp [h1, h2, h3, h4]
  rw [e]
  go_wp2_with (first | (refine zbx hS ?_; clear hS; intro b w hS))
  refine wp_region_reads (by kernel_rfl) (by kernel_rfl) hS ?_
  repeat (first | go_big_quiet_skip | (refine zq1 ?_) | (refine zqN ?_) | (apply wq_call; rfl; (intro w; apply exec_callF; (with_reducible rfl); decide +kernel; (focus (simp only [fD, List.map_cons, List.map_nil, Act.eval, fE, fF, fG, fH, Option.getD_some]; try rfl))); (intro w hS; exact rest_spec _ _ _ _ _ _ _ _ _ _ _ _ W w _ hS); (refine frS ?_)) | ((with_reducible apply wq_eqA); (with_reducible rfl); rfl; rfl; rfl; kernel_rfl; exact eq_rest tk tw it ct pr bu i; (refine frS ?_)) | (refine wq_pure rfl rfl ?_; intro K hK; go_big_quiet_op; go_big_quiet_on))
  clear hS
  intro w hS
  go_wp2_with fail
  go_ret
  exact ⟨by rfl, hS.drop⟩
end
end Go.Proofs.YtfiibhgjfekgiaaGreat
end
section
set_option linter.unusedSimpArgs false
set_option linter.unusedVariables false
namespace Go.Sl
open Go.RowKit
section
variable {P : Program} {a : Act} {o : Oper}
/-- A call of a function that a value holds. -/
theorem exec_callT {x : Operand} {f : FuncId} {xs : Array Operand} {ats : Array TypeId} {args : Array Value} (w : World) (ho : o.op = .call { callee := .value x, args := xs, argTypes := ats }) (hf : a.eval x = .func (.func f) #[] #[]) (hb : hasBody P f = true) (hx : xs.map a.eval = args) :
    (execOp a.eval o).run P w = .ok (.enter f args) w := by
  unfold execOp
  simp only [ho, resolve, Sem.run_bind, hf, Deferred.ofValue, hx, Sem.run_pure, Result.andThen_ok]
  simp [invoke, run_callFunc hb]
end
section
variable {P : Program} {ops : Array Oper} {Q : Exit → Act → World → Prop} {a : Act} {w : World} {rest : List Oper} {o : Oper}
def isNilF : Value → Option Bool
  | .nilFunc => some true
  | .func _ _ _ => some false
  | _ => none
/-- Is a function value none? -/
theorem wl_eqF {t t2 : TypeId} {ps rs : Array TypeId} {vd : Bool} {x y : Operand} {v : Value} {r : Bool} (ho : o.op = .binOp .eql t x y t2) (hg : Region.wanted o (yielded ops a.tmps) = true) (hx : a.eval x = v) (hy : a.eval y = .nilFunc) (hv : isNilF v = some r) (ht : P.underlying t = some (.func ps rs vd))
    (h : wpList P ops Q rest (a.put o.dst (.bool r)) w) : wpList P ops Q (o :: rest) a w := by
  refine wpList_run hg (v := .bool r) (w' := w) ?_ h
  have h1 : (binOp .eql t v .nilFunc).run P w = .ok (.bool r) w := by
    have h : ∀ d : Nat, (Op.equalIn (d + 1) t v .nilFunc).run P w = .ok r w := fun d => by
      cases v <;> simp only [isNilF, Option.some.injEq, reduceCtorEq] at hv
      all_goals
        subst hv
        simp [Op.equalIn, run_underlying ht]
    cases v <;> simp only [isNilF, Option.some.injEq, reduceCtorEq] at hv
    all_goals
      simp only [binOp]
      simp [Op.equal, Op.maxDepth, h 9999]
  unfold execOp
  simp [ho, hx, hy, eqGuard, h1]
end
end Go.Sl
namespace Go.Proofs.YtfiibhgjfekgiaaGreat
open Go.RowKit Go.Sl
section
variable {kd cl sq : Int} {ak aw tk tw : ByteArray} {it ct pr : Int} {bu : Bool} {i : Int} {r : Bool}
theorem counts_at (h : countsB ⟨kd, cl, sq, ak, aw, tk, tw, it, ct, pr, bu, i⟩ = r) (W w : World) (R : List HP) (hS : St W R w) :
    Calls Tryz.prog 39 #[oV kd cl sq ak aw tk tw it ct pr bu i] w fun e w' => e = .returned (.bool r) ∧ St W R w' := h ▸ counts_spec kd cl sq ak aw tk tw it ct pr bu i W w R hS
end
section
variable (kd cl sq : Int) (ak aw tk tw : ByteArray) (it ct pr : Int) (bu : Bool) (i : Int) (W w : World) (R : List HP)
set_option maxRecDepth 100000 in
set_option maxHeartbeats 2000000 in
theorem sends_spec (hS : St W R w) :
    Calls Tryz.prog 40 #[oV kd cl sq ak aw tk tw it ct pr bu i] w fun e w' => e = .returned (.bool (sendsB ⟨kd, cl, sq, ak, aw, tk, tw, it, ct, pr, bu, i⟩)) ∧ St W R w' := by
  go_enter Tryz.func40, Tryz.ntmps40
  have hc : countsB ⟨kd, cl, sq, ak, aw, ⟨#[]⟩, ⟨#[]⟩, it, ct, pr, bu, i⟩ = (cntB ⟨kd, cl, sq, ak, aw, tk, tw, it, ct, pr, bu, i⟩ && (decide (pr = 0) && (!bu && decide (i = 0)))) := rfl
  cases hp : plcB tk tw with
  | false =>
    have e : sendsB ⟨kd, cl, sq, ak, aw, tk, tw, it, ct, pr, bu, i⟩ = false := by unfold sendsB; rw [hp]; rfl
    rw [e]
    go_wp2_with (first | go_big_skip | (refine zbx hS ?_; clear hS; intro b w hS) | (refine zal hS ?_; clear hS; intro b w hS) | (refine zlN hS ?_) | (refine zlN hS ?_ (vs := [.string tk, .string tw]) (hc := by first | exact Cells.here rfl | exact Cells.there (Cells.here rfl))) | (refine zsN hS ?_; clear hS; intro w hS) | (go_at_call 44; refine (isPl_at hp W _ _ hS).mono ?_; clear hS; rintro e w ⟨rfl, hS⟩) | (go_at_call 39; refine (counts_at hc W _ _ hS).mono ?_; clear hS; rintro e w ⟨rfl, hS⟩))
    go_ret
    exact ⟨rfl, hS.drop.drop⟩
  | true =>
    have e : sendsB ⟨kd, cl, sq, ak, aw, tk, tw, it, ct, pr, bu, i⟩ = (cntB ⟨kd, cl, sq, ak, aw, tk, tw, it, ct, pr, bu, i⟩ && (decide (pr = 0) && (!bu && decide (i = 0)))) := by unfold sendsB; rw [hp]; rfl
    rw [e]
    go_wp2_with (first | go_big_skip | (refine zbx hS ?_; clear hS; intro b w hS) | (refine zal hS ?_; clear hS; intro b w hS) | (refine zlN hS ?_) | (refine zlN hS ?_ (vs := [.string tk, .string tw]) (hc := by first | exact Cells.here rfl | exact Cells.there (Cells.here rfl))) | (refine zsN hS ?_; clear hS; intro w hS) | (go_at_call 44; refine (isPl_at hp W _ _ hS).mono ?_; clear hS; rintro e w ⟨rfl, hS⟩) | (go_at_call 39; refine (counts_at hc W _ _ hS).mono ?_; clear hS; rintro e w ⟨rfl, hS⟩))
    go_ret
    exact ⟨rfl, hS.drop.drop⟩
set_option maxRecDepth 100000 in
set_option maxHeartbeats 2000000 in
theorem orders_spec (hS : St W R w) :
    Calls Tryz.prog 41 #[oV kd cl sq ak aw tk tw it ct pr bu i] w fun e w' => e = .returned (.bool (ordersB ⟨kd, cl, sq, ak, aw, tk, tw, it, ct, pr, bu, i⟩)) ∧ St W R w' := by
  go_enter Tryz.func41, Tryz.ntmps41
  have hc : countsB ⟨kd, cl, sq, ak, aw, tk, tw, it, ct, 0, false, i⟩ = (cntB ⟨kd, cl, sq, ak, aw, tk, tw, it, ct, pr, bu, i⟩ && (noB tk && (noB tw && decide (i = 0)))) := by unfold countsB restB; simp [cntB]
  by_cases h1 : 1 ≤ it
  case neg =>
    have e : ordersB ⟨kd, cl, sq, ak, aw, tk, tw, it, ct, pr, bu, i⟩ = false := by unfold ordersB; simp [h1]
    have d1 : decide (1 ≤ it) = false := by simpa using h1
    rw [e]
    go_wp2_with (first | go_big_skip | (refine zbx hS ?_; clear hS; intro b w hS) | (refine zl1 hS ?_) | (refine zlN hS ?_) | (refine zs1 hS ?_; clear hS; intro w hS) | (go_at_call 39; refine (counts_at hc W _ _ hS).mono ?_; clear hS; rintro e w ⟨rfl, hS⟩))
    go_ret
    exact ⟨rfl, hS.drop⟩
  by_cases h2 : 1 ≤ pr
  case neg =>
    have e : ordersB ⟨kd, cl, sq, ak, aw, tk, tw, it, ct, pr, bu, i⟩ = false := by unfold ordersB; simp [h2]
    have d2 : decide (1 ≤ pr) = false := by simpa using h2
    rw [e]
    go_wp2_with (first | go_big_skip | (refine zbx hS ?_; clear hS; intro b w hS) | (refine zl1 hS ?_) | (refine zlN hS ?_) | (refine zs1 hS ?_; clear hS; intro w hS) | (go_at_call 39; refine (counts_at hc W _ _ hS).mono ?_; clear hS; rintro e w ⟨rfl, hS⟩))
    go_ret
    exact ⟨rfl, hS.drop⟩
  by_cases h3 : pr ≤ 1024
  case neg =>
    have e : ordersB ⟨kd, cl, sq, ak, aw, tk, tw, it, ct, pr, bu, i⟩ = false := by unfold ordersB; simp [h3]
    have d3 : decide (pr ≤ 1024) = false := by simpa using h3
    rw [e]
    go_wp2_with (first | go_big_skip | (refine zbx hS ?_; clear hS; intro b w hS) | (refine zl1 hS ?_) | (refine zlN hS ?_) | (refine zs1 hS ?_; clear hS; intro w hS) | (go_at_call 39; refine (counts_at hc W _ _ hS).mono ?_; clear hS; rintro e w ⟨rfl, hS⟩))
    go_ret
    exact ⟨rfl, hS.drop⟩
  have e : ordersB ⟨kd, cl, sq, ak, aw, tk, tw, it, ct, pr, bu, i⟩ = (cntB ⟨kd, cl, sq, ak, aw, tk, tw, it, ct, pr, bu, i⟩ && (noB tk && (noB tw && decide (i = 0)))) := by unfold ordersB; simp [h1, h2, h3]
  rw [e]
  go_wp2_with (first | go_big_skip | (refine zbx hS ?_; clear hS; intro b w hS) | (refine zl1 hS ?_) | (refine zlN hS ?_) | (refine zs1 hS ?_; clear hS; intro w hS) | (go_at_call 39; refine (counts_at hc W _ _ hS).mono ?_; clear hS; rintro e w ⟨rfl, hS⟩))
  go_ret
  exact ⟨rfl, hS.drop⟩
set_option maxRecDepth 100000 in
set_option maxHeartbeats 2000000 in
theorem cancels_spec (hS : St W R w) :
    Calls Tryz.prog 42 #[oV kd cl sq ak aw tk tw it ct pr bu i] w fun e w' => e = .returned (.bool (cancelsB ⟨kd, cl, sq, ak, aw, tk, tw, it, ct, pr, bu, i⟩)) ∧ St W R w' := by
  go_enter Tryz.func42, Tryz.ntmps42
  by_cases h1 : 1 ≤ i
  case neg =>
    have e : cancelsB ⟨kd, cl, sq, ak, aw, tk, tw, it, ct, pr, bu, i⟩ = false := by unfold cancelsB; simp [h1]
    have d1 : decide (1 ≤ i) = false := by simpa using h1
    rw [e]
    go_wp2_with (first | (refine zbx hS ?_; clear hS; intro b w hS))
    refine wp_region_reads (by kernel_rfl) (by kernel_rfl) hS ?_
    repeat (first | go_big_quiet_skip | (refine zq1 ?_) | (refine zqN ?_) | (apply wq_call; rfl; (intro w; apply exec_callF; (with_reducible rfl); decide +kernel; (focus (simp only [fD, List.map_cons, List.map_nil, Act.eval, fE, fF, fG, fH, Option.getD_some]; try rfl))); (intro w hS; exact rest_spec _ _ _ _ _ _ _ _ _ _ _ _ W w _ hS); (refine frS ?_)) | ((with_reducible apply wq_eqA); (with_reducible rfl); rfl; rfl; rfl; kernel_rfl; exact eq_id tk tw it ct pr bu i; (refine frS ?_)) | (refine wq_pure rfl rfl ?_; intro K hK; go_big_quiet_op; go_big_quiet_on))
    clear hS
    intro w hS
    go_wp2_with fail
    go_ret
    exact ⟨rfl, hS.drop⟩
  by_cases h2 : i ≤ 1099511627776
  case neg =>
    have e : cancelsB ⟨kd, cl, sq, ak, aw, tk, tw, it, ct, pr, bu, i⟩ = false := by unfold cancelsB; simp [h2]
    have d2 : decide (i ≤ 1099511627776) = false := by simpa using h2
    rw [e]
    go_wp2_with (first | (refine zbx hS ?_; clear hS; intro b w hS))
    refine wp_region_reads (by kernel_rfl) (by kernel_rfl) hS ?_
    repeat (first | go_big_quiet_skip | (refine zq1 ?_) | (refine zqN ?_) | (apply wq_call; rfl; (intro w; apply exec_callF; (with_reducible rfl); decide +kernel; (focus (simp only [fD, List.map_cons, List.map_nil, Act.eval, fE, fF, fG, fH, Option.getD_some]; try rfl))); (intro w hS; exact rest_spec _ _ _ _ _ _ _ _ _ _ _ _ W w _ hS); (refine frS ?_)) | ((with_reducible apply wq_eqA); (with_reducible rfl); rfl; rfl; rfl; kernel_rfl; exact eq_id tk tw it ct pr bu i; (refine frS ?_)) | (refine wq_pure rfl rfl ?_; intro K hK; go_big_quiet_op; go_big_quiet_on))
    clear hS
    intro w hS
    go_wp2_with fail
    go_ret
    exact ⟨rfl, hS.drop⟩
  have e : cancelsB ⟨kd, cl, sq, ak, aw, tk, tw, it, ct, pr, bu, i⟩ = (noB tk && (noB tw && (decide (it = 0) && (decide (ct = 0) && (decide (pr = 0) && !bu))))) := by unfold cancelsB; simp [h1, h2]
  rw [e]
  go_wp2_with (first | (refine zbx hS ?_; clear hS; intro b w hS))
  refine wp_region_reads (by kernel_rfl) (by kernel_rfl) hS ?_
  repeat (first | go_big_quiet_skip | (refine zq1 ?_) | (refine zqN ?_) | (apply wq_call; rfl; (intro w; apply exec_callF; (with_reducible rfl); decide +kernel; (focus (simp only [fD, List.map_cons, List.map_nil, Act.eval, fE, fF, fG, fH, Option.getD_some]; try rfl))); (intro w hS; exact rest_spec _ _ _ _ _ _ _ _ _ _ _ _ W w _ hS); (refine frS ?_)) | ((with_reducible apply wq_eqA); (with_reducible rfl); rfl; rfl; rfl; kernel_rfl; exact eq_id tk tw it ct pr bu i; (refine frS ?_)) | (refine wq_pure rfl rfl ?_; intro K hK; go_big_quiet_op; go_big_quiet_on))
  clear hS
  intro w hS
  go_wp2_with fail
  go_ret
  exact ⟨rfl, hS.drop⟩
set_option maxRecDepth 100000 in
set_option maxHeartbeats 2000000 in
theorem bare_spec (hS : St W R w) :
    Calls Tryz.prog 43 #[oV kd cl sq ak aw tk tw it ct pr bu i] w fun e w' => e = .returned (.bool (bareB ⟨kd, cl, sq, ak, aw, tk, tw, it, ct, pr, bu, i⟩)) ∧ St W R w' := by
  go_enter Tryz.func43, Tryz.ntmps43
  go_wp2_with (first | (refine zbx hS ?_; clear hS; intro b w hS) | (refine zlN hS ?_) | (go_at_call 66; refine (rest_spec kd cl sq ak aw tk tw it ct pr bu i W _ _ hS).mono ?_; clear hS; rintro e w ⟨rfl, hS⟩) | ((with_reducible apply wl_eqA); (with_reducible rfl); rfl; rfl; rfl; kernel_rfl; exact eq_bare tk tw it ct pr bu i; (refine frS ?_)))
  go_ret
  exact ⟨rfl, hS.drop⟩
end
end Go.Proofs.YtfiibhgjfekgiaaGreat
end
