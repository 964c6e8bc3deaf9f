/-
  An economy as plain values: its vaults by keys, what each client asked last, what is under way, what has arrived; what a request does to it. No program in sight.
  What is done at one key changes nothing that another key has. The plain law: no program in sight.
  Maps whose keys are structs: keys that are told by values, compared one by one. Over any program.
  An economy as a resource: its block, its maps, the vaults that the first of them points to. Over any program.
  Requests, replies, places compared field by field. For all of them.
  What may be requested: isPlace, rest, counts, sends, orders, cancels, bare. For every request.
-/
import Derived.Test.YtlmhakmoioogaaaGreatEconSendsM5
import Derived.Test.YtlmhakmoioogaaaGreatEconSendsM8
import Derived.Test.YtlmhakmoioogaaaGreatEconSendsM20
import Derived.Laws.StructEq
section
set_option linter.unusedSimpArgs false
set_option linter.unusedVariables false
namespace Go.Proofs.YtlmhakmoioogaaaGreat
open Go.RowKit Go.Sl
structure Opn where
  kind : Int
  client : Int
  seq : Int
  ak : ByteArray
  aw : ByteArray
  tk : ByteArray
  tw : ByteArray
  item : Int
  cnt : Int
  price : Int
  buy : Bool
  id : Int
def Opn.cells (o : Opn) : List Value := [.int .i64 o.kind, .int .i64 o.client, .int .i64 o.seq, .string o.ak, .string o.aw, .string o.tk, .string o.tw, .int .i64 o.item, .int .i64 o.cnt, .int .i64 o.price, .bool o.buy, .int .i64 o.id]
theorem Opn.len (o : Opn) : o.cells.length = 12 := rfl
structure Rpl where
  err : Int
  id : Int
  has : It
def Rpl.cells (r : Rpl) : List Value := .int .i64 r.err :: .int .i64 r.id :: r.has.cells
abbrev rp0 : Rpl := ⟨0, 0, it0⟩
structure Tns where
  client : Int
  seq : Int
  ak : ByteArray
  aw : ByteArray
  tk : ByteArray
  tw : ByteArray
  item : Int
  cnt : Int
def Tns.cells (t : Tns) : List Value := [.int .i64 t.client, .int .i64 t.seq, .string t.ak, .string t.aw, .string t.tk, .string t.tw, .int .i64 t.item, .int .i64 t.cnt]
theorem Tns.len (t : Tns) : t.cells.length = 8 := rfl
/-- An economy. -/
structure Ec where
  vs : List (ByteArray × Vs)
  ss : List (Int × (Int × Rpl))
  ts : List ((Int × Int) × Tns)
  ar : List ((Int × Int) × Unit)
abbrev ec0 : Ec := ⟨[], [], [], []⟩
abbrev vs0 : Vs := ⟨[], [], 1⟩
def noB (u : ByteArray) : Bool := decide (u.size = 0)
def cntB (o : Opn) : Bool := decide (0 ≤ o.item) && (decide (o.item < 4) && (decide (1 ≤ o.cnt) && decide (o.cnt ≤ 1048576)))
/-- Nothing but item and count is named. -/
def restB (o : Opn) : Bool := noB o.tk && (noB o.tw && (decide (o.price = 0) && (!o.buy && decide (o.id = 0))))
def plcB (k u : ByteArray) : Bool := whoB k && whoB u
def countsB (o : Opn) : Bool := cntB o && restB o
def sendsB (o : Opn) : Bool := plcB o.tk o.tw && (cntB o && (decide (o.price = 0) && (!o.buy && decide (o.id = 0))))
def ordersB (o : Opn) : Bool := decide (1 ≤ o.item) && (decide (1 ≤ o.price) && (decide (o.price ≤ 1024) && (cntB o && (noB o.tk && (noB o.tw && decide (o.id = 0))))))
def cancelsB (o : Opn) : Bool := decide (1 ≤ o.id) && (decide (o.id ≤ 1099511627776) && (noB o.tk && (noB o.tw && (decide (o.item = 0) && (decide (o.cnt = 0) && (decide (o.price = 0) && !o.buy))))))
def bareB (o : Opn) : Bool := noB o.tk && (noB o.tw && (decide (o.item = 0) && (decide (o.cnt = 0) && (decide (o.price = 0) && (!o.buy && decide (o.id = 0))))))
def kindB (o : Opn) : Bool :=
  if o.kind = 1 then countsB o else if o.kind = 2 then sendsB o else if o.kind = 3 then ordersB o else if o.kind = 4 then cancelsB o
  else if o.kind = 5 then bareB o else if o.kind = 6 then countsB o else if o.kind = 7 then bareB o else false
def headB (o : Opn) : Bool := decide (1 ≤ o.client) && (decide (o.client ≤ 1048576) && (decide (1 ≤ o.seq) && (decide (o.seq ≤ 1099511627776) && plcB o.ak o.aw)))
def mayO (o : Opn) : Bool := headB o && kindB o
/-- What is known already, and what was said. -/
def peekE (e : Ec) (o : Opn) : Rpl × Bool :=
  if mayO o = false then (⟨1, 0, it0⟩, true)
  else if o.kind = 6 then (rp0, (getL e.ar (o.client, o.seq)).isSome)
  else if o.kind = 7 then (rp0, (getL e.ts (o.client, o.seq)).isNone)
  else match getL e.ss o.client with
    | none => (rp0, false)
    | some (q, r) => if o.seq < q then (⟨13, 0, it0⟩, true) else if o.seq = q then (r, true) else (rp0, false)
def atV (e : Ec) (k : ByteArray) : Vs := (getL e.vs k).getD vs0
def noneV (V : Vs) : Bool := decide (V.ps.length = 0) && (decide (V.L.length = 0) && decide (V.n = 1))
/-- The vault at a key is this one now; none, if it is none. -/
def setV (e : Ec) (k : ByteArray) (V : Vs) : Ec := { e with vs := if noneV V = true then delL e.vs k else (k, V) :: delL e.vs k }
/-- .. only what is there is taken away. -/
def oneI (item n : Int) : It := setK it0 item n
def tnsOf (o : Opn) : Tns := ⟨o.client, o.seq, o.ak, o.aw, o.tk, o.tw, o.item, o.cnt⟩
def ordOf (o : Opn) : Ord := ⟨0, o.aw, o.buy, o.item, o.cnt, o.price⟩
/-- What is done to the vault at the request's key, and what is said. -/
def doV (V : Vs) (o : Opn) : Rpl × Vs :=
  if o.kind = 1 then (⟨putE V.ps o.aw (oneI o.item o.cnt), 0, it0⟩, { V with ps := putP V.ps o.aw (oneI o.item o.cnt) })
  else if o.kind = 2 then (⟨takeE V.ps o.aw (oneI o.item o.cnt), 0, it0⟩, { V with ps := takeP V.ps o.aw (oneI o.item o.cnt) })
  else if o.kind = 3 then (⟨(ordV V (ordOf o)).2.1, (ordV V (ordOf o)).1, it0⟩, (ordV V (ordOf o)).2.2)
  else if o.kind = 4 then (⟨(canV V o.aw o.id).1, 0, it0⟩, (canV V o.aw o.id).2)
  else if o.kind = 5 then (⟨0, 0, purseA V.ps o.aw⟩, V)
  else if o.kind = 6 then (rp0, { V with ps := putP V.ps o.aw (oneI o.item o.cnt) })
  else (rp0, V)
def doT (e : Ec) (o : Opn) (r : Rpl) : List ((Int × Int) × Tns) :=
  if o.kind = 2 ∧ r.err = 0 then ((o.client, o.seq), tnsOf o) :: delL e.ts (o.client, o.seq)
  else if o.kind = 7 then delL e.ts (o.client, o.seq) else e.ts
def doA (e : Ec) (o : Opn) : List ((Int × Int) × Unit) := if o.kind = 6 then ((o.client, o.seq), ()) :: delL e.ar (o.client, o.seq) else e.ar
def doS (e : Ec) (o : Opn) (r : Rpl) : List (Int × (Int × Rpl)) := if o.kind = 6 ∨ o.kind = 7 then e.ss else (o.client, (o.seq, r)) :: delL e.ss o.client
/-- What is said, whether it was done, what there is behind it. -/
def appE (e : Ec) (o : Opn) : Rpl × Bool × Ec :=
  if (peekE e o).2 = true then ((peekE e o).1, false, e)
  else
    let r := (doV (atV e o.ak) o).1
    (r, true, { setV e o.ak (doV (atV e o.ak) o).2 with ss := doS e o r, ts := doT e o r, ar := doA e o })
end Go.Proofs.YtlmhakmoioogaaaGreat
end
section
set_option linter.unusedSimpArgs false
set_option linter.unusedVariables false
namespace Go.Proofs.YtlmhakmoioogaaaGreat
open Go.RowKit Go.Sl
section
variable {κ ν : Type} [DecidableEq κ]
theorem getL_cons (k : κ) (v : ν) (l : List (κ × ν)) (x : κ) : getL ((k, v) :: l) x = if k = x then some v else getL l x := by
  unfold getL
  rw [List.find?_cons]
  by_cases h : k = x
  · rw [if_pos h]
    simp [h]
  · rw [if_neg h]
    simp [h]
theorem getL_del (l : List (κ × ν)) (k x : κ) : getL (delL l k) x = if x = k then none else getL l x := by
  by_cases h : x = k
  · rw [if_pos h]
    refine getL_no fun y hy => ?_
    have := (List.mem_filter.1 hy).2
    rw [h]
    simpa using this
  · rw [if_neg h]
    induction l with
    | nil => rfl
    | cons y l ih =>
      obtain ⟨a, b⟩ := y
      have e : delL ((a, b) :: l) k = if a = k then delL l k else (a, b) :: delL l k := by
        unfold delL
        rw [List.filter_cons]
        by_cases hk : a = k <;> simp [hk]
      rw [e, getL_cons]
      by_cases hk : a = k
      · rw [if_pos hk, ih, if_neg (fun e => h (e.symm.trans hk))]
      · rw [if_neg hk, getL_cons, ih]
theorem getL_set (l : List (κ × ν)) (k x : κ) (v : ν) : getL ((k, v) :: delL l k) x = if k = x then some v else getL l x := by
  rw [getL_cons, getL_del]
  by_cases h : k = x
  · rw [if_pos h, if_pos h]
  · rw [if_neg h, if_neg h, if_neg (fun e => h e.symm)]
end
theorem noneV_eq {V : Vs} (h : noneV V = true) : V = vs0 := by
  obtain ⟨p, L, n⟩ := V
  unfold noneV at h
  simp only [Bool.and_eq_true, decide_eq_true_eq] at h
  obtain ⟨h1, h2, h3⟩ := h
  rw [List.eq_nil_of_length_eq_zero h1, List.eq_nil_of_length_eq_zero h2, h3]
theorem atV_set (e : Ec) (k x : ByteArray) (V : Vs) : atV (setV e k V) x = if k = x then V else atV e x := by
  unfold atV setV
  by_cases hn : noneV V = true
  · rw [if_pos hn]
    show (getL (delL e.vs k) x).getD vs0 = _
    rw [getL_del]
    by_cases h : x = k
    · rw [if_pos h, if_pos h.symm, noneV_eq hn]
      rfl
    · rw [if_neg h, if_neg (fun e => h e.symm)]
  · rw [if_neg hn]
    show (getL ((k, V) :: delL e.vs k) x).getD vs0 = _
    rw [getL_set]
    by_cases h : k = x
    · rw [if_pos h, if_pos h]
      rfl
    · rw [if_neg h, if_neg h]
/-- Alike at a key, and for these clients. -/
structure AlkE (C : Int → Prop) (k : ByteArray) (e f : Ec) : Prop where
  v : atV e k = atV f k
  s : ∀ c, C c → getL e.ss c = getL f.ss c
  t : ∀ c q, C c → getL e.ts (c, q) = getL f.ts (c, q)
  a : ∀ c q, C c → getL e.ar (c, q) = getL f.ar (c, q)
def runE (l : List Opn) (e : Ec) : Ec := l.foldl (fun e o => (appE e o).2.2) e
def atKey (k : ByteArray) (l : List Opn) : List Opn := l.filter fun o => decide (o.ak = k)
end Go.Proofs.YtlmhakmoioogaaaGreat
end
section
set_option linter.unusedSimpArgs false
set_option linter.unusedVariables false
namespace Go.Sl
open Go.RowKit
section
variable {κ : Type} [DecidableEq κ] {P : Program} {K : TypeId} {kd : TypeDesc} {ek : κ → Value}
theorem run_findAsking (heq : ∀ a b w, (Op.equal K (ek a) (ek b)).run P w = .ok (decide (a = b)) w) (k : κ) : ∀ (l : List (κ × Value × Nat)) (i : Nat) (w : World), (Instr.findAsking K (ek k) (l.map (entA ek)) i).run P w = .ok (findA k l i) w
  | [], _, _ => rfl
  | x :: l, i, w => by
    have e : (entA ek x).key = ek x.1 := rfl
    rw [List.map_cons, Instr.findAsking, e, findA]
    simp only [Sem.run_bind, heq, Result.andThen_ok]
    by_cases hk : k = x.1
    · rw [if_pos hk]
      simp [hk, entA]
    · rw [if_neg hk]
      simp [hk]
      exact run_findAsking heq k l (i + 1) w
theorem KeyOk.deep (hK : P.underlying K = some kd) (hsn : ∀ a b, Instr.sameNow kd (ek a) (ek b) = none) (hchk : ∀ e k w, (Instr.checkKey e 10000 K (ek k)).run P w = .ok () w) (heq : ∀ a b w, (Op.equal K (ek a) (ek b)).run P w = .ok (decide (a = b)) w)
    (hb : ∀ k, Instr.sameBits 10000 (ek k) (ek k) = true) : KeyOk P K ek :=
  ⟨hchk, fun k l w => by
    unfold Instr.findKey
    simp only [Sem.run_bind, run_underlying hK, Result.andThen_ok]
    cases l with
    | nil => rfl
    | cons x l =>
      have e : Instr.findNow kd (ek k) ((x :: l).map (entA ek)) 0 = none := by
        rw [List.map_cons, Instr.findNow]
        have : (entA ek x).key = ek x.1 := rfl
        rw [this, hsn]
      rw [e]
      exact run_findAsking heq k (x :: l) 0 w, hb⟩
end
end Go.Sl
end
section
set_option linter.unusedSimpArgs false
set_option linter.unusedVariables false
namespace Go.Sl
open Go.RowKit
section
variable {W w : World} {R A : List HP}
theorem sats_all {h : Frag} {R : List HP} (hs : sats R h) : sep (fun _ => True) (sats R) h := ⟨fun _ => false, trivial, by
  have : cutOut (fun _ => false) h = h := by funext b; rfl
  rw [this]; exact hs⟩
theorem satsOpen : ∀ {A : List HP} {h : Frag}, sep (sats A) (sats R) h → sats (A ++ R) h
  | [], _, ⟨_, _, h2⟩ => sats_cut h2
  | _ :: _, _, hs => sep_mono (fun _ x => x) (fun _ x => satsOpen x) (sep_assoc hs)
theorem satsShut : ∀ {A : List HP} {h : Frag}, sats (A ++ R) h → sep (sats A) (sats R) h
  | [], _, hs => sats_all hs
  | _ :: _, _, hs => sep_join (sep_mono (fun _ x => x) (fun _ x => satsShut x) hs)
theorem St.openS (h : St W (sats A :: R) w) : St W (A ++ R) w := ⟨h.os, h.tape, h.output, satsOpen h.sat⟩
theorem St.shutS (A : List HP) (h : St W (A ++ R) w) : St W (sats A :: R) w := ⟨h.os, h.tape, h.output, satsShut h.sat⟩
theorem sats_permE {L L' : List HP} (hp : L.Perm L') : ∀ {h : Frag}, sats L h → sats L' h := by
  induction hp with
  | nil => exact fun h => h
  | cons _ _ ih => exact fun h => sep_mono (fun _ x => x) (fun _ x => ih x) h
  | swap _ _ _ => exact fun h => sep_swap h
  | trans _ _ i1 i2 => exact fun h => i2 (i1 h)
end
section
variable {κ ν : Type} [DecidableEq κ]
theorem perm_get {k : κ} {v : ν} : ∀ {l : List (κ × ν)}, (l.map (·.1)).Nodup → getL l k = some v → l.Perm ((k, v) :: delL l k)
  | [], _, h => (by cases h)
  | y :: l, hn, h => by
    rw [List.map_cons, List.nodup_cons] at hn
    have e : delL (y :: l) k = if y.1 = k then delL l k else y :: delL l k := by
      unfold delL
      rw [List.filter_cons]
      by_cases hk : y.1 = k <;> simp [hk]
    by_cases hk : y.1 = k
    · have h0 : ∀ x ∈ l, x.1 ≠ k := fun x hx e => hn.1 (List.mem_map.2 ⟨x, hx, e.trans hk.symm⟩)
      have hv : y = (k, v) := by
        have h2 := getL_some h
        rcases List.mem_cons.1 h2 with h2 | h2
        · exact h2.symm
        · exact absurd rfl (h0 _ h2)
      rw [e, if_pos hk, delL_no h0, hv]
    · have h2 : getL l k = some v := by
        unfold getL at h ⊢
        rw [List.find?_cons] at h
        simpa [hk] using h
      rw [e, if_neg hk]
      exact ((perm_get hn.2 h2).cons y).trans (List.Perm.swap _ _ _)
end
end Go.Sl
namespace Go.Proofs.YtlmhakmoioogaaaGreat
open Go.RowKit Go.Sl
abbrev eN (b : Nat) : Value := .pointer (some ⟨b, 0, none⟩)
abbrev eI (z : Int) : Value := .int .i64 z
abbrev eU (_ : Unit) : Value := .bool true
abbrev eW (x : Int × Int) : Value := .agg #[.int .i64 x.1, .int .i64 x.2]
abbrev eSs (x : Int × Rpl) : Value := .agg #[.int .i64 x.1, .int .i64 x.2.err, .int .i64 x.2.id, .int .i64 x.2.has.x0, .int .i64 x.2.has.x1, .int .i64 x.2.has.x2, .int .i64 x.2.has.x3]
abbrev eTn (t : Tns) : Value := .agg #[.int .i64 t.client, .int .i64 t.seq, .string t.ak, .string t.aw, .string t.tk, .string t.tw, .int .i64 t.item, .int .i64 t.cnt]
abbrev Ev := List (ByteArray × (Nat × Vs))
def ptrsE (E : Ev) : List (ByteArray × Nat) := E.map fun x => (x.1, x.2.1)
def stripE (E : Ev) : List (ByteArray × Vs) := E.map fun x => (x.1, x.2.2)
/-- A vault, its parts owned. -/
def vaultP (vb : Nat) (V : Vs) : HP := fun f => ∃ mb bb : Nat, sats [blk vb [.map (some mb), .pointer (some ⟨bb, 0, none⟩), .int .i64 V.n] 176, amap eS eP mb V.ps, bookL bb V.L V.n] f
/-- All vaults. -/
def vauP (E : Ev) : HP := sats (E.map fun x => vaultP x.2.1 x.2.2)
abbrev ecL (eb m1 m2 m3 m4 : Nat) (E : Ev) (e : Ec) (R : List HP) : List HP :=
  blk eb [.map (some m1), .map (some m2), .map (some m3), .map (some m4)] 84 :: amap eS eN m1 (ptrsE E) :: vauP E :: amap eI eSs m2 e.ss :: amap eW eTn m3 e.ts :: amap eW eU m4 e.ar :: R
/-- An economy, its parts owned. -/
def ecP (eb : Nat) (e : Ec) : HP := fun f => ∃ (m1 m2 m3 m4 : Nat) (E : Ev), (stripE E).Perm e.vs ∧ sats (ecL eb m1 m2 m3 m4 E e []) f
section
variable {W w : World} {R L : List HP} {vb eb m1 m2 m3 m4 : Nat} {V : Vs} {E E' : Ev} {e : Ec} {k : ByteArray}
theorem vaultOpen (h : St W (vaultP vb V :: R) w) : ∃ mb bb, St W (vaultL vb mb bb V.ps V.L V.n R) w := by
  obtain ⟨mb, h⟩ := St.ex h
  obtain ⟨bb, h⟩ := St.ex h
  exact ⟨mb, bb, h.openS⟩
theorem vaultShut {mb bb : Nat} (h : St W (vaultL vb mb bb V.ps V.L V.n R) w) : St W (vaultP vb V :: R) w :=
  St.mkEx mb (St.mkEx bb (St.shutS [_, _, _] h))
theorem vauOpen {x : ByteArray × (Nat × Vs)} (h : St W (vauP (x :: E) :: R) w) : St W (vaultP x.2.1 x.2.2 :: vauP E :: R) w := St.split h
theorem vauShut {x : ByteArray × (Nat × Vs)} (h : St W (vaultP x.2.1 x.2.2 :: vauP E :: R) w) : St W (vauP (x :: E) :: R) w := St.join h
theorem vauPerm (hp : E.Perm E') (h : St W (vauP E :: R) w) : St W (vauP E' :: R) w := h.imp fun _ => sats_permE (hp.map _)
theorem ecOpen (h : St W (ecP eb e :: R) w) : ∃ m1 m2 m3 m4 E, (stripE E).Perm e.vs ∧ St W (ecL eb m1 m2 m3 m4 E e R) w := by
  obtain ⟨m1, h⟩ := St.ex h
  obtain ⟨m2, h⟩ := St.ex h
  obtain ⟨m3, h⟩ := St.ex h
  obtain ⟨m4, h⟩ := St.ex h
  obtain ⟨E, h⟩ := St.ex h
  obtain ⟨hp, h⟩ := St.and h
  exact ⟨m1, m2, m3, m4, E, hp, h.openS⟩
theorem ecShut (hp : (stripE E).Perm e.vs) (h : St W (ecL eb m1 m2 m3 m4 E e R) w) : St W (ecP eb e :: R) w :=
  St.mkEx m1 (St.mkEx m2 (St.mkEx m3 (St.mkEx m4 (St.mkEx E (St.mkAnd hp (St.shutS [_, _, _, _, _, _] h))))))
theorem ptrs_keys (E : Ev) : (ptrsE E).map (·.1) = E.map (·.1) := by unfold ptrsE; rw [List.map_map]; rfl
theorem strip_keys (E : Ev) : (stripE E).map (·.1) = E.map (·.1) := by unfold stripE; rw [List.map_map]; rfl
theorem ptrs_del (E : Ev) (k : ByteArray) : delL (ptrsE E) k = ptrsE (delL E k) := by unfold ptrsE delL; rw [List.filter_map]; rfl
theorem strip_del (E : Ev) (k : ByteArray) : delL (stripE E) k = stripE (delL E k) := by unfold stripE delL; rw [List.filter_map]; rfl
theorem getL_map {α β : Type} (f : α → β) (l : List (ByteArray × α)) (k : ByteArray) : getL (l.map fun x => (x.1, f x.2)) k = (getL l k).map f := by
  unfold getL
  rw [List.find?_map]
  show ((l.find? fun x => decide (x.1 = k)).map fun x => (x.1, f x.2)).map (·.2) = _
  rw [Option.map_map, Option.map_map]
  rfl
theorem ptrs_get (E : Ev) (k : ByteArray) : getL (ptrsE E) k = (getL E k).map (·.1) := getL_map (fun x : Nat × Vs => x.1) E k
theorem strip_get (E : Ev) (k : ByteArray) : getL (stripE E) k = (getL E k).map (·.2) := getL_map (fun x : Nat × Vs => x.2) E k
/-- What stands at a key, as the plain economy says it. -/
theorem vs_get (hn : (E.map (·.1)).Nodup) (hp : (stripE E).Perm e.vs) (k : ByteArray) : getL e.vs k = (getL E k).map (·.2) := by
  rw [← getL_perm (by rw [strip_keys]; exact hn) hp k, strip_get]
end
end Go.Proofs.YtlmhakmoioogaaaGreat
end
section
set_option linter.unusedSimpArgs false
set_option linter.unusedVariables false
namespace Go.Proofs.YtlmhakmoioogaaaGreat
open Go.RowKit Go.Sl
set_option maxRecDepth 100000 in
theorem eqPlace (k u k2 u2 : ByteArray) (d : Nat) (w : World) : (Op.equalIn (d + 2) 26 (.agg #[.string k, .string u]) (.agg #[.string k2, .string u2])).run Tryz.prog w = .ok (k.toList == k2.toList && u.toList == u2.toList) w := by
  have u9 := Tryz.underlying9
  have a9 := Tryz.isAgg9
  have z9 := Tryz.sizeOf9
  have hs : Tryz.prog.stoodInHeld 26 = false := by kernel_rfl
  rw [Op.equalIn]
  simp only [Sem.run_bind, run_underlying Tryz.underlying26, Result.andThen_ok, run_program, hs, Bool.false_eq_true, if_false]
  rw [← Array.forIn_toList]
  simp only [List.forIn_cons, List.forIn_nil]
  go_simp
  by_cases h1 : k.toList = k2.toList <;> by_cases h2 : u.toList = u2.toList <;> simp [h1, h2]
def Opn.eqB (o q : Opn) : Bool :=
  decide (o.kind = q.kind) && (decide (o.client = q.client) && (decide (o.seq = q.seq) && (decide (o.ak.toList = q.ak.toList) && (decide (o.aw.toList = q.aw.toList) && (decide (o.tk.toList = q.tk.toList) && (decide (o.tw.toList = q.tw.toList) &&
    (decide (o.item = q.item) && (decide (o.cnt = q.cnt) && (decide (o.price = q.price) && (decide (o.buy = q.buy) && decide (o.id = q.id)))))))))))
set_option maxRecDepth 100000 in
set_option maxHeartbeats 2000000 in
theorem eqReq (o q : Opn) (w : World) : (Op.equalIn 10000 207 (.agg o.cells.toArray) (.agg q.cells.toArray)).run Tryz.prog w = .ok (o.eqB q) w := by
  have u9 := Tryz.underlying9
  have a9 := Tryz.isAgg9
  have z9 := Tryz.sizeOf9
  have u3 := Tryz.underlying3
  have a3 := Tryz.isAgg3
  have z3 := Tryz.sizeOf3
  have u4 := Tryz.underlying4
  have a4 := Tryz.isAgg4
  have z4 := Tryz.sizeOf4
  have u5 := Tryz.underlying26
  have a5 := Tryz.isAgg26
  have z5 := Tryz.sizeOf26
  have hp := fun k u k2 u2 w => eqPlace k u k2 u2 9997 w
  have hs : Tryz.prog.stoodInHeld 207 = false := by kernel_rfl
  obtain ⟨o0, o1, o2, o3, o4, o5, o6, o7, o8, o9, o10, o11⟩ := o
  obtain ⟨q0, q1, q2, q3, q4, q5, q6, q7, q8, q9, q10, q11⟩ := q
  unfold Opn.eqB Opn.cells
  dsimp only
  rw [Op.equalIn]
  simp only [Sem.run_bind, run_underlying Tryz.underlying207, Result.andThen_ok, run_program, hs, Bool.false_eq_true, if_false]
  rw [← Array.forIn_toList]
  simp only [List.forIn_cons, List.forIn_nil]
  go_simp
  by_cases h : o0 = q0
  case neg => simp [h]
  rw [if_pos h, decide_eq_true h, Bool.true_and]
  clear h
  by_cases h : o1 = q1
  case neg => simp [h]
  rw [if_pos h, decide_eq_true h, Bool.true_and]
  clear h
  by_cases h : o2 = q2
  case neg => simp [h]
  rw [if_pos h, decide_eq_true h, Bool.true_and]
  clear h
  by_cases h : o3.toList = q3.toList
  case neg => simp [h]
  by_cases h2 : o4.toList = q4.toList
  case neg => simp [h2]
  rw [if_neg (fun f => f h h2), decide_eq_true h, decide_eq_true h2, Bool.true_and, Bool.true_and]
  clear h h2
  by_cases h : o5.toList = q5.toList
  case neg => simp [h]
  by_cases h2 : o6.toList = q6.toList
  case neg => simp [h2]
  rw [if_neg (fun f => f h h2), decide_eq_true h, decide_eq_true h2, Bool.true_and, Bool.true_and]
  clear h h2
  by_cases h : o7 = q7
  case neg => simp [h]
  rw [if_pos h, decide_eq_true h, Bool.true_and]
  clear h
  by_cases h : o8 = q8
  case neg => simp [h]
  rw [if_pos h, decide_eq_true h, Bool.true_and]
  clear h
  by_cases h : o9 = q9
  case neg => simp [h]
  rw [if_pos h, decide_eq_true h, Bool.true_and]
  clear h
  by_cases h : o10 = q10
  case neg => simp [h]
  rw [if_pos h, decide_eq_true h, Bool.true_and]
  clear h
  by_cases h : o11 = q11 <;> simp [h]
theorem eqItemsD (d : Nat) (x0 x1 x2 x3 y0 y1 y2 y3 : Int) (w : World) : (Op.equalIn (d + 2) 29 (.agg #[.int .i64 x0, .int .i64 x1, .int .i64 x2, .int .i64 x3]) (.agg #[.int .i64 y0, .int .i64 y1, .int .i64 y2, .int .i64 y3])).run Tryz.prog w = .ok (x0 == y0 && (x1 == y1 && (x2 == y2 && x3 == y3))) w := by
  have u3 := Tryz.underlying3
  have a3 := Tryz.isAgg3
  have z3 := Tryz.sizeOf3
  rw [Op.equalIn]
  simp only [Sem.run_bind, run_underlying Tryz.underlying29, Result.andThen_ok]
  simp only [Std.Legacy.Range.forIn_eq_forIn_range', Std.Legacy.Range.size, Nat.sub_zero, Nat.add_sub_cancel, Nat.div_one, List.range'_succ, List.range'_zero, List.forIn_cons, List.forIn_nil]
  go_simp
  by_cases h1 : x0 = y0 <;> by_cases h2 : x1 = y1 <;> by_cases h3 : x2 = y2 <;> by_cases h4 : x3 = y3 <;> simp [h1, h2, h3, h4]
/-- Replies. -/
def Rpl.eqB (r q : Rpl) : Bool := decide (r.err = q.err) && (decide (r.id = q.id) && (r.has.x0 == q.has.x0 && (r.has.x1 == q.has.x1 && (r.has.x2 == q.has.x2 && r.has.x3 == q.has.x3))))
set_option maxRecDepth 100000 in
set_option maxHeartbeats 2000000 in
theorem eqRpl (r q : Rpl) (w : World) : (Op.equalIn 10000 31 (.agg #[.int .i64 r.err, .int .i64 r.id, .int .i64 r.has.x0, .int .i64 r.has.x1, .int .i64 r.has.x2, .int .i64 r.has.x3]) (.agg #[.int .i64 q.err, .int .i64 q.id, .int .i64 q.has.x0, .int .i64 q.has.x1, .int .i64 q.has.x2, .int .i64 q.has.x3])).run Tryz.prog w = .ok (r.eqB q) w := by
  have u3 := Tryz.underlying3
  have a3 := Tryz.isAgg3
  have z3 := Tryz.sizeOf3
  have u4 := Tryz.underlying27
  have a4 := Tryz.isAgg27
  have z4 := Tryz.sizeOf27
  have u5 := Tryz.underlying29
  have a5 := Tryz.isAgg29
  have z5 := Tryz.sizeOf29
  have hp := eqItemsD 9997
  have hs : Tryz.prog.stoodInHeld 31 = false := by kernel_rfl
  obtain ⟨r0, r1, r2, r3, r4, r5⟩ := r
  obtain ⟨q0, q1, q2, q3, q4, q5⟩ := q
  unfold Rpl.eqB
  dsimp only
  rw [Op.equalIn]
  simp only [Sem.run_bind, run_underlying Tryz.underlying31, Result.andThen_ok, run_program, hs, Bool.false_eq_true, if_false]
  rw [← Array.forIn_toList]
  simp only [List.forIn_cons, List.forIn_nil]
  go_simp
  by_cases h : r0 = q0
  case neg => simp [h]
  rw [if_pos h, decide_eq_true h, Bool.true_and]
  clear h
  by_cases h : r1 = q1
  case neg => simp [h]
  rw [if_pos h, decide_eq_true h, Bool.true_and]
  clear h
  by_cases h1 : r2 = q2 <;> by_cases h2 : r3 = q3 <;> by_cases h3 : r4 = q4 <;> by_cases h4 : r5 = q5 <;> simp [h1, h2, h3, h4]
end Go.Proofs.YtlmhakmoioogaaaGreat
end
section
set_option linter.unusedSimpArgs false
set_option linter.unusedVariables false
namespace Go.Proofs.YtlmhakmoioogaaaGreat
open Go.RowKit Go.Sl
set_option maxRecDepth 100000 in
theorem isPl_spec (k u : ByteArray) (W w : World) (R : List HP) (hS : St W R w) :
    Calls Tryz.prog 150 #[.agg #[.string k, .string u]] w fun e w' => e = .returned (.bool (plcB k u)) ∧ St W R w' := by
  go_enter Tryz.func150, Tryz.ntmps150
  by_cases h1 : 1 ≤ k.size
  case neg =>
    have e : plcB k u = false := by unfold plcB whoB; simp; omega
    have d1 : decide ((1 : Int) ≤ (k.size : Int)) = false := by simp; omega
    rw [e]
    go_wp2_with (first | go_big_skip | (refine zbx hS ?_; clear hS; intro b w hS) | (refine zl1 hS ?_))
    go_ret
    exact ⟨rfl, hS.drop⟩
  have d1 : (1 : Int) ≤ (k.size : Int) := by omega
  by_cases h2 : k.size ≤ 16
  case neg =>
    have e : plcB k u = false := by unfold plcB whoB; simp; omega
    have d2 : decide ((k.size : Int) ≤ 16) = false := by simp; omega
    rw [e]
    go_wp2_with (first | go_big_skip | (refine zbx hS ?_; clear hS; intro b w hS) | (refine zl1 hS ?_))
    go_ret
    exact ⟨rfl, hS.drop⟩
  have d2 : (k.size : Int) ≤ 16 := by omega
  by_cases h3 : 1 ≤ u.size
  case neg =>
    have e : plcB k u = false := by unfold plcB whoB; simp; omega
    have d3 : decide ((1 : Int) ≤ (u.size : Int)) = false := by simp; omega
    rw [e]
    go_wp2_with (first | go_big_skip | (refine zbx hS ?_; clear hS; intro b w hS) | (refine zl1 hS ?_))
    go_ret
    exact ⟨rfl, hS.drop⟩
  have d3 : (1 : Int) ≤ (u.size : Int) := by omega
  by_cases h4 : u.size ≤ 16
  case neg =>
    have e : plcB k u = false := by unfold plcB whoB; simp; omega
    have d4 : decide ((u.size : Int) ≤ 16) = false := by simp; omega
    rw [e]
    go_wp2_with (first | go_big_skip | (refine zbx hS ?_; clear hS; intro b w hS) | (refine zl1 hS ?_))
    go_ret
    exact ⟨rfl, hS.drop⟩
  have d4 : (u.size : Int) ≤ 16 := by omega
  have e : plcB k u = true := by unfold plcB whoB; simp; omega
  rw [e]
  go_wp2_with (first | go_big_skip | (refine zbx hS ?_; clear hS; intro b w hS) | (refine zl1 hS ?_))
  go_ret
  exact ⟨rfl, hS.drop⟩
theorem isPl_at {k u : ByteArray} {r : Bool} (h : plcB k u = r) (W w : World) (R : List HP) (hS : St W R w) :
    Calls Tryz.prog 150 #[.agg #[.string k, .string u]] w fun e w' => e = .returned (.bool r) ∧ St W R w' := h ▸ isPl_spec k u W w R hS
abbrev oV (kd cl sq : Int) (ak aw tk tw : ByteArray) (it ct pr : Int) (bu : Bool) (i : Int) : Value :=
  .agg #[.int .i64 kd, .int .i64 cl, .int .i64 sq, .string ak, .string aw, .string tk, .string tw, .int .i64 it, .int .i64 ct, .int .i64 pr, .bool bu, .int .i64 i]
section
variable (kd cl sq : Int) (ak aw tk tw : ByteArray) (it ct pr : Int) (bu : Bool) (i : Int) (W w : World) (R : List HP)
set_option maxRecDepth 100000 in
theorem rest_spec (hS : St W R w) :
    Calls Tryz.prog 194 #[oV kd cl sq ak aw tk tw it ct pr bu i] w fun e w' => e = .returned (oV 0 0 0 ⟨#[]⟩ ⟨#[]⟩ tk tw it ct pr bu i) ∧ St W R w' := by
  go_enter Tryz.func194, Tryz.ntmps194
  go_wp2_with (first | ((fail_if_success (have := mA)); (refine zbx hS ?_; clear hS; have mA : Nat := 0; intro bA w hS)) | (refine zal hS ?_; clear hS; intro b w hS) | (refine zs1 hS ?_; clear hS; intro w hS) | (refine zsN hS ?_; clear hS; intro w hS) | (refine zlN hS ?_))
  (apply bp_cell; rfl; rfl; rfl; exact hS; decide +kernel; (exact cesS); kernel_rfl)
  exact ⟨rfl, hS.drop.drop⟩
end
theorem noB_list (u : ByteArray) : decide (u.toList = (⟨#[]⟩ : ByteArray).toList) = noB u := by
  rw [Lib.toList_data, Lib.toList_data]
  obtain ⟨⟨l⟩⟩ := u
  cases l <;> simp [noB, ByteArray.size]
theorem eq_rest (tk tw : ByteArray) (it ct pr : Int) (bu : Bool) (i : Int) (w : World) :
    (Op.equalIn 10000 207 (oV 0 0 0 ⟨#[]⟩ ⟨#[]⟩ tk tw it ct pr bu i) (oV 0 0 0 ⟨#[]⟩ ⟨#[]⟩ ⟨#[]⟩ ⟨#[]⟩ it ct 0 false 0)).run Tryz.prog w = .ok (noB tk && (noB tw && (decide (pr = 0) && (!bu && decide (i = 0))))) w := by
  have h := eqReq ⟨0, 0, 0, ⟨#[]⟩, ⟨#[]⟩, tk, tw, it, ct, pr, bu, i⟩ ⟨0, 0, 0, ⟨#[]⟩, ⟨#[]⟩, ⟨#[]⟩, ⟨#[]⟩, it, ct, 0, false, 0⟩ w
  refine h.trans ?_
  unfold Opn.eqB
  simp only [noB_list, decide_true, Bool.true_and]
  cases bu <;> rfl
theorem eq_bare (tk tw : ByteArray) (it ct pr : Int) (bu : Bool) (i : Int) (w : World) :
    (Op.equalIn 10000 207 (oV 0 0 0 ⟨#[]⟩ ⟨#[]⟩ tk tw it ct pr bu i) (oV 0 0 0 ⟨#[]⟩ ⟨#[]⟩ ⟨#[]⟩ ⟨#[]⟩ 0 0 0 false 0)).run Tryz.prog w = .ok (noB tk && (noB tw && (decide (it = 0) && (decide (ct = 0) && (decide (pr = 0) && (!bu && decide (i = 0))))))) w := by
  have h := eqReq ⟨0, 0, 0, ⟨#[]⟩, ⟨#[]⟩, tk, tw, it, ct, pr, bu, i⟩ ⟨0, 0, 0, ⟨#[]⟩, ⟨#[]⟩, ⟨#[]⟩, ⟨#[]⟩, 0, 0, 0, false, 0⟩ w
  refine h.trans ?_
  unfold Opn.eqB
  simp only [noB_list, decide_true, Bool.true_and]
  cases bu <;> rfl
theorem eq_id (tk tw : ByteArray) (it ct pr : Int) (bu : Bool) (i : Int) (w : World) :
    (Op.equalIn 10000 207 (oV 0 0 0 ⟨#[]⟩ ⟨#[]⟩ tk tw it ct pr bu i) (oV 0 0 0 ⟨#[]⟩ ⟨#[]⟩ ⟨#[]⟩ ⟨#[]⟩ 0 0 0 false i)).run Tryz.prog w = .ok (noB tk && (noB tw && (decide (it = 0) && (decide (ct = 0) && (decide (pr = 0) && !bu))))) w := by
  have h := eqReq ⟨0, 0, 0, ⟨#[]⟩, ⟨#[]⟩, tk, tw, it, ct, pr, bu, i⟩ ⟨0, 0, 0, ⟨#[]⟩, ⟨#[]⟩, ⟨#[]⟩, ⟨#[]⟩, 0, 0, 0, false, i⟩ w
  refine h.trans ?_
  unfold Opn.eqB
  simp only [noB_list, decide_true, Bool.true_and, Bool.and_true]
  cases bu <;> rfl
section
variable (kd cl sq : Int) (ak aw tk tw : ByteArray) (it ct pr : Int) (bu : Bool) (i : Int) (W w : World) (R : List HP)
set_option maxRecDepth 100000 in
set_option maxHeartbeats 2000000 in
theorem counts_spec (hS : St W R w) :
    Calls Tryz.prog 145 #[oV kd cl sq ak aw tk tw it ct pr bu i] w fun e w' => e = .returned (.bool (countsB ⟨kd, cl, sq, ak, aw, tk, tw, it, ct, pr, bu, i⟩)) ∧ St W R w' := by
  go_enter Tryz.func145, Tryz.ntmps145
  by_cases h1 : 0 ≤ it
  case neg =>
    have e : countsB ⟨kd, cl, sq, ak, aw, tk, tw, it, ct, pr, bu, i⟩ = false := by unfold countsB cntB; simp; omega
    have d1 : decide (0 ≤ it) = false := by simpa using h1
    rw [e]
    go_wp2_with (first | (refine zbx hS ?_; clear hS; intro b w hS))
    refine wp_region_reads (by kernel_rfl) (by kernel_rfl) hS ?_
    repeat (first | go_big_quiet_skip | (refine zq1 ?_) | (refine zqN ?_) | (apply wq_call; rfl; (intro w; apply exec_callF; (with_reducible rfl); decide +kernel; (focus (simp only [fD, List.map_cons, List.map_nil, Act.eval, fE, fF, fG, fH, Option.getD_some]; try rfl))); (intro w hS; exact rest_spec _ _ _ _ _ _ _ _ _ _ _ _ W w _ hS); (refine frS ?_)) | ((with_reducible apply wq_eqA); (with_reducible rfl); rfl; rfl; rfl; kernel_rfl; exact eq_rest tk tw it ct pr bu i; (refine frS ?_)) | (refine wq_pure rfl rfl ?_; intro K hK; go_big_quiet_op; go_big_quiet_on))
    clear hS
    intro w hS
    go_wp2_with fail
    go_ret
    exact ⟨by rfl, hS.drop⟩
  by_cases h2 : it < 4
  case neg =>
    have e : countsB ⟨kd, cl, sq, ak, aw, tk, tw, it, ct, pr, bu, i⟩ = false := by unfold countsB cntB; simp; omega
    have d2 : decide (it < 4) = false := by simpa using h2
    rw [e]
    go_wp2_with (first | (refine zbx hS ?_; clear hS; intro b w hS))
    refine wp_region_reads (by kernel_rfl) (by kernel_rfl) hS ?_
    repeat (first | go_big_quiet_skip | (refine zq1 ?_) | (refine zqN ?_) | (apply wq_call; rfl; (intro w; apply exec_callF; (with_reducible rfl); decide +kernel; (focus (simp only [fD, List.map_cons, List.map_nil, Act.eval, fE, fF, fG, fH, Option.getD_some]; try rfl))); (intro w hS; exact rest_spec _ _ _ _ _ _ _ _ _ _ _ _ W w _ hS); (refine frS ?_)) | ((with_reducible apply wq_eqA); (with_reducible rfl); rfl; rfl; rfl; kernel_rfl; exact eq_rest tk tw it ct pr bu i; (refine frS ?_)) | (refine wq_pure rfl rfl ?_; intro K hK; go_big_quiet_op; go_big_quiet_on))
    clear hS
    intro w hS
    go_wp2_with fail
    go_ret
    exact ⟨by rfl, hS.drop⟩
  by_cases h3 : 1 ≤ ct
  case neg =>
    have e : countsB ⟨kd, cl, sq, ak, aw, tk, tw, it, ct, pr, bu, i⟩ = false := by unfold countsB cntB; simp; omega
    have d3 : decide (1 ≤ ct) = false := by simpa using h3
    rw [e]
    go_wp2_with (first | (refine zbx hS ?_; clear hS; intro b w hS))
    refine wp_region_reads (by kernel_rfl) (by kernel_rfl) hS ?_
    repeat (first | go_big_quiet_skip | (refine zq1 ?_) | (refine zqN ?_) | (apply wq_call; rfl; (intro w; apply exec_callF; (with_reducible rfl); decide +kernel; (focus (simp only [fD, List.map_cons, List.map_nil, Act.eval, fE, fF, fG, fH, Option.getD_some]; try rfl))); (intro w hS; exact rest_spec _ _ _ _ _ _ _ _ _ _ _ _ W w _ hS); (refine frS ?_)) | ((with_reducible apply wq_eqA); (with_reducible rfl); rfl; rfl; rfl; kernel_rfl; exact eq_rest tk tw it ct pr bu i; (refine frS ?_)) | (refine wq_pure rfl rfl ?_; intro K hK; go_big_quiet_op; go_big_quiet_on))
    clear hS
    intro w hS
    go_wp2_with fail
    go_ret
    exact ⟨by rfl, hS.drop⟩
  by_cases h4 : ct ≤ 1048576
  case neg =>
    have e : countsB ⟨kd, cl, sq, ak, aw, tk, tw, it, ct, pr, bu, i⟩ = false := by unfold countsB cntB; simp; omega
    have d4 : decide (ct ≤ 1048576) = false := by simpa using h4
    rw [e]
    go_wp2_with (first | (refine zbx hS ?_; clear hS; intro b w hS))
    refine wp_region_reads (by kernel_rfl) (by kernel_rfl) hS ?_
    repeat (first | go_big_quiet_skip | (refine zq1 ?_) | (refine zqN ?_) | (apply wq_call; rfl; (intro w; apply exec_callF; (with_reducible rfl); decide +kernel; (focus (simp only [fD, List.map_cons, List.map_nil, Act.eval, fE, fF, fG, fH, Option.getD_some]; try rfl))); (intro w hS; exact rest_spec _ _ _ _ _ _ _ _ _ _ _ _ W w _ hS); (refine frS ?_)) | ((with_reducible apply wq_eqA); (with_reducible rfl); rfl; rfl; rfl; kernel_rfl; exact eq_rest tk tw it ct pr bu i; (refine frS ?_)) | (refine wq_pure rfl rfl ?_; intro K hK; go_big_quiet_op; go_big_quiet_on))
    clear hS
    intro w hS
    go_wp2_with fail
    go_ret
    exact ⟨by rfl, hS.drop⟩
  have e : countsB ⟨kd, cl, sq, ak, aw, tk, tw, it, ct, pr, bu, i⟩ = (noB tk && (noB tw && (decide (pr = 0) && (!bu && decide (i = 0))))) := by unfold countsB cntB restB; simp [h1, h2, h3, h4]
  rw [e]
  go_wp2_with (first | (refine zbx hS ?_; clear hS; intro b w hS))
  refine wp_region_reads (by kernel_rfl) (by kernel_rfl) hS ?_
  repeat (first | go_big_quiet_skip | (refine zq1 ?_) | (refine zqN ?_) | (apply wq_call; rfl; (intro w; apply exec_callF; (with_reducible rfl); decide +kernel; (focus (simp only [fD, List.map_cons, List.map_nil, Act.eval, fE, fF, fG, fH, Option.getD_some]; try rfl))); (intro w hS; exact rest_spec _ _ _ _ _ _ _ _ _ _ _ _ W w _ hS); (refine frS ?_)) | ((with_reducible apply wq_eqA); (with_reducible rfl); rfl; rfl; rfl; kernel_rfl; exact eq_rest tk tw it ct pr bu i; (refine frS ?_)) | (refine wq_pure rfl rfl ?_; intro K hK; go_big_quiet_op; go_big_quiet_on))
  clear hS
  intro w hS
  go_wp2_with fail
  go_ret
  exact ⟨by rfl, hS.drop⟩
end
end Go.Proofs.YtlmhakmoioogaaaGreat
end
