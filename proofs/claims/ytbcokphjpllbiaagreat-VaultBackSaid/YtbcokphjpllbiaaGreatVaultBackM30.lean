/-
  Numbers and names out of bytes. The plain law: no program in sight.
  A reader of bytes, as memory holds it. For every row of bytes.
  The program's Reader: numbers, rows of bytes. For all of them.
-/
import Derived.Test.YtbcokphjpllbiaaGreatVaultBackM5
import Derived.Test.YtbcokphjpllbiaaGreatVaultBackM26
import Derived.Test.YtbcokphjpllbiaaGreatVaultBackM27
import Derived.Test.YtbcokphjpllbiaaGreatVaultBackM28

section
set_option linter.unusedSimpArgs false
set_option linter.unusedVariables false
namespace Go.Proofs.YtbcokphjpllbiaaGreat
open Go.RowKit Go.Sl
/-- The bytes are bytes. -/
def ByB (s : List Int) : Prop := ∀ c ∈ s, 0 ≤ c ∧ c ≤ 255
theorem byB_drop {s : List Int} (h : ByB s) (n : Nat) : ByB (s.drop n) := fun c hc => h c (List.mem_of_mem_drop hc)
theorem byB_take {s : List Int} (h : ByB s) (n : Nat) : ByB (s.take n) := fun c hc => h c (List.mem_of_mem_take hc)
theorem byB_app {s t : List Int} (h : ByB (s ++ t)) : ByB s ∧ ByB t := ⟨fun c hc => h c (List.mem_append_left _ hc), fun c hc => h c (List.mem_append_right _ hc)⟩
def decF : Nat → Bool → List Int → Option (Nat × List Int)
  | _, _, [] => none
  | f, z, c :: s => if c < 128 then (if z = false ∧ c = 0 then none else some (c.toNat, s)) else
    match f with
    | 0 => none
    | f + 1 =>
      match decF f false s with
      | none => none
      | some (v, r) => some ((c - 128).toNat + 128 * v, r)
theorem decF_nil (f : Nat) (z : Bool) : decF f z [] = none := by
  unfold decF
  rfl
theorem decF_small {f : Nat} {z : Bool} {c : Int} {s : List Int} (h : c < 128) : decF f z (c :: s) = if z = false ∧ c = 0 then none else some (c.toNat, s) := by
  unfold decF
  rw [if_pos h]
theorem decF_big0 {z : Bool} {c : Int} {s : List Int} (h : ¬ c < 128) : decF 0 z (c :: s) = none := by
  unfold decF
  rw [if_neg h]
theorem decF_big {f : Nat} {z : Bool} {c : Int} {s : List Int} (h : ¬ c < 128) : decF (f + 1) z (c :: s) = match decF f false s with
    | none => none
    | some (v, r) => some ((c - 128).toNat + 128 * v, r) := by
  rw [decF, if_neg h]
def numD (s : List Int) : Option (Nat × List Int) :=
  match decF 8 true s with
  | none => none
  | some (u, r) => if u ≤ 4611686018427387904 then some (u, r) else none
theorem decF_enc : ∀ (f u : Nat) (z : Bool) (r : List Int), u < 128 ^ (f + 1) → (z = true ∨ u ≠ 0) → decF f z (encF f u ++ r) = some (u, r)
  | 0, u, z, r, hu, hz => by
    show decF 0 z ((u : Int) :: r) = _
    have h1 : (u : Int) < 128 := by simp at hu; omega
    have h2 : ¬ (z = false ∧ (u : Int) = 0) := by
      rintro ⟨h3, h4⟩
      rcases hz with h5 | h5
      · rw [h3] at h5; cases h5
      · omega
    unfold decF
    rw [if_pos h1, if_neg h2]
    simp
  | f + 1, u, z, r, hu, hz => by
    rw [encF]
    by_cases h : 128 ≤ u
    · rw [if_pos h, List.cons_append]
      have hu3 : u / 128 < 128 ^ (f + 1) := Nat.div_lt_of_lt_mul (by rw [Nat.pow_succ] at hu; omega)
      have ih := decF_enc f (u / 128) false r hu3 (.inr (by omega))
      unfold decF
      rw [if_neg (by omega)]
      dsimp only
      rw [ih]
      simp only [Option.some.injEq, Prod.mk.injEq, and_true]
      omega
    · rw [if_neg h]
      have h1 : (u : Int) < 128 := by omega
      have h2 : ¬ (z = false ∧ (u : Int) = 0) := by
        rintro ⟨h3, h4⟩
        rcases hz with h5 | h5
        · rw [h3] at h5; cases h5
        · omega
      show decF (f + 1) z ((u : Int) :: r) = _
      unfold decF
      rw [if_pos h1, if_neg h2]
      simp
theorem numD_enc (n : Int) (r : List Int) : numD (numB n ++ r) = some (numU n, r) := by
  have h := numU_le n
  unfold numD numB
  rw [decF_enc 8 (numU n) true r (lt_pow9 h) (.inl rfl)]
  exact if_pos h
theorem decF_inv : ∀ (s : List Int) (f : Nat) (z : Bool) (u : Nat) (r : List Int), ByB s → decF f z s = some (u, r) → s = encF f u ++ r ∧ u < 128 ^ (f + 1) ∧ (z = false → u ≠ 0)
  | [], f, z, u, r, _, h => by
    unfold decF at h
    cases h
  | c :: s, f, z, u, r, hb, h => by
    have hc := hb c (List.mem_cons_self ..)
    unfold decF at h
    by_cases h1 : c < 128
    · rw [if_pos h1] at h
      by_cases h2 : z = false ∧ c = 0
      · rw [if_pos h2] at h; cases h
      · rw [if_neg h2] at h
        simp only [Option.some.injEq, Prod.mk.injEq] at h
        obtain ⟨rfl, rfl⟩ := h
        have h3 : ((c.toNat : Nat) : Int) = c := by omega
        have h4 : c.toNat < 128 := by omega
        refine ⟨?_, ?_, ?_⟩
        · rw [encF_small h4, h3]; rfl
        · have h5 : 0 < 128 ^ f := Nat.pow_pos (by decide)
          rw [Nat.pow_succ]
          omega
        · intro hz h5
          exact h2 ⟨hz, by omega⟩
    · rw [if_neg h1] at h
      cases f with
      | zero => cases h
      | succ f =>
        simp only at h
        cases hd : decF f false s with
        | none => rw [hd] at h; cases h
        | some x =>
          obtain ⟨v, r2⟩ := x
          rw [hd] at h
          simp only [Option.some.injEq, Prod.mk.injEq] at h
          obtain ⟨rfl, rfl⟩ := h
          obtain ⟨i1, i2, i3⟩ := decF_inv s f false v r2 (fun x hx => hb x (List.mem_cons_of_mem _ hx)) hd
          have hv := i3 rfl
          have h6 : (c - 128).toNat < 128 := by omega
          refine ⟨?_, ?_, ?_⟩
          · rw [encF, if_pos (by omega)]
            have e1 : ((c - 128).toNat + 128 * v) / 128 = v := by omega
            have e2 : ((((c - 128).toNat + 128 * v) % 128 + 128 : Nat) : Int) = c := by omega
            rw [e1, e2, List.cons_append, ← i1]
          · rw [Nat.pow_succ]
            omega
          · omega
theorem numD_inv {s r : List Int} {u : Nat} (hb : ByB s) (h : numD s = some (u, r)) : s = numB u ++ r ∧ u ≤ 4611686018427387904 := by
  unfold numD at h
  cases hd : decF 8 true s with
  | none => rw [hd] at h; cases h
  | some x =>
    obtain ⟨v, r2⟩ := x
    rw [hd] at h
    simp only at h
    by_cases hv : v ≤ 4611686018427387904
    · rw [if_pos hv] at h
      simp only [Option.some.injEq, Prod.mk.injEq] at h
      obtain ⟨rfl, rfl⟩ := h
      obtain ⟨i1, i2, i3⟩ := decF_inv s 8 true v r2 hb hd
      refine ⟨?_, hv⟩
      have e : numU (v : Int) = v := by
        unfold numU
        split
        · omega
        · split
          · simp
          · omega
      unfold numB
      rw [e]
      exact i1
    · rw [if_neg hv] at h; cases h
theorem numU_nat {n : Int} (h0 : 0 ≤ n) (h1 : n ≤ 4611686018427387904) : ((numU n : Nat) : Int) = n := by
  unfold numU
  repeat' split
  all_goals omega
/-- What a reader has yet; none: it erred. -/
abbrev RS := Option (List Int)
def rdNum : RS → Int × RS
  | none => (0, none)
  | some l =>
    match numD l with
    | none => (0, none)
    | some (u, r) => ((u : Int), some r)
def rdRaw (n : Int) : RS → List Int × RS
  | none => ([], none)
  | some l => if 0 ≤ n ∧ n ≤ l.length then (l.take n.toNat, some (l.drop n.toNat)) else ([], none)
def rdBytes (s : RS) : List Int × RS := rdRaw (rdNum s).1 (rdNum s).2
def rdNums : Nat → RS → List Int × RS
  | 0, s => ([], s)
  | k + 1, s => ((rdNum s).1 :: (rdNums k (rdNum s).2).1, (rdNums k (rdNum s).2).2)
def BS (s : RS) : Prop := ∀ l, s = some l → ByB l
theorem rdNum_some {l r : List Int} {n : Int} (hb : ByB l) (h : rdNum (some l) = (n, some r)) : l = numB n ++ r ∧ 0 ≤ n ∧ n ≤ 4611686018427387904 ∧ ByB r := by
  unfold rdNum at h
  simp only at h
  cases hd : numD l with
  | none => rw [hd] at h; cases h
  | some x =>
    obtain ⟨u, r2⟩ := x
    rw [hd] at h
    simp only [Prod.mk.injEq, Option.some.injEq] at h
    obtain ⟨rfl, rfl⟩ := h
    obtain ⟨h1, h2⟩ := numD_inv hb hd
    refine ⟨h1, by omega, by omega, ?_⟩
    rw [h1] at hb
    exact (byB_app hb).2
theorem rdNum_none : rdNum none = (0, none) := rfl
theorem rdRaw_none (n : Int) : rdRaw n none = ([], none) := rfl
theorem rdNum_enc {n : Int} (h0 : 0 ≤ n) (h1 : n ≤ 4611686018427387904) (r : List Int) : rdNum (some (numB n ++ r)) = (n, some r) := by
  unfold rdNum
  simp only
  rw [numD_enc]
  simp only [numU_nat h0 h1]
theorem bstr_fold : ∀ (l : List Int) (b : ByteArray), (l.foldl (fun r n => r.push (UInt8.ofNat n.toNat)) b).data.toList = b.data.toList ++ l.map fun n => UInt8.ofNat n.toNat
  | [], b => by simp
  | n :: l, b => by
    rw [List.foldl_cons, bstr_fold l]
    simp [ByteArray.push]
theorem bstr_list (l : List Int) : (bstr l).data.toList = l.map fun n => UInt8.ofNat n.toNat := by
  unfold bstr
  rw [bstr_fold]
  rfl
theorem bstr_size (l : List Int) : (bstr l).size = l.length := by
  have h := congrArg List.length (bstr_list l)
  rw [List.length_map] at h
  exact h
theorem strI_bstr {l : List Int} (h : ByB l) : strI (bstr l) = l := by
  unfold strI
  rw [bstr_list, List.map_map]
  refine (List.map_congr_left fun n hn => ?_).trans (List.map_id _)
  have := h n hn
  show (((UInt8.ofNat n.toNat).toNat : Nat) : Int) = n
  simp
  omega
theorem bstr_strI (u : ByteArray) : bstr (strI u) = u := by
  refine bytes_ext ?_
  rw [bstr_list]
  unfold strI
  rw [List.map_map]
  refine (List.map_congr_left fun n hn => ?_).trans (List.map_id _)
  show UInt8.ofNat (((n.toNat : Nat) : Int)).toNat = n
  simp
theorem strI_byB (u : ByteArray) : ByB (strI u) := by
  intro c hc
  unfold strI at hc
  obtain ⟨b, _, rfl⟩ := List.mem_map.1 hc
  have := b.toNat_lt
  omega
theorem rdBytes_some {l r x : List Int} (hb : ByB l) (h : rdBytes (some l) = (x, some r)) : l = strE (bstr x) ++ r ∧ ByB x ∧ ByB r := by
  unfold rdBytes at h
  cases hn : rdNum (some l) with
  | mk n s =>
    rw [hn] at h
    simp only at h
    cases s with
    | none => rw [rdRaw_none] at h; cases h
    | some l2 =>
      obtain ⟨h1, h2, h3, h4⟩ := rdNum_some hb hn
      unfold rdRaw at h
      simp only at h
      by_cases hc : 0 ≤ n ∧ n ≤ l2.length
      · rw [if_pos hc] at h
        simp only [Prod.mk.injEq, Option.some.injEq] at h
        obtain ⟨rfl, rfl⟩ := h
        refine ⟨?_, byB_take h4 _, byB_drop h4 _⟩
        unfold strE
        rw [bstr_size, strI_bstr (byB_take h4 _), List.length_take, List.append_assoc, List.take_append_drop]
        have e : ((min n.toNat l2.length : Nat) : Int) = n := by omega
        rw [e]
        exact h1
      · rw [if_neg hc] at h; cases h
theorem rdBytes_enc (u : ByteArray) (h : u.size ≤ 1000000) (r : List Int) : rdBytes (some (strE u ++ r)) = (strI u, some r) := by
  unfold rdBytes strE
  rw [List.append_assoc, rdNum_enc (by omega) (by omega)]
  unfold rdRaw
  simp only
  rw [if_pos ⟨by omega, by rw [List.length_append, strI_len]; omega⟩]
  have e : ((u.size : Int)).toNat = (strI u).length := by rw [strI_len]; omega
  rw [e, List.take_left, List.drop_left]
end Go.Proofs.YtbcokphjpllbiaaGreat
end
section
set_option linter.unusedSimpArgs false
set_option linter.unusedVariables false
namespace Go.Sl
open Go.RowKit
section
variable {P : Program} {ops : Array Oper} {Q : Exit → Act → World → Prop} {a : Act} {w : World} {W : World} {L R : List HP} {rest : List Oper} {o : Oper}
theorem run_append_empty (t ty e : TypeId) (i : TypeInfo) (ht : P.underlying t = some (.slice e)) (hi : P.info? e = some i) (b : Option Addr) (n cap : Nat) (hn : n ≤ cap) (p : Addr) (c : Nat) :
    (Builtin.append_ #[t, t] ty #[.slice b n cap, .slice (some p) 0 c]).run P w = .ok (.slice b n cap) w := by
  cases b with
  | none => simp [Builtin.append_, run_underlying ht, sizeOf, typeInfo, hi, Builtin.lenOf, hn, Builtin.firstCells, loadCells, loadCellsFrom]
  | some q => simp [Builtin.append_, run_underlying ht, sizeOf, typeInfo, hi, Builtin.lenOf, hn, Builtin.firstCells, loadCells, loadCellsFrom, storeCells]
/-- append of an empty slice, wherever it stands. -/
theorem wl_append0 {s x : Operand} {t e : TypeId} {z : Value} {k k2 bytes : Nat} {v : Value} {n c : Nat} {p : Addr} {cs : List Value} (hS : St W L w) (ho : o.op = .call { callee := .builtin .append, args := #[s, x], argTypes := #[t, t] })
    (hg : Region.wanted o (yielded ops a.tmps) = true) (hs : a.eval s = v) (hx : a.eval x = .slice (some p) 0 c) (ht : tyElem P t = some e) (hi : tyRow P e = some (some z, k2, bytes)) (hu : Take L (row v k e n cs) R)
    (h : wpList P ops Q rest (a.put o.dst v) w) : wpList P ops Q (o :: rest) a w := by
  have ht' := tyElem_spec ht
  unfold tyRow at hi
  obtain ⟨i, hi', hi2⟩ := Option.map_eq_some_iff.1 hi
  obtain ⟨b, n', cap, hv, hn⟩ : ∃ b n' cap, v = .slice b n' cap ∧ n' ≤ cap := by
    rcases (hS.take hu).rowOpen with ⟨hv, _⟩ | ⟨g, cap, junk, hv, hn, _⟩
    · exact ⟨_, _, _, hv, Nat.le_refl _⟩
    · exact ⟨_, _, _, hv, hn⟩
  have h1 := run_append_empty (P := P) (w := w) t o.type e i ht' hi' b n' cap hn p c
  refine wpList_run hg (v := v) (w' := w) ?_ h
  rw [← hv] at h1
  unfold execOp
  simp only [ho, resolve, invoke, builtin, Sem.run_bind, Sem.run_pure, Result.andThen_ok, List.map_toArray, List.map_cons, List.map_nil, hs, hx, h1]
/-- A slice beside nil. -/
theorem wl_eqSv {t t2 e : TypeId} {x y : Operand} {a0 : Option Addr} {n c : Nat} (ho : o.op = .binOp .eql t x y t2) (hg : Region.wanted o (yielded ops a.tmps) = true) (hx : a.eval x = .slice a0 n c) (hy : a.eval y = .slice none 0 0) (ht : P.underlying t = some (.slice e))
    (h : wpList P ops Q rest (a.put o.dst (.bool a0.isNone)) w) : wpList P ops Q (o :: rest) a w := by
  refine wpList_run hg (v := .bool a0.isNone) (w' := w) ?_ h
  have h1 : (binOp .eql t (.slice a0 n c) (.slice none 0 0)).run P w = .ok (.bool a0.isNone) w := Lib.run_eql_slice_nil w t e a0 n c 0 0 ht
  unfold execOp
  simp [ho, hx, hy, eqGuard, h1]
end
end Go.Sl
namespace Go.Proofs.YtbcokphjpllbiaaGreat
open Go.RowKit Go.Sl
/-- In what D holds, these bytes stand. -/
def Dat (D : HP) (g off : Nat) (l : List Int) : Prop := ∀ K K', Take K D K' → Cells K g off (u8s l)
theorem Dat.drop {D : HP} {g off : Nat} {l : List Int} (h : Dat D g off l) (n : Nat) : Dat D g (off + n) (l.drop n) := fun K K' ht j v hj => by
  unfold u8s at hj
  rw [List.map_drop, List.getElem?_drop] at hj
  rw [Nat.add_assoc]
  exact h K K' ht (n + j) v hj
theorem Dat.take {D : HP} {g off : Nat} {l : List Int} (h : Dat D g off l) (n : Nat) : Dat D g off (l.take n) := fun K K' ht j v hj => by
  unfold u8s at hj
  rw [List.map_take, List.getElem?_take] at hj
  split at hj
  · exact h K K' ht j v hj
  · cases hj
theorem Dat.old {V : World} {g off : Nat} {l : List Int} (h : ∀ (j : Nat) (v : Value), (u8s l)[j]? = some v → V.cell? ⟨g, off + j, none⟩ = some v) : Dat (Old V) g off l := fun K K' ht j v hj W w hS => (hS.take ht).oldCell .head (h j v hj)
theorem Dat.row {g c : Nat} {l : List Int} (h : 0 < l.length) : Dat (byR (.slice (some ⟨g, 0, none⟩) l.length c) l) g 0 l := fun K K' ht j v hj W w hS => by
  rw [Nat.zero_add]
  exact Cell.row h hj W w (hS.take ht)
/-- The slice a reader has yet. -/
def rdV (D : HP) (v : Value) (e : Bool) : RS → Prop
  | none => v = .slice none 0 0 ∧ e = true
  | some l => e = false ∧ ∃ a c, v = .slice a l.length c ∧ l.length ≤ c ∧ c ≤ 9223372036854775807 ∧ ((l = [] ∧ a = none ∧ c = 0) ∨ (l = [] ∧ ∃ p, a = some p) ∨ ∃ g off, a = some ⟨g, off, none⟩ ∧ Dat D g off l)
def rdR (T : TypeId) (D : HP) (rb : Nat) (s : RS) : HP := fun f => ∃ v e, rdV D v e s ∧ blk rb [v, .bool e] T f
section
variable {W w : World} {T : TypeId} {D : HP} {rb : Nat} {s : RS} {R : List HP}
theorem rdOpen (h : St W (rdR T D rb s :: R) w) : ∃ v e, rdV D v e s ∧ St W (blk rb [v, .bool e] T :: R) w := by
  obtain ⟨v, h⟩ := St.ex h
  obtain ⟨e, h⟩ := St.ex h
  obtain ⟨h1, h⟩ := St.and h
  exact ⟨v, e, h1, h⟩
theorem rdSome {v : Value} {e : Bool} {l : List Int} (h : rdV D v e (some l)) : ∃ a c, e = false ∧ v = .slice a l.length c ∧ RowKit.Hid (rdV D (.slice a l.length c) false (some l)) := by
  obtain ⟨rfl, a, c, rfl, h⟩ := h
  exact ⟨a, c, rfl, rfl, Lib.hid ⟨rfl, a, c, rfl, h⟩⟩
theorem rdShut {v : Value} {e : Bool} (h1 : rdV D v e s) (h : St W (blk rb [v, .bool e] T :: R) w) : St W (rdR T D rb s :: R) w := St.mkEx v (St.mkEx e (St.mkAnd h1 h))
end
/-- A string out of a row of bytes. -/
theorem wl_bytesStrR {P : Program} {ops : Array Oper} {Q : Exit → Act → World → Prop} {a : Act} {w : World} {W : World} {L R : List HP} {rest : List Oper} {o : Oper} {src dst e : TypeId} {x : Operand} {v0 : Value} {ns : List Int} (hS : St W L w) (ho : o.op = .convert src dst x) (hg : Region.wanted o (yielded ops a.tmps) = true) (hx : a.eval x = v0)
    (hs : P.underlying src = some (.slice e)) (he : P.underlying e = some (.int .u8)) (hd : P.underlying dst = some .string) (hu : Take L (row v0 1 e ns.length (ns.map (Value.int .u8))) R)
    (h : wpList P ops Q rest (a.put o.dst (.string (bstr ns))) w) : wpList P ops Q (o :: rest) a w := by
  refine wpList_run hg (v := .string (bstr ns)) (w' := w) ?_ h
  rcases (hS.take hu).rowOpen with ⟨rfl, h0, _, _⟩ | ⟨g, cap, junk, rfl, _, _, _, _, hS'⟩
  · have hn : ns = [] := List.eq_nil_of_length_eq_zero h0
    subst hn
    unfold execOp
    simp [ho, hx, run_convert_bytes_string w src dst e none 0 0 hs he hd, Conv.bytesToString, bstr, Sem.run_pure]
  · have h1 := run_loadCells_list (P := P) w ⟨g, 0, none⟩ (ns.map (Value.int .u8)) (fun j v hj => by
      rw [Addr.add_lit, Nat.zero_add]
      exact hS'.cell .head (by rw [List.getElem?_append_left (List.getElem?_eq_some_iff.1 hj).1]; exact hj))
    rw [List.length_map] at h1
    have h2 := run_bytesToString (P := P) w ⟨g, 0, none⟩ ns.length cap ns h1
    unfold execOp
    simp [ho, hx, run_convert_bytes_string w src dst e (some ⟨g, 0, none⟩) ns.length cap hs he hd, h2, bstr]
/-! Bits. -/
theorem or_add {u v k : Nat} (hu : u < 2 ^ k) : u ||| v * 2 ^ k = u + v * 2 ^ k := by
  rw [Nat.or_comm, Nat.mul_comm v, Nat.add_comm]
  exact (Nat.two_pow_add_eq_or_of_lt hu v).symm
end Go.Proofs.YtbcokphjpllbiaaGreat
end
section
set_option linter.unusedSimpArgs false
set_option linter.unusedVariables false
namespace Go.Proofs.YtbcokphjpllbiaaGreat
open Go.RowKit Go.Sl
abbrev rdG := rdR 134
set_option maxRecDepth 100000 in
theorem bad_g (D : HP) (rb : Nat) (s : RS) (W w : World) (R : List HP) (hS : St W (rdG D rb s :: R) w) :
    Calls Tryz.prog 80 #[.pointer (some ⟨rb, 0, none⟩)] w fun e w' => e = .returned (.tuple #[]) ∧ St W (rdG D rb none :: R) w' := by
  obtain ⟨v0, e0, hv, hS1⟩ := rdOpen hS
  clear hS
  have hS := hS1
  clear hS1
  go_enter Tryz.func80, Tryz.ntmps80
  go_wp2_with (first | go_big_skip | (refine zs1 hS ?_; clear hS; intro w hS))
  go_end0
  exact ⟨rfl, rdShut ⟨rfl, rfl⟩ hS⟩
set_option maxRecDepth 100000 in
theorem good_g (D : HP) (rb : Nat) (s : RS) (W w : World) (R : List HP) (hS : St W (rdG D rb s :: R) w) :
    Calls Tryz.prog 33 #[.pointer (some ⟨rb, 0, none⟩)] w fun e w' => e = .returned (.bool s.isSome) ∧ St W (rdG D rb s :: R) w' := by
  obtain ⟨v0, e0, hv, hS1⟩ := rdOpen hS
  clear hS
  have hS := hS1
  clear hS1
  cases s with
  | none =>
    obtain ⟨rfl, rfl⟩ := hv
    go_enter Tryz.func33, Tryz.ntmps33
    go_wp2_with (first | go_big_skip | (refine zl1 hS ?_))
    go_ret
    exact ⟨rfl, rdShut ⟨rfl, rfl⟩ hS⟩
  | some l =>
    obtain ⟨rfl, hv⟩ := hv
    go_enter Tryz.func33, Tryz.ntmps33
    go_wp2_with (first | go_big_skip | (refine zl1 hS ?_))
    go_ret
    exact ⟨rfl, rdShut ⟨rfl, hv⟩ hS⟩
def isEnd (s : RS) : Bool := match s with
  | some [] => true
  | _ => false
set_option maxRecDepth 100000 in
theorem whole_g (D : HP) (rb : Nat) (s : RS) (W w : World) (R : List HP) (hS : St W (rdG D rb s :: R) w) :
    Calls Tryz.prog 39 #[.pointer (some ⟨rb, 0, none⟩)] w fun e w' => e = .returned (.bool (isEnd s)) ∧ St W (rdG D rb s :: R) w' := by
  cases s with
  | none =>
    go_enter Tryz.func39, Tryz.ntmps39
    go_wp2_with (first | go_big_skip | (go_at_call 33; refine (good_g D rb none W _ _ hS).mono ?_; clear hS; rintro e w ⟨rfl, hS⟩))
    go_ret
    exact ⟨rfl, hS⟩
  | some l =>
    cases l with
    | nil =>
      go_enter Tryz.func39, Tryz.ntmps39
      go_wp2_with (first | go_big_skip | (refine zl1 hS ?_) | (go_at_call 33; refine (good_g D rb (some []) W _ _ hS).mono ?_; clear hS; rintro e w ⟨rfl, hS1⟩; obtain ⟨v0, e0, hv, hS⟩ := rdOpen hS1; clear hS1; obtain ⟨a0, c0, rfl, rfl, Hv⟩ := rdSome hv; clear hv))
      go_ret
      exact ⟨rfl, rdShut Hv.out hS⟩
    | cons x t =>
      have h0 : decide (((x :: t).length : Int) = 0) = false := by simp; omega
      go_enter Tryz.func39, Tryz.ntmps39
      go_wp2_with (first | go_big_skip | (refine zl1 hS ?_) | (go_at_call 33; refine (good_g D rb (some (x :: t)) W _ _ hS).mono ?_; clear hS; rintro e w ⟨rfl, hS1⟩; obtain ⟨v0, e0, hv, hS⟩ := rdOpen hS1; clear hS1; obtain ⟨a0, c0, rfl, rfl, Hv⟩ := rdSome hv; clear hv))
      go_ret
      refine ⟨?_, rdShut Hv.out hS⟩
      simp [isEnd]
      try omega
/-- Where bytes stand that are read. -/
def At (D : HP) (a : Option Addr) (c : Nat) (l : List Int) : Prop := (l = [] ∧ a = none ∧ c = 0) ∨ (l = [] ∧ ∃ p, a = some p) ∨ ∃ g off, a = some ⟨g, off, none⟩ ∧ Dat D g off l
set_option maxRecDepth 100000 in
theorem clone_d (D : HP) (a : Option Addr) (c : Nat) (l : List Int) (h : At D a c l) (hl : l.length ≤ 100000000) (W w : World) (R R' : List HP) (ht : Take R D R') (hS : St W R w) :
    Calls Tryz.prog 79 #[.slice a l.length c] w fun e w' => ∃ v, e = .returned v ∧ St W (byR v l :: R) w' := by
  rcases h with ⟨rfl, rfl, rfl⟩ | ⟨rfl, p, rfl⟩ | ⟨g, off, rfl, hD⟩
  · go_enter Tryz.func79, Tryz.ntmps79
    go_wp2_with (first | go_big_skip | ((with_reducible apply wl_eqSv); (with_reducible rfl); rfl; rfl; rfl; exact Tryz.underlying30; (simp only [Option.isNone_some, Option.isNone_none]); (refine frS ?_)))
    go_ret
    exact ⟨_, rfl, hS.rowNil⟩
  · go_enter Tryz.func79, Tryz.ntmps79
    go_wp2_with (first | go_big_skip | ((with_reducible apply wl_eqSv); (with_reducible rfl); rfl; rfl; rfl; exact Tryz.underlying30; (simp only [Option.isNone_some, Option.isNone_none]); (refine frS ?_)) | ((with_reducible apply wl_bsR (n := 0) hS); (with_reducible rfl); rfl; (focus (simp only [fD, List.map_cons, List.map_nil, Act.eval, fE, fF, fG, fH, Option.getD_some]; try rfl)); (exact esS); (exact rsS); rfl; rfl; rfl; rfl; rfl; decide; clear hS; intro bv w hS; (refine frS ?_)) | ((with_reducible apply wl_append0 hS); (with_reducible rfl); rfl; rfl; rfl; (exact esS); (exact rsS); (exact takeS); (refine frS ?_)))
    go_ret
    exact ⟨_, rfl, hS⟩
  · have hsrc : Src R (.slice (some ⟨g, off, none⟩) l.length c) l.length (u8s l) := Src.mk (hD _ _ ht)
    go_enter Tryz.func79, Tryz.ntmps79
    go_wp2_with (first | go_big_skip | ((with_reducible apply wl_eqSv); (with_reducible rfl); rfl; rfl; rfl; exact Tryz.underlying30; (simp only [Option.isNone_some, Option.isNone_none]); (refine frS ?_)) | ((with_reducible apply wl_bsR (n := 0) hS); (with_reducible rfl); rfl; (focus (simp only [fD, List.map_cons, List.map_nil, Act.eval, fE, fF, fG, fH, Option.getD_some]; try rfl)); (exact esS); (exact rsS); rfl; rfl; rfl; rfl; rfl; decide; clear hS; intro bv w hS; (refine frS ?_)) | ((with_reducible apply wl_append hS); (with_reducible rfl); rfl; rfl; rfl; (exact esS); (exact rsS); rfl; decide; (exact takeS); exact hsrc.there; (focus (rw [u8s_len, Nat.mul_one])); (exact u8_one _); (focus (unfold maxLen; omega)); (focus (omega)); clear hS; intro v w hS; (have hv := hS.rowVal; obtain ⟨va, vc, rfl⟩ := hv); (refine frS ?_)))
    go_ret
    refine ⟨_, rfl, ?_⟩
    have h0 : St W (row (.slice va (0 + l.length) vc) 1 5 (0 + l.length) (u8s ([] ++ l)) :: _) w := hS
    have h2 := byR_of (by rw [List.nil_append, Nat.zero_add]) h0
    rw [List.nil_append] at h2
    exact h2
theorem clone_n (D : HP) (a : Option Addr) (c : Nat) {n : Nat} (l : List Int) (h : At D a c l) (hl : l.length ≤ 100000000) (hn : l.length = n) (W w : World) (R R' : List HP) (ht : Take R D R') (hS : St W R w) :
    Calls Tryz.prog 79 #[.slice a n c] w fun e w' => ∃ v, e = .returned v ∧ St W (byR v l :: R) w' := hn ▸ clone_d D a c l h hl W w R R' ht hS
theorem byR_at {W w : World} {v : Value} {l : List Int} {R : List HP} (h : St W (byR v l :: R) w) : ∃ a c, v = .slice a l.length c ∧ rdV (byR (.slice a l.length c) l) (.slice a l.length c) false (some l) := by
  rcases h.rowOpen with ⟨rfl, h0, _, _⟩ | ⟨g, cap, junk, rfl, hn, hm, _, _, _⟩
  · have hl : l = [] := List.eq_nil_of_length_eq_zero h0
    subst hl
    exact ⟨none, 0, rfl, rfl, none, 0, rfl, Nat.le_refl _, by decide, .inl ⟨rfl, rfl, rfl⟩⟩
  · refine ⟨_, _, rfl, rfl, _, _, rfl, hn, by unfold maxLen at hm; omega, ?_⟩
    by_cases h0 : 0 < l.length
    · exact .inr (.inr ⟨g, 0, rfl, Dat.row h0⟩)
    · exact .inr (.inl ⟨List.eq_nil_of_length_eq_zero (by omega), _, rfl⟩)
theorem rdV_at {D : HP} {a : Option Addr} {c : Nat} {l : List Int} (h : rdV D (.slice a l.length c) false (some l)) : At D a c l := by
  obtain ⟨_, a2, c2, e, _, _, h⟩ := h
  cases e
  exact h
theorem rdV_cap {D : HP} {a : Option Addr} {c : Nat} {l : List Int} (h : rdV D (.slice a l.length c) false (some l)) : l.length ≤ c ∧ c ≤ 9223372036854775807 := by
  obtain ⟨_, a2, c2, e, h1, h2, _⟩ := h
  cases e
  exact ⟨h1, h2⟩
set_option maxRecDepth 100000 in
/-- A Reader of bytes of its own. -/
theorem newR_g (D : HP) (a : Option Addr) (c : Nat) (l : List Int) (h : At D a c l) (hl : l.length ≤ 100000000) (W w : World) (R R' : List HP) (ht : Take R D R') (hS : St W R w) :
    Calls Tryz.prog 31 #[.slice a l.length c] w fun e w' => ∃ v rb, e = .returned (.pointer (some ⟨rb, 0, none⟩)) ∧ St W (rdG (byR v l) rb (some l) :: byR v l :: R) w' := by
  go_enter Tryz.func31, Tryz.ntmps31
  go_wp2_with (first | go_big_skip | (go_at_call 79; refine (clone_d D a c l h hl W _ _ _ ht hS).mono ?_; clear hS; rintro e w ⟨v, rfl, hS⟩; (have hv := hS.rowVal; obtain ⟨va, vc, rfl⟩ := hv)) | (refine zbx hS ?_; clear hS; intro b w hS))
  go_ret
  obtain ⟨a1, c1, e1, hv⟩ := byR_at hS.drop
  cases e1
  exact ⟨_, _, rfl, rdShut hv hS⟩
theorem rawN {n : Int} {l : List Int} (h : ¬ (0 ≤ n ∧ n ≤ l.length)) : rdRaw n (some l) = ([], none) := if_neg h
theorem rawY {m : Nat} {l : List Int} (h : m ≤ l.length) : rdRaw (m : Int) (some l) = (l.take m, some (l.drop m)) := by
  unfold rdRaw
  simp only
  rw [if_pos ⟨by omega, by omega⟩]
  simp
set_option maxRecDepth 100000 in
theorem raw_g (D : HP) (rb : Nat) (s : RS) (n : Int) (hn : -9223372036854775808 ≤ n ∧ n ≤ 9223372036854775807) (hl : ∀ l, s = some l → l.length ≤ 100000000) (W w : World) (R R' : List HP) (ht : Take R D R') (hS : St W (rdG D rb s :: R) w) :
    Calls Tryz.prog 81 #[.pointer (some ⟨rb, 0, none⟩), .int .i64 n] w fun e w' => ∃ v, e = .returned v ∧ St W (byR v (rdRaw n s).1 :: rdG D rb (rdRaw n s).2 :: R) w' := by
  cases s with
  | none =>
    rw [rdRaw_none]
    obtain ⟨v0, e0, hv, hS1⟩ := rdOpen hS
    clear hS hl
    obtain ⟨rfl, rfl⟩ := hv
    have hS := hS1
    clear hS1
    by_cases hlo : n < 0
    · go_enter Tryz.func81, Tryz.ntmps81
      go_wp2_with (first | go_big_skip | (refine zl1 hS ?_) | (go_at_call 80; refine (bad_g D rb none W _ _ (rdShut ⟨rfl, rfl⟩ hS)).mono ?_; clear hS; rintro e w ⟨rfl, hS⟩))
      go_ret
      exact ⟨_, rfl, hS.rowNil⟩
    · by_cases hhi : 0 < n
      · go_enter Tryz.func81, Tryz.ntmps81
        go_wp2_with (first | go_big_skip | (refine zl1 hS ?_) | (go_at_call 80; refine (bad_g D rb none W _ _ (rdShut ⟨rfl, rfl⟩ hS)).mono ?_; clear hS; rintro e w ⟨rfl, hS⟩))
        go_ret
        exact ⟨_, rfl, hS.rowNil⟩
      · obtain rfl : n = 0 := by omega
        clear hlo hhi hn
        go_enter Tryz.func81, Tryz.ntmps81
        go_wp2_with (first | go_big_skip | (refine zl1 hS ?_) | (go_at_call 79; refine (clone_d D none 0 [] (.inl ⟨rfl, rfl, rfl⟩) (by simp) W _ _ _ ht.tail hS).mono ?_; clear hS; rintro e w ⟨v, rfl, hS⟩; (have hv := hS.rowVal; obtain ⟨va, vc, rfl⟩ := hv)) | (refine zs1 hS ?_; clear hS; intro w hS))
        go_ret
        exact ⟨_, rfl, St.swap (rdShut ⟨rfl, rfl⟩ hS.swap)⟩
  | some l =>
    have hll := hl l rfl
    clear hl
    obtain ⟨v0, e0, hv, hS1⟩ := rdOpen hS
    clear hS
    have hS := hS1
    clear hS1
    obtain ⟨a0, c0, rfl, rfl, Hv⟩ := rdSome hv
    clear hv
    by_cases hlo : n < 0
    · rw [rawN (by omega)]
      go_enter Tryz.func81, Tryz.ntmps81
      go_wp2_with (first | go_big_skip | (refine zl1 hS ?_) | (go_at_call 80; refine (bad_g D rb (some l) W _ _ (rdShut Hv.out hS)).mono ?_; clear hS; rintro e w ⟨rfl, hS⟩))
      go_ret
      exact ⟨_, rfl, hS.rowNil⟩
    · obtain ⟨m, rfl⟩ : ∃ m : Nat, n = m := ⟨n.toNat, by omega⟩
      by_cases hhi : m ≤ l.length
      · rw [rawY hhi]
        have hsl := rdV_at Hv.out
        obtain ⟨hcl, hcm⟩ := rdV_cap Hv.out
        have hmc : m ≤ c0 := by omega
        have hd : decide ((l.length : Int) < (m : Int)) = false := by simp; omega
        rcases hsl with ⟨rfl, rfl, rfl⟩ | ⟨rfl, p, rfl⟩ | ⟨g, off, rfl, hD⟩
        · obtain rfl : m = 0 := by simpa using hhi
          go_enter Tryz.func81, Tryz.ntmps81
          go_wp2_with (first | go_big_skip | (refine zl1 hS ?_) | (go_at_call 79; refine (clone_d D none 0 [] (.inl ⟨rfl, rfl, rfl⟩) (by simp) W _ _ _ ht.tail hS).mono ?_; clear hS; rintro e w ⟨v, rfl, hS⟩; (have hv := hS.rowVal; obtain ⟨va, vc, rfl⟩ := hv)) | (refine zs1 hS ?_; clear hS; intro w hS))
          go_ret
          exact ⟨_, rfl, St.swap (rdShut Hv.out hS.swap)⟩
        · obtain rfl : m = 0 := by simpa using hhi
          by_cases hc0 : c0 = 0
          · subst hc0
            go_enter Tryz.func81, Tryz.ntmps81
            go_wp2_with (first | go_big_skip | (refine zl1 hS ?_) | (go_at_call 79; refine (clone_d D (some p) _ [] (.inr (.inl ⟨rfl, p, rfl⟩)) (by simp) W _ _ _ ht.tail hS).mono ?_; clear hS; rintro e w ⟨v, rfl, hS⟩; (have hv := hS.rowVal; obtain ⟨va, vc, rfl⟩ := hv)) | (refine zs1 hS ?_; clear hS; intro w hS))
            go_ret
            exact ⟨_, rfl, St.swap (rdShut Hv.out hS.swap)⟩
          · go_enter Tryz.func81, Tryz.ntmps81
            go_wp2_with (first | go_big_skip | (refine zl1 hS ?_) | (go_at_call 79; refine (clone_d D (some p) _ [] (.inr (.inl ⟨rfl, p, rfl⟩)) (by simp) W _ _ _ ht.tail hS).mono ?_; clear hS; rintro e w ⟨v, rfl, hS⟩; (have hv := hS.rowVal; obtain ⟨va, vc, rfl⟩ := hv)) | (refine zs1 hS ?_; clear hS; intro w hS))
            go_ret
            refine ⟨_, rfl, St.swap (rdShut (v := .slice (some _) 0 c0) ⟨rfl, _, c0, rfl, Nat.zero_le _, hcm, .inr (.inl ⟨rfl, _, rfl⟩)⟩ hS.swap)⟩
        · have hD1 := hD.take m
          have hlm : (l.take m).length = m := by rw [List.length_take]; omega
          have hld : (l.drop m).length = l.length - m := List.length_drop ..
          by_cases hc0 : c0 = m
          · go_enter Tryz.func81, Tryz.ntmps81
            go_wp2_with (first | go_big_skip | (refine zl1 hS ?_) | (go_at_call 79; refine (clone_n D (some ⟨g, off, none⟩) _ (l.take m) (.inr (.inr ⟨g, off, rfl, hD1⟩)) (by omega) hlm W _ _ _ ht.tail hS).mono ?_; clear hS; rintro e w ⟨v, rfl, hS⟩; (have hv := hS.rowVal; obtain ⟨va, vc, rfl⟩ := hv); (rw [hlm] at hS)) | (refine zs1 hS ?_; clear hS; intro w hS))
            go_ret
            refine ⟨_, rfl, St.swap (rdShut ?_ hS.swap)⟩
            refine ⟨rfl, _, _, by rw [hld], by rw [hld]; omega, by omega, .inr (.inl ⟨List.eq_nil_of_length_eq_zero (by rw [hld]; omega), _, rfl⟩)⟩
          · go_enter Tryz.func81, Tryz.ntmps81
            go_wp2_with (first | go_big_skip | (refine zl1 hS ?_) | (go_at_call 79; refine (clone_n D (some ⟨g, off, none⟩) _ (l.take m) (.inr (.inr ⟨g, off, rfl, hD1⟩)) (by omega) hlm W _ _ _ ht.tail hS).mono ?_; clear hS; rintro e w ⟨v, rfl, hS⟩; (have hv := hS.rowVal; obtain ⟨va, vc, rfl⟩ := hv); (rw [hlm] at hS)) | (refine zs1 hS ?_; clear hS; intro w hS))
            go_ret
            refine ⟨_, rfl, St.swap (rdShut ?_ hS.swap)⟩
            refine ⟨rfl, _, _, by rw [hld], by rw [hld]; omega, by omega, .inr (.inr ⟨_, _, rfl, hD.drop m⟩)⟩
      · rw [rawN (by omega)]
        have hd : decide ((l.length : Int) < (m : Int)) = true := by simp; omega
        go_enter Tryz.func81, Tryz.ntmps81
        go_wp2_with (first | go_big_skip | (refine zl1 hS ?_) | (go_at_call 80; refine (bad_g D rb (some l) W _ _ (rdShut Hv.out hS)).mono ?_; clear hS; rintro e w ⟨rfl, hS⟩))
        go_ret
        exact ⟨_, rfl, hS.rowNil⟩
end Go.Proofs.YtbcokphjpllbiaaGreat
end
