/-
  Numbers as bytes: the document's. For every number.
  Numbers and names as bytes: the document's; a string's bytes, a string out of bytes. For all numbers and strings.
  The document's vault as bytes. For every vault.
-/
import Derived.Test.YtbcokphjpllbiaaGreatVaultBackM5
import Derived.Test.YtbcokphjpllbiaaGreatVaultBackM25
import Derived.Laws.Bits64b
import Derived.Laws.IdiomStrings
section
set_option linter.unusedSimpArgs false
set_option linter.unusedVariables false
namespace Go.Proofs.YtbcokphjpllbiaaGreat
open Go.RowKit Go.Sl
def encF : Nat → Nat → List Int
  | 0, u => [(u : Int)]
  | f + 1, u => if 128 ≤ u then ((u % 128 + 128 : Nat) : Int) :: encF f (u / 128) else [(u : Int)]
def numU (n : Int) : Nat := if 4611686018427387904 < n then 4611686018427387904 else if 0 < n then n.toNat else 0
def numB (n : Int) : List Int := encF 8 (numU n)
theorem encF_small {f u : Nat} (h : u < 128) : encF f u = [(u : Int)] := by
  cases f with
  | zero => rfl
  | succ f => rw [encF, if_neg (by omega)]
theorem encF_len : ∀ f u, (encF f u).length ≤ f + 1
  | 0, u => Nat.le_refl _
  | f + 1, u => by
    rw [encF]
    split
    · have := encF_len f (u / 128)
      rw [List.length_cons]
      omega
    · simp
theorem numU_le (n : Int) : numU n ≤ 4611686018427387904 := by
  unfold numU
  repeat' split
  all_goals omega
theorem numB_len (n : Int) : (numB n).length ≤ 9 := encF_len _ _
theorem or_128 : ∀ v : Fin 256, bits .or .u8 ((v.val : Nat) : Int) 128 = ((v.val % 128 + 128 : Nat) : Int) := by decide +kernel
theorem byte_or (u : Nat) : bits .or .u8 ((u : Int) % 256) 128 = ((u % 128 + 128 : Nat) : Int) := by
  have h := or_128 ⟨u % 256, Nat.mod_lt _ (by decide)⟩
  have e : ((u : Int) % 256) = ((u % 256 : Nat) : Int) := by omega
  rw [e, h]
  have : u % 256 % 128 = u % 128 := Nat.mod_mod_of_dvd _ (by decide)
  simp only [this]
theorem byte_and {u : Nat} (hu : u ≤ 4611686018427387904) : bits .or .u8 (bits .and .u64 (u : Int) 127 % 256) 128 = ((u % 128 + 128 : Nat) : Int) := by
  have h := bits_and_u64_nat u 127 (by omega) (by decide)
  have e : u &&& 127 = u % 128 := Nat.and_two_pow_sub_one_eq_mod u 7
  have h2 : bits .and .u64 (u : Int) 127 = ((u % 128 : Nat) : Int) := by
    rw [← e]
    exact h
  rw [h2, byte_or, Nat.mod_mod]
theorem lt_pow9 {u : Nat} (h : u ≤ 4611686018427387904) : u < 128 ^ (8 + 1) := by
  have : (128 : Nat) ^ (8 + 1) = 9223372036854775808 := by decide
  omega
abbrev u8s (l : List Int) : List Value := l.map (Value.int .u8)
abbrev byR (v : Value) (l : List Int) : HP := row v 1 5 l.length (u8s l)
def NmR (W : World) (L : List HP) (t : List Int) (v3 v4 : Value) (w : World) : Prop :=
  ∃ (f u : Nat) (d : List Int), v3 = .int .u64 u ∧ u < 128 ^ (f + 1) ∧ u ≤ 4611686018427387904 ∧ f ≤ 8 ∧ d.length ≤ 8 - f ∧ d ++ encF f u = t ∧ St W (byR v4 d :: L) w
theorem u8s_push (d : List Int) (x : Int) : u8s (d ++ [x]) = u8s d ++ [Value.int .u8 x] := by unfold u8s; rw [List.map_append]; rfl
theorem byR_of {v : Value} {n : Nat} {l : List Int} {L : List HP} {W w : World} (hl : l.length = n) (h : St W (row v 1 5 n (u8s l) :: L) w) : St W (byR v l :: L) w := by
  unfold byR
  rw [hl]
  exact h
set_option maxRecDepth 100000 in
set_option maxHeartbeats 4000000 in
theorem num8 (n : Int) (hn : -9223372036854775808 ≤ n ∧ n ≤ 9223372036854775807) (W w : World) (R : List HP) (hS : St W R w) :
    Calls Tryz.prog 75 #[.int .i64 n] w fun e w' => ∃ v, e = .returned v ∧ St W (byR v (numB n) :: R) w' := by
  obtain ⟨u0, hu0⟩ : ∃ u, numU n = u := ⟨_, rfl⟩
  have hul : u0 ≤ 4611686018427387904 := by rw [← hu0]; exact numU_le n
  unfold numB
  rw [hu0]
  by_cases h1 : 4611686018427387904 < n
  · have e : numU n = 4611686018427387904 := by unfold numU; rw [if_pos h1]
    have eu : u0 = 4611686018427387904 := hu0.symm.trans e
    have Eu := Lib.hid eu
    clear hu0 e eu
    go_enter Tryz.func75, Tryz.ntmps75
    go_wp2_with (first | go_big_skip)
    have hS1 := hS.rowNil (k := 1) (T := 5)
    clear hS
    have hS := hS1
    clear hS1
    go_loopw [3, 4] (fun v3 v4 wr => NmR W R (encF 8 u0) v3 v4 wr) (fun v3 _ _ => (intOf v3).toNat)
    case atStart => exact ⟨8, u0, [], by rw [Eu.out]; rfl, lt_pow9 hul, hul, by omega, by simp, rfl, hS⟩
    case round =>
      clear hS
      obtain ⟨f, u, d, rfl, hu, hu2, hf, hd, hE, hS⟩ := hrel
      by_cases h128 : 128 ≤ u
      · obtain ⟨f, rfl⟩ : ∃ f', f = f' + 1 := by
          cases f with
          | zero => simp at hu; omega
          | succ f => exact ⟨f, rfl⟩
        have hu3 : u / 128 < 128 ^ (f + 1) := Nat.div_lt_of_lt_mul (by rw [Nat.pow_succ] at hu; omega)
        rw [encF, if_pos h128] at hE
        have Hu3 := Lib.hid hu3
        have HE := Lib.hid hE
        clear hE hu hu3
        go_wp2_with (first | go_big_skip | (refine zbs hS ?_; clear hS; intro bS w hS) | (refine zap hS ?_ (h63 := by unfold maxLen; omega) (hb := by omega); clear hS; intro v w hS))
        have hb := byte_and hu2
        have h0 : St W (row v 1 5 (d.length + 1) (u8s d ++ [Value.int .u8 (bits .or .u8 (bits .and .u64 (u : Int) 127 % 256) 128)]) :: _) w := hS
        rw [hb, ← u8s_push] at h0
        have h2 := byR_of (by rw [List.length_append, List.length_singleton]) h0
        go_roundw
        case rel => exact ⟨f, u / 128, d ++ [((u % 128 + 128 : Nat) : Int)], by rw [Int.natCast_ediv]; rfl, Hu3.out, by omega, by omega, by rw [List.length_append, List.length_singleton]; omega, by rw [List.append_assoc]; exact HE.out, h2.sel (by exact selS)⟩
        case measure => simp [intOf]; omega
      · have hu4 : u < 128 := by omega
        rw [encF_small hu4] at hE
        have HE := Lib.hid hE
        clear hE hu h128
        go_wp2_with (first | go_big_skip | (refine zbs hS ?_; clear hS; intro bS w hS) | (refine zap hS ?_ (h63 := by unfold maxLen; omega) (hb := by omega); clear hS; intro v w hS))
        go_ret
        refine ⟨v, rfl, ?_⟩
        have h0 : St W (row v 1 5 (d.length + 1) (u8s d ++ [Value.int .u8 (u : Int)]) :: _) w := hS
        rw [← u8s_push, HE.out] at h0
        have h2 := byR_of (by rw [← HE.out, List.length_append, List.length_singleton]) h0
        exact h2.sel (by exact selS)
  · have d1 : decide (4611686018427387904 < n) = false := by simpa using h1
    by_cases h2 : 0 < n
    · have e : numU n = n.toNat := by unfold numU; rw [if_neg h1, if_pos h2]
      obtain ⟨m, rfl⟩ : ∃ m : Nat, n = m := ⟨n.toNat, by omega⟩
      have eu : u0 = m := hu0.symm.trans (by rw [e]; simp)
      subst eu
      clear hu0 e
      go_enter Tryz.func75, Tryz.ntmps75
      go_wp2_with (first | go_big_skip)
      have hS1 := hS.rowNil (k := 1) (T := 5)
      clear hS
      have hS := hS1
      clear hS1
      go_loopw [3, 4] (fun v3 v4 wr => NmR W R (encF 8 u0) v3 v4 wr) (fun v3 _ _ => (intOf v3).toNat)
      case atStart => exact ⟨8, u0, [], rfl, lt_pow9 hul, hul, by omega, by simp, rfl, hS⟩
      case round =>
        clear hS
        obtain ⟨f, u, d, rfl, hu, hu2, hf, hd, hE, hS⟩ := hrel
        by_cases h128 : 128 ≤ u
        · obtain ⟨f, rfl⟩ : ∃ f', f = f' + 1 := by
            cases f with
            | zero => simp at hu; omega
            | succ f => exact ⟨f, rfl⟩
          have hu3 : u / 128 < 128 ^ (f + 1) := Nat.div_lt_of_lt_mul (by rw [Nat.pow_succ] at hu; omega)
          rw [encF, if_pos h128] at hE
          have Hu3 := Lib.hid hu3
          have HE := Lib.hid hE
          clear hE hu hu3
          go_wp2_with (first | go_big_skip | (refine zbs hS ?_; clear hS; intro bS w hS) | (refine zap hS ?_ (h63 := by unfold maxLen; omega) (hb := by omega); clear hS; intro v w hS))
          have hb := byte_and hu2
          have h0 : St W (row v 1 5 (d.length + 1) (u8s d ++ [Value.int .u8 (bits .or .u8 (bits .and .u64 (u : Int) 127 % 256) 128)]) :: _) w := hS
          rw [hb, ← u8s_push] at h0
          have h2 := byR_of (by rw [List.length_append, List.length_singleton]) h0
          go_roundw
          case rel => exact ⟨f, u / 128, d ++ [((u % 128 + 128 : Nat) : Int)], by rw [Int.natCast_ediv]; rfl, Hu3.out, by omega, by omega, by rw [List.length_append, List.length_singleton]; omega, by rw [List.append_assoc]; exact HE.out, h2.sel (by exact selS)⟩
          case measure => simp [intOf]; omega
        · have hu4 : u < 128 := by omega
          rw [encF_small hu4] at hE
          have HE := Lib.hid hE
          clear hE hu h128
          go_wp2_with (first | go_big_skip | (refine zbs hS ?_; clear hS; intro bS w hS) | (refine zap hS ?_ (h63 := by unfold maxLen; omega) (hb := by omega); clear hS; intro v w hS))
          go_ret
          refine ⟨v, rfl, ?_⟩
          have h0 : St W (row v 1 5 (d.length + 1) (u8s d ++ [Value.int .u8 (u : Int)]) :: _) w := hS
          rw [← u8s_push, HE.out] at h0
          have h2 := byR_of (by rw [← HE.out, List.length_append, List.length_singleton]) h0
          exact h2.sel (by exact selS)
    · have d2 : decide (0 < n) = false := by simpa using h2
      have e : numU n = 0 := by unfold numU; rw [if_neg h1, if_neg h2]
      have eu : u0 = 0 := hu0.symm.trans e
      have Eu := Lib.hid eu
      clear hu0 e eu
      go_enter Tryz.func75, Tryz.ntmps75
      go_wp2_with (first | go_big_skip)
      have hS1 := hS.rowNil (k := 1) (T := 5)
      clear hS
      have hS := hS1
      clear hS1
      go_loopw [3, 4] (fun v3 v4 wr => NmR W R (encF 8 u0) v3 v4 wr) (fun v3 _ _ => (intOf v3).toNat)
      case atStart => exact ⟨8, u0, [], by rw [Eu.out]; rfl, lt_pow9 hul, hul, by omega, by simp, rfl, hS⟩
      case round =>
        clear hS
        obtain ⟨f, u, d, rfl, hu, hu2, hf, hd, hE, hS⟩ := hrel
        by_cases h128 : 128 ≤ u
        · obtain ⟨f, rfl⟩ : ∃ f', f = f' + 1 := by
            cases f with
            | zero => simp at hu; omega
            | succ f => exact ⟨f, rfl⟩
          have hu3 : u / 128 < 128 ^ (f + 1) := Nat.div_lt_of_lt_mul (by rw [Nat.pow_succ] at hu; omega)
          rw [encF, if_pos h128] at hE
          have Hu3 := Lib.hid hu3
          have HE := Lib.hid hE
          clear hE hu hu3
          go_wp2_with (first | go_big_skip | (refine zbs hS ?_; clear hS; intro bS w hS) | (refine zap hS ?_ (h63 := by unfold maxLen; omega) (hb := by omega); clear hS; intro v w hS))
          have hb := byte_and hu2
          have h0 : St W (row v 1 5 (d.length + 1) (u8s d ++ [Value.int .u8 (bits .or .u8 (bits .and .u64 (u : Int) 127 % 256) 128)]) :: _) w := hS
          rw [hb, ← u8s_push] at h0
          have h2 := byR_of (by rw [List.length_append, List.length_singleton]) h0
          go_roundw
          case rel => exact ⟨f, u / 128, d ++ [((u % 128 + 128 : Nat) : Int)], by rw [Int.natCast_ediv]; rfl, Hu3.out, by omega, by omega, by rw [List.length_append, List.length_singleton]; omega, by rw [List.append_assoc]; exact HE.out, h2.sel (by exact selS)⟩
          case measure => simp [intOf]; omega
        · have hu4 : u < 128 := by omega
          rw [encF_small hu4] at hE
          have HE := Lib.hid hE
          clear hE hu h128
          go_wp2_with (first | go_big_skip | (refine zbs hS ?_; clear hS; intro bS w hS) | (refine zap hS ?_ (h63 := by unfold maxLen; omega) (hb := by omega); clear hS; intro v w hS))
          go_ret
          refine ⟨v, rfl, ?_⟩
          have h0 : St W (row v 1 5 (d.length + 1) (u8s d ++ [Value.int .u8 (u : Int)]) :: _) w := hS
          rw [← u8s_push, HE.out] at h0
          have h2 := byR_of (by rw [← HE.out, List.length_append, List.length_singleton]) h0
          exact h2.sel (by exact selS)
end Go.Proofs.YtbcokphjpllbiaaGreat
end
section
set_option linter.unusedSimpArgs false
set_option linter.unusedVariables false
namespace Go.Sl
open Go.RowKit
def strI (s : ByteArray) : List Int := s.data.toList.map fun b => (b.toNat : Int)
theorem strI_len (s : ByteArray) : (strI s).length = s.size := by unfold strI; rw [List.length_map]; rfl
/-- Block g holds a string's bytes, to be read. -/
def sbR (g : Nat) (s : ByteArray) : HP := fun f => ∃ o : Obj, (∀ w : World, w.heap[g]? = some o → ∀ (j : Nat) (u : Value), ((strI s).map (Value.int .u8))[j]? = some u → w.cell? ⟨g, j, none⟩ = some u) ∧ blkO g o f
section
variable {P : Program} {ops : Array Oper} {Q : Exit → Act → World → Prop} {a : Act} {w : World} {W : World} {L : List HP} {rest : List Oper} {o : Oper}
theorem Cells.sb {g : Nat} {s : ByteArray} : Cells (sbR g s :: L) g 0 ((strI s).map (Value.int .u8)) := fun j v hj W w hS => by
  obtain ⟨o, hS⟩ := St.ex hS
  obtain ⟨h1, hS⟩ := St.and hS
  rw [Nat.zero_add]
  exact h1 w (hS.get .head) j v hj
theorem wl_strBytes {src dst e : TypeId} {x : Operand} {s : ByteArray} (hS : St W L w) (ho : o.op = .convert src dst x) (hg : Region.wanted o (yielded ops a.tmps) = true) (hx : a.eval x = .string s)
    (hs : P.underlying src = some .string) (hd : P.underlying dst = some (.slice e)) (he : P.underlying e = some (.int .u8))
    (h : ∀ g c w', St W (sbR g s :: L) w' → wpList P ops Q rest (a.put o.dst (.slice (some ⟨g, 0, none⟩) s.size c)) w') : wpList P ops Q (o :: rest) a w := by
  have h1 := run_bytes_of_string (P := P) w src dst e s hs hd he
  refine wpList_run hg (v := .slice (some ⟨w.heap.size, 0, none⟩) s.size (grownCap w s.size 0 e)) (w' := w.drew.alloc (.cells (bytesRow s (grownCap w s.size 0 e)) e ((bytesRow s (grownCap w s.size 0 e)).size, (bytesRow s (grownCap w s.size 0 e)).size + 1))) ?_ (h _ _ _ ?_)
  · unfold execOp
    simp [ho, hx, h1]
  · have h2 := (hS.drawn (w.drawn + 1)).alloc (.cells (bytesRow s (grownCap w s.size 0 e)) e ((bytesRow s (grownCap w s.size 0 e)).size, (bytesRow s (grownCap w s.size 0 e)).size + 1))
    refine St.mkEx _ (St.mkAnd ?_ h2)
    intro w' hw j u hj
    rw [List.getElem?_map] at hj
    unfold strI at hj
    rw [List.getElem?_map] at hj
    have hw2 : w'.heap[w.heap.size]? = some (.cells (bytesRow s (grownCap w s.size 0 e)) e ((bytesRow s (grownCap w s.size 0 e)).size, (bytesRow s (grownCap w s.size 0 e)).size + 1)) := hw
    cases hb : s.data.toList[j]? with
    | none => rw [hb] at hj; cases hj
    | some b =>
      rw [hb] at hj
      simp only [Option.map_some, Option.some.injEq] at hj
      have hb2 : s.data[j]? = some b := by rw [← hb]; simp
      have hjl : j < s.data.size := (Array.getElem?_eq_some_iff.1 hb2).1
      have h3 : (bytesRow s (grownCap w s.size 0 e))[j]? = some u := by
        unfold bytesRow
        rw [Array.getElem?_append_left (by simpa using hjl), Array.getElem?_map, hb2, ← hj]
        rfl
      show w'.cell? ⟨w.heap.size, j, none⟩ = some u
      simp [World.cell?, hw2, h3]
end
end Go.Sl
namespace Go.Proofs.YtbcokphjpllbiaaGreat
open Go.RowKit Go.Sl
theorem u8_one (l : List Int) : (u8s l).all (·.oneCell') = true := by
  rw [List.all_eq_true]
  intro v hv
  obtain ⟨x, _, rfl⟩ := List.mem_map.1 hv
  rfl
theorem u8s_app (a b : List Int) : u8s (a ++ b) = u8s a ++ u8s b := List.map_append
theorem u8s_len (a : List Int) : (u8s a).length = a.length := List.length_map ..
set_option maxRecDepth 100000 in
set_option maxHeartbeats 4000000 in
theorem bytes8 (g c : Nat) (s : ByteArray) (hs : s.size ≤ 1000000) (W w : World) (R : List HP) (hS : St W (sbR g s :: R) w) :
    Calls Tryz.prog 76 #[.slice (some ⟨g, 0, none⟩) s.size c] w fun e w' => ∃ v, e = .returned v ∧ St W (byR v (numB s.size ++ strI s) :: R) w' := by
  have hln := numB_len s.size
  go_enter Tryz.func76, Tryz.ntmps76
  go_wp2_with (first | go_big_skip | (go_at_call 75; refine (num8 _ ⟨by omega, by omega⟩ W _ _ hS).mono ?_; clear hS; rintro e w ⟨vn, rfl, hS⟩; (have hv := hS.rowVal; obtain ⟨na, nc, rfl⟩ := hv)) | ((with_reducible apply wl_append hS); (with_reducible rfl); rfl; rfl; rfl; (exact esS); (exact rsS); rfl; decide; (exact takeS); exact Src.mk (Cells.there Cells.sb); (focus (rw [List.length_map, strI_len, Nat.mul_one])); (exact u8_one _); (focus (unfold maxLen; omega)); (focus (omega)); clear hS; intro v w hS; (refine frS ?_)))
  go_ret
  refine ⟨v, rfl, ?_⟩
  have h0 : St W (row v 1 5 ((numB s.size).length + s.size) (u8s (numB s.size) ++ u8s (strI s)) :: _) w := hS
  rw [← u8s_app] at h0
  have h2 := byR_of (by rw [List.length_append, strI_len]) h0
  exact h2.sel (by exact selS)
def NsR (W : World) (L : List HP) (ns : List Int) (v3 v4 : Value) (w : World) : Prop :=
  ∃ i : Nat, v4 = .int .i64 i ∧ i ≤ ns.length ∧ St W (byR v3 ((ns.take i).flatMap numB) :: L) w
theorem flat_le (ns : List Int) : (ns.flatMap numB).length ≤ 9 * ns.length := by
  induction ns with
  | nil => simp
  | cons n ns ih =>
    have := numB_len n
    rw [List.flatMap_cons, List.length_append, List.length_cons]
    omega
set_option maxRecDepth 100000 in
set_option maxHeartbeats 4000000 in
theorem nums8 (ns : List Int) (b c : Nat) (hl : ns.length ≤ 100) (hn : ∀ x ∈ ns, -9223372036854775808 ≤ x ∧ x ≤ 9223372036854775807) (W w : World) (R : List HP) (hS : St W (blk b (ns.map (Value.int .i64)) 3 :: R) w) :
    Calls Tryz.prog 78 #[.slice (some ⟨b, 0, none⟩) ns.length c] w fun e w' => ∃ v, e = .returned v ∧ St W (byR v (ns.flatMap numB) :: R) w' := by
  have Hn := Lib.hid hn
  clear hn
  go_enter Tryz.func78, Tryz.ntmps78
  go_wp2_with (first | go_big_skip)
  have hS1 := hS.rowNil (k := 1) (T := 5)
  clear hS
  have hS := hS1
  clear hS1
  go_loopw [3, 4] (fun v3 v4 wr => NsR W (blk b (ns.map (Value.int .i64)) 3 :: R) ns v3 v4 wr) (fun _ v4 _ => ns.length - (intOf v4).toNat)
  case atStart => exact ⟨0, rfl, Nat.zero_le _, hS⟩
  case round =>
    clear hS
    obtain ⟨i, rfl, hil, hS⟩ := hrel
    by_cases hin : i = ns.length
    · subst hin
      rw [List.take_length] at hS
      go_wp2_with (first | go_big_skip)
      go_ret
      exact ⟨u3, rfl, hS.sel (by exact selS)⟩
    · have hi1 : i < ns.length := by omega
      have hx : (ns.map (Value.int .i64))[i]? = some (.int .i64 ns[i]) := by rw [List.getElem?_map, List.getElem?_eq_getElem hi1]; rfl
      have hr := Hn.out _ (List.getElem_mem hi1)
      have hst : (ns.take (i + 1)).flatMap numB = (ns.take i).flatMap numB ++ numB ns[i] := by rw [List.take_succ_eq_append_getElem hi1, List.flatMap_append]; simp
      have hle := flat_le (ns.take i)
      rw [List.length_take] at hle
      generalize ns[i] = x at hx hr hst
      obtain ⟨r1, r2⟩ := hr
      have hlx := numB_len x
      have Hst := Lib.hid hst
      clear hst hin hil
      generalize (ns.take i).flatMap numB = d at hS Hst hle
      go_wp2_with (first | go_big_skip | (refine zl1 hS ?_ (hc := by exact Cell.there (Cell.here hx))) | (refine zl1 hS ?_ (hc := by exact Cell.here hx)) | (go_at_call 75; refine (num8 _ ⟨by omega, by omega⟩ W _ _ hS).mono ?_; clear hS; rintro e w ⟨vn, rfl, hS⟩; (have hv := hS.rowVal; obtain ⟨na, nc, rfl⟩ := hv)) | ((with_reducible apply wl_append hS); (with_reducible rfl); rfl; rfl; rfl; (exact esS); (exact rsS); rfl; decide; (exact takeS); exact St.src (by decide) hS; (focus (rw [u8s_len, Nat.mul_one])); (exact u8_one _); (focus (unfold maxLen; omega)); (focus (omega)); clear hS; intro v w hS; (refine frS ?_)))
      go_roundw
      case rel =>
        refine ⟨i + 1, rfl, hi1, ?_⟩
        rw [Hst.out]
        have h0 : St W (row v 1 5 (d.length + (numB x).length) (u8s d ++ u8s (numB x)) :: _) w := hS
        rw [← u8s_app] at h0
        have h2 := byR_of (by rw [List.length_append]) h0
        exact h2.sel (by exact selS)
      case measure => simp [intOf]; omega
end Go.Proofs.YtbcokphjpllbiaaGreat
end
section
set_option linter.unusedSimpArgs false
set_option linter.unusedVariables false
namespace Go.Proofs.YtbcokphjpllbiaaGreat
open Go.RowKit Go.Sl
def strE (s : ByteArray) : List Int := numB s.size ++ strI s
theorem strE_len (s : ByteArray) (h : s.size ≤ 16) : (strE s).length ≤ 25 := by
  have h1 := numB_len s.size
  unfold strE
  rw [List.length_append, strI_len]
  omega
theorem bytes8E (g c : Nat) (s : ByteArray) (hs : s.size ≤ 1000000) (W w : World) (R : List HP) (hS : St W (sbR g s :: R) w) :
    Calls Tryz.prog 76 #[.slice (some ⟨g, 0, none⟩) s.size c] w fun e w' => ∃ v, e = .returned v ∧ St W (byR v (strE s) :: R) w' := bytes8 g c s hs W w R hS
def numsB (ns : List Int) : List Int := ns.flatMap numB
theorem numsB_len (a b c d : Int) : (numsB [a, b, c, d]).length ≤ 36 := by
  have h := flat_le [a, b, c, d]
  simp only [List.length_cons, List.length_nil] at h
  exact h
theorem nums8E (ns : List Int) (b c : Nat) (hl : ns.length ≤ 100) (hn : ∀ x ∈ ns, -9223372036854775808 ≤ x ∧ x ≤ 9223372036854775807) (W w : World) (R : List HP) (hS : St W (blk b (ns.map (Value.int .i64)) 3 :: R) w) :
    Calls Tryz.prog 78 #[.slice (some ⟨b, 0, none⟩) ns.length c] w fun e w' => ∃ v, e = .returned v ∧ St W (byR v (numsB ns) :: R) w' := nums8 ns b c hl hn W w R hS
def encH (h : Hd) : List Int := strE h.who ++ numsB [h.has.x0, h.has.x1, h.has.x2, h.has.x3]
def boolI (b : Bool) : Int := if b = true then 1 else 0
def encO (o : Ord) : List Int := numB o.id ++ strE o.who ++ numsB [boolI o.buy, o.item, o.cnt, o.price]
def encV (p : Ps) (L : List Ord) (n : Int) : List Int := numB (hdL p).length ++ (hdL p).flatMap encH ++ numB L.length ++ L.flatMap encO ++ numB n
theorem encH_len (h : Hd) (hw : h.who.size ≤ 16) : (encH h).length ≤ 70 := by
  have h1 := strE_len h.who hw
  have h2 := numsB_len h.has.x0 h.has.x1 h.has.x2 h.has.x3
  unfold encH
  rw [List.length_append]
  omega
theorem encO_len (o : Ord) (hw : o.who.size ≤ 16) : (encO o).length ≤ 70 := by
  have h1 := strE_len o.who hw
  have h3 := numB_len o.id
  have h2 := numsB_len (boolI o.buy) o.item o.cnt o.price
  unfold encO
  rw [List.length_append, List.length_append]
  omega
theorem cat_len {α : Type} (f : α → List Int) (xs : List α) (h : ∀ x ∈ xs, (f x).length ≤ 70) : (xs.flatMap f).length ≤ 70 * xs.length := by
  induction xs with
  | nil => simp
  | cons x xs ih =>
    have h1 := h x (List.mem_cons_self ..)
    have h2 := ih fun y hy => h y (List.mem_cons_of_mem x hy)
    rw [List.flatMap_cons, List.length_append, List.length_cons]
    omega
def CtR {α : Type} (W : World) (F : List HP) (f : α → List Int) (base : List Int) (xs : List α) (v3 v4 : Value) (w : World) : Prop :=
  ∃ k : Nat, v4 = .int .i64 k ∧ k ≤ xs.length ∧ St W (byR v3 (base ++ (xs.take k).flatMap f) :: F) w
theorem cat_step {α : Type} (f : α → List Int) (base : List Int) (xs : List α) {k : Nat} (h : k < xs.length) : base ++ (xs.take (k + 1)).flatMap f = base ++ (xs.take k).flatMap f ++ f xs[k] := by
  rw [List.take_succ_eq_append_getElem h, List.flatMap_append, List.append_assoc]
  simp
set_option maxRecDepth 100000 in
set_option maxHeartbeats 4000000 in
theorem enc8 (i : It) (hi : isIt i = true) (W w : World) (R : List HP) (hS : St W R w) :
    Calls Tryz.prog 77 #[.agg i.cells.toArray] w fun e w' => ∃ v, e = .returned v ∧ St W (byR v (numsB [i.x0, i.x1, i.x2, i.x3]) :: R) w' := by
  obtain ⟨x0, x1, x2, x3⟩ := i
  obtain ⟨a0, a1, a2, a3⟩ := isIt_true.1 hi
  simp only at a0 a1 a2 a3
  have hn : ∀ x ∈ [x0, x1, x2, x3], -9223372036854775808 ≤ x ∧ x ≤ 9223372036854775807 := by
    intro x hx
    simp only [List.mem_cons, List.not_mem_nil, or_false] at hx
    rcases hx with rfl | rfl | rfl | rfl
    all_goals exact ⟨by omega, by omega⟩
  have Hn := Lib.hid hn
  clear hn hi
  simp only [It.cells]
  go_enter Tryz.func77, Tryz.ntmps77
  go_wp2_with (first | go_big_skip | (refine zbx hS ?_; clear hS; intro b w hS) | (refine zl1 hS ?_) | (refine zbs hS ?_; clear hS; intro bS w hS) | (go_at_call 78; refine (nums8E [x0, x1, x2, x3] bS 4 (by simp) Hn.out W _ _ hS).mono ?_; clear hS; rintro e w ⟨vn, rfl, hS⟩))
  go_ret
  exact ⟨vn, rfl, hS.sel (by exact selS)⟩
set_option maxRecDepth 100000 in
set_option maxHeartbeats 8000000 in
theorem encode8_o (xb xB : Nat) (ha la : Option Addr) (hc lc : Nat) (last : Int) (p : Ps) (L : List Ord) (n : Int) {N : Nat} (hp : PsOk p) (hw : PsW p N) (hN : N ≤ 1000000) (hmay : ∀ x ∈ L, MayP x) (hl32 : L.length ≤ 32) (hn0 : 1 ≤ n) (hn1 : n ≤ 1099511627777) (W w : World) (R : List HP) (hS : St W (blk xB [.slice la L.length lc, .int .i64 last] 68 :: pileR (.slice la L.length lc) L :: blk xb [.slice ha (hdL p).length hc, .pointer (some ⟨xB, 0, none⟩), .int .i64 n] 65 :: hdR (.slice ha (hdL p).length hc) (hdL p) :: R) w) :
    Calls Tryz.prog 30 #[.pointer (some ⟨xb, 0, none⟩)] w fun e w' => ∃ v, e = .returned v ∧ St W (byR v (encV p L n) :: blk xB [.slice la L.length lc, .int .i64 last] 68 :: pileR (.slice la L.length lc) L :: blk xb [.slice ha (hdL p).length hc, .pointer (some ⟨xB, 0, none⟩), .int .i64 n] 65 :: hdR (.slice ha (hdL p).length hc) (hdL p) :: R) w' := by
  have hlh : (hdL p).length ≤ 1000000 := by rw [hdL_len]; exact Nat.le_trans hw.len hN
  have hhw : ∀ x ∈ hdL p, x.who.size ≤ 16 ∧ isIt x.has = true := fun x hx => by
    refine ⟨?_, by rw [hdL_has hx]; exact hp _⟩
    have hk : x.who ∈ (hdL p).map Hd.who := List.mem_map_of_mem hx
    rw [hdL_who] at hk
    obtain ⟨y, hy, e⟩ := kL_mem hk
    rw [← e]
    exact whoB_le (hw.who y hy)
  have Hmay := Lib.hid hmay
  have Hhw := Lib.hid hhw
  clear hmay hw hp hhw
  unfold encV
  go_enter Tryz.func30, Tryz.ntmps30
  go_wp2_with (first | go_big_skip | (refine zl1 hS ?_) | (go_at_call 75; refine (num8 _ ⟨by omega, by omega⟩ W _ _ hS).mono ?_; clear hS; rintro e w ⟨vn, rfl, hS⟩; (have hv := hS.rowVal; obtain ⟨na, nc, rfl⟩ := hv)))
  generalize hhs : hdL p = hs at hS hlh Hhw
  have Hhs := Lib.hid hhs
  clear hhs
  go_loopw [3, 4] (fun v3 v4 wr => CtR W (blk xB [.slice la L.length lc, .int .i64 last] 68 :: pileR (.slice la L.length lc) L :: blk xb [.slice ha hs.length hc, .pointer (some ⟨xB, 0, none⟩), .int .i64 n] 65 :: hdR (.slice ha hs.length hc) hs :: R) encH (numB hs.length) hs v3 v4 wr) (fun _ v4 _ => hs.length - (intOf v4).toNat)
  case atStart => exact ⟨0, rfl, Nat.zero_le _, by simpa using hS⟩
  case round =>
    clear hS
    obtain ⟨k, rfl, hkl, hS⟩ := hrel
    by_cases hkn : k = hs.length
    · rw [hkn, List.take_length] at hS
      have hd1 : decide (k < hs.length) = false := by simp; omega
      clear hkl hkn
      generalize hacc : numB hs.length ++ hs.flatMap encH = acc at hS
      have hal : acc.length ≤ 70000100 := by
        have h1 := cat_len encH hs fun x hx => encH_len x (Hhw.out x hx).1
        have h2 := numB_len hs.length
        rw [← hacc, List.length_append]
        omega
      have Hacc := Lib.hid hacc
      clear hacc
      have hln := numB_len L.length
      go_wp2_with (first | go_big_skip | (refine zl1 hS ?_) | (go_at_call 75; refine (num8 _ ⟨by omega, by omega⟩ W _ _ hS).mono ?_; clear hS; rintro e w ⟨vn, rfl, hS⟩; (have hv := hS.rowVal; obtain ⟨na, nc, rfl⟩ := hv)) | ((with_reducible apply wl_append hS); (with_reducible rfl); rfl; rfl; rfl; (exact esS); (exact rsS); rfl; decide; (exact takeS); exact St.src (by decide) hS; (focus (rw [u8s_len, Nat.mul_one])); (exact u8_one _); (focus (unfold maxLen; omega)); (focus (omega)); clear hS; intro v w hS; (refine frS ?_)))
      have h0 : St W (row v 1 5 (acc.length + (numB L.length).length) (u8s acc ++ u8s (numB L.length)) :: _) w := hS
      rw [← u8s_app] at h0
      have hS := (byR_of (by rw [List.length_append]) h0).sel (L' := byR v (acc ++ numB L.length) :: blk xB _ _ :: pileR _ L :: blk xb _ _ :: hdR _ hs :: R) (by exact selS)
      clear h0
      go_loopw [3, 5] (fun v3 v5 wr => CtR W (blk xB [.slice la L.length lc, .int .i64 last] 68 :: pileR (.slice la L.length lc) L :: blk xb [.slice ha hs.length hc, .pointer (some ⟨xB, 0, none⟩), .int .i64 n] 65 :: hdR (.slice ha hs.length hc) hs :: R) encO (acc ++ numB L.length) L v3 v5 wr) (fun _ v5 _ => L.length - (intOf v5).toNat)
      case atStart => exact ⟨0, rfl, Nat.zero_le _, by simpa using hS⟩
      case round =>
        clear hS
        obtain ⟨j, rfl, hjl, hS⟩ := hrel
        by_cases hjn : j = L.length
        · rw [hjn, List.take_length] at hS
          have hd2 : decide (j < L.length) = false := by simp; omega
          clear hjl hjn
          have hlo := cat_len encO L fun x hx => encO_len x (Hmay.out x hx).who1
          generalize hd : acc ++ numB L.length ++ L.flatMap encO = d at hS
          have hdl : d.length ≤ 70010000 := by rw [← hd, List.length_append, List.length_append]; omega
          have Hd2 := Lib.hid hd
          have hlq := numB_len n
          clear hd
          go_wp2_with (first | go_big_skip | (refine zl1 hS ?_) | (go_at_call 75; refine (num8 _ ⟨by omega, by omega⟩ W _ _ hS).mono ?_; clear hS; rintro e w ⟨vn, rfl, hS⟩; (have hv := hS.rowVal; obtain ⟨na, nc, rfl⟩ := hv)) | ((with_reducible apply wl_append hS); (with_reducible rfl); rfl; rfl; rfl; (exact esS); (exact rsS); rfl; decide; (exact takeS); exact St.src (by decide) hS; (focus (rw [u8s_len, Nat.mul_one])); (exact u8_one _); (focus (unfold maxLen; omega)); (focus (omega)); clear hS; intro v w hS; (refine frS ?_)))
          go_ret
          refine ⟨v, rfl, ?_⟩
          rw [Hhs.out, Hacc.out, Hd2.out]
          have h0 : St W (row v 1 5 (d.length + (numB n).length) (u8s d ++ u8s (numB n)) :: _) w := hS
          rw [← u8s_app] at h0
          have h2 := byR_of (by rw [List.length_append]) h0
          exact h2.sel (by exact selS)
        · have hj1 : j < L.length := by omega
          obtain ⟨⟨g, rfl⟩, hcap, hcn⟩ := St.rowAddr hS.drop.drop (by omega)
          have hcells : ∀ {K K' : List HP}, Take K (pileR (.slice (some ⟨g, 0, none⟩) L.length lc) L) K' → Cells K g (j * 6) (Ord.cells L[j]) := fun hu => Cells.elemM (enc := Ord.cells) Ord.len hu hj1
          have hst := cat_step encO (acc ++ numB L.length) L hj1
          have hmx := Hmay.out _ (List.getElem_mem hj1)
          have hlt := cat_len encO (L.take j) fun x hx => encO_len x (Hmay.out x (List.mem_of_mem_take hx)).who1
          rw [List.length_take] at hlt
          generalize hd : acc ++ numB L.length ++ (L.take j).flatMap encO = d at hS hst
          have hdl : d.length ≤ 70010000 := by rw [← hd, List.length_append, List.length_append]; omega
          generalize L[j] = x at hcells hst hmx
          obtain ⟨oi, ou, oy, ot, oc, op⟩ := x
          have i0 : 1 ≤ oi := hmx.id0
          have i1 : oi ≤ 1099511627776 := hmx.id1
          have w1 : ou.size ≤ 16 := hmx.who1
          have t0 : 1 ≤ ot := hmx.item0
          have t1 : ot ≤ 3 := hmx.item1
          have c0 : 1 ≤ oc := hmx.cnt0
          have c1 : oc ≤ 1048576 := hmx.cnt1
          have p0 : 1 ≤ op := hmx.price0
          have p1 : op ≤ 1024 := hmx.price1
          have l1 := numB_len oi
          have l4 := strE_len ou w1
          have Hst := Lib.hid hst
          clear hst hmx hd hlt hjn hjl
          simp only [Ord.cells] at hcells
          cases oy with
          | false =>
            have hn : ∀ x ∈ [(0 : Int), ot, oc, op], -9223372036854775808 ≤ x ∧ x ≤ 9223372036854775807 := by
              intro x hx
              simp only [List.mem_cons, List.not_mem_nil, or_false] at hx
              rcases hx with rfl | rfl | rfl | rfl
              all_goals exact ⟨by omega, by omega⟩
            have l5 := numsB_len 0 ot oc op
            have Hn := Lib.hid hn
            clear hn
            go_wp2_with (first | go_big_skip | (refine zl1 hS ?_) | (refine zlN hS ?_ (hc := by exact hcells (by exact takeS))) | (refine zlN hS ?_) | ((with_reducible apply wl_alloc hS); (with_reducible rfl); rfl; (exact zsS); clear hS; intro b6 w hS; (refine frS ?_)) | (refine zsN hS ?_; clear hS; intro w hS) | (go_at_call 75; refine (num8 _ ⟨by omega, by omega⟩ W _ _ hS).mono ?_; clear hS; rintro e w ⟨vn, rfl, hS⟩; (have hv := hS.rowVal; obtain ⟨na, nc, rfl⟩ := hv)) | ((with_reducible apply wl_strBytes hS); (with_reducible rfl); rfl; rfl; exact Tryz.underlying9; exact Tryz.underlying30; exact Tryz.underlying5; clear hS; intro g9 c9 w hS; (refine frS ?_)) | (go_at_call 76; refine (bytes8E g9 c9 ou (by omega) W _ _ hS).mono ?_; clear hS; rintro e w ⟨vn, rfl, hS⟩; (have hv := hS.rowVal; obtain ⟨na, nc, rfl⟩ := hv)) | (refine zbs hS ?_; clear hS; intro bS w hS) | (go_at_call 78; refine (nums8E [0, ot, oc, op] bS 4 (by simp) Hn.out W _ _ hS).mono ?_; clear hS; rintro e w ⟨vn, rfl, hS⟩; (have hv := hS.rowVal; obtain ⟨na, nc, rfl⟩ := hv)) | ((with_reducible apply wl_append hS); (with_reducible rfl); rfl; rfl; rfl; (exact esS); (exact rsS); rfl; decide; (exact takeS); exact St.src (by decide) hS; (focus (rw [u8s_len, Nat.mul_one])); (exact u8_one _); (focus (unfold maxLen; omega)); (focus (omega)); clear hS; intro v w hS; (refine frS ?_)))
            go_roundw
            case rel =>
              refine ⟨j + 1, rfl, hj1, ?_⟩
              rw [Hst.out]
              unfold encO
              simp only [boolI, Bool.false_eq_true, if_true, if_false]
              have h0 : St W (row v 1 5 (d.length + (numB oi).length + (strE ou).length + (numsB [0, ot, oc, op]).length) (u8s d ++ u8s (numB oi) ++ u8s (strE ou) ++ u8s (numsB [0, ot, oc, op])) :: _) w := hS
              rw [← u8s_app, ← u8s_app, ← u8s_app, List.append_assoc d, List.append_assoc d] at h0
              have h2 := byR_of (by simp only [List.length_append]; omega) h0
              exact h2.sel (by exact selS)
            case measure => simp [intOf]; omega
          | true =>
            have hn : ∀ x ∈ [(1 : Int), ot, oc, op], -9223372036854775808 ≤ x ∧ x ≤ 9223372036854775807 := by
              intro x hx
              simp only [List.mem_cons, List.not_mem_nil, or_false] at hx
              rcases hx with rfl | rfl | rfl | rfl
              all_goals exact ⟨by omega, by omega⟩
            have l5 := numsB_len 1 ot oc op
            have Hn := Lib.hid hn
            clear hn
            go_wp2_with (first | go_big_skip | (refine zl1 hS ?_) | (refine zlN hS ?_ (hc := by exact hcells (by exact takeS))) | (refine zlN hS ?_) | ((with_reducible apply wl_alloc hS); (with_reducible rfl); rfl; (exact zsS); clear hS; intro b6 w hS; (refine frS ?_)) | (refine zsN hS ?_; clear hS; intro w hS) | (go_at_call 75; refine (num8 _ ⟨by omega, by omega⟩ W _ _ hS).mono ?_; clear hS; rintro e w ⟨vn, rfl, hS⟩; (have hv := hS.rowVal; obtain ⟨na, nc, rfl⟩ := hv)) | ((with_reducible apply wl_strBytes hS); (with_reducible rfl); rfl; rfl; exact Tryz.underlying9; exact Tryz.underlying30; exact Tryz.underlying5; clear hS; intro g9 c9 w hS; (refine frS ?_)) | (go_at_call 76; refine (bytes8E g9 c9 ou (by omega) W _ _ hS).mono ?_; clear hS; rintro e w ⟨vn, rfl, hS⟩; (have hv := hS.rowVal; obtain ⟨na, nc, rfl⟩ := hv)) | (refine zbs hS ?_; clear hS; intro bS w hS) | (go_at_call 78; refine (nums8E [1, ot, oc, op] bS 4 (by simp) Hn.out W _ _ hS).mono ?_; clear hS; rintro e w ⟨vn, rfl, hS⟩; (have hv := hS.rowVal; obtain ⟨na, nc, rfl⟩ := hv)) | ((with_reducible apply wl_append hS); (with_reducible rfl); rfl; rfl; rfl; (exact esS); (exact rsS); rfl; decide; (exact takeS); exact St.src (by decide) hS; (focus (rw [u8s_len, Nat.mul_one])); (exact u8_one _); (focus (unfold maxLen; omega)); (focus (omega)); clear hS; intro v w hS; (refine frS ?_)))
            go_roundw
            case rel =>
              refine ⟨j + 1, rfl, hj1, ?_⟩
              rw [Hst.out]
              unfold encO
              simp only [boolI, Bool.false_eq_true, if_true, if_false]
              have h0 : St W (row v 1 5 (d.length + (numB oi).length + (strE ou).length + (numsB [1, ot, oc, op]).length) (u8s d ++ u8s (numB oi) ++ u8s (strE ou) ++ u8s (numsB [1, ot, oc, op])) :: _) w := hS
              rw [← u8s_app, ← u8s_app, ← u8s_app, List.append_assoc d, List.append_assoc d] at h0
              have h2 := byR_of (by simp only [List.length_append]; omega) h0
              exact h2.sel (by exact selS)
            case measure => simp [intOf]; omega
    · have hk1 : k < hs.length := by omega
      obtain ⟨⟨g, rfl⟩, hcap, hcn⟩ := St.rowAddr hS.drop.drop.drop.drop (by omega)
      have hname : ∀ {K K' : List HP}, Take K (hdR (.slice (some ⟨g, 0, none⟩) hs.length hc) hs) K' → Cell K g (k * 5) (.string hs[k].who) := fun hu => Cells.elemM (enc := Hd.cells) Hd.len hu hk1 0 _ rfl
      have hitems : ∀ {K K' : List HP}, Take K (hdR (.slice (some ⟨g, 0, none⟩) hs.length hc) hs) K' → Cells K g (k * 5 + 1) (hs[k].has.cells) := fun hu j v hj => by
        have h1 := Cells.elemM (enc := Hd.cells) Hd.len hu hk1 (1 + j) v (by rw [Nat.add_comm]; exact hj)
        rwa [← Nat.add_assoc] at h1
      have hst := cat_step encH (numB hs.length) hs hk1
      have hmx := Hhw.out _ (List.getElem_mem hk1)
      have hlt := cat_len encH (hs.take k) fun x hx => encH_len x (Hhw.out x (List.mem_of_mem_take hx)).1
      rw [List.length_take] at hlt
      have hlk := numB_len hs.length
      generalize hd : numB hs.length ++ (hs.take k).flatMap encH = d at hS hst
      have hdl : d.length ≤ 70000100 := by rw [← hd, List.length_append]; omega
      generalize hs[k] = x at hname hitems hst hmx
      obtain ⟨xw, ⟨x0, x1, x2, x3⟩⟩ := x
      obtain ⟨w1, hit⟩ := hmx
      simp only at w1 hname
      have l4 := strE_len xw w1
      have l5 := numsB_len x0 x1 x2 x3
      have Hst := Lib.hid hst
      have Hit := Lib.hid hit
      clear hst hit hd hlt hkn hkl
      simp only [It.cells] at hitems
      go_wp2_with (first | go_big_skip | (refine zl1 hS ?_ (hc := by exact hname (by exact takeS))) | (refine zlN hS ?_ (hc := by exact hitems (by exact takeS))) | (refine zl1 hS ?_) | ((with_reducible apply wl_strBytes hS); (with_reducible rfl); rfl; rfl; exact Tryz.underlying9; exact Tryz.underlying30; exact Tryz.underlying5; clear hS; intro g9 c9 w hS; (refine frS ?_)) | (go_at_call 76; refine (bytes8E g9 c9 xw (by omega) W _ _ hS).mono ?_; clear hS; rintro e w ⟨vn, rfl, hS⟩; (have hv := hS.rowVal; obtain ⟨na, nc, rfl⟩ := hv)) | (go_at_call 77; refine (enc8 ⟨x0, x1, x2, x3⟩ Hit.out W _ _ hS).mono ?_; clear hS; rintro e w ⟨vn, rfl, hS⟩; (have hv := hS.rowVal; obtain ⟨na, nc, rfl⟩ := hv)) | ((with_reducible apply wl_append hS); (with_reducible rfl); rfl; rfl; rfl; (exact esS); (exact rsS); rfl; decide; (exact takeS); exact St.src (by decide) hS; (focus (rw [u8s_len, Nat.mul_one])); (exact u8_one _); (focus (unfold maxLen; omega)); (focus (omega)); clear hS; intro v w hS; (refine frS ?_)))
      go_roundw
      case rel =>
        refine ⟨k + 1, rfl, hk1, ?_⟩
        rw [Hst.out]
        unfold encH
        have h0 : St W (row v 1 5 (d.length + (strE xw).length + (numsB [x0, x1, x2, x3]).length) (u8s d ++ u8s (strE xw) ++ u8s (numsB [x0, x1, x2, x3])) :: _) w := hS
        rw [← u8s_app, ← u8s_app, List.append_assoc d] at h0
        have h2 := byR_of (by simp only [List.length_append]; omega) h0
        exact h2.sel (by exact selS)
      case measure => simp [intOf]; omega
end Go.Proofs.YtbcokphjpllbiaaGreat
end
