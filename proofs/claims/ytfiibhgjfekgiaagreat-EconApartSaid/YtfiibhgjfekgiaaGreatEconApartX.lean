/-
  What the law needs beside the texts of another law of this seat: theorems on memory that was there before, on keys apart, on requests that come in as a slice. No condition.
-/
import Derived.Test.YtfiibhgjfekgiaaGreatEconOldM27
import Derived.Test.YtfiibhgjfekgiaaGreatEconOldM28
import Derived.Test.YtfiibhgjfekgiaaGreatRows
import Derived.Lib.SmallJoins
import Derived.ChangeArms
import Derived.ProofKit
import Derived.Deep.Slices
import Derived.Deep.Fields
import Derived.ChangeSame
section
namespace Go.Proofs.YtfiibhgjfekgiaaGreat
open Go.Sl
namespace Ty
theorem e39 : tyElem Tryz.prog 39 = some 9 := by kernel_rfl
theorem r9 : tyRow Tryz.prog 9 = some (some (.string ⟨#[]⟩), 1, 16) := by kernel_rfl
end Ty
end Go.Proofs.YtfiibhgjfekgiaaGreat
end
section
set_option linter.unusedSimpArgs false
set_option linter.unusedVariables false
namespace Go.Proofs.YtfiibhgjfekgiaaGreat
open Go.Joins Go.ChangeShapes Go.WideShapes Go.RowKit Go.Deep Go.Sl
section
variable {H : Type} {enc : TypeId × Value → H} {P : Program} {w : World} {base : Nat} {spare : Nat → Bool} {held : Bool}
theorem open_sliceV {α : Type} {r : Reach} {b0 : Nat} {t e : TypeId} {k : Nat} {v : Value} {d : DataW H} {p : List MemPlace} (en : α → List Value) (x0 : α) (hk : ∀ x, (en x).length = k) (h0 : 0 < k) (ht : P.underlying t = some (.slice e)) (hC : P.cellsOf e = k)
    (hE : ∀ (n : Nat) (cs : List Value) (y : DataW H × List MemPlace), cs.length = k → DataW.trod enc P w base spare held n e cs = some y → ∃ x, cs = en x)
    (hv : Value.okWide P w r b0 t v) (h : DataW.Trod enc P w base spare held t v d p) : ∃ xs, SliceV en k w v xs := by
  obtain ⟨a0, len, cap, rfl⟩ := okWide_slice ht hv
  obtain ⟨fuel, hf⟩ := h
  rcases open_slice ht hf with ⟨hcs, hx⟩ | ⟨a, len', cap', m, n, D, Pl, hcs, hb, hl, hm, hmm, hx, hi⟩
  · simp [Value.cells] at hcs
    obtain ⟨rfl, rfl, rfl⟩ := hcs
    exact ⟨[], none, 0, rfl, by simp, fun i hi => absurd hi (Nat.not_lt_zero _)⟩
  · simp [Value.cells] at hcs
    obtain ⟨rfl, rfl, rfl⟩ := hcs
    have hlm : len ≤ m := by rw [hmm]; split <;> omega
    have hex : ∀ i, ∃ x : α, i < len → ∀ j u, (en x)[j]? = some u → w.cell? ((a.add (i * k)).add j) = some u := fun i => by
      by_cases hil : i < len
      · obtain ⟨cs', hc, ht'⟩ := hi i (by omega)
        rw [hC] at hc
        obtain ⟨_, hcl, hat⟩ := World.cells?_some hc
        obtain ⟨x, rfl⟩ := hE n cs' _ hcl ht'
        refine ⟨x, fun _ j u hj => ?_⟩
        have hjk : j < k := by have := (List.getElem?_eq_some_iff.1 hj).1; rwa [hk] at this
        rw [hat j hjk]
        exact hj
      · exact ⟨x0, fun h => absurd h hil⟩
    obtain ⟨f, hf'⟩ := Classical.axiomOfChoice hex
    have hll : ((List.range len).map f).length = len := by simp
    refine ⟨(List.range len).map f, some a, cap, by rw [hll], by rw [hll]; unfold maxLen at hm; omega, fun i hi2 => ?_⟩
    rw [hll] at hi2
    have hspot : a.spot = none := by
      have hc := hf' 0 (by omega)
      have h1 : (en (f 0))[0]? = some ((en (f 0))[0]'(by rw [hk]; exact h0)) := List.getElem?_eq_getElem _
      have := World.cell?_spot (hc 0 _ h1)
      simpa [Addr.add] using this
    obtain ⟨b, off, spot⟩ := a
    simp only at hspot
    subst hspot
    refine ⟨b, off, rfl, fun j u hj => ?_⟩
    have e1 : ((List.range len).map f)[i] = f i := by simp
    rw [e1] at hj
    have := hf' i hi2 j u hj
    rwa [Addr.add_lit, Addr.add_lit] at this
end
end Go.Proofs.YtfiibhgjfekgiaaGreat
end
section
set_option linter.unusedSimpArgs false
set_option linter.unusedVariables false
namespace Go.Sl
open Go.RowKit Go.Proofs Go.Proofs.YtfiibhgjfekgiaaGreat
theorem memS {L : List HP} {X : HP} (h : Mem X L := by with_reducible (focus ((repeat (first | exact Mem.head | apply Mem.tail)); done))) : Mem X L := h
section
variable {ops : Array Oper} {Q : Exit → Act → World → Prop} {a a' : Act} {w W : World} {L L' R : List HP} {rest : List Oper} {o : Oper}
end
section
variable {ops : Array Oper} {Q : Act → Prop} {a a' : Act} {W : World} {L : List HP} {rest : List Oper} {o : Oper}
end
section
variable {W : World} {ops : Array Oper} {t : List Nat} {toks : List Tok} {fresh : Nat → Bool} {pin : Nat → Option Value} {Qf : Act → Prop} {nd : Nat → Value} {i : Nat} {o : Oper} {l : List Oper} {a a' : Act}
end
end Go.Sl
end
section
set_option linter.unusedSimpArgs false
set_option linter.unusedVariables false
namespace Go.Sl
open Go.RowKit
section
variable {P : Program} {W : World} {L : List HP} {ops : Array Oper} {Q : Act → Prop} {a : Act} {rest : List Oper} {o : Oper}
theorem wq_neA {t t2 : TypeId} {x y : Operand} {xs ys : Array Value} {r : Bool} (ho : o.op = .binOp .neq t x y t2) (hg : Region.wanted o (yielded ops a.tmps) = true) (hx : a.eval x = .agg xs) (hy : a.eval y = .agg ys) (hm : P.eqGuardType P.depth t = false) (hr : ∀ w : World, (Op.equalIn 10000 t (.agg xs) (.agg ys)).run P w = .ok r w)
    (h : wpQuiet P ops (St W L) Q rest (a.put o.dst (.bool (!r)))) : wpQuiet P ops (St W L) Q (o :: rest) a :=
  wq_val hg (fun w _ => by
    unfold execOp
    simp [ho, hx, hy, run_eqGuard_agg w .neq t x y xs ys hm, run_neq_struct, hr]) h
end
end Go.Sl
namespace Go.Proofs.YtfiibhgjfekgiaaGreat
open Go.RowKit Go.Sl
section
variable (vb mb bb : Nat) {p : Ps} {L : List Ord} {n : Int} {i : Nat} (W w : World) (R : List HP)
end
end Go.Proofs.YtfiibhgjfekgiaaGreat
end
section
set_option linter.unusedSimpArgs false
set_option linter.unusedVariables false
namespace Go.Proofs.YtfiibhgjfekgiaaGreat
open Go.RowKit Go.Sl
section
variable {κ ν : Type} [DecidableEq κ]
theorem getL_del (l : List (κ × ν)) (k x : κ) : getL (delL l k) x = if x = k then none else getL l x := by
  by_cases h : x = k
  · rw [if_pos h]
    refine getL_no fun y hy => ?_
    have := (List.mem_filter.1 hy).2
    rw [h]
    simpa using this
  · rw [if_neg h]
    induction l with
    | nil => rfl
    | cons y l ih =>
      obtain ⟨a, b⟩ := y
      have e : delL ((a, b) :: l) k = if a = k then delL l k else (a, b) :: delL l k := by
        unfold delL
        rw [List.filter_cons]
        by_cases hk : a = k <;> simp [hk]
      rw [e, getL_cons]
      by_cases hk : a = k
      · rw [if_pos hk, ih, if_neg (fun e => h (e.symm.trans hk))]
      · rw [if_neg hk, getL_cons, ih]
theorem getL_set (l : List (κ × ν)) (k x : κ) (v : ν) : getL ((k, v) :: delL l k) x = if k = x then some v else getL l x := by
  rw [getL_cons, getL_del]
  by_cases h : k = x
  · rw [if_pos h, if_pos h]
  · rw [if_neg h, if_neg h, if_neg (fun e => h e.symm)]
end
theorem atV_set (e : Ec) (k x : ByteArray) (V : Vs) : atV (setV e k V) x = if k = x then V else atV e x := by
  unfold atV setV
  by_cases hn : noneV V = true
  · rw [if_pos hn]
    show (getL (delL e.vs k) x).getD vs0 = _
    rw [getL_del]
    by_cases h : x = k
    · rw [if_pos h, if_pos h.symm, noneV_eq hn]
      rfl
    · rw [if_neg h, if_neg (fun e => h e.symm)]
  · rw [if_neg hn]
    show (getL ((k, V) :: delL e.vs k) x).getD vs0 = _
    rw [getL_set]
    by_cases h : k = x
    · rw [if_pos h, if_pos h]
      rfl
    · rw [if_neg h, if_neg h]
theorem peek_alk {C : Int → Prop} {k : ByteArray} {e f : Ec} (h : AlkE C k e f) {o : Opn} (hc : C o.client) : peekE e o = peekE f o := by
  unfold peekE
  rw [h.s _ hc, h.t _ _ hc, h.a _ _ hc]
theorem app_alk {C : Int → Prop} {k : ByteArray} {e f : Ec} (h : AlkE C k e f) {o : Opn} (hc : C o.client) (hk : o.ak = k) : AlkE C k (appE e o).2.2 (appE f o).2.2 := by
  unfold appE
  rw [peek_alk h hc, hk, h.v]
  by_cases hp : (peekE f o).2 = true
  · rw [if_pos hp, if_pos hp]
    exact h
  · rw [if_neg hp, if_neg hp]
    dsimp only
    refine ⟨?_, ?_, ?_, ?_⟩
    · show atV (setV e k _) k = atV (setV f k _) k
      rw [atV_set, atV_set, if_pos rfl, if_pos rfl]
    · intro c hcc
      show getL (doS e o _) c = getL (doS f o _) c
      unfold doS
      split
      · exact h.s c hcc
      · rw [getL_set, getL_set, h.s c hcc]
    · intro c q hcc
      show getL (doT e o _) (c, q) = getL (doT f o _) (c, q)
      unfold doT
      split
      · rw [getL_set, getL_set, h.t c q hcc]
      · split
        · rw [getL_del, getL_del, h.t c q hcc]
        · exact h.t c q hcc
    · intro c q hcc
      show getL (doA e o) (c, q) = getL (doA f o) (c, q)
      unfold doA
      split
      · rw [getL_set, getL_set, h.a c q hcc]
      · exact h.a c q hcc
theorem app_off {C : Int → Prop} {k : ByteArray} {e f : Ec} (h : AlkE C k e f) {o : Opn} (hc : ¬ C o.client) (hk : o.ak ≠ k) : AlkE C k (appE e o).2.2 f := by
  unfold appE
  by_cases hp : (peekE e o).2 = true
  · rw [if_pos hp]
    exact h
  · rw [if_neg hp]
    dsimp only
    have hne : ∀ c, C c → ¬ o.client = c := fun c hcc e => hc (e ▸ hcc)
    have hnp : ∀ c q, C c → ¬ (o.client, o.seq) = (c, q) := fun c q hcc e => hne c hcc (congrArg Prod.fst e)
    refine ⟨?_, ?_, ?_, ?_⟩
    · show atV (setV e o.ak _) k = _
      rw [atV_set, if_neg hk, h.v]
    · intro c hcc
      show getL (doS e o _) c = _
      unfold doS
      split
      · exact h.s c hcc
      · rw [getL_set, if_neg (hne c hcc), h.s c hcc]
    · intro c q hcc
      show getL (doT e o _) (c, q) = _
      unfold doT
      split
      · rw [getL_set, if_neg (hnp c q hcc), h.t c q hcc]
      · split
        · rw [getL_del, if_neg (fun e => hnp c q hcc e.symm), h.t c q hcc]
        · exact h.t c q hcc
    · intro c q hcc
      show getL (doA e o) (c, q) = _
      unfold doA
      split
      · rw [getL_set, if_neg (hnp c q hcc), h.a c q hcc]
      · exact h.a c q hcc
theorem apart_run2 (C : Int → Prop) (k : ByteArray) : ∀ (l : List Opn) (e f : Ec), AlkE C k e f → (∀ o ∈ l, (o.ak = k → C o.client) ∧ (o.ak ≠ k → ¬ C o.client)) → AlkE C k (runE l e) (runE (atKey k l) f)
  | [], _, _, h, _ => h
  | o :: l, e, f, h, hl => by
    have ho := hl o (List.mem_cons_self ..)
    have ht := fun x hx => hl x (List.mem_cons_of_mem o hx)
    unfold atKey
    rw [List.filter_cons]
    by_cases hk : o.ak = k
    · rw [if_pos (by simpa using hk)]
      exact apart_run2 C k l _ _ (app_alk h (ho.1 hk) hk) ht
    · rw [if_neg (by simpa using hk)]
      exact apart_run2 C k l _ _ (app_off h (ho.2 hk) hk) ht
/-- Where of each client that asked at the key all was asked there, the key has what its own requests come to. -/
theorem apart_key (l : List Opn) (k : ByteArray) (h : ∀ x ∈ l, x.ak = k → ∀ y ∈ l, y.client = x.client → y.ak = k) : atV (runE l ec0) k = atV (runE (atKey k l) ec0) k := by
  refine (apart_run2 (fun c => ∃ x ∈ l, x.ak = k ∧ x.client = c) k l ec0 ec0 ⟨rfl, fun _ _ => rfl, fun _ _ _ => rfl, fun _ _ _ => rfl⟩ ?_).v
  intro o ho
  refine ⟨fun hk => ⟨o, ho, hk, rfl⟩, ?_⟩
  rintro hk ⟨x, hx, hxk, hxc⟩
  exact hk (h x hx hxk o ho hxc.symm)
end Go.Proofs.YtfiibhgjfekgiaaGreat
end
section
set_option linter.unusedSimpArgs false
set_option linter.unusedVariables false
namespace Go.Proofs.YtfiibhgjfekgiaaGreat
open Go.Joins Go.ChangeShapes Go.WideShapes Go.RowKit Go.Deep Go.Sl
set_option maxRecDepth 100000 in
theorem open_opns {H : Type} {enc : TypeId × Value → H} {w : World} {base : Nat} {spare : Nat → Bool} {held : Bool} {r : Reach} {b0 : Nat} {v : Value} {d : DataW H} {p : List MemPlace}
    (hv : Value.okWide Tryz.prog w r b0 27 v) (h : DataW.Trod enc Tryz.prog w base spare held 27 v d p) : ∃ xs, SliceV Opn.cells 12 w v xs :=
  open_sliceV Opn.cells ⟨0, 0, 0, ⟨#[]⟩, ⟨#[]⟩, ⟨#[]⟩, ⟨#[]⟩, 0, 0, 0, false, 0⟩ Opn.len (by decide) Tryz.underlying27 (by kernel_rfl) (fun _ _ _ _ h => cells_opn h) hv h
theorem SliceV.opn {V : World} {v : Value} {xs : List Opn} (h : SliceV Opn.cells 12 V v xs) : ∃ a cap, v = .slice a xs.length cap ∧ xs.length ≤ 9223372036854775807 ∧ ∀ i (h : i < xs.length), ∃ b off, a = some ⟨b, off, none⟩ ∧ OpnAt V b (off + i * 12) xs[i] := by
  obtain ⟨a, cap, hv, h63, hc⟩ := h
  refine ⟨a, cap, hv, h63, fun i hi => ?_⟩
  obtain ⟨b, off, ha, hj⟩ := hc i hi
  exact ⟨b, off, ha, hj 0 _ rfl, hj 1 _ rfl, hj 2 _ rfl, hj 3 _ rfl, hj 4 _ rfl, hj 5 _ rfl, hj 6 _ rfl, fun j v hv => hj j v hv⟩
end Go.Proofs.YtfiibhgjfekgiaaGreat
end
