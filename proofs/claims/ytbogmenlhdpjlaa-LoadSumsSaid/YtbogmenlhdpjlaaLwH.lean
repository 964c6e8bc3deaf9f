/-
  LoadSums: tables that come in, their copies. For all tables.
-/
import Derived.Test.YtbogmenlhdpjlaaSuD
import Derived.Test.YtbogmenlhdpjlaaSliceV
set_option linter.unusedSimpArgs false
set_option linter.unusedVariables false
namespace Go.Proofs.Ytbogmenlhdpjlaa
open Go.Joins Go.ChangeShapes Go.WideShapes Go.RowKit Go.Deep Go.Sl
section
variable {H : Type} {enc : TypeId × Value → H} {P : Program} {w : World} {base : Nat} {spare : Nat → Bool} {held : Bool}
theorem open_cellsQ {α : Type} {t e : TypeId} {k fuel : Nat} {cs : List Value} {y : DataW H × List MemPlace} (en : α → List Value) (x0 : α) (Q : α → Prop) (hk : ∀ x, (en x).length = k) (h0 : 0 < k) (ht : P.underlying t = some (.slice e)) (hC : P.cellsOf e = k)
    (hE : ∀ (n : Nat) (cs : List Value) (y : DataW H × List MemPlace), cs.length = k → DataW.trod enc P w base spare held n e cs = some y → ∃ x, cs = en x ∧ Q x)
    (hf : DataW.trod enc P w base spare held fuel t cs = some y) : ∃ v xs, cs = [v] ∧ SliceV en k w v xs ∧ ∀ x ∈ xs, Q x := by
  rcases open_slice ht hf with ⟨rfl, hx⟩ | ⟨a, len, cap, m, n, D, Pl, rfl, hb, hl, hm, hmm, hx, hi⟩
  · exact ⟨_, [], rfl, ⟨none, 0, rfl, by simp, fun i hi => absurd hi (Nat.not_lt_zero _)⟩, fun x hx => (by cases hx)⟩
  · have hlm : len ≤ m := by rw [hmm]; split <;> omega
    have hex : ∀ i, ∃ x : α, i < len → Q x ∧ ∀ j u, (en x)[j]? = some u → w.cell? ((a.add (i * k)).add j) = some u := fun i => by
      by_cases hil : i < len
      · obtain ⟨cs', hc, ht'⟩ := hi i (by omega)
        rw [hC] at hc
        obtain ⟨_, hcl, hat⟩ := World.cells?_some hc
        obtain ⟨x, rfl, hq⟩ := hE n cs' _ hcl ht'
        refine ⟨x, fun _ => ⟨hq, fun j u hj => ?_⟩⟩
        have hjk : j < k := by have := (List.getElem?_eq_some_iff.1 hj).1; rwa [hk] at this
        rw [hat j hjk]
        exact hj
      · exact ⟨x0, fun h => absurd h hil⟩
    obtain ⟨f, hf'⟩ := Classical.axiomOfChoice hex
    have hll : ((List.range len).map f).length = len := by simp
    refine ⟨_, (List.range len).map f, rfl, ⟨some a, cap, by rw [hll], by rw [hll]; unfold maxLen at hm; omega, fun i hi2 => ?_⟩, fun x hx => ?_⟩
    · rw [hll] at hi2
      have hspot : a.spot = none := by
        have hc := (hf' 0 (by omega)).2
        have h1 : (en (f 0))[0]? = some ((en (f 0))[0]'(by rw [hk]; exact h0)) := List.getElem?_eq_getElem _
        have := World.cell?_spot (hc 0 _ h1)
        simpa [Addr.add] using this
      obtain ⟨b, off, spot⟩ := a
      simp only at hspot
      subst hspot
      refine ⟨b, off, rfl, fun j u hj => ?_⟩
      have e1 : ((List.range len).map f)[i] = f i := by simp
      rw [e1] at hj
      have := (hf' i hi2).2 j u hj
      rwa [Addr.add_lit, Addr.add_lit] at this
    · obtain ⟨i, hi, rfl⟩ := List.mem_map.1 hx
      exact (hf' i (List.mem_range.1 hi)).1
end
section
variable {H : Type} {enc : TypeId × Value → H} {w : World} {base : Nat} {spare : Nat → Bool} {held : Bool}
abbrev RwOk (r : Rw) : Prop := (Lit.int .i64 r.zone).wf = true
set_option maxRecDepth 100000 in
theorem cells_rw {n : Nat} {cs : List Value} {y : DataW H × List MemPlace} (h : DataW.trod enc Try.prog w base spare held n 31 cs = some y) : ∃ r : Rw, cs = r.cells ∧ RwOk r := by
  obtain ⟨xs, n', rfl, hx, hlen, hxl, hg⟩ := DataW.trod_struct Try.underlying31 h
  have hlen' : cs.length = 3 := hlen.trans (by kernel_rfl)
  match cs, hlen' with
  | [c0, c1, c2], _ =>
    match xs, hxl with
    | [y0, y1, y2], _ =>
      have g0 := hg 0 _ rfl
      have g1 := hg 1 _ rfl
      have g2 := hg 2 _ rfl
      obtain ⟨i, e0, _, hw⟩ := DataW.trod_int Try.underlying3 (show DataW.trod enc Try.prog w base spare held n' 3 [c0] = some y0 from g0)
      obtain ⟨u, e1, _⟩ := DataW.trod_int Try.underlying3 (show DataW.trod enc Try.prog w base spare held n' 3 [c1] = some y1 from g1)
      obtain ⟨s, e2, _⟩ := DataW.trod_string Try.underlying9 (show DataW.trod enc Try.prog w base spare held n' 9 [c2] = some y2 from g2)
      simp only [List.cons.injEq, and_true] at e0 e1 e2
      subst e0 e1 e2
      exact ⟨⟨i, u, s⟩, rfl, hw⟩
set_option maxRecDepth 100000 in
theorem cells_tab {n : Nat} {cs : List Value} {y : DataW H × List MemPlace} (h : DataW.trod enc Try.prog w base spare held n 28 cs = some y) : ∃ p : Value × List Rw, cs = [p.1] ∧ RowV w p.1 p.2 ∧ ∀ r ∈ p.2, RwOk r := by
  obtain ⟨v, xs, h1, h2, h3⟩ := open_cellsQ Rw.cells ⟨0, 0, ⟨#[]⟩⟩ RwOk Rw.len (by decide) Try.underlying28 (by kernel_rfl) (fun _ _ _ _ h => cells_rw h) h
  exact ⟨(v, xs), h1, h2, h3⟩
set_option maxRecDepth 100000 in
theorem open_tabs {r : Reach} {b0 : Nat} {v : Value} {d : DataW H} {p : List MemPlace}
    (hv : Value.okWide Try.prog w r b0 46 v) (h : DataW.Trod enc Try.prog w base spare held 46 v d p) : ∃ l, TabV w v l ∧ ∀ r ∈ l.flatten, RwOk r := by
  obtain ⟨a0, len, cap, rfl⟩ := okWide_slice Try.underlying46 hv
  obtain ⟨fuel, hf⟩ := h
  obtain ⟨v, xs, h1, h2, h3⟩ := open_cellsQ (fun p : Value × List Rw => [p.1]) (.slice none 0 0, []) (fun p => RowV w p.1 p.2 ∧ ∀ r ∈ p.2, RwOk r) (fun _ => rfl) (by decide) Try.underlying46 (by kernel_rfl) (fun _ _ _ _ h => cells_tab h) hf
  simp [Value.cells] at h1
  subst h1
  obtain ⟨a, c, e, h63, hc⟩ := h2
  refine ⟨xs.map (·.2), ⟨a, c, by rw [List.length_map]; exact e, by rw [List.length_map]; exact h63, fun i hi => ?_⟩, fun r hr => ?_⟩
  · rw [List.length_map] at hi
    obtain ⟨b, off, ha, hj⟩ := hc i hi
    refine ⟨b, off, ha, xs[i].1, ?_, ?_⟩
    · have := hj 0 _ rfl
      rwa [Nat.mul_one] at this
    · rw [List.getElem_map]
      exact (h3 _ (List.getElem_mem _)).1
  · obtain ⟨t, ht, hrt⟩ := List.mem_flatten.1 hr
    obtain ⟨p, hp, rfl⟩ := List.mem_map.1 ht
    exact (h3 p hp).2 r hrt
end
/-- Copies of tables, each in a row of its own. -/
def tabsX (us : List Value) (ts : List (List Rw)) : HP := sats (List.zipWith rowsX us ts)
theorem pick_permX {α : Type} : ∀ (l : List α) (k : Nat) (h : k < l.length), (l[k] :: l.eraseIdx k).Perm l
  | _ :: _, 0, _ => .refl _
  | x :: l, k + 1, h => (List.Perm.swap x _ _).trans ((pick_permX l k (Nat.lt_of_succ_lt_succ h)).cons x)
section
variable {W w : World} {L : List HP} {us : List Value} {ts : List (List Rw)}
theorem tabs_nil {X : HP} (h : St W (X :: L) w) : St W (X :: tabsX [] [] :: L) w := St.split (h.imp fun f hf => ⟨fun _ => true, hf, trivial⟩)
theorem tabs_push {u : Value} {t : List Rw} (hl : us.length = ts.length) (h : St W (rowsX u t :: tabsX us ts :: L) w) : St W (tabsX (us ++ [u]) (ts ++ [t]) :: L) w := by
  refine St.imp (St.join h) fun f hf => ?_
  unfold tabsX
  rw [List.zipWith_append hl]
  exact sats_perm (List.perm_append_singleton _ _).symm hf
theorem tabs_pick (hl : us.length = ts.length) {i : Nat} (hi : i < ts.length) (h : St W (tabsX us ts :: L) w) : St W (rowsX (us[i]'(by omega)) ts[i] :: sats ((List.zipWith rowsX us ts).eraseIdx i) :: L) w := by
  have hk : i < (List.zipWith rowsX us ts).length := by simp; omega
  have e : (List.zipWith rowsX us ts)[i] = rowsX (us[i]'(by omega)) ts[i] := by simp
  refine St.split (St.imp h fun f hf => ?_)
  rw [← e]
  exact sats_perm (pick_permX _ i hk).symm hf
/-- The copies as tables that may be read. -/
theorem tabs_in {vm : Value} {n : Nat} {R : List HP} (hl : us.length = ts.length) (hn : n = ts.length) (hS : St W (row vm 1 44 n us :: tabsX us ts :: R) w) : TabIn (row vm 1 44 n us :: tabsX us ts :: R) vm ts := by
  subst hn
  obtain ⟨a, c, rfl⟩ := hS.rowVal
  have hlen : ts.length ≤ 9223372036854775807 ∧ c ≤ 9223372036854775807 := by
    rcases St.rowCase hS with ⟨_, h0, hc, _⟩ | ⟨_, _, h1, h2⟩
    · omega
    · omega
  refine ⟨a, c, rfl, hlen.1, hlen.2, fun i hi => ?_⟩
  obtain ⟨⟨g, rfl⟩, _, _⟩ := St.rowAddr hS (by omega)
  refine ⟨g, 0, rfl, ?_⟩
  have hp := tabs_pick hl hi hS.drop
  obtain ⟨a2, c2, hu⟩ := hp.rowVal
  have hu1 : us[i]? = some (.slice a2 ts[i].length c2) := by rw [List.getElem?_eq_getElem (by omega), hu]
  have hl2 : ts[i].length ≤ 9223372036854775807 := by
    rw [hu] at hp
    rcases St.rowCase hp with ⟨_, h0, _⟩ | ⟨_, _, h1, h2⟩
    · omega
    · omega
  refine ⟨a2, c2, ?_, hl2, fun j hj => ?_⟩
  · rw [Nat.zero_add]
    exact Cell.rowS hu1
  · have hp2 := hp
    rw [hu] at hp2
    obtain ⟨⟨g2, rfl⟩, _, _⟩ := St.rowAddr hp2 (by omega)
    refine ⟨g2, 0, rfl, fun q x hq W' w' hS' => ?_⟩
    have hp3 := tabs_pick hl hi hS'.drop
    rw [hu] at hp3
    have := Cells.elemM (enc := Rw.cells) Rw.len (L := _ :: _) .head hj q x hq W' w' hp3
    rw [Nat.zero_add]
    exact this
end
theorem flat_bound {m : Nat} : ∀ l : List (List Rw), (∀ t ∈ l, t.length ≤ m) → l.flatten.length ≤ l.length * m
  | [], _ => Nat.zero_le _
  | t :: l, h => by
    have h1 := h t (List.mem_cons_self ..)
    have h2 := flat_bound l fun t ht => h t (List.mem_cons_of_mem _ ht)
    rw [List.flatten_cons, List.length_append, List.length_cons, Nat.add_mul, Nat.one_mul]
    omega
end Go.Proofs.Ytbogmenlhdpjlaa
