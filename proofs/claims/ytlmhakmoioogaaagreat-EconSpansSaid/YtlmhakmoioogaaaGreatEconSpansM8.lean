/-
  Maps as resources up to order: 'amap b l': block b is a map in which just the keys of l stand, with their values; 'itR r b l todo': r walks over it, todo is yet to come. The walk's rules. Over any program; no condition.
  Maps as resources up to order: what may be done to a map while a range walks over it; the walk's rules. Over any program; no condition.
-/
import Derived.Test.YtlmhakmoioogaaaGreatEconSpansM7
set_option maxHeartbeats 16000000
set_option maxRecDepth 100000
set_option linter.unusedSimpArgs false
set_option linter.unusedVariables false
section
namespace Go.Sl
open Go.RowKit
section
variable {κ ν : Type}
def evs (ev : ν → Value) (x : κ × ν × Nat) : κ × Value × Nat := (x.1,ev x.2.1,x.2.2)
def prj (x : κ × ν × Nat) : κ × ν := (x.1,x.2.1)
structure Good (ps : List (κ × ν × Nat)) (c : Nat) : Prop where
 st : (ps.map (·.2.2)).Nodup
 old : ∀ x ∈ ps,x.2.2 < c
 ks : (ps.map (·.1)).Nodup
def mapV (ek : κ → Value) (ev : ν → Value) (b : Nat) (ps : List (κ × ν × Nat)) (c : Nat) : HP := mapR b ((ps.map (evs ev)).map (entA ek)) c
def amap (ek : κ → Value) (ev : ν → Value) (b : Nat) (l : List (κ × ν)) : HP := fun f => ∃ q : List (κ × ν × Nat) × Nat,((q.1.map prj).Perm l ∧ Good q.1 q.2) ∧ mapV ek ev b q.1 q.2 f
def itOk (l todo : List (κ × ν)) (ps : List (κ × ν × Nat)) (c since c0 : Nat) (seen : Array Nat) : Prop :=
 (ps.map prj).Perm l ∧ Good ps since ∧ since ≤ c0 ∧ since ≤ c ∧ ((ps.filter fun x => decide (x.2.2 ∉ seen)).map prj).Perm todo
structure ItQ (κ ν : Type) where
 ps : List (κ × ν × Nat)
 c : Nat
 since : Nat
 c0 : Nat
 seen : Array Nat
def itR (ek : κ → Value) (ev : ν → Value) (r b : Nat) (l todo : List (κ × ν)) : HP := fun f => ∃ q : ItQ κ ν,itOk l todo q.ps q.c q.since q.c0 q.seen ∧ sep (iterR r b q.since q.seen q.c0) (mapV ek ev b q.ps q.c) f
def itAt (ek : κ → Value) (ev : ν → Value) (r b : Nat) (l todo : List (κ × ν)) (x : κ × ν) : HP := fun f => ∃ q : ItQ κ ν,(itOk l todo q.ps q.c q.since q.c0 q.seen ∧ q.c0 = q.c ∧ ∃ (s : Nat) (seen' : Array Nat),q.seen = seen'.push s ∧ (x.1,x.2,s) ∈ q.ps) ∧ sep (iterR r b q.since q.seen q.c0) (mapV ek ev b q.ps q.c) f
theorem In7 (ps : List (κ × ν × Nat)) : (ps.map prj).map (·.1) = ps.map (·.1) := by rw [List.map_map];rfl
theorem Cp7 (ev : ν → Value) (ps : List (κ × ν × Nat)) : (ps.map (evs ev)).map (·.1) = ps.map (·.1) := by rw [List.map_map];rfl
theorem JV7 {ev : ν → Value} {ps : List (κ × ν × Nat)} {k : κ} {v : ν} {s : Nat} (h : (k,v,s) ∈ ps) : (k,ev v,s) ∈ ps.map (evs ev) := List.mem_map.2 ⟨_,h,rfl⟩
theorem JW7 {ps : List (κ × ν × Nat)} {l : List (κ × ν)} {x : κ × ν} (hp : (ps.map prj).Perm l) (hx : x ∈ l) : ∃ s,(x.1,x.2,s) ∈ ps := by
 obtain ⟨⟨k,v,s⟩,hy,rfl⟩ := List.mem_map.1 (hp.mem_iff.2 hx)
 exact ⟨s,hy⟩
theorem MQ7 {ev : ν → Value} {ps : List (κ × ν × Nat)} {l : List (κ × ν)} {k : κ} (hp : (ps.map prj).Perm l) (hk : ∀ x ∈ l,x.1 ≠ k) : ∀ x ∈ ps.map (evs ev),x.1 ≠ k := by
 intro x hx
 obtain ⟨y,hy,rfl⟩ := List.mem_map.1 hx
 exact hk (prj y) (hp.mem_iff.1 (List.mem_map_of_mem hy))
theorem Cd7 {α β : Type} {f : α → β} {p : α → Bool} {l : List α} (h : (l.map f).Nodup) : ((l.filter p).map f).Nodup := h.sublist (List.filter_sublist.map f)
theorem Good.new {ps : List (κ × ν × Nat)} {c : Nat} (h : Good ps c) {k : κ} {v : ν} (hk : ∀ x ∈ ps,x.1 ≠ k) : Good (ps ++ [(k,v,c)]) (c + 1) :=
 ⟨by
  rw [List.map_append,List.nodup_append]
  refine ⟨h.st,by simp,fun a ha b hb => ?_⟩
  obtain ⟨x,hx,rfl⟩ := List.mem_map.1 ha
  obtain rfl : b = c := by simpa using hb
  have := h.old x hx
  omega,fun x hx => by
  rcases List.mem_append.1 hx with h1|h1
  ·have := h.old x h1;omega
  ·obtain rfl := List.mem_singleton.1 h1;exact Nat.lt_succ_self c,by
  rw [List.map_append,List.nodup_append]
  refine ⟨h.ks,by simp,fun a ha b hb => ?_⟩
  obtain ⟨x,hx,rfl⟩ := List.mem_map.1 ha
  obtain rfl : b = k := by simpa using hb
  exact hk x hx⟩
variable {W w : World} {L : List HP} {ek : κ → Value} {ev : ν → Value} {b r : Nat} {l l' todo : List (κ × ν)}
theorem amapOpen (h : St W (amap ek ev b l :: L) w) : ∃ ps c,(ps.map prj).Perm l ∧ Good ps c ∧ St W (mapV ek ev b ps c :: L) w := by
 obtain ⟨⟨ps,c⟩,h⟩ := St.ex h
 obtain ⟨⟨h1,h2⟩,h3⟩ := St.and h
 exact ⟨ps,c,h1,h2,h3⟩
theorem amapShut {ps : List (κ × ν × Nat)} {c : Nat} (hp : (ps.map prj).Perm l) (hg : Good ps c) (h : St W (mapV ek ev b ps c :: L) w) : St W (amap ek ev b l :: L) w :=
 h.imp fun _ hf => ⟨(ps,c),⟨hp,hg⟩,hf⟩
theorem amapPerm (hp : l.Perm l') (h : St W (amap ek ev b l :: L) w) : St W (amap ek ev b l' :: L) w := by
 obtain ⟨ps,c,h1,h2,h3⟩ := amapOpen h
 exact amapShut (h1.trans hp) h2 h3
theorem amapKeys (h : St W (amap ek ev b l :: L) w) : (l.map (·.1)).Nodup := by
 obtain ⟨ps,c,h1,h2,h3⟩ := amapOpen h
 have := h2.ks
 rw [← In7] at this
 exact (h1.map (·.1)).nodup_iff.1 this
theorem itOpen (h : St W (itR ek ev r b l todo :: L) w) : ∃ q : ItQ κ ν,itOk l todo q.ps q.c q.since q.c0 q.seen ∧ St W (iterR r b q.since q.seen q.c0 :: mapV ek ev b q.ps q.c :: L) w := by
 obtain ⟨q,h⟩ := St.ex h
 obtain ⟨h1,h2⟩ := St.and h
 exact ⟨q,h1,h2.split⟩
theorem itShut {q : ItQ κ ν} (hq : itOk l todo q.ps q.c q.since q.c0 q.seen) (h : St W (iterR r b q.since q.seen q.c0 :: mapV ek ev b q.ps q.c :: L) w) : St W (itR ek ev r b l todo :: L) w :=
 h.join.imp fun _ hf => ⟨q,hq,hf⟩
theorem itEnd (h : St W (itR ek ev r b l todo :: L) w) : St W (amap ek ev b l :: L) w := by
 obtain ⟨q,⟨h1,h2,h3,h4,h5⟩,hS⟩ := itOpen h
 exact amapShut h1 ⟨h2.st,fun x hx => Nat.lt_of_lt_of_le (h2.old x hx) h4,h2.ks⟩ hS.drop
theorem itAtR {x : κ × ν} (h : St W (itAt ek ev r b l todo x :: L) w) : St W (itR ek ev r b l todo :: L) w := h.imp fun _ ⟨q,⟨h1,_⟩,h2⟩ => ⟨q,h1,h2⟩
theorem Io7 {ps : List (κ × ν × Nat)} {e : MapEntry} (h : e ∈ (ps.map (evs ev)).map (entA ek)) : ∃ x ∈ ps,e = ⟨ek x.1,ev x.2.1,x.2.2⟩ := by
 obtain ⟨y,hy,rfl⟩ := List.mem_map.1 h
 obtain ⟨x,hx,rfl⟩ := List.mem_map.1 hy
 exact ⟨x,hx,rfl⟩
theorem Ip7 {ps : List (κ × ν × Nat)} {x : κ × ν × Nat} (h : x ∈ ps) : (⟨ek x.1,ev x.2.1,x.2.2⟩ : MapEntry) ∈ (ps.map (evs ev)).map (entA ek) := List.mem_map.2 ⟨_,List.mem_map.2 ⟨x,h,rfl⟩,rfl⟩
theorem Hs7 {ps : List (κ × ν × Nat)} {x : κ × ν × Nat} {seen : Array Nat} (hst : (ps.map (·.2.2)).Nodup) (hx : x ∈ ps) (hn : x.2.2 ∉ seen) :
  (ps.filter fun y => decide (y.2.2 ∉ seen)).Perm (x :: ps.filter fun y => decide (y.2.2 ∉ seen.push x.2.2)) := by
 induction ps with
 | nil => cases hx
 | cons y ps ih =>
  rw [List.map_cons,List.nodup_cons] at hst
  by_cases hxy : x = y
  ·subst hxy
   have e1 : List.filter (fun y => decide (y.2.2 ∉ seen)) (x :: ps) = x :: ps.filter (fun y => decide (y.2.2 ∉ seen)) := by rw [List.filter_cons,if_pos (by simpa using hn)]
   have e2 : List.filter (fun y => decide (y.2.2 ∉ seen.push x.2.2)) (x :: ps) = ps.filter (fun y => decide (y.2.2 ∉ seen)) := by
    rw [List.filter_cons,if_neg (by simp)]
    refine List.filter_congr fun z hz => ?_
    have : z.2.2 ≠ x.2.2 := fun e => hst.1 (List.mem_map.2 ⟨z,hz,e⟩)
    simp [this]
   rw [e1,e2]
  ·have hx' : x ∈ ps := (List.mem_cons.1 hx).resolve_left hxy
   have hne : y.2.2 ≠ x.2.2 := fun e => hst.1 (List.mem_map.2 ⟨x,hx',e.symm⟩)
   have ih := ih hst.2 hx'
   by_cases hy : y.2.2 ∈ seen
   ·rw [List.filter_cons,if_neg (by simpa using hy),List.filter_cons,if_neg (by simp [hy])]
    exact ih
   ·rw [List.filter_cons,if_pos (by simpa using hy),List.filter_cons,if_pos (by simp [hy,hne])]
    exact (ih.cons y).trans (List.Perm.swap _ _ _)
variable {P : Program} {t K E : TypeId}
theorem JX7 (h : St W L w) : ∃ b w',(Instr.makeMap t none).run P w = .ok (.map (some b)) w' ∧ St W (amap ek ev b [] :: L) w' := by
 obtain ⟨b,w',hr,hS⟩ := Hq7 (P := P) (t := t) h
 exact ⟨b,w',hr,amapShut (ps := []) (c := 0) (List.Perm.refl _) ⟨List.nodup_nil,fun x hx => (by cases hx),List.nodup_nil⟩ hS⟩
theorem Fi7 (h : St W (amap ek ev b l :: L) w) (ht : tyMap P t = some (K,E)) :
  ∃ r w',(Instr.range t (.map (some b))).run P w = .ok (.pointer (some ⟨r,0,none⟩)) w' ∧ St W (itR ek ev r b l l :: L) w' := by
 obtain ⟨ps,c,h1,h2,h3⟩ := amapOpen h
 obtain ⟨r,w',hr,hS⟩ := JR7 (P := P) h3 ht
 refine ⟨r,w',hr,itShut (q := ⟨ps,c,c,c, #[]⟩) ⟨h1,h2,Nat.le_refl _,Nat.le_refl _,?_⟩ hS⟩
 have : ps.filter (fun x => decide (x.2.2 ∉ (#[] : Array Nat))) = ps := List.filter_eq_self.2 fun x _ => by simp
 rw [this];exact h1
theorem Gn7 {ty : TypeId} (h : St W (itR ek ev r b l todo :: L) w) :
  (todo = [] ∧ (Instr.next (.pointer (some ⟨r,0,none⟩)) false ty).run P w = .ok (.tuple #[.bool false]) w) ∨
  ∃ x todo',todo.Perm (x :: todo') ∧ x ∈ l ∧ ∃ w',(Instr.next (.pointer (some ⟨r,0,none⟩)) false ty).run P w = .ok (.tuple #[.bool true,ek x.1,ev x.2]) w' ∧ St W (itAt ek ev r b l todo' x :: L) w' := by
 obtain ⟨⟨ps,c,since,c0,seen⟩,⟨h1,h2,h3,h4,h5⟩,hS⟩ := itOpen h
 rcases LH7 (P := P) (ty := ty) hS (fun x hx => by obtain ⟨y,hy,rfl⟩ := Io7 hx;exact h2.old y hy) h3 with ⟨hall,hr⟩|⟨e,he,hne,w',hr,hS'⟩
 ·left
  refine ⟨?_,hr⟩
  have : ps.filter (fun x => decide (x.2.2 ∉ seen)) = [] := List.filter_eq_nil_iff.2 fun x hx => by
   have := hall _ (Ip7 (ek := ek) (ev := ev) hx)
   simpa using this
  simp only [this,List.map_nil] at h5
  exact List.nil_perm.1 h5
 ·right
  obtain ⟨x,hx,rfl⟩ := Io7 he
  have hp := Hs7 h2.st hx hne
  have hp2 : todo.Perm (prj x :: (ps.filter fun y => decide (y.2.2 ∉ seen.push x.2.2)).map prj) := h5.symm.trans (hp.map prj)
  refine ⟨prj x,(ps.filter fun y => decide (y.2.2 ∉ seen.push x.2.2)).map prj,hp2,h1.mem_iff.1 (List.mem_map_of_mem hx),w',hr,?_⟩
  exact hS'.join.imp fun _ hf => ⟨⟨ps,c,since,c,seen.push x.2.2⟩,⟨⟨h1,h2,h4,h4,List.Perm.refl _⟩,rfl,x.2.2,seen,rfl,hx⟩,hf⟩
theorem Fj7 {x : κ × ν} (h : St W (itAt ek ev r b l todo x :: L) w) : (Instr.entry (.pointer (some ⟨r,0,none⟩))).run P w = .ok (.tuple #[ek x.1,ev x.2]) w := by
 obtain ⟨⟨ps,c,since,c0,seen⟩,h⟩ := St.ex (F := fun (q : ItQ κ ν) f => (itOk l todo q.ps q.c q.since q.c0 q.seen ∧ q.c0 = q.c ∧ ∃ (s : Nat) (seen' : Array Nat),q.seen = seen'.push s ∧ (x.1,x.2,s) ∈ q.ps) ∧ sep (iterR r b q.since q.seen q.c0) (mapV ek ev b q.ps q.c) f) h
 obtain ⟨⟨⟨h1,h2,h3,h4,h5⟩,hc,s,seen',h6,h7⟩,h8⟩ := St.and h
 simp only at hc h6
 subst hc h6
 have h9 := h8.split
 have hst : Stamps ((ps.map (evs ev)).map (entA ek)) := by
  unfold Stamps
  rw [List.map_map,List.map_map]
  exact h2.st
 exact JS7 h9 (Ip7 (ek := ek) (ev := ev) h7) hst
end
section
variable {κ ν : Type} [DecidableEq κ]
variable {W w : World} {L : List HP} {ek : κ → Value} {ev : ν → Value} {b r : Nat} {l l' todo : List (κ × ν)}
variable {P : Program} {t K E : TypeId}
def putL (l : List (κ × ν)) (k : κ) (v : ν) : List (κ × ν) := l.map fun x => if x.1 = k then (x.1,v) else x
def delL (l : List (κ × ν)) (k : κ) : List (κ × ν) := l.filter fun x => decide (x.1 ≠ k)
theorem LI7 {ev : ν → Value} (ps : List (κ × ν × Nat)) (k : κ) (v : ν) : setA (ps.map (evs ev)) k (ev v) = (ps.map fun x => if x.1 = k then (x.1,v,x.2.2) else x).map (evs ev) := by
 unfold setA
 rw [List.map_map,List.map_map]
 refine List.map_congr_left fun x _ => ?_
 show (if x.1 = k then _ else _) = evs ev (if x.1 = k then _ else _)
 by_cases h : x.1 = k
 ·rw [if_pos h,if_pos h];rfl
 ·rw [if_neg h,if_neg h]
theorem Iq7 {ev : ν → Value} (ps : List (κ × ν × Nat)) (k : κ) : delA (ps.map (evs ev)) k = (ps.filter fun x => decide (x.1 ≠ k)).map (evs ev) := by
 unfold delA
 rw [List.filter_map]
 rfl
theorem Nj7 (ps : List (κ × ν × Nat)) (k : κ) (v : ν) : ((ps.map fun x => if x.1 = k then (x.1,v,x.2.2) else x).map prj) = putL (ps.map prj) k v := by
 unfold putL
 rw [List.map_map,List.map_map]
 refine List.map_congr_left fun x _ => ?_
 show prj (if x.1 = k then _ else _) = (if x.1 = k then _ else _)
 by_cases h : x.1 = k
 ·rw [if_pos h,if_pos h];rfl
 ·rw [if_neg h,if_neg h]
theorem JY7 (ps : List (κ × ν × Nat)) (k : κ) : ((ps.filter fun x => decide (x.1 ≠ k)).map prj) = delL (ps.map prj) k := by
 unfold delL
 rw [List.filter_map]
 rfl
theorem JZ7 {l l' : List (κ × ν)} (h : l.Perm l') (k : κ) (v : ν) : (putL l k v).Perm (putL l' k v) := h.map _
theorem Ch7 {l l' : List (κ × ν)} (h : l.Perm l') (k : κ) : (delL l k).Perm (delL l' k) := h.filter _
theorem Oj7 (ps : List (κ × ν × Nat)) (k : κ) (v : ν) : ((ps.map fun x => if x.1 = k then (x.1,v,x.2.2) else x).map (·.2.2)) = ps.map (·.2.2) := by
 rw [List.map_map]
 refine List.map_congr_left fun x _ => ?_
 show (if x.1 = k then _ else _ : κ × ν × Nat).2.2 = x.2.2
 by_cases h : x.1 = k
 ·rw [if_pos h]
 ·rw [if_neg h]
theorem Ok7 (ps : List (κ × ν × Nat)) (k : κ) (v : ν) : ((ps.map fun x => if x.1 = k then (x.1,v,x.2.2) else x).map (·.1)) = ps.map (·.1) := by
 rw [List.map_map]
 refine List.map_congr_left fun x _ => ?_
 show (if x.1 = k then _ else _ : κ × ν × Nat).1 = x.1
 by_cases h : x.1 = k
 ·rw [if_pos h]
 ·rw [if_neg h]
theorem Good.set {ps : List (κ × ν × Nat)} {c : Nat} (h : Good ps c) (k : κ) (v : ν) : Good (ps.map fun x => if x.1 = k then (x.1,v,x.2.2) else x) c :=
 ⟨by rw [Oj7];exact h.st,fun x hx => by
  obtain ⟨y,hy,rfl⟩ := List.mem_map.1 hx
  have := h.old y hy
  show (if y.1 = k then _ else _ : κ × ν × Nat).2.2 < c
  by_cases e : y.1 = k
  ·rw [if_pos e];exact this
  ·rw [if_neg e];exact this,by rw [Ok7];exact h.ks⟩
theorem Good.del {ps : List (κ × ν × Nat)} {c : Nat} (h : Good ps c) (k : κ) : Good (ps.filter fun x => decide (x.1 ≠ k)) c :=
 ⟨Cd7 h.st,fun x hx => h.old x (List.mem_filter.1 hx).1,Cd7 h.ks⟩
theorem Go7 {x : κ × ν} {ok : Bool} (h : St W (amap ek ev b l :: L) w) (ht : tyMap P t = some (K,E)) (hK : KeyOk P K ek) (hx : x ∈ l) :
  (Instr.lookup t (.map (some b)) (ek x.1) ok).run P w = .ok (if ok then .tuple #[ev x.2,.bool true] else ev x.2) w := by
 obtain ⟨ps,c,h1,h2,h3⟩ := amapOpen h
 obtain ⟨s,hs⟩ := JW7 h1 hx
 exact Gl7 h3 ht hK (by rw [Cp7];exact h2.ks) (JV7 hs)
theorem Gp7 {k : κ} {z : Value} {ok : Bool} (h : St W (amap ek ev b l :: L) w) (ht : tyMap P t = some (K,E)) (hK : KeyOk P K ek) (hz : tyZeroV P E = some z) (hk : ∀ x ∈ l,x.1 ≠ k) :
  (Instr.lookup t (.map (some b)) (ek k) ok).run P w = .ok (if ok then .tuple #[z,.bool false] else z) w := by
 obtain ⟨ps,c,h1,h2,h3⟩ := amapOpen h
 exact Gk7 h3 ht hK hz (MQ7 h1 hk)
theorem AY7 {k : κ} (hk : ∀ x ∈ l,x.1 ≠ k) : delL l k = l := List.filter_eq_self.2 fun x hx => by simpa using hk x hx
theorem Ir7 {k : κ} {u v : ν} : ∀ {l : List (κ × ν)},(l.map (·.1)).Nodup → (k,u) ∈ l → (putL l k v).Perm ((k,v) :: delL l k)
 | y :: l,hn,hm => by
  rw [List.map_cons,List.nodup_cons] at hn
  by_cases hk : y.1 = k
  ·have h0 : ∀ x ∈ l,x.1 ≠ k := fun x hx e => hn.1 (List.mem_map.2 ⟨x,hx,e.trans hk.symm⟩)
   have h1 : putL l k v = l := by
    unfold putL
    refine (List.map_congr_left fun x hx => ?_).trans (List.map_id l)
    rw [if_neg (h0 x hx)];rfl
   have h2 : delL (y :: l) k = l := by
    have := AY7 h0
    unfold delL at this ⊢
    rw [List.filter_cons,if_neg (by simpa using hk),this]
   have h3 : putL (y :: l) k v = (k,v) :: l := by
    have : putL (y :: l) k v = (if y.1 = k then (y.1,v) else y) :: putL l k v := rfl
    rw [this,h1,if_pos hk,hk]
   rw [h2,h3]
  ·have hm' : (k,u) ∈ l := by
    rcases List.mem_cons.1 hm with h|h
    ·exact absurd (by rw [← h]) hk
    ·exact h
   have h2 : delL (y :: l) k = y :: delL l k := by
    unfold delL
    rw [List.filter_cons,if_pos (by simpa using hk)]
   have h3 : putL (y :: l) k v = y :: putL l k v := by
    have : putL (y :: l) k v = (if y.1 = k then (y.1,v) else y) :: putL l k v := rfl
    rw [this,if_neg hk]
   rw [h2,h3]
   exact ((Ir7 hn.2 hm').cons y).trans (List.Perm.swap _ _ _)
theorem LJ7 {k : κ} {v : ν} (h : St W (amap ek ev b l :: L) w) (ht : tyMap P t = some (K,E)) (hK : KeyOk P K ek) :
  ∃ w',(Instr.mapUpdate t (.map (some b)) (ek k) (ev v)).run P w = .ok () w' ∧ St W (amap ek ev b ((k,v) :: delL l k) :: L) w' := by
 have hkl := amapKeys h
 obtain ⟨ps,c,h1,h2,h3⟩ := amapOpen h
 by_cases hk : ∃ u,(k,u) ∈ l
 ·obtain ⟨u,hu⟩ := hk
  obtain ⟨s,hs⟩ := JW7 h1 hu
  obtain ⟨w',hr,hS⟩ := Hr7 (v := ev v) h3 ht hK (by rw [Cp7];exact h2.ks) (JV7 hs)
  rw [LI7] at hS
  refine ⟨w',hr,amapShut ?_ (h2.set k v) hS⟩
  rw [Nj7]
  exact (JZ7 h1 k v).trans (Ir7 hkl hu)
 ·have hk' : ∀ x ∈ l,x.1 ≠ k := fun x hx e => hk ⟨x.2,by rw [← e];exact hx⟩
  obtain ⟨w',hr,hS⟩ := Gm7 (v := ev v) h3 ht hK (MQ7 h1 hk')
  have e : ps.map (evs ev) ++ [(k,ev v,c)] = (ps ++ [(k,v,c)]).map (evs ev) := by rw [List.map_append];rfl
  rw [e] at hS
  refine ⟨w',hr,amapShut ?_ (h2.new fun x hx => ?_) hS⟩
  ·rw [AY7 hk',List.map_append]
   exact (List.perm_append_comm).trans (h1.cons (k,v))
  ·exact hk' (prj x) (h1.mem_iff.1 (List.mem_map_of_mem hx))
theorem LK7 {k : κ} {k2 ty : TypeId} (h : St W (amap ek ev b l :: L) w) (ht : tyMap P t = some (K,E)) (hK : KeyOk P K ek) :
  ∃ w',(Builtin.delete_ #[t,k2] ty #[.map (some b),ek k]).run P w = .ok (.tuple #[]) w' ∧ St W (amap ek ev b (delL l k) :: L) w' := by
 obtain ⟨ps,c,h1,h2,h3⟩ := amapOpen h
 obtain ⟨w',hr,hS⟩ := Im7 (k := k) (k2 := k2) (ty := ty) h3 ht hK (by rw [Cp7];exact h2.ks)
 rw [Iq7] at hS
 refine ⟨w',hr,amapShut ?_ (h2.del k) hS⟩
 rw [JY7]
 exact Ch7 h1 k
end
end Go.Sl
end
section
namespace Go.Sl
open Go.RowKit
section
variable {κ ν : Type}
theorem LL7 {ps : List (κ × ν × Nat)} {todo : List (κ × ν)} {seen : Array Nat} {k : κ} (hp : ((ps.filter fun x => decide (x.2.2 ∉ seen)).map prj).Perm todo) (hk : ∀ x ∈ todo,x.1 ≠ k) : ∀ x ∈ ps,x.2.2 ∉ seen → x.1 ≠ k := by
 intro x hx hs
 exact hk (prj x) (hp.mem_iff.1 (List.mem_map_of_mem (List.mem_filter.2 ⟨hx,by simpa using hs⟩)))
end
section
variable {κ ν : Type} [DecidableEq κ] {W w : World} {L : List HP} {ek : κ → Value} {ev : ν → Value} {b r : Nat} {l todo : List (κ × ν)} {P : Program} {t K E : TypeId}
theorem LM7 {ps : List (κ × ν × Nat)} {seen : Array Nat} {k : κ} (hk : ∀ x ∈ ps,x.2.2 ∉ seen → x.1 ≠ k) :
  ((ps.filter fun x => decide (x.1 ≠ k)).filter fun x => decide (x.2.2 ∉ seen)) = ps.filter fun x => decide (x.2.2 ∉ seen) := by
 rw [List.filter_filter]
 refine List.filter_congr fun x hx => ?_
 by_cases hs : x.2.2 ∈ seen
 ·simp [hs]
 ·simp [hs,hk x hx hs]
theorem LN7 {k : κ} {k2 ty : TypeId} (h : St W (itR ek ev r b l todo :: L) w) (ht : tyMap P t = some (K,E)) (hK : KeyOk P K ek) (hk : ∀ x ∈ todo,x.1 ≠ k) :
  ∃ w',(Builtin.delete_ #[t,k2] ty #[.map (some b),ek k]).run P w = .ok (.tuple #[]) w' ∧ St W (itR ek ev r b (delL l k) todo :: L) w' := by
 obtain ⟨⟨ps,c,since,c0,seen⟩,⟨h1,h2,h3,h4,h5⟩,hS⟩ := itOpen h
 obtain ⟨w',hr,hS'⟩ := Im7 (k := k) (k2 := k2) (ty := ty) hS.swap ht hK (by rw [Cp7];exact h2.ks)
 rw [Iq7] at hS'
 refine ⟨w',hr,itShut (q := ⟨_,c,since,c0,seen⟩) ⟨?_,h2.del k,h3,h4,?_⟩ hS'.swap⟩
 ·rw [JY7];exact Ch7 h1 k
 ·rw [LM7 (LL7 h5 hk)];exact h5
end
section
variable {κ ν : Type} {W w : World} {L : List HP} {ek : κ → Value} {ev : ν → Value} {b r : Nat} {l todo : List (κ × ν)} {P : Program} {t K E : TypeId}
end
section
variable {κ ν : Type} {W w : World} {L R : List HP} {ek : κ → Value} {ev : ν → Value} {b r : Nat} {l todo : List (κ × ν)} {P : Program} {t K E : TypeId} {ops : Array Oper} {Q : Exit → Act → World → Prop} {a : Act} {rest : List Oper} {o : Oper}
theorem CO7 (ek : κ → Value) (ev : ν → Value) (hS : St W L w) (ho : o.op = .makeMap t none) (hg : Region.wanted o (yielded ops a.tmps) = true)
  (h : ∀ b w',St W (amap ek ev b [] :: L) w' → wpList P ops Q rest (a.put o.dst (.map (some b))) w') : wpList P ops Q (o :: rest) a w := by
 obtain ⟨b,w',hr,hS'⟩ := JX7 (P := P) (t := t) (ek := ek) (ev := ev) hS
 refine Ao7 hg (v := .map (some b)) (w' := w') ?_ (h b w' hS')
 unfold execOp
 simp [ho,hr]
theorem Gq7 {x : Operand} (hS : St W L w) (ho : o.op = .range t x) (hg : Region.wanted o (yielded ops a.tmps) = true) (hx : a.eval x = .map (some b)) (ht : tyMap P t = some (K,E)) (hu : Take L (amap ek ev b l) R)
  (h : ∀ r w',St W (itR ek ev r b l l :: R) w' → wpList P ops Q rest (a.put o.dst (.pointer (some ⟨r,0,none⟩))) w') : wpList P ops Q (o :: rest) a w := by
 obtain ⟨r,w',hr,hS'⟩ := Fi7 (P := P) (hS.take hu) ht
 refine Ao7 hg (v := .pointer (some ⟨r,0,none⟩)) (w' := w') ?_ (h r w' hS')
 unfold execOp
 simp [ho,hx,hr]
theorem Is7 {x : Operand} (hS : St W L w) (ho : o.op = .next x false) (hg : Region.wanted o (yielded ops a.tmps) = true) (hx : a.eval x = .pointer (some ⟨r,0,none⟩)) (hu : Take L (itR ek ev r b l todo) R)
  (h0 : todo = [] → wpList P ops Q rest (a.put o.dst (.tuple #[.bool false])) w)
  (h1 : ∀ y todo',todo.Perm (y :: todo') → y ∈ l → ∀ w',St W (itAt ek ev r b l todo' y :: R) w' → wpList P ops Q rest (a.put o.dst (.tuple #[.bool true,ek y.1,ev y.2])) w') : wpList P ops Q (o :: rest) a w := by
 rcases Gn7 (P := P) (ty := o.type) (hS.take hu) with ⟨h2,hr⟩|⟨y,todo',hp,hy,w',hr,hS'⟩
 ·refine Ao7 hg (v := .tuple #[.bool false]) (w' := w) ?_ (h0 h2)
  unfold execOp
  simp [ho,hx,hr]
 ·refine Ao7 hg (v := .tuple #[.bool true,ek y.1,ev y.2]) (w' := w') ?_ (h1 y todo' hp hy w' hS')
  unfold execOp
  simp [ho,hx,hr]
theorem Gr7 {x : Operand} {y : κ × ν} (hS : St W L w) (ho : o.op = .entry x) (hg : Region.wanted o (yielded ops a.tmps) = true) (hx : a.eval x = .pointer (some ⟨r,0,none⟩)) (hu : Take L (itAt ek ev r b l todo y) R)
  (h : St W (itR ek ev r b l todo :: R) w → wpList P ops Q rest (a.put o.dst (.tuple #[ek y.1,ev y.2])) w) : wpList P ops Q (o :: rest) a w := by
 refine Ao7 hg (v := .tuple #[ek y.1,ev y.2]) (w' := w) ?_ (h (itAtR (hS.take hu)))
 unfold execOp
 simp [ho,hx,Fj7 (hS.take hu)]
theorem itPerm {l' todo' : List (κ × ν)} (hp : l.Perm l') (hq : todo.Perm todo') (h : St W (itR ek ev r b l todo :: L) w) : St W (itR ek ev r b l' todo' :: L) w := by
 obtain ⟨q,⟨h1,h2,h3,h4,h5⟩,hS⟩ := itOpen h
 exact itShut ⟨h1.trans hp,h2,h3,h4,h5.trans hq⟩ hS
theorem Gs7 {x : Operand} (hS : St W L w) (ho : o.op = .next x false) (hg : Region.wanted o (yielded ops a.tmps) = true) (hx : a.eval x = .pointer (some ⟨r,0,none⟩)) (hu : Take L (itR ek ev r b l todo) R) (ht : todo = [])
  (h0 : wpList P ops Q rest (a.put o.dst (.tuple #[.bool false])) w) : wpList P ops Q (o :: rest) a w :=
 Is7 hS ho hg hx hu (fun _ => h0) (fun y todo' hp _ _ _ => by rw [ht] at hp;exact absurd hp.length_eq (by simp))
theorem Gt7 {x : Operand} (hS : St W L w) (ho : o.op = .next x false) (hg : Region.wanted o (yielded ops a.tmps) = true) (hx : a.eval x = .pointer (some ⟨r,0,none⟩)) (hu : Take L (itR ek ev r b l todo) R) (ht : todo ≠ [])
  (h1 : ∀ y todo',todo.Perm (y :: todo') → y ∈ l → ∀ w',St W (itAt ek ev r b l todo' y :: R) w' → wpList P ops Q rest (a.put o.dst (.tuple #[.bool true,ek y.1,ev y.2])) w') : wpList P ops Q (o :: rest) a w :=
 Is7 hS ho hg hx hu (fun h => absurd h ht) h1
def itLeft (r b : Nat) (w : World) : Nat := match w.heap[r]?,w.heap[b]? with
 | some (.mapIter _ _ seen _),some (.map es _) => (es.toList.filter fun e => decide (e.born ∉ seen)).length
 | _,_ => 0
theorem Bc7 (h : St W (itR ek ev r b l todo :: L) w) : itLeft r b w = todo.length := by
 obtain ⟨⟨ps,c,since,c0,seen⟩,⟨h1,h2,h3,h4,h5⟩,hS⟩ := itOpen h
 have e1 := hS.get (b := r) .head
 have e2 := hS.get (b := b) (.tail .head)
 unfold itLeft
 rw [e1,e2]
 have e3 : (((ps.map (evs ev)).map (entA ek)).toArray.toList.filter fun e => decide (e.born ∉ seen)).length = (ps.filter fun x => decide (x.2.2 ∉ seen)).length := by
  show (((ps.map (evs ev)).map (entA ek)).filter _).length = _
  rw [List.map_map,List.filter_map,List.length_map]
  rfl
 have e4 := h5.length_eq
 rw [List.length_map] at e4
 exact e3.trans e4
variable [DecidableEq κ]
def lookR (ok : Bool) (z : Value) : Option Value → Value
 | some v => if ok then .tuple #[v,.bool true] else v
 | none => if ok then .tuple #[z,.bool false] else z
def getL (l : List (κ × ν)) (k : κ) : Option ν := (l.find? fun x => decide (x.1 = k)).map (·.2)
theorem BL7 {k : κ} (h : getL l k = none) : ∀ x ∈ l,x.1 ≠ k := by
 unfold getL at h
 rw [Option.map_eq_none_iff,List.find?_eq_none] at h
 intro x hx
 simpa using h x hx
theorem AG7 {k : κ} {v : ν} (h : getL l k = some v) : (k,v) ∈ l := by
 unfold getL at h
 obtain ⟨x,hx,rfl⟩ := Option.map_eq_some_iff.1 h
 have h1 := List.find?_some hx
 have h2 := List.mem_of_find?_eq_some hx
 simp only [decide_eq_true_eq] at h1
 rw [← h1];exact h2
theorem FC7 {k : κ} (h : ∀ x ∈ l,x.1 ≠ k) : getL l k = none := by
 unfold getL
 rw [Option.map_eq_none_iff,List.find?_eq_none]
 intro x hx
 simpa using h x hx
theorem Du7 {k : κ} {v : ν} (hn : (l.map (·.1)).Nodup) (h : (k,v) ∈ l) : getL l k = some v := by
 induction l with
 | nil => cases h
 | cons x l ih =>
  rw [List.map_cons,List.nodup_cons] at hn
  unfold getL at ih ⊢
  rcases List.mem_cons.1 h with h1|h1
  ·subst h1;simp
  ·have hx : x.1 ≠ k := fun e => hn.1 (List.mem_map.2 ⟨_,h1,e.symm⟩)
   rw [List.find?_cons_of_neg (by simpa using hx)]
   exact ih hn.2 h1
theorem AC7 {l l' : List (κ × ν)} (hn : (l.map (·.1)).Nodup) (hp : l.Perm l') (k : κ) : getL l k = getL l' k := by
 cases h : getL l k with
 | some v => exact (Du7 ((hp.map (·.1)).nodup_iff.1 hn) (hp.mem_iff.1 (AG7 h))).symm
 | none => exact (FC7 fun x hx => BL7 h x (hp.mem_iff.2 hx)).symm
theorem CP7 {k : κ} {z : Value} {ok : Bool} (h : St W (amap ek ev b l :: L) w) (ht : tyMap P t = some (K,E)) (hK : KeyOk P K ek) (hz : tyZeroV P E = some z) :
  (Instr.lookup t (.map (some b)) (ek k) ok).run P w = .ok (lookR ok z ((getL l k).map ev)) w := by
 cases hg : getL l k with
 | some v => exact Go7 (x := (k,v)) h ht hK (AG7 hg)
 | none => exact Gp7 h ht hK hz (BL7 hg)
theorem FD7 {x y : Operand} {k : κ} {z : Value} {ok : Bool} (hS : St W L w) (ho : o.op = .lookup t x y ok) (hg : Region.wanted o (yielded ops a.tmps) = true) (hx : a.eval x = .map (some b)) (hy : a.eval y = ek k) (hu : Take L (amap ek ev b l) R)
  (ht : tyMap P t = some (K,E)) (hK : KeyOk P K ek) (hz : tyZeroV P E = some z) (h : wpList P ops Q rest (a.put o.dst (lookR ok z ((getL l k).map ev))) w) : wpList P ops Q (o :: rest) a w := by
 refine Ao7 hg (w' := w) ?_ h
 unfold execOp
 simp [ho,hx,hy,CP7 (hS.take hu) ht hK hz]
theorem CQ7 {x y : Operand} {k : κ} {u : ν} {z : Value} (hS : St W L w) (ho : o.op = .lookup t x y false) (hg : Region.wanted o (yielded ops a.tmps) = true) (hx : a.eval x = .map (some b)) (hy : a.eval y = ek k) (hu : Take L (amap ek ev b l) R)
  (ht : tyMap P t = some (K,E)) (hK : KeyOk P K ek) (hz : tyZeroV P E = some z) (hgl : getL l k = some u) (h : wpList P ops Q rest (a.put o.dst (ev u)) w) : wpList P ops Q (o :: rest) a w :=
 FD7 hS ho hg hx hy hu ht hK hz (by rw [hgl];exact h)
theorem Et7 {x y : Operand} {k : κ} {z : Value} (hS : St W L w) (ho : o.op = .lookup t x y false) (hg : Region.wanted o (yielded ops a.tmps) = true) (hx : a.eval x = .map (some b)) (hy : a.eval y = ek k) (hu : Take L (amap ek ev b l) R)
  (ht : tyMap P t = some (K,E)) (hK : KeyOk P K ek) (hz : tyZeroV P E = some z) (hgl : getL l k = none) (h : wpList P ops Q rest (a.put o.dst z) w) : wpList P ops Q (o :: rest) a w :=
 FD7 hS ho hg hx hy hu ht hK hz (by rw [hgl];exact h)
theorem Bi7 {x y v : Operand} {k : κ} {u : ν} (hS : St W L w) (ho : o.op = .mapUpdate t x y v) (hg : Region.wanted o (yielded ops a.tmps) = true) (hx : a.eval x = .map (some b)) (hy : a.eval y = ek k) (hu : Take L (amap ek ev b l) R) (hv : a.eval v = ev u)
  (ht : tyMap P t = some (K,E)) (hK : KeyOk P K ek) (h : ∀ w',St W (amap ek ev b ((k,u) :: delL l k) :: R) w' → wpList P ops Q rest (a.put o.dst undef) w') : wpList P ops Q (o :: rest) a w := by
 obtain ⟨w',hr,hS'⟩ := LJ7 (P := P) (k := k) (v := u) (hS.take hu) ht hK
 refine BH7 hg (w' := w') ?_ (h w' hS')
 unfold execOp
 simp [ho,hx,hy,hv,hr]
theorem Ht7 {x y : Operand} {k : κ} {k2 : TypeId} (hS : St W L w) (ho : o.op = .call { callee := .builtin .delete,args := #[x,y],argTypes := #[t,k2] }) (hg : Region.wanted o (yielded ops a.tmps) = true) (hx : a.eval x = .map (some b)) (hy : a.eval y = ek k) (hu : Take L (amap ek ev b l) R)
  (ht : tyMap P t = some (K,E)) (hK : KeyOk P K ek) (h : ∀ w',St W (amap ek ev b (delL l k) :: R) w' → wpList P ops Q rest (a.put o.dst (.tuple #[])) w') : wpList P ops Q (o :: rest) a w := by
 obtain ⟨w',hr,hS'⟩ := LK7 (P := P) (k := k) (k2 := k2) (ty := o.type) (hS.take hu) ht hK
 refine Ao7 hg (v := .tuple #[]) (w' := w') ?_ (h w' hS')
 unfold execOp
 simp [ho,resolve,invoke,builtin,hx,hy,hr]
theorem Ka7 {x y : Operand} {k : κ} {k2 : TypeId} (hS : St W L w) (ho : o.op = .call { callee := .builtin .delete,args := #[x,y],argTypes := #[t,k2] }) (hg : Region.wanted o (yielded ops a.tmps) = true) (hx : a.eval x = .map (some b)) (hy : a.eval y = ek k) (hu : Take L (itR ek ev r b l todo) R)
  (ht : tyMap P t = some (K,E)) (hK : KeyOk P K ek) (hk : ∀ x ∈ todo,x.1 ≠ k) (h : ∀ w',St W (itR ek ev r b (delL l k) todo :: R) w' → wpList P ops Q rest (a.put o.dst (.tuple #[])) w') : wpList P ops Q (o :: rest) a w := by
 obtain ⟨w',hr,hS'⟩ := LN7 (P := P) (k := k) (k2 := k2) (ty := o.type) (hS.take hu) ht hK hk
 refine Ao7 hg (v := .tuple #[]) (w' := w') ?_ (h w' hS')
 unfold execOp
 simp [ho,resolve,invoke,builtin,hx,hy,hr]
end
end Go.Sl
end
