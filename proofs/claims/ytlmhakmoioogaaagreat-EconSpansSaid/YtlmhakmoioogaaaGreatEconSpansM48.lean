/-
  The keys of an economy, sorted: of the program, and of the document. For every economy.
  How long an economy's bytes are. The plain law: no program in sight.
  The keys of what has arrived, sorted; rows of bytes that the program's Writer lays. For all of them.
  An economy as bytes, the program's. For every economy behind requests.
  played; what was asked once is known. For every row of requests.
  The vault's Total in all cases. For every vault.
  Are the program's vault and the document's alike? They are, when they hold the same. For every vault.
  EconOnce: the walk. For every row of requests, every row of numbers.
  EconSpans: the walk. For every row of requests, every span.
  A span that comes in. For every span.
  What a law's walk gives its row: true came back, and what was there before the call is as it was: so the arguments read as they did. For every law that writes only what it made itself.
-/
import Derived.Test.YtlmhakmoioogaaaGreatEconSpansM1
import Derived.Test.YtlmhakmoioogaaaGreatEconSpansM5
import Derived.Test.YtlmhakmoioogaaaGreatEconSpansM15
import Derived.Test.YtlmhakmoioogaaaGreatEconSpansM21
import Derived.Test.YtlmhakmoioogaaaGreatEconSpansM29
import Derived.Test.YtlmhakmoioogaaaGreatEconSpansM31
import Derived.Test.YtlmhakmoioogaaaGreatEconSpansM46
import Derived.Test.YtlmhakmoioogaaaGreatEconSpansM47
import Derived.Laws.BytesString
import Derived.WalkKit
import Derived.ProofKit
import Derived.OpenShut
import Derived.ChangeSame
import Derived.ReadAgain
set_option maxHeartbeats 16000000
set_option maxRecDepth 100000
set_option linter.unusedSimpArgs false
set_option linter.unusedVariables false
section
namespace Go.Proofs.YtlmhakmoioogaaaGreat
open Go.RowKit Go.Maps Go.Sort Go.Shelf Go.Sl
theorem JI7 (mb : Option Nat) (W w : World) (L : List HP) (hS : St W L w) :
  Calls Tryz.prog 63 #[.map mb] w fun e w' => ∃ g,e = .returned (.func (.func 131) #[] #[.pointer (some ⟨g,0,none⟩)]) ∧ St W (blk g [.map mb] 79 :: L) w' := by
 have cK : CallsIn Fence.wide 5 Tryz.prog 63 #[.map mb] w fun e w' => e = .returned (.func (.func 131) #[] #[.pointer (some ⟨w.heap.size,0,none⟩)]) ∧ w' = w.alloc (.cells #[.map mb] 79) := AnyZ.keys_in Tryz.keysV Fence.wide 5 trivial rfl mb w
 refine ((callsIn_wide (n := 5)).1 cK).mono ?_
 rintro e w' ⟨rfl,rfl⟩
 exact ⟨_,rfl,hS.alloc _⟩
section
variable {ν : Type} {ev : ν → Value} {W w : World} {L : List HP} {b g : Nat}
theorem Hj7 {l : List (ByteArray × ν)} (hwf : ∀ x ∈ l,x.1.size ≤ maxLen) (hl : l.length ≤ 1000000000) (hS : St W (blk g [.map (some b)] 79 :: amap eS ev b l :: L) w) :
  Calls Tryz.prog 62 #[.func (.func 131) #[] #[.pointer (some ⟨g,0,none⟩)]] w fun e w' => ∃ v,e = .returned v ∧ St W (row v 1 9 l.length ((sortB (l.map (·.1))).map eS) :: amap eS ev b l :: L) w' := by
 obtain ⟨D,hD1,hD2,hD3⟩ := ownsAS hS.drop hwf (by unfold maxLen;omega)
 have hseq : SeqGives Fence.wide 2 Tryz.prog 131 #[.pointer (some ⟨g,0,none⟩)] encStr (fun ss => ss.Perm (strKeys D)) (Maps.size D) w :=
  AnyZ.keys_gives (ρ := Tryz.keysV_ren) { Tryz.keysV with } Fence.wide _ trivial rfl (by omega) g b l.length D _ (Array.getElem?_eq_some_iff.1 (hS.get (b := g) .head)).1 (hS.cell (b := g) (off := 0) .head rfl) hD1
 have cS := AnyZ.sorted_in Tryz.sortedS Fence.wide 5 trivial trivial trivial trivial rfl (by omega) (sortsS _) (enters_of Tryz.func130 (by kernel_rfl) rfl) 131 #[.pointer (some ⟨g,0,none⟩)] trivial (enters_of Tryz.func131 (by kernel_rfl) rfl) _ _ (by rw [hD2];unfold maxLen;omega) (by rw [hD2];omega) _ hseq
 change CallsIn _ _ Tryz.prog 62 _ _ _ at cS
 refine ((callsIn_wide (n := 5)).1 cS).mono ?_
 rintro e w' ⟨v,ss,rfl,hP,hrow,hnil,hb⟩
 refine ⟨v,rfl,?_⟩
 have hp := hP.trans hD3
 have e := IF7 (l := l.map (·.1)) (ss := ss) (by rw [List.map_map];exact hp)
 rw [e,show ss.length = l.length by rw [hp.length_eq,List.length_map]] at hrow
 exact (hS.drop).called hb hrow
end
theorem HZ7 {l l' : List ByteArray} (h : l.Perm l') : sortB l = sortB l' :=
 List.Perm.eq_of_pairwise (fun a b _ _ h1 h2 => FM7 h1 h2) (AJ7 l) (AJ7 l') (((Ax7 l).trans h).trans (Ax7 l').symm)
def ksE (e : Ec) : List ByteArray := sortB (e.vs.map (·.1))
theorem Lv7 (e : Ec) : (ksE e).length = e.vs.length := by unfold ksE;rw [(Ax7 _).length_eq,List.length_map]
abbrev strR (v : Value) (l : List ByteArray) : HP := row v 1 9 l.length (l.map eS)
theorem Hk7 {eb : Nat} {e : Ec} (hk : ∀ x ∈ e.vs,x.1.size ≤ maxLen) (hl : e.vs.length ≤ 1000000) (W w : World) (R : List HP) (hS : St W (ecP eb e :: R) w) :
  Calls Tryz.prog 25 #[.pointer (some ⟨eb,0,none⟩)] w fun x w' => ∃ v,x = .returned v ∧ St W (strR v (ksE e) :: ecP eb e :: R) w' := by
 obtain ⟨m1,m2,m3,m4,E,hp,hn,hS0⟩ := ecOpenR hS
 have hS1 := evOpen hS0
 clear hS hS0
 have hpk : ((ptrsE E).map (·.1)).Perm (e.vs.map (·.1)) := by rw [AD7,← BQ7];exact hp.map _
 have hks : sortB ((ptrsE E).map (·.1)) = ksE e := HZ7 hpk
 have hlk : (ptrsE E).length = (ksE e).length := by rw [Lv7];have := hpk.length_eq;rw [List.length_map,List.length_map] at this;exact this
 have hwf : ∀ x ∈ ptrsE E,x.1.size ≤ maxLen := fun x hx => by
  have h1 := hpk.mem_iff.1 (List.mem_map.2 ⟨x,hx,rfl⟩)
  obtain ⟨y,hy,hxy⟩ := List.mem_map.1 h1
  rw [← hxy]
  exact hk y hy
 have hl2 : (ptrsE E).length ≤ 1000000000 := by rw [hlk,Lv7];omega
 have Hp := Lib.hid hp
 have Hks := Lib.hid hks
 have Hlk := Lib.hid hlk
 have Hwf := Lib.hid hwf
 have Hl2 := Lib.hid hl2
 clear hp hn hpk hks hlk hwf hl2 hl
 have hS := hS1
 clear hS1
 go_enter Tryz.func25,Tryz.ntmps25
 go_wp2_with (first|go_big_skip|(refine zl1 hS ?_)|(go_at_call 63;refine (JI7 (some m1) W _ _ hS).mono ?_;clear hS;rintro x w ⟨g,rfl,hS⟩)|(go_at_call 62;refine (Hj7 (g := g) (b := m1) (ev := eN) (l := ptrsE E) Hwf.out Hl2.out (hS.sel (L' := blk g _ _ :: amap eS eN m1 (ptrsE E) :: ebB eb m1 m2 m3 m4 :: vauP E :: amap eI eSs m2 e.ss :: amap eW eTn m3 e.ts :: amap eW eU m4 e.ar :: R) (by exact selS))).mono ?_;clear hS;rintro x w ⟨v,rfl,hS⟩))
 go_ret
 rw [Hks.out,Hlk.out] at hS
 have h1 := hS.sel (L' := ebB eb m1 m2 m3 m4 :: amap eS eN m1 (ptrsE E) :: vauP E :: amap eI eSs m2 e.ss :: amap eW eTn m3 e.ts :: amap eW eU m4 e.ar :: strR v (ksE e) :: R) (by exact selS)
 exact ⟨v,rfl,(ecShut Hp.out h1).swap⟩
end Go.Proofs.YtlmhakmoioogaaaGreat
end
section
namespace Go.Proofs.YtlmhakmoioogaaaGreat
open Go.RowKit Go.Sl
def sumL : List (ByteArray × Vs) → Nat
 | [] => 0
 | x :: l => x.2.ps.length + sumL l
theorem Lw7 {l l' : List (ByteArray × Vs)} (h : l.Perm l') : sumL l = sumL l' := by
 induction h with
 | nil => rfl
 | cons x _ ih => rw [sumL,sumL,ih]
 | swap x y l => rw [sumL,sumL,sumL,sumL];omega
 | trans _ _ h1 h2 => rw [h1,h2]
theorem MI7 {l : List (ByteArray × Vs)} (hn : (l.map (·.1)).Nodup) (u : ByteArray) : sumL l = ((getL l u).getD vs0).ps.length + sumL (delL l u) := by
 cases hg : getL l u with
 | none => rw [AY7 (BL7 hg)];show _ = 0 + _;omega
 | some V => rw [Lw7 (BW7 hn hg)];rfl
theorem MJ7 {p : Ps} {N : Nat} (h : PsW p N) : PsW p p.length := ⟨h.nd,h.nz,h.who,Nat.le_refl _⟩
theorem Lx7 {V : Vs} {i : Nat} {o : Opn} (h : VOk V.ps V.n i) (hL : ∀ x ∈ V.L,MayP x) (hl : V.L.length ≤ 32) : (doV V o).2.ps.length ≤ V.ps.length + 100 := by
 have hw := MJ7 h.w
 unfold doV
 split
 ·have := (HH7 hw o.aw (oneI o.item o.cnt)).len
  show (putP V.ps o.aw (oneI o.item o.cnt)).length ≤ _
  omega
 split
 ·have := (Ee7 hw o.aw (oneI o.item o.cnt)).len
  show (takeP V.ps o.aw (oneI o.item o.cnt)).length ≤ _
  omega
 split
 ·exact (MT7 (o := ordOf o) hw hL hl).len
 split
 ·exact (MU7 (who := o.aw) (id := o.id) hw hL).len
 split
 ·show V.ps.length ≤ _
  omega
 split
 ·have := (HH7 hw o.aw (oneI o.item o.cnt)).len
  show (putP V.ps o.aw (oneI o.item o.cnt)).length ≤ _
  omega
 ·show V.ps.length ≤ _
  omega
structure EnL (e : Ec) (n : Nat) : Prop where
 en : EnOk e n
 nd : (e.vs.map (·.1)).Nodup
 ln : sumL e.vs ≤ 100 * n
theorem enL0 : EnL ec0 0 := ⟨enOk0,List.nodup_nil,Nat.le_refl _⟩
theorem Ly7 {e : Ec} (hn : (e.vs.map (·.1)).Nodup) (k : ByteArray) (V : Vs) : ((setV e k V).vs.map (·.1)).Nodup := by
 show ((if noneV V = true then delL e.vs k else (k,V) :: delL e.vs k).map (·.1)).Nodup
 have h1 : ((delL e.vs k).map (·.1)).Nodup := hn.sublist (List.filter_sublist.map _)
 split
 ·exact h1
 ·rw [List.map_cons,List.nodup_cons]
  refine ⟨fun h => ?_,h1⟩
  obtain ⟨x,hx,hk⟩ := List.mem_map.1 h
  have := (List.mem_filter.1 hx).2
  simp only [ne_eq,decide_not,Bool.not_eq_eq_eq_not,Bool.not_true,decide_eq_false_iff_not] at this
  exact this hk
theorem EnL.app {e : Ec} {n : Nat} (h : EnL e n) (he : EachV e) (o : Opn) (hok : EOk (appE e o).2.2 (n + 1)) : EnL (appE e o).2.2 (n + 1) := by
 refine ⟨h.en.app o hok,?_,?_⟩
 ·cases hp : peekE e o with
  | mk r b =>
  cases b with
  | true => rw [Eh7 hp];exact h.nd
  | false =>
   obtain ⟨rfl,hm⟩ := BY7 hp
   rw [Db7 hp]
   exact Ly7 h.nd _ _
 ·cases hp : peekE e o with
  | mk r b =>
  cases b with
  | true => rw [Eh7 hp];have := h.ln;show sumL e.vs ≤ _;omega
  | false =>
   obtain ⟨rfl,hm⟩ := BY7 hp
   rw [Db7 hp]
   show sumL (if noneV (doV (atV e o.ak) o).2 = true then delL e.vs o.ak else (o.ak,(doV (atV e o.ak) o).2) :: delL e.vs o.ak) ≤ _
   have h1 := MI7 h.nd o.ak
   have h2 := h.ln
   have h3 : (doV (atV e o.ak) o).2.ps.length ≤ (atV e o.ak).ps.length + 100 := by
    unfold atV
    cases hg : getL e.vs o.ak with
    | none => exact Lx7 (i := 0) (V := vs0) vOk0 (fun x hx => (by cases hx)) (Nat.zero_le _)
    | some V =>
     have hm := AG7 hg
     exact Lx7 (h.en.ok _ hm) (he _ hm).1 (he _ hm).2
   unfold atV at h3 ⊢
   split
   ·omega
   ·show (doV ((getL e.vs o.ak).getD vs0) o).2.ps.length + sumL (delL e.vs o.ak) ≤ _
    omega
def enK (e : Ec) (k : ByteArray) : List Int := encR (strI k) ++ encR (encV (atV e k).ps (atV e k).L (atV e k).n)
abbrev sbV (g : Nat) (s : ByteArray) (c : Nat) : Value := .slice (some ⟨g,0,none⟩) s.size c
def enS (e : Ec) (c : Int) : List Int := numsB [c,((getL e.ss c).getD (0,rp0)).1] ++ encR (rpB ((getL e.ss c).getD (0,rp0)).2)
def enT (x : (Int × Int) × Tns) : List Int := numsB [x.2.client,x.2.seq] ++ (encR (strI x.2.ak) ++ (encR (strI x.2.aw) ++ (encR (strI x.2.tk) ++ encR (strI x.2.tw)))) ++ numsB [x.2.item,x.2.cnt]
def enA (k : Int × Int) : List Int := numsB [k.1,k.2]
def EncIs (e : Ec) (d : List Int) : Prop := ∃ (T : List ((Int × Int) × Tns)) (A : List (Int × Int)),T.Perm e.ts ∧ Asc ltW T ∧ A.Perm (e.ar.map (·.1)) ∧ A.Pairwise (fun x y => ltW x y = true) ∧
 d = numB e.vs.length ++ (ksE e).flatMap (enK e) ++ numB e.ss.length ++ (srtI (e.ss.map (·.1))).flatMap (enS e) ++ numB e.ts.length ++ T.flatMap enT ++ numB e.ar.length ++ A.flatMap enA
abbrev zrR (v : Value) (l : List Int) : HP := row v 1 3 l.length (l.map eZ)
abbrev waR (v : Value) (l : List (Int × Int)) : HP := row v 2 94 l.length (l.flatMap whC)
def SeenO (e : Ec) (o : Opn) : Prop := mayO o = false ∨ ∃ q r,getL e.ss o.client = some (q,r) ∧ o.seq ≤ q
theorem MK7 : KeepE EnL := fun _ _ o h he _ hok => h.app he o hok
theorem ML7 {I : Ec → Nat → Prop} (hI : KeepE I) (hi0 : I ec0 0) (xs : List Opn) (hlen : xs.length ≤ 150) (v : Value) (V : World) (hv : SliceV Opn.cells 12 V v xs) (W w : World) (Lr : List HP) (hS : St W (Old V :: Lr) w) :
  Calls Tryz.prog 23 #[v] w fun r w' => ∃ eb xb,r = .returned (.tuple #[.pointer (some ⟨eb,0,none⟩),.pointer (some ⟨xb,0,none⟩),.bool true]) ∧ GOk (runD xs ec0) (runE xs ec0) xs.length ∧ I (runE xs ec0) xs.length ∧ St W (ecP eb (runE xs ec0) :: xecP xb (runD xs ec0) :: Old V :: Lr) w' := by
 have Hv := Lib.hid hv
 clear hv
 go_enter Tryz.func23,Tryz.ntmps23
 go_wp2_with (first|go_big_skip|(go_at_call 15;refine (EL7 W _ _ hS).mono ?_;clear hS;rintro e w ⟨eb,rfl,hS⟩)|(refine zbx hS ?_;clear hS;intro xb w hS)|(go_at_call 32;(have hS1 := xec0 (hS.sel (L' := xeB xb (.slice none 0 0) (.slice none 0 0) (.slice none 0 0) (.slice none 0 0) :: ecP eb ec0 :: Old V :: Lr) (by exact selS)));clear hS;refine (Lu7 xs hlen _ V Hv.out (n := 0) (by decide) gOk0 hI hi0 eb xb W _ _ (hS1.sel (L' := ecP eb ec0 :: xecP xb ec0 :: Old V :: Lr) (by exact selS))).mono ?_;clear hS1;rintro e w ⟨rfl,hG,hN,hS⟩;have HG := Lib.hid hG;have HN := Lib.hid hN;clear hG hN))
 go_ret3
 exact ⟨eb,xb,rfl,by have := HG.out;rwa [Nat.zero_add] at this,by have := HN.out;rwa [Nat.zero_add] at this,hS⟩
theorem Ia7 (xs : List Opn) (hlen : xs.length ≤ 150) (v : Value) (V : World) (hv : SliceV Opn.cells 12 V v xs) (W w : World) (Lr : List HP) (hS : St W (Old V :: Lr) w) :
  Calls Tryz.prog 23 #[v] w fun r w' => ∃ eb xb,r = .returned (.tuple #[.pointer (some ⟨eb,0,none⟩),.pointer (some ⟨xb,0,none⟩),.bool true]) ∧ GOk (runD xs ec0) (runE xs ec0) xs.length ∧ EnL (runE xs ec0) xs.length ∧ St W (ecP eb (runE xs ec0) :: xecP xb (runD xs ec0) :: Old V :: Lr) w' := ML7 MK7 enL0 xs hlen v V hv W w Lr hS
end Go.Proofs.YtlmhakmoioogaaaGreat
end
section
namespace Go.Sl
open Go.RowKit
structure Same (L L' : List HP) : Prop where
 to : ∀ {f : Frag},sats L f → sats L' f
 back : ∀ {f : Frag},sats L' f → sats L f
theorem Same.refl {L : List HP} : Same L L := ⟨fun h => h,fun h => h⟩
theorem Same.of {A : HP} {L R R' : List HP} (h : Take L A R) (h2 : Same R R') : Same L (A :: R') :=
 ⟨fun hs => AK7 (fun _ x => x) (fun _ x => h2.to x) (h.sats hs),fun hs => h.back (AK7 (fun _ x => x) (fun _ x => h2.back x) hs)⟩
theorem Same.st {W w : World} {L L' : List HP} (h : Same L L') (hS : St W L w) : St W L' w := ⟨hS.os,hS.tape,hS.output,h.to hS.sat⟩
theorem Same.ts {W w : World} {L L' : List HP} {X : HP} (h : Same L L') (hS : St W (X :: L') w) : St W (X :: L) w := ⟨hS.os,hS.tape,hS.output,AK7 (fun _ x => x) (fun _ x => h.back x) hS.sat⟩
def bstr (ns : List Int) : ByteArray := ns.foldl (fun r n => r.push (UInt8.ofNat n.toNat)) ByteArray.empty
section
variable {P : Program} {W : World} {ops : Array Oper} {t : List Nat} {toks : List Tok} {fresh : Nat → Bool} {pin : Nat → Option Value} {Qf : Act → Prop} {nd : Nat → Value} {i : Nat} {l : List Oper} {a : Act} {o : Oper}
end
end Go.Sl
namespace Go.Proofs.YtlmhakmoioogaaaGreat
open Go.RowKit Go.Sl
section
variable {W w : World} {vb mb bb xb xB : Nat} {p : Ps} {L : List Ord} {n : Int} {N : Nat} {L1 R3 : List HP}
end
def OnR (W : World) (L : List HP) (n : Nat) (v : Value) (w : World) : Prop := ∃ i : Nat,v = .int .i64 i ∧ i ≤ n ∧ St W L w
theorem Oc7 {e : Ec} {f t : ByteArray} : ∀ k ∈ ksE (outE e f t),inB f t k = false := by
 intro k hk
 obtain ⟨x,hx,rfl⟩ := List.mem_map.1 ((Ax7 _).mem_iff.1 hk)
 have := (List.mem_filter.1 hx).2
 simpa using this
theorem OF7 {e : Ec} {f t : ByteArray} : ∀ k ∈ ksE (inE e f t),inB f t k = true := by
 intro k hk
 obtain ⟨x,hx,rfl⟩ := List.mem_map.1 ((Ax7 _).mem_iff.1 hk)
 exact (List.mem_filter.1 hx).2
theorem OG7 {e : Ec} {f t : ByteArray} {n : Nat} (h : EnL e n) : (∀ x ∈ (outE e f t).vs,x.1.size ≤ 16) ∧ (outE e f t).vs.length ≤ n ∧ (outE e f t).ts.length ≤ n :=
 ⟨fun x hx => h.en.vk x (List.mem_filter.1 hx).1,Nat.le_trans (List.length_filter_le ..) h.en.lv,Nat.le_trans (List.length_filter_le ..) h.en.lt⟩
theorem inE_v {e : Ec} {f t : ByteArray} {n : Nat} (h : EnL e n) : (∀ x ∈ (inE e f t).vs,x.1.size ≤ 16) ∧ (inE e f t).vs.length ≤ n ∧ (inE e f t).ts.length ≤ n :=
 ⟨fun x hx => h.en.vk x (List.mem_filter.1 hx).1,Nat.le_trans (List.length_filter_le ..) h.en.lv,Nat.le_trans (List.length_filter_le ..) h.en.lt⟩
theorem OH7 {e : Ec} {f t : ByteArray} {T : List ((Int × Int) × Tns)} (h : T.Perm (outE e f t).ts) : ∀ x ∈ T,inB f t x.2.ak = false := by
 intro x hx
 have := (List.mem_filter.1 (h.mem_iff.1 hx)).2
 simpa using this
theorem ts_in {e : Ec} {f t : ByteArray} {T : List ((Int × Int) × Tns)} (h : T.Perm (inE e f t).ts) : ∀ x ∈ T,inB f t x.2.ak = true := fun x hx => (List.mem_filter.1 (h.mem_iff.1 hx)).2
theorem spans_spec (xs : List Opn) (f t : ByteArray) (v : Value) (V : World) (hv : SliceV Opn.cells 12 V v xs) (W w : World) (Lr : List HP) (hS : St W (Old V :: Lr) w) :
  Calls Tryz.prog 5 #[v,.agg #[.string f,.string t]] w fun e w' => e = .returned (.bool true) ∧ St W (Old V :: Lr) w' := by
 have Hv := Lib.hid hv
 obtain ⟨a,cap,rfl,h63,hact⟩ := hv.opn
 have Ha := Lib.hid hact
 clear hact hv
 go_enter Tryz.func5,Tryz.ntmps5
 by_cases hf : 60 < f.size
 ·have d1 : decide ((60 : Int) < (f.size : Int)) = true := by simp;omega
  go_wp2_with (first|go_big_skip|(refine zbx hS ?_;clear hS;intro bO w hS)|(refine zl1 hS ?_)|(go_at_call 20;refine (BZ7 xs a cap h63 (fun i hi => (Ha.out i hi).imp fun b h => h.imp fun off h => ⟨h.1,fun j v hj => Cell.old (.tail .head) (h.2.all j v hj)⟩) W _ hS).mono ?_;clear hS;rintro e w ⟨hv,h150,rfl,hS⟩;cases hv))
  all_goals (go_ret;exact ⟨rfl,hS.drop⟩)
 have d1 : decide ((60 : Int) < (f.size : Int)) = false := by simp;omega
 by_cases ht : 60 < t.size
 ·have d2 : decide ((60 : Int) < (t.size : Int)) = true := by simp;omega
  go_wp2_with (first|go_big_skip|(refine zbx hS ?_;clear hS;intro bO w hS)|(refine zl1 hS ?_)|(go_at_call 20;refine (BZ7 xs a cap h63 (fun i hi => (Ha.out i hi).imp fun b h => h.imp fun off h => ⟨h.1,fun j v hj => Cell.old (.tail .head) (h.2.all j v hj)⟩) W _ hS).mono ?_;clear hS;rintro e w ⟨hv,h150,rfl,hS⟩;cases hv))
  all_goals (go_ret;exact ⟨rfl,hS.drop⟩)
 have d2 : decide ((60 : Int) < (t.size : Int)) = false := by simp;omega
 clear hf ht
 go_wp2_with (first|go_big_skip|(refine zbx hS ?_;clear hS;intro bO w hS)|(refine zl1 hS ?_)|(go_at_call 20;refine (BZ7 xs a cap h63 (fun i hi => (Ha.out i hi).imp fun b h => h.imp fun off h => ⟨h.1,fun j v hj => Cell.old (.tail .head) (h.2.all j v hj)⟩) W _ hS).mono ?_;clear hS;rintro e w ⟨hv,h150,rfl,hS⟩;cases hv))
 rotate_left
 ·go_ret
  exact ⟨rfl,hS.drop⟩
 have hlen : xs.length ≤ 150 := by first|exact h150 rfl|exact h150 trivial
 clear h150
 refine (Ia7 xs hlen _ V Hv.out W _ _ (hS.sel (L' := Old V :: blk bO [.string f,.string t] 54 :: Lr) (by exact selS))).mono ?_
 clear hS
 rintro r w ⟨eb,xb,rfl,hG,hN,hS⟩
 obtain ⟨ho1,ho2,ho3⟩ := OG7 (f := f) (t := t) hN
 obtain ⟨hi1,hi2,hi3⟩ := inE_v (f := f) (t := t) hN
 clear hG hN
 generalize runE xs ec0 = e at *
 generalize runD xs ec0 = dd at *
 go_wp2_with (first|(refine zlN hS ?_)|(go_at_call 24;refine (MH7 f t W _ _ hS).mono ?_;clear hS;rintro x w ⟨fb,rfl,hS⟩)|((fail_if_success (have := g1));(go_at_call 25;refine (Hk7 (e := outE e f t) (fun x hx => by have := ho1 x hx;unfold maxLen;omega) (by omega) W _ _ hS).mono ?_;clear hS;rintro x w ⟨va,rfl,hS⟩);have g1 : Nat := 0)|((have := g1);(go_at_call 25;refine (Hk7 (e := inE e f t) (fun x hx => by have := hi1 x hx;unfold maxLen;omega) (by omega) W _ _ (hS.sel (L' := ecP fb (inE e f t) :: strR va (ksE (outE e f t)) :: ecP eb (outE e f t) :: xecP xb dd :: Old V :: blk bO _ _ :: Lr) (by exact selS))).mono ?_;clear hS;rintro x w ⟨vb,rfl,hS⟩)))
 obtain ⟨sa,sc,rfl⟩ := hS.drop.drop.rowVal
 obtain ⟨sb,sd,rfl⟩ := hS.rowVal
 have Hka := Lib.hid (Oc7 (e := e) (f := f) (t := t))
 have Hkb := Lib.hid (OF7 (e := e) (f := f) (t := t))
 go_loopw [11] (fun v wr => OnR W (strR (.slice sa (ksE (outE e f t)).length sc) (ksE (outE e f t)) :: strR (.slice sb (ksE (inE e f t)).length sd) (ksE (inE e f t)) :: ecP eb (outE e f t) :: ecP fb (inE e f t) :: xecP xb dd :: Old V :: blk bO [.string f,.string t] 54 :: Lr) (ksE (outE e f t)).length v wr) (fun v _ => (ksE (outE e f t)).length - (intOf v).toNat)
 case atStart => exact ⟨0,rfl,Nat.zero_le _,hS.sel (by exact selS)⟩
 case round =>
  clear hS
  obtain ⟨i,rfl,hi,hS⟩ := hrel
  by_cases hiz : i < (ksE (outE e f t)).length
  case pos =>
   have hd1 : decide (i < (ksE (outE e f t)).length) = true := by simp;omega
   obtain ⟨⟨g,rfl⟩,hcap,hcn⟩ := St.rowAddr hS (by omega)
   have hc : ∀ {K K' : List HP},Take K (strR (.slice (some ⟨g,0,none⟩) (ksE (outE e f t)).length sc) (ksE (outE e f t))) K' → Cell K g i (eS (ksE (outE e f t))[i]) := fun hu => Cell.rowM hu (by rw [List.getElem?_map,List.getElem?_eq_getElem hiz];rfl)
   have Hin := Lib.hid (Hka.out _ (List.getElem_mem hiz))
   generalize (ksE (outE e f t))[i] = k at hc Hin
   go_wp2_with (fail)
   refine Af7 5 (by kernel_rfl) (by kernel_rfl) hS ?_
   repeat (first|(apply Aq7;(with_reducible rfl);rfl;rfl;decide +kernel;(exact hc (by exact takeS));(refine frS ?_))|(refine zqN ?_)|(refine qQ ?_;intro K hK;go_big_quiet_op;go_big_quiet_on))
   clear hS
   intro w hS
   simp only [List.drop_succ_cons,List.drop_zero]
   go_wp2_with fail
   refine (IU7 Hin.out W _ _ hS).mono ?_
   clear hS
   rintro x w ⟨rfl,hS⟩
   go_wp2_with (fail)
   go_roundw
   case rel => exact ⟨i + 1,rfl,hiz,hS.sel (by exact selS)⟩
   case measure => simp [intOf];try omega
  have hd1 : decide (i < (ksE (outE e f t)).length) = false := by simp;omega
  clear hi hiz
  go_wp2_with (fail)
  go_loopw [12] (fun v wr => OnR W (strR (.slice sa (ksE (outE e f t)).length sc) (ksE (outE e f t)) :: strR (.slice sb (ksE (inE e f t)).length sd) (ksE (inE e f t)) :: ecP eb (outE e f t) :: ecP fb (inE e f t) :: xecP xb dd :: Old V :: blk bO [.string f,.string t] 54 :: Lr) (ksE (inE e f t)).length v wr) (fun v _ => (ksE (inE e f t)).length - (intOf v).toNat)
  case atStart => exact ⟨0,rfl,Nat.zero_le _,hS.sel (by exact selS)⟩
  case round =>
   clear hS
   obtain ⟨i,rfl,hi,hS⟩ := hrel
   by_cases hiz : i < (ksE (inE e f t)).length
   case pos =>
    have hd1 : decide (i < (ksE (inE e f t)).length) = true := by simp;omega
    obtain ⟨⟨g,rfl⟩,hcap,hcn⟩ := St.rowAddr hS.drop (by omega)
    have hc : ∀ {K K' : List HP},Take K (strR (.slice (some ⟨g,0,none⟩) (ksE (inE e f t)).length sd) (ksE (inE e f t))) K' → Cell K g i (eS (ksE (inE e f t))[i]) := fun hu => Cell.rowM hu (by rw [List.getElem?_map,List.getElem?_eq_getElem hiz];rfl)
    have Hin := Lib.hid (Hkb.out _ (List.getElem_mem hiz))
    generalize (ksE (inE e f t))[i] = k at hc Hin
    go_wp2_with (fail)
    refine Af7 5 (by kernel_rfl) (by kernel_rfl) hS ?_
    repeat (first|(apply Aq7;(with_reducible rfl);rfl;rfl;decide +kernel;(exact hc (by exact takeS));(refine frS ?_))|(refine zqN ?_)|(refine qQ ?_;intro K hK;go_big_quiet_op;go_big_quiet_on))
    clear hS
    intro w hS
    simp only [List.drop_succ_cons,List.drop_zero]
    go_wp2_with fail
    refine (IU7 Hin.out W _ _ hS).mono ?_
    clear hS
    rintro x w ⟨rfl,hS⟩
    go_wp2_with (fail)
    go_roundw
    case rel => exact ⟨i + 1,rfl,hiz,hS.sel (by exact selS)⟩
    case measure => simp [intOf];try omega
   have hd1 : decide (i < (ksE (inE e f t)).length) = false := by simp;omega
   clear hi hiz
   go_wp2_with (first|((fail_if_success (have := g2));(go_at_call 17;refine (Dd7 (ec := outE e f t) (by omega) W _ _ (hS.sel (L' := ecP eb (outE e f t) :: ecP fb (inE e f t) :: xecP xb dd :: Old V :: blk bO _ _ :: Lr) (by exact selS))).mono ?_;clear hS;rintro x w ⟨vx,X,rfl,hX1,_,hS⟩;have HX := Lib.hid (OH7 hX1);have HXl := Lib.hid hX1.length_eq;clear hX1);have g2 : Nat := 0)|((have := g2);(go_at_call 17;refine (Dd7 (ec := inE e f t) (by omega) W _ _ (hS.sel (L' := ecP fb (inE e f t) :: xtP vx X :: ecP eb (outE e f t) :: xecP xb dd :: Old V :: blk bO _ _ :: Lr) (by exact selS))).mono ?_;clear hS;rintro x w ⟨vy,Y,rfl,hY1,_,hS⟩;have HY := Lib.hid (ts_in hY1);have HYl := Lib.hid hY1.length_eq;clear hY1)))
   obtain ⟨xa,xc,rfl⟩ := hS.drop.drop.rowVal
   obtain ⟨ya,yc,rfl⟩ := hS.rowVal
   clear Hka Hkb
   have hXl : X.length ≤ 150 := by have := HXl.out;omega
   have hYl : Y.length ≤ 150 := by have := HYl.out;omega
   go_loopw [15] (fun v wr => OnR W (xtP (.slice xa X.length xc) X :: xtP (.slice ya Y.length yc) Y :: ecP eb (outE e f t) :: ecP fb (inE e f t) :: xecP xb dd :: Old V :: blk bO [.string f,.string t] 54 :: Lr) (X.length + Y.length) v wr) (fun v _ => X.length + Y.length - (intOf v).toNat)
   case atStart => exact ⟨0,rfl,Nat.zero_le _,hS.sel (by exact selS)⟩
   case round =>
    clear hS
    obtain ⟨i,rfl,hi,hS⟩ := hrel
    by_cases hiz : i < X.length + Y.length
    case pos =>
     have hd1 : decide ((i : Int) < (X.length : Int) + (Y.length : Int)) = true := by simp;omega
     by_cases hix : X.length ≤ i
     ·obtain ⟨j,rfl⟩ : ∃ j,i = X.length + j := ⟨i - X.length,by omega⟩
      have hd2 : decide (X.length ≤ X.length + j) = true := by simp
      have hj : j < Y.length := by omega
      obtain ⟨⟨g,rfl⟩,hcap,hcn⟩ := St.rowAddr hS.drop (by omega)
      have hc : ∀ {K K' : List HP},Take K (xtP (.slice (some ⟨g,0,none⟩) Y.length yc) Y) K' → Cells K g ((X.length + j - X.length) * 8) (tnC Y[j]) := fun hu => by rw [Nat.add_sub_cancel_left];exact Cells.elemM (enc := tnC) AT7 hu hj
      have Hin := Lib.hid (HY.out _ (List.getElem_mem hj))
      generalize Y[j] = x at hc Hin
      obtain ⟨⟨y1,y2⟩,⟨t0,t1,t2,t3,t4,t5,t6,t7⟩⟩ := x
      simp only [tnC,Tns.cells] at hc
      go_wp2_with (first|(refine zlN hS ?_ (hc := by exact hc (by exact takeS)))|(refine zal hS ?_;clear hS;intro bT w hS)|(refine zsN hS ?_;clear hS;intro w hS)|(refine zlN hS ?_)|(refine zl1 hS ?_)|(go_at_call 26;refine (IU7 Hin.out W _ _ hS).mono ?_;clear hS;rintro x w ⟨rfl,hS⟩))
      go_roundw
      case rel => exact ⟨X.length + j + 1,rfl,by omega,hS.sel (by exact selS)⟩
      case measure => simp [intOf];try omega
     ·have hj : i < X.length := by omega
      have hd2 : decide (X.length ≤ i) = false := by simp;omega
      obtain ⟨⟨g,rfl⟩,hcap,hcn⟩ := St.rowAddr hS (by omega)
      have hc : ∀ {K K' : List HP},Take K (xtP (.slice (some ⟨g,0,none⟩) X.length xc) X) K' → Cells K g (i * 8) (tnC X[i]) := fun hu => Cells.elemM (enc := tnC) AT7 hu hj
      have Hin := Lib.hid (HX.out _ (List.getElem_mem hj))
      generalize X[i] = x at hc Hin
      obtain ⟨⟨y1,y2⟩,⟨t0,t1,t2,t3,t4,t5,t6,t7⟩⟩ := x
      simp only [tnC,Tns.cells] at hc
      go_wp2_with (first|(refine zlN hS ?_ (hc := by exact hc (by exact takeS)))|(refine zal hS ?_;clear hS;intro bT w hS)|(refine zsN hS ?_;clear hS;intro w hS)|(refine zlN hS ?_)|(refine zl1 hS ?_)|(go_at_call 26;refine (IU7 Hin.out W _ _ hS).mono ?_;clear hS;rintro x w ⟨rfl,hS⟩))
      go_roundw
      case rel => exact ⟨i + 1,rfl,by omega,hS.sel (by exact selS)⟩
      case measure => simp [intOf];try omega
    have hd1 : decide ((i : Int) < (X.length : Int) + (Y.length : Int)) = false := by simp;omega
    clear hi hiz
    go_wp2_with (first|(go_at_call 14;refine (HM7 W _ _ hS).mono ?_;clear hS;rintro e w ⟨rfl,hS⟩))
    go_ret
    exact ⟨rfl,hS.sel (by exact selS)⟩
end Go.Proofs.YtlmhakmoioogaaaGreat
end
section
namespace Go.Proofs.YtlmhakmoioogaaaGreat
open Go.Joins Go.ChangeShapes Go.WideShapes Go.RowKit Go.Deep Go.Sl
theorem open_span {H : Type} {enc : TypeId × Value → H} {w : World} {base : Nat} {spare : Nat → Bool} {held : Bool} {r : Reach} {b0 : Nat} {v : Value} {d : DataW H} {p : List MemPlace}
  (hv : Value.okWide Tryz.prog w r b0 54 v) (h : DataW.Trod enc Tryz.prog w base spare held 54 v d p) : ∃ x : ByteArray × ByteArray,v = .agg #[.string x.1,.string x.2] := by
 obtain ⟨cs,rfl,_⟩ := okWide_struct Tryz.underlying54 hv
 obtain ⟨l⟩ := cs
 obtain ⟨n,hf⟩ := h
 obtain ⟨xs,n',rfl,hx,hlen,hxl,hg⟩ := DataW.trod_struct Tryz.underlying54 hf
 have hlen' : l.length = 2 := hlen.trans (by kernel_rfl)
 match l,hlen' with
 | [c0,c1],_ =>
  match xs,hxl with
  | [y0,y1],_ =>
   have g0 := hg 0 _ rfl
   have g1 := hg 1 _ rfl
   obtain ⟨k,e0,_⟩ := DataW.trod_string Tryz.underlying9 (show DataW.trod enc Tryz.prog w base spare held n' 9 [c0] = some y0 from g0)
   obtain ⟨u,e1,_⟩ := DataW.trod_string Tryz.underlying9 (show DataW.trod enc Tryz.prog w base spare held n' 9 [c1] = some y1 from g1)
   simp only [List.cons.injEq,and_true] at e0 e1
   subst e0 e1
   exact ⟨(k,u),rfl⟩
end Go.Proofs.YtlmhakmoioogaaaGreat
end
section
namespace Go.Sl
open Go.ChangeShapes Go.WideShapes Go.ChangeAt Go.RowKit
section
variable {H : Type} {enc : TypeId × Value → H} {P : Program}
theorem Dq7 {w w' : World} {base : Nat} {spare : Nat → Bool} {held : Bool} : ∀ {ts : List TypeId} {vs : List Value} {ds : List (DataW H)} {ps : List MemPlace},
  DataW.TrodAll enc P w base spare held ts vs ds ps → (∀ p ∈ ps,w.sameAt w' p) → DataW.TrodAll enc P w' base spare held ts vs ds ps
 | [],[],[],_,h,_ => h
 | _ :: _,_ :: _,_ :: _,_,⟨p,q,⟨n,hn⟩,h2,e⟩,hs =>
  ⟨p,q,⟨n,DataW.trod_carry n _ _ _ hn fun x hx => hs x (by rw [e];exact List.mem_append_left _ hx)⟩,Dq7 h2 (fun x hx => hs x (by rw [e];exact List.mem_append_right _ hx)),e⟩
theorem law_post {f : Func} {s : ChangeSpec} {apart fresh handsOn again : Bool} {W W' : World} {args : Array Value} {ds gs : List (DataW H)} {before : List MemPlace} {tb : TypeId}
  (hl : laidOutB P = true) (hm : mapsRowed P = true) (hz : ((List.range P.types.size).all fun t => match P.underlying t with|some (.slice e) => decide (0 < P.cellsOf e)|_ => true) = true)
  (hT : f.params.toList.all (· < P.types.size) = true) (hr : f.resultTypes = #[tb]) (hb : P.underlying tb = some .bool) (hv : s.vars = [])
  (hW : DataW.Whole enc P f.params.toList s.vars apart W args.toList ds gs before)
  (hres : (s.fn H (ds ++ gs)).results = [.lit (.bool true)]) (hargs : (s.fn H (ds ++ gs)).args = ds) (hvars : (s.fn H (ds ++ gs)).vars = [])
  (hB : Below W.heap.size W W') : s.post enc P f apart fresh handsOn again W args (.bool true) W' := by
 have hW0 := hW
 obtain ⟨p,q,hA,hV,rfl,hfz,hnd⟩ := hW
 rw [hv] at hV
 obtain ⟨rfl,rfl⟩ := trodVars_none hV
 have hlt : ∀ x ∈ p ++ [],x.block < W.heap.size := fun x hx => hW0.lt x hx
 have hA' : ∀ sp : Nat → Bool,(∀ x ∈ p ++ [],sp x.block = true) → DataW.TrodAll enc P W' 0 sp true f.params.toList args.toList (s.fn H (ds ++ [])).args p := fun sp hs => by
  rw [hargs]
  refine Dq7 (DataW.TrodAll.respare (kids_rows hl hm) (fun t e => slices_full_of P hz t e) (fun t ht => by simpa using List.all_eq_true.1 hT t ht) hA fun x hx => hs x (by simpa using hx)) fun x hx => hB.same (hlt x (by simpa using hx))
 have hR : ∀ (b : Nat) (sp : Nat → Bool) (hd : Bool),DataW.TrodAll enc P W' b sp hd f.resultTypes.toList ((Value.bool true).resultList f.resultTypes.size) (s.fn H (ds ++ [])).results [] := fun b sp hd => by
  rw [hres,hr]
  exact trodAll_cons_mk (shut_bool hb _) trodAll_mk0
 have hU : ∀ sp : Nat → Bool,DataW.TrodVars enc P W' sp s.vars (s.fn H (ds ++ [])).vars [] := fun sp => by
  rw [hv,hvars];rfl
 have hold : ∀ x ∈ p ++ [],(fun b => decide (b < W.heap.size)) x.block = true := fun x hx => by simpa using hlt x hx
 refine ⟨ds,[],p ++ [],[],p,[],hW0,hR _ _ _,hA' _ hold,hU _,World.keptBut_mono (fun x hx => ⟨hx,?_⟩) (hB.frame (· ∈ p ++ [])),fun _ => ?_⟩
 ·exact Or.inr (by simpa using hx)
 ·refine ⟨ok_one hr rfl (okWide_bool_mk hb _),_,_,([] ++ p) ++ [],⟨[] ++ p,[],trodAll_append (hA' _ (fun _ _ => rfl)) (hR _ _ _),hU _,rfl,?_,?_⟩,?_⟩
  ·intro b off hx
   rw [hB.frozen (hlt _ (by simpa using hx))]
   exact hfz b off (by simpa using hx)
  ·intro ha
   simpa using hnd ha
  ·intro x hx _
   simpa using hx
end
end Go.Sl
end
