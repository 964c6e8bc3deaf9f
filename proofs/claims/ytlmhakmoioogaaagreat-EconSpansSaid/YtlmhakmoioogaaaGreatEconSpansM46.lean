/-
  Cut: what is in a span goes into an economy of its own. For every economy, every span.
-/
import Derived.Test.YtlmhakmoioogaaaGreatEconSpansM5
import Derived.Test.YtlmhakmoioogaaaGreatEconSpansM45
set_option maxHeartbeats 16000000
set_option maxRecDepth 100000
set_option linter.unusedSimpArgs false
set_option linter.unusedVariables false
section
namespace Go.Sl
open Go.RowKit
section
variable {κ ν : Type} [DecidableEq κ]
theorem NY7 {A B : List (κ × ν)} {y : κ × ν} (hn : ((A ++ y :: B).map (·.1)).Nodup) : delL (A ++ y :: B) y.1 = A ++ B := by
 rw [List.map_append,List.map_cons,List.nodup_append] at hn
 obtain ⟨_,h2,h3⟩ := hn
 rw [List.nodup_cons] at h2
 have hA : delL A y.1 = A := AY7 fun x hx e => h3 x.1 (List.mem_map_of_mem hx) y.1 (List.mem_cons_self ..) e
 have hB : delL B y.1 = B := AY7 fun x hx e => h2.1 (List.mem_map.2 ⟨x,hx,e⟩)
 unfold delL at hA hB ⊢
 rw [List.filter_append,List.filter_cons,if_neg (by simp),hA,hB]
theorem Lr7 {p : κ × ν → Bool} {done todo todo' l : List (κ × ν)} {y : κ × ν} (hn : (l.map (·.1)).Nodup) (h : (done ++ todo).Perm l) (h2 : todo.Perm (y :: todo')) :
  (done ++ [y] ++ todo').Perm l ∧ (∀ x ∈ todo',x.1 ≠ y.1) ∧ (∀ x ∈ done,x.1 ≠ y.1) ∧ (p y = true → (delL (done.filter (fun x => !p x) ++ todo) y.1).Perm ((done ++ [y]).filter (fun x => !p x) ++ todo')) ∧ (p y = false → (done.filter (fun x => !p x) ++ todo).Perm ((done ++ [y]).filter (fun x => !p x) ++ todo')) := by
 have h3 : (done ++ [y] ++ todo').Perm l := by
  rw [List.append_assoc]
  exact (List.Perm.append_left done h2.symm).trans h
 have hn2 : ((done ++ y :: todo').map (·.1)).Nodup := by
  have e : done ++ [y] ++ todo' = done ++ y :: todo' := by simp
  rw [← e]
  exact (h3.map _).nodup_iff.2 hn
 have hn3 := hn2
 rw [List.map_append,List.map_cons,List.nodup_append] at hn3
 obtain ⟨_,g2,g3⟩ := hn3
 rw [List.nodup_cons] at g2
 have hpm : (done.filter (fun x => !p x) ++ todo).Perm (done.filter (fun x => !p x) ++ y :: todo') := List.Perm.append_left _ h2
 refine ⟨h3,fun x hx e => g2.1 (List.mem_map.2 ⟨x,hx,e⟩),fun x hx e => g3 x.1 (List.mem_map_of_mem hx) y.1 (List.mem_cons_self ..) e,fun hy => ?_,fun hy => ?_⟩
 ·refine (Ch7 hpm _).trans ?_
  rw [NY7]
  ·rw [List.filter_append,List.filter_cons,if_neg (by rw [hy];simp)]
   simp
  ·refine hn2.sublist ?_
   exact (List.Sublist.append List.filter_sublist (List.Sublist.refl _)).map _
 ·refine hpm.trans ?_
  rw [List.filter_append,List.filter_cons,if_pos (by rw [hy];simp)]
  simp
end
end Go.Sl
namespace Go.Proofs.YtlmhakmoioogaaaGreat
open Go.RowKit Go.Sl
def inE (e : Ec) (f t : ByteArray) : Ec := ⟨e.vs.filter fun x => inB f t x.1,e.ss,e.ts.filter fun x => inB f t x.2.ak,e.ar⟩
def outE (e : Ec) (f t : ByteArray) : Ec := ⟨e.vs.filter fun x => !inB f t x.1,e.ss,e.ts.filter fun x => !inB f t x.2.ak,e.ar⟩
theorem vauSplit {A B : Ev} {W w : World} {R : List HP} (h : St W (vauP (A ++ B) :: R) w) : St W (vauP A :: vauP B :: R) w :=
 St.split (h.imp fun f hf => satsShut (by have h1 : sats ((A ++ B).map fun x => vaultP x.2.1 x.2.2) f := hf;rwa [List.map_append] at h1))
def mapTo {κ ν : Type} (ek : κ → Value) (ev : ν → Value) (v : Value) (l : List (κ × ν)) : HP := fun f => ∃ b : Nat,v = .map (some b) ∧ amap ek ev b l f
section
variable {κ ν : Type} {ek : κ → Value} {ev : ν → Value} {l : List (κ × ν)} {W w : World} {R : List HP} {v : Value}
theorem mapToOpen (h : St W (mapTo ek ev v l :: R) w) : ∃ b,v = .map (some b) ∧ St W (amap ek ev b l :: R) w := by
 obtain ⟨b,h⟩ := St.ex h
 obtain ⟨h1,h⟩ := St.and h
 exact ⟨b,h1,h⟩
theorem mapToShut {b : Nat} (h : St W (amap ek ev b l :: R) w) : St W (mapTo ek ev (.map (some b)) l :: R) w := St.mkEx b (St.mkAnd rfl h)
end
theorem mapToOne {κ ν : Type} {ek : κ → Value} {ev : ν → Value} {l : List (κ × ν)} {W w : World} {L R : List HP} {v : Value} (h : St W L w) (hu : Take L (mapTo ek ev v l) R) : v.cells.toList = [v] ∧ v.oneCell' = true := by
 obtain ⟨b,rfl,_⟩ := mapToOpen (h.take hu)
 exact ⟨rfl,rfl⟩
theorem JG7 {b : Nat} {l : List (Int × (Int × Rpl))} {W w : World} {L R : List HP} (ht : Take L (amap eI eSs b l) R) (hS : St W L w) :
  Calls Tryz.prog 59 #[.map (some b)] w fun e w' => ∃ v,e = .returned v ∧ St W (mapTo eI eSs v l :: L) w' := by
 refine (Hf7 (hS.take ht)).mono ?_
 rintro e w' ⟨b',rfl,hS⟩
 exact ⟨_,rfl,mapToShut (hS.swap.back (.tail ht))⟩
theorem JH7 {b : Nat} {l : List ((Int × Int) × Unit)} {W w : World} {L R : List HP} (ht : Take L (amap eW eU b l) R) (hS : St W L w) :
  Calls Tryz.prog 60 #[.map (some b)] w fun e w' => ∃ v,e = .returned v ∧ St W (mapTo eW eU v l :: L) w' := by
 refine (Hg7 (hS.take ht)).mono ?_
 rintro e w' ⟨b',rfl,hS⟩
 exact ⟨_,rfl,mapToShut (hS.swap.back (.tail ht))⟩
theorem Nc7 {κ ν : Type} [DecidableEq κ] {p : κ × ν → Bool} {done : List (κ × ν)} {k : κ} {u : ν} (h : ∀ x ∈ done,x.1 ≠ k) (hp : p (k,u) = true) : ((k,u) :: delL (done.filter p) k).Perm ((done ++ [(k,u)]).filter p) := by
 rw [AY7 (fun x hx => h x (List.mem_filter.1 hx).1),List.filter_append,List.filter_cons,if_pos hp]
 exact (List.perm_append_singleton _ _).symm
theorem Hh7 {κ ν : Type} {p : κ × ν → Bool} {done : List (κ × ν)} {y : κ × ν} (hp : p y = false) : done.filter p = (done ++ [y]).filter p := by
 rw [List.filter_append,List.filter_cons,if_neg (by rw [hp];simp)]
 simp
def CuR {κ ν : Type} (W : World) (F : List HP) (ek : κ → Value) (ev : ν → Value) (p : κ × ν → Bool) (l0 : List (κ × ν)) (m n r : Nat) (w : World) : Prop :=
 ∃ done todo : List (κ × ν),(done ++ todo).Perm l0 ∧ St W (itR ek ev r m (done.filter (fun y => !p y) ++ todo) todo :: amap ek ev n (done.filter p) :: F) w
theorem EW7 (E : Ev) (p : ByteArray → Bool) : (ptrsE E).filter (fun y => p y.1) = ptrsE (E.filter fun x => p x.1) := by unfold ptrsE;rw [List.filter_map];rfl
theorem DT7 (E : Ev) (p : ByteArray → Bool) : (stripE E).filter (fun y => p y.1) = stripE (E.filter fun x => p x.1) := by unfold stripE;rw [List.filter_map];rfl
theorem HX7 {α : Type} (p : α → Bool) (l : List α) : l.Perm (l.filter p ++ l.filter fun x => !p x) := (List.filter_append_perm p l).symm
theorem MH7 {eb : Nat} {e : Ec} (f t : ByteArray) (W w : World) (R : List HP) (hS : St W (ecP eb e :: R) w) :
  Calls Tryz.prog 24 #[.pointer (some ⟨eb,0,none⟩),.agg #[.string f,.string t]] w fun x w' => ∃ fb,x = .returned (.pointer (some ⟨fb,0,none⟩)) ∧ St W (ecP eb (outE e f t) :: ecP fb (inE e f t) :: R) w' := by
 go_enter Tryz.func24,Tryz.ntmps24
 go_wp2_with (first|(refine zbx hS ?_;clear hS;intro bO w hS)|(go_at_call 15;refine (EL7 W _ _ hS).mono ?_;clear hS;rintro x w ⟨fb,rfl,hS⟩))
 obtain ⟨n1,n2,n3,n4,F,hpF,hS1⟩ := ecOpen hS
 have hF : F = [] := by
  have := hpF.length_eq
  unfold stripE at this
  rw [List.length_map] at this
  exact List.eq_nil_of_length_eq_zero this
 subst hF
 have hS2 : St W (ecP eb e :: ebB fb n1 n2 n3 n4 :: amap eS eN n1 (ptrsE []) :: vauP [] :: amap eI eSs n2 [] :: amap eW eTn n3 [] :: amap eW eU n4 [] :: blk bO [.string f,.string t] 54 :: R) w := hS1.sel (by exact selS)
 obtain ⟨m1,m2,m3,m4,E,hp,hnd,hS3⟩ := ecOpenR hS2
 have hS4 := evOpen hS3
 clear hS hS1 hS2 hS3 hpF
 have hS := hS4.sel (L' := ebB fb n1 n2 n3 n4 :: amap eI eSs m2 e.ss :: amap eW eU m4 e.ar :: ebB eb m1 m2 m3 m4 :: amap eS eN m1 (ptrsE E) :: vauP E :: amap eW eTn m3 e.ts :: amap eS eN n1 (ptrsE []) :: amap eW eTn n3 [] :: blk bO [.string f,.string t] 54 :: R) (by exact selS)
 clear hS4
 have Hp := Lib.hid hp
 clear hp
 refine Aa7 [0,0,0,4,12,28,60,0,128,384,896,2044,4093,8189,16381,32767,65535,131071] (fun i => i == 6 || i == 11) (fun _ => none) [⟨some 6,none,fun nd => mapTo eI eSs (nd 6) e.ss⟩,⟨some 11,none,fun nd => mapTo eW eU (nd 11) e.ar⟩,⟨some 14,some 17,fun nd => blk fb [.map (some n1),nd 6,.map (some n3),.map (some n4)] 84⟩,⟨some 17,none,fun nd => blk fb [.map (some n1),nd 6,.map (some n3),nd 11] 84⟩] [some 14,none,none,none,none,none,none,none,none,none] (by kernel_rfl) (by kernel_rfl) rfl hS (CongOk.cons (fun nd nd' h => by dsimp only;rw [h 6 rfl rfl]) (CongOk.cons (fun nd nd' h => by dsimp only;rw [h 11 rfl rfl]) (CongOk.cons (fun nd nd' h => by dsimp only;rw [h 6 rfl rfl]) (CongOk.cons (fun nd nd' h => by dsimp only;rw [h 6 rfl rfl,h 11 rfl rfl]) CongOk.nil)))) ?_
 intro nd
 iterate 3 (refine cQ ?_;intro K hK;go_big_quiet_op;go_big_quiet_on)
 (refine zcn ?_)
 (refine cQ ?_;intro K hK;go_big_quiet_op;go_big_quiet_on)
 (refine zc1 ?_)
 (apply AS7;rfl;rfl;(with_reducible rfl);decide +kernel;(focus (simp only [fD,fI,fJ,Act.eval,fE,fF,fG,fH,fK];try rfl));(intro _;rfl);(intro F w hS;exact JG7 (by exact takO) hS);(refine frS ?_))
 (refine cQ ?_;intro K hK;go_big_quiet_op;go_big_quiet_on)
 (refine zcn ?_)
 (refine cQ ?_;intro K hK;go_big_quiet_op;go_big_quiet_on)
 (refine zc1 ?_)
 (apply AS7;rfl;rfl;(with_reducible rfl);decide +kernel;(focus (simp only [fD,fI,fJ,Act.eval,fE,fF,fG,fH,fK];try rfl));(intro _;rfl);(intro F w hS;exact JH7 (by exact takO) hS);(refine frS ?_))
 (refine zcn ?_)
 (refine cQ ?_;intro K hK;go_big_quiet_op;go_big_quiet_on)
 (apply Ff7;rfl;(with_reducible rfl);rfl;rfl;(focus ((conv => lhs;whnf);try rfl));kernel_rfl;rfl;(intro F w hS;exact mapToOne (ek := eI) (ev := eSs) hS (by exact takO));(focus (simp));rfl;rfl;try (refine frS ?_))
 (refine zcn ?_)
 (refine cQ ?_;intro K hK;go_big_quiet_op;go_big_quiet_on)
 (apply Ff7;rfl;(with_reducible rfl);rfl;rfl;(focus ((conv => lhs;whnf);try rfl));kernel_rfl;rfl;(intro F w hS;exact mapToOne (ek := eW) (ev := eU) hS (by exact takO));(focus (simp));rfl;rfl;try (refine frS ?_))
 refine Ag7 ?_
 clear hS
 intro w hS
 have hS2 : St W [mapTo eI eSs (nd 6) e.ss,mapTo eW eU (nd 11) e.ar,blk fb [.map (some n1),nd 6,.map (some n3),nd 11] 84,amap eI eSs m2 e.ss,amap eW eU m4 e.ar,ebB eb m1 m2 m3 m4,amap eS eN m1 (ptrsE E),vauP E,amap eW eTn m3 e.ts,amap eS eN n1 (ptrsE []),amap eW eTn n3 [],blk bO [.string f,.string t] 54,sats R] w := hS
 clear hS
 have hS3 := hS2.unpack [_,_,_,_,_,_,_,_,_,_,_,_]
 clear hS2
 simp only [fL,fM] at hS3
 generalize nd 6 = v6 at *
 generalize nd 11 = v11 at *
 obtain ⟨b2,rfl,hS4⟩ := mapToOpen hS3
 have hS5 := hS4.sel (L' := mapTo eW eU v11 e.ar :: amap eI eSs b2 e.ss :: blk fb [.map (some n1),.map (some b2),.map (some n3),v11] 84 :: amap eI eSs m2 e.ss :: amap eW eU m4 e.ar :: ebB eb m1 m2 m3 m4 :: amap eS eN m1 (ptrsE E) :: vauP E :: amap eW eTn m3 e.ts :: amap eS eN n1 (ptrsE []) :: amap eW eTn n3 [] :: blk bO [.string f,.string t] 54 :: R) (by exact selS)
 obtain ⟨b4,rfl,hS6⟩ := mapToOpen hS5
 have hS7 := hS6.sel (L' := amap eS eN m1 (ptrsE E) :: amap eS eN n1 (ptrsE []) :: blk fb [.map (some n1),.map (some b2),.map (some n3),.map (some b4)] 84 :: amap eI eSs b2 e.ss :: amap eW eU b4 e.ar :: amap eI eSs m2 e.ss :: amap eW eU m4 e.ar :: ebB eb m1 m2 m3 m4 :: vauP E :: amap eW eTn m3 e.ts :: amap eW eTn n3 [] :: blk bO [.string f,.string t] 54 :: R) (by exact selS)
 have hS : St W (amap eS eN m1 (ptrsE E) :: amap eS eN n1 [] :: ebB fb n1 b2 n3 b4 :: amap eI eSs b2 e.ss :: amap eW eU b4 e.ar :: amap eI eSs m2 e.ss :: amap eW eU m4 e.ar :: ebB eb m1 m2 m3 m4 :: vauP E :: amap eW eTn m3 e.ts :: amap eW eTn n3 [] :: blk bO [.string f,.string t] 54 :: R) w := hS7
 clear hS7
 clear hS3 hS4 hS5 hS6
 have hnk := amapKeys hS
 have Hnk := Lib.hid hnk
 clear hnk hnd
 go_wp2_with (first|(refine zl1 hS ?_)|((with_reducible apply Gq7 (ek := eS) (ev := eN) hS);(with_reducible rfl);rfl;rfl;exact mV;(exact takeS);clear hS;intro r w hS;(refine frS ?_)))
 go_loopw [] (fun wr => CuR W (ebB fb n1 b2 n3 b4 :: amap eI eSs b2 e.ss :: amap eW eU b4 e.ar :: amap eI eSs m2 e.ss :: amap eW eU m4 e.ar :: ebB eb m1 m2 m3 m4 :: vauP E :: amap eW eTn m3 e.ts :: amap eW eTn n3 [] :: blk bO [.string f,.string t] 54 :: R) eS eN (fun y => inB f t y.1) (ptrsE E) m1 n1 r wr) (fun wr => itLeft r m1 wr)
 case atStart => exact ⟨[],ptrsE E,List.Perm.refl _,hS⟩
 case round =>
  clear hS
  obtain ⟨done,todo,hdt,hS⟩ := hrel
  have hm1 := Bc7 hS
  by_cases ht : todo = []
  ·have Hdt := Lib.hid (show done.Perm (ptrsE E) by rw [ht,List.append_nil] at hdt;exact hdt)
   have hde := Hdt.out
   have hA : (done.filter (fun y => inB f t y.1)).Perm (ptrsE (E.filter fun x => inB f t x.1)) := by rw [← EW7];exact hde.filter _
   have hB : (done.filter (fun y => !inB f t y.1) ++ todo).Perm (ptrsE (E.filter fun x => !inB f t x.1)) := by rw [ht,List.append_nil,← EW7 (p := fun k => !inB f t k)];exact hde.filter _
   have hpA : (stripE (E.filter fun x => inB f t x.1)).Perm (inE e f t).vs := by rw [← DT7];exact Hp.out.filter _
   have hpB : (stripE (E.filter fun x => !inB f t x.1)).Perm (outE e f t).vs := by rw [← DT7 (p := fun k => !inB f t k)];exact Hp.out.filter _
   have hpE := HX7 (fun x : ByteArray × (Nat × Vs) => inB f t x.1) E
   clear hdt hde hm1
   have h1 := itPerm hB (List.Perm.of_eq ht) hS
   have h2 := amapPerm hA (h1.sel (L' := amap eS eN n1 _ :: itR eS eN r m1 _ [] :: ebB fb n1 b2 n3 b4 :: amap eI eSs b2 e.ss :: amap eW eU b4 e.ar :: amap eI eSs m2 e.ss :: amap eW eU m4 e.ar :: ebB eb m1 m2 m3 m4 :: vauP E :: amap eW eTn m3 e.ts :: amap eW eTn n3 [] :: blk bO [.string f,.string t] 54 :: R) (by exact selS))
   have h3 := vauSplit (vauPerm hpE (h2.sel (L' := vauP E :: itR eS eN r m1 _ [] :: amap eS eN n1 _ :: ebB fb n1 b2 n3 b4 :: amap eI eSs b2 e.ss :: amap eW eU b4 e.ar :: amap eI eSs m2 e.ss :: amap eW eU m4 e.ar :: ebB eb m1 m2 m3 m4 :: amap eW eTn m3 e.ts :: amap eW eTn n3 [] :: blk bO [.string f,.string t] 54 :: R) (by exact selS)))
   clear hS h1 h2 hA hB hpE
   generalize (E.filter fun x => inB f t x.1) = A at h3 hpA
   generalize (E.filter fun x => !inB f t x.1) = B at h3 hpB
   have hS := h3.sel (L' := amap eW eTn m3 e.ts :: amap eW eTn n3 [] :: itR eS eN r m1 (ptrsE B) [] :: amap eS eN n1 (ptrsE A) :: vauP A :: vauP B :: ebB fb n1 b2 n3 b4 :: ebB eb m1 m2 m3 m4 :: amap eI eSs b2 e.ss :: amap eW eU b4 e.ar :: amap eI eSs m2 e.ss :: amap eW eU m4 e.ar :: blk bO [.string f,.string t] 54 :: R) (by exact selS)
   have ht := rfl (a := ([] : List (ByteArray × Nat)))
   have HpA := Lib.hid hpA
   have HpB := Lib.hid hpB
   clear h3 hpA hpB
   have hnk2 := amapKeys hS
   have Hnk2 := Lib.hid hnk2
   clear hnk2
   go_wp2_with (first|(refine zl1 hS ?_)|((with_reducible apply Gs7 (ek := eS) (ev := eN) hS);(with_reducible rfl);rfl;rfl;(exact takeS);exact ht;(refine frS ?_))|((with_reducible apply Gq7 (ek := eW) (ev := eTn) hS);(with_reducible rfl);rfl;rfl;exact mT;(exact takeS);clear hS;intro r2 w hS;(refine frS ?_)))
   go_loopw [] (fun wr => CuR W (itR eS eN r m1 (ptrsE B) [] :: amap eS eN n1 (ptrsE A) :: vauP A :: vauP B :: ebB fb n1 b2 n3 b4 :: ebB eb m1 m2 m3 m4 :: amap eI eSs b2 e.ss :: amap eW eU b4 e.ar :: amap eI eSs m2 e.ss :: amap eW eU m4 e.ar :: blk bO [.string f,.string t] 54 :: R) eW eTn (fun y => inB f t y.2.ak) e.ts m3 n3 r2 wr) (fun wr => itLeft r2 m3 wr)
   case atStart => exact ⟨[],e.ts,List.Perm.refl _,hS⟩
   case round =>
    clear hS
    obtain ⟨done2,todo2,hdt2,hS⟩ := hrel
    have hm2 := Bc7 hS
    by_cases ht2 : todo2 = []
    ·have hde2 : done2.Perm e.ts := by rw [ht2,List.append_nil] at hdt2;exact hdt2
     have hA2 : (done2.filter (fun y => inB f t y.2.ak)).Perm (inE e f t).ts := hde2.filter _
     have hB2 : (done2.filter (fun y => !inB f t y.2.ak) ++ todo2).Perm (outE e f t).ts := by rw [ht2,List.append_nil];exact hde2.filter _
     have HA2 := Lib.hid hA2
     have HB2 := Lib.hid hB2
     clear hdt2 hde2 hm2 hA2 hB2
     go_wp2_with (first|((with_reducible apply Gs7 (ek := eW) (ev := eTn) hS);(with_reducible rfl);rfl;rfl;(exact takeS);exact ht2;(refine frS ?_)))
     go_ret
     have h1 := amapPerm HB2.out (itEnd hS)
     have h2 := amapPerm HA2.out (h1.sel (L' := amap eW eTn n3 _ :: amap eW eTn m3 _ :: itR eS eN r m1 (ptrsE B) [] :: amap eS eN n1 (ptrsE A) :: vauP A :: vauP B :: ebB fb n1 b2 n3 b4 :: ebB eb m1 m2 m3 m4 :: amap eI eSs b2 e.ss :: amap eW eU b4 e.ar :: amap eI eSs m2 e.ss :: amap eW eU m4 e.ar :: blk bO [.string f,.string t] 54 :: R) (by exact selS))
     have h3 := itEnd (h2.sel (L' := itR eS eN r m1 (ptrsE B) [] :: amap eW eTn n3 _ :: amap eW eTn m3 _ :: amap eS eN n1 (ptrsE A) :: vauP A :: vauP B :: ebB fb n1 b2 n3 b4 :: ebB eb m1 m2 m3 m4 :: amap eI eSs b2 e.ss :: amap eW eU b4 e.ar :: amap eI eSs m2 e.ss :: amap eW eU m4 e.ar :: R) (by exact selS))
     have h4 := ecShut (e := outE e f t) HpB.out (h3.sel (L' := ebB eb m1 m2 m3 m4 :: amap eS eN m1 (ptrsE B) :: vauP B :: amap eI eSs m2 e.ss :: amap eW eTn m3 _ :: amap eW eU m4 e.ar :: amap eW eTn n3 _ :: amap eS eN n1 (ptrsE A) :: vauP A :: ebB fb n1 b2 n3 b4 :: amap eI eSs b2 e.ss :: amap eW eU b4 e.ar :: R) (by exact selS))
     have h5 := ecShut (e := inE e f t) HpA.out (h4.sel (L' := ebB fb n1 b2 n3 b4 :: amap eS eN n1 (ptrsE A) :: vauP A :: amap eI eSs b2 e.ss :: amap eW eTn n3 _ :: amap eW eU b4 e.ar :: ecP eb (outE e f t) :: R) (by exact selS))
     exact ⟨fb,rfl,h5.swap⟩
    ·have hcut : ∀ (y : (Int × Int) × Tns) (todo' : List ((Int × Int) × Tns)),todo2.Perm (y :: todo') → _ := fun y todo' h => Lr7 (p := fun y => inB f t y.2.ak) Hnk2.out hdt2 h
     have Hcut := Lib.hid hcut
     have Hm2 := Lib.hid hm2
     clear hdt2 hm2 hcut
     go_wp2_with (first|((with_reducible apply Gt7 (ek := eW) (ev := eTn) hS);(with_reducible rfl);rfl;rfl;(exact takeS);exact ht2;clear hS;intro y todo2' hy1 hy2 w hS;obtain ⟨⟨kc,kq⟩,⟨t0,t1,t2,t3,t4,t5,t6,t7⟩⟩ := y;have Hy := Lib.hid hy1;clear hy1 hy2;(refine frS ?_))|((with_reducible apply Gr7 (ek := eW) (ev := eTn) hS);(with_reducible rfl);rfl;rfl;(exact takeS);clear hS;intro hS;(refine frS ?_))|(refine zal hS ?_;clear hS;intro b w hS)|(refine zsN hS ?_;clear hS;intro w hS)|(refine zlN hS ?_)|(refine zl1 hS ?_))
     obtain ⟨c1,c2,c3,c4,c5⟩ := Hcut.out _ _ Hy.out
     have Hnt := Lib.hid c2
     have hlen : todo2.length = todo2'.length + 1 := by have := Hy.out.length_eq;rwa [List.length_cons] at this
     have Hlen := Lib.hid hlen
     clear hlen
     cases hb : inB f t t2 with
     | true =>
      refine (IT7 hb W _ _ hS).mono ?_
      clear hS
      rintro x w ⟨rfl,hS⟩
      have H1 := Lib.hid c1
      have H3 := Lib.hid c3
      have H4 := Lib.hid (c4 hb)
      have Hb := Lib.hid hb
      clear c1 c2 c3 c4 c5 hb
      go_wp2_with fail
      refine Af7 6 (by kernel_rfl) (by kernel_rfl) hS ?_
      repeat (first|(refine zq1 ?_)|(refine zqN ?_)|(refine zqn ?_)|(refine qQ ?_;intro K hK;go_big_quiet_op;go_big_quiet_on))
      clear hS
      intro w hS
      simp only [List.drop_succ_cons,List.drop_zero]
      go_wp2_with (first|((with_reducible apply Bi7 (ek := eW) (ev := eTn) (k := (kc,kq)) (u := (⟨t0,t1,t2,t3,t4,t5,t6,t7⟩ : Tns)) hS);(with_reducible rfl);rfl;rfl;rfl;(exact takeS);(focus (rfl));exact mT;exact kW;clear hS;intro w hS;try (refine frS ?_)))
      refine Af7 5 (by kernel_rfl) (by kernel_rfl) hS ?_
      repeat (first|(refine zq1 ?_)|(refine zqN ?_)|(refine zqn ?_)|(refine qQ ?_;intro K hK;go_big_quiet_op;go_big_quiet_on))
      clear hS
      intro w hS
      simp only [List.drop_succ_cons,List.drop_zero]
      go_wp2_with (first|((with_reducible apply Ka7 (ek := eW) (ev := eTn) (k := (kc,kq)) hS);(with_reducible rfl);rfl;rfl;rfl;(exact takeS);exact mT;exact kW;exact Hnt.out;clear hS;intro w hS;try (refine frS ?_)))
      go_roundw
      case rel =>
       refine ⟨done2 ++ [((kc,kq),⟨t0,t1,t2,t3,t4,t5,t6,t7⟩)],todo2',H1.out,?_⟩
       have h1 := amapPerm (Nc7 (p := fun y : (Int × Int) × Tns => inB f t y.2.ak) H3.out Hb.out) (hS.sel (L' := amap eW eTn n3 _ :: itR eW eTn r2 m3 (delL (done2.filter (fun y => !inB f t y.2.ak) ++ todo2) (kc,kq)) todo2' :: itR eS eN r m1 (ptrsE B) [] :: amap eS eN n1 (ptrsE A) :: vauP A :: vauP B :: ebB fb n1 b2 n3 b4 :: ebB eb m1 m2 m3 m4 :: amap eI eSs b2 e.ss :: amap eW eU b4 e.ar :: amap eI eSs m2 e.ss :: amap eW eU m4 e.ar :: blk bO [.string f,.string t] 54 :: R) (by exact selS))
       exact itPerm H4.out (List.Perm.refl _) h1.swap
      case measure =>
       have h3 := Bc7 (hS.take (by exact takeS))
       have h5 := Hm2.out
       have h6 := Hlen.out
       omega
     | false =>
      refine (IT7 hb W _ _ hS).mono ?_
      clear hS
      rintro x w ⟨rfl,hS⟩
      have H1 := Lib.hid c1
      have H5 := Lib.hid (c5 hb)
      have Hb := Lib.hid hb
      clear c1 c2 c3 c4 c5 hb
      go_wp2_with (fail)
      go_roundw
      case rel =>
       refine ⟨done2 ++ [((kc,kq),⟨t0,t1,t2,t3,t4,t5,t6,t7⟩)],todo2',H1.out,?_⟩
       rw [← Hh7 (p := fun y : (Int × Int) × Tns => inB f t y.2.ak) Hb.out]
       exact itPerm H5.out (List.Perm.refl _) (hS.sel (by exact selS))
      case measure =>
       have h3 := Bc7 (hS.take (by exact takeS))
       have h5 := Hm2.out
       have h6 := Hlen.out
       omega
  ·have hcut : ∀ (y : ByteArray × Nat) (todo' : List (ByteArray × Nat)),todo.Perm (y :: todo') → _ := fun y todo' h => Lr7 (p := fun y => inB f t y.1) Hnk.out hdt h
   have Hcut := Lib.hid hcut
   have Hm1 := Lib.hid hm1
   clear hdt hm1 hcut
   go_wp2_with (first|((with_reducible apply Gt7 (ek := eS) (ev := eN) hS);(with_reducible rfl);rfl;rfl;(exact takeS);exact ht;clear hS;intro y todo' hy1 hy2 w hS;obtain ⟨yk,yb⟩ := y;have Hy := Lib.hid hy1;clear hy1 hy2;(refine frS ?_))|((with_reducible apply Gr7 (ek := eS) (ev := eN) hS);(with_reducible rfl);rfl;rfl;(exact takeS);clear hS;intro hS;(refine frS ?_))|(refine zlN hS ?_))
   obtain ⟨c1,c2,c3,c4,c5⟩ := Hcut.out _ _ Hy.out
   have Hnt := Lib.hid c2
   have hlen : todo.length = todo'.length + 1 := by have := Hy.out.length_eq;rwa [List.length_cons] at this
   have Hlen := Lib.hid hlen
   clear hlen
   cases hb : inB f t yk with
   | true =>
    refine (IT7 hb W _ _ hS).mono ?_
    clear hS
    rintro x w ⟨rfl,hS⟩
    have H1 := Lib.hid c1
    have H3 := Lib.hid c3
    have H4 := Lib.hid (c4 hb)
    have Hb := Lib.hid hb
    clear c1 c2 c3 c4 c5 hb
    go_wp2_with (first|(refine zl1 hS ?_)|((with_reducible apply Bi7 (ek := eS) (ev := eN) (k := yk) (u := yb) hS);(with_reducible rfl);rfl;rfl;rfl;(exact takeS);(focus (rfl));exact mV;exact kS;clear hS;intro w hS;try (refine frS ?_))|((with_reducible apply Ka7 (ek := eS) (ev := eN) (k := yk) hS);(with_reducible rfl);rfl;rfl;rfl;(exact takeS);exact mV;exact kS;exact Hnt.out;clear hS;intro w hS;try (refine frS ?_)))
    go_roundw
    case rel =>
     refine ⟨done ++ [(yk,yb)],todo',H1.out,?_⟩
     have h1 := amapPerm (Nc7 (p := fun y : ByteArray × Nat => inB f t y.1) H3.out Hb.out) (hS.sel (L' := amap eS eN n1 _ :: itR eS eN r m1 (delL (done.filter (fun y => !inB f t y.1) ++ todo) yk) todo' :: ebB fb n1 b2 n3 b4 :: amap eI eSs b2 e.ss :: amap eW eU b4 e.ar :: amap eI eSs m2 e.ss :: amap eW eU m4 e.ar :: ebB eb m1 m2 m3 m4 :: vauP E :: amap eW eTn m3 e.ts :: amap eW eTn n3 [] :: blk bO [.string f,.string t] 54 :: R) (by exact selS))
     exact itPerm H4.out (List.Perm.refl _) h1.swap
    case measure =>
     have h3 := Bc7 (hS.take (by exact takeS))
     have h5 := Hm1.out
     have h6 := Hlen.out
     omega
   | false =>
    refine (IT7 hb W _ _ hS).mono ?_
    clear hS
    rintro x w ⟨rfl,hS⟩
    have H1 := Lib.hid c1
    have H5 := Lib.hid (c5 hb)
    have Hb := Lib.hid hb
    clear c1 c2 c3 c4 c5 hb
    go_wp2_with (fail)
    go_roundw
    case rel =>
     refine ⟨done ++ [(yk,yb)],todo',H1.out,?_⟩
     rw [← Hh7 (p := fun y : ByteArray × Nat => inB f t y.1) Hb.out]
     exact itPerm H5.out (List.Perm.refl _) (hS.sel (by exact selS))
    case measure =>
     have h3 := Bc7 (hS.take (by exact takeS))
     have h5 := Hm1.out
     have h6 := Hlen.out
     omega
end Go.Proofs.YtlmhakmoioogaaaGreat
end
