/-
  slices.Sorted(maps.Keys(m)) of maps by numbers: a row of the keys, sorted. For every map.
  Numbers as bytes: the document's. For every number.
  Numbers and names as bytes: the document's; a string's bytes, a string out of bytes. For all numbers and strings.
  The document's vault as bytes. For every vault.
  The program's Writer: numbers, rows of bytes. For all of them.
-/
import Derived.Test.YtlmhakmoioogaaaGreatEconOnceM5
import Derived.Test.YtlmhakmoioogaaaGreatEconOnceM31
import Derived.Test.YtlmhakmoioogaaaGreatEconOnceM32
import Derived.Test.YtlmhakmoioogaaaGreatEconOnceM37
import Derived.Test.YtlmhakmoioogaaaGreatEconOnceM46
import Derived.Laws.Bits64b
import Derived.Laws.IdiomStrings
set_option maxHeartbeats 16000000
set_option maxRecDepth 100000
set_option linter.unusedSimpArgs false
set_option linter.unusedVariables false
section
namespace Go.Proofs.YtlmhakmoioogaaaGreat
open Go.Shelf Go.RowKit Go.Lib Go.Sort Go.Sl
abbrev eZ (z : Int) : Value := .int .i64 z
def KzR {ν : Type} (W : World) (ev : ν → Value) (X : List Int → HP) (r b : Nat) (l : List (Int × ν)) (L : List HP) (w : World) : Prop :=
 ∃ (ss : List Int) (todo : List (Int × ν)),(ss ++ todo.map (·.1)).Perm (l.map (·.1)) ∧ St W (itR eZ ev r b l todo :: X ss :: L) w
theorem mSs' : tyMap Tryz.prog 80 = some (3,90) := by kernel_rfl
theorem Nq7 {ν : Type} {ev : ν → Value} {m lp g b : Nat} {l : List (Int × ν)} {X : List Int → HP} {W w : World} {L : List HP} (hY : Takes Tryz.prog eZ l.length lp W X) (hS : St W (X [] :: blk g [.map (some b)] 80 :: amap eZ ev b l :: L) w) :
  CallsIn Fence.wide m Tryz.prog 135 #[.func (.yield lp) #[] #[],.pointer (some ⟨g,0,none⟩)] w fun e w' => (∃ v,e = .returned v) ∧ ∃ ss,ss.Perm (l.map (·.1)) ∧ St W (X ss :: blk g [.map (some b)] 80 :: amap eZ ev b l :: L) w' := by
 refine callsIn_of_wp Tryz.func135 rfl trivial ?_ rfl
 simp only [Tryz.ntmps135,List.size_toArray,List.length_cons,List.length_nil,Nat.reduceAdd,Nat.reduceSub,Array.replicate_succ,Array.replicate_zero,List.push_toArray,List.append_toArray,List.nil_append,List.cons_append]
 gi_wp2_with (first|((with_reducible apply CN7 allF hS);(with_reducible rfl);rfl;rfl;decide +kernel;(exact celS);go_frame)|(gi_at_range;refine DT7 (ek := eZ) (ev := ev) hS rfl rfl rfl mSs' (by exact takeS) ?_;clear hS;intro r w hS;go_frame)|gi_in)
 gi_loopw [] (fun wr => KzR W ev X r b l (blk g [.map (some b)] 80 :: L) wr) (fun wr => itLeft r b wr)
 case atStart => exact ⟨[],l,by simp,hS⟩
 case round =>
  clear hS
  obtain ⟨ss,todo,hp,hS⟩ := hrel
  have hm := BT7 hS
  gi_wp2_with (first|(gi_at_next;refine Fd7 (ek := eZ) (ev := ev) hS rfl rfl rfl ?_ ?_)|gi_in)
  ·intro h0
   subst h0
   gi_wp2
   go_end0
   exact ⟨⟨_,rfl⟩,ss,by simpa using hp,(itEnd hS).sel (by exact selS)⟩
  ·intro y1 yv todo' w2 hp2 hy hS2 hen
   have hlen := hp.length_eq
   have hlen2 := hp2.length_eq
   simp only [List.length_append,List.length_map,List.length_cons] at hlen hlen2
   have hp3 : (ss ++ [y1] ++ todo'.map (·.1)).Perm (l.map (·.1)) := by
    rw [List.append_assoc]
    refine List.Perm.trans ?_ hp
    exact List.Perm.append_left ss (show (((y1,yv) :: todo').map (fun x => x.1)).Perm (todo.map (fun x => x.1)) from (hp2.map (fun x => x.1)).symm)
   clear hS hy hp hp2
   have hS := hS2
   clear hS2
   gi_wp2_with (first|((with_reducible apply Fg7 (k := y1) (pre := ss) hY hS);(with_reducible rfl);rfl;rfl;rfl;omega;(exact takeS);clear hS;intro w hS;go_frame)|gi_in)
   go_roundw
   case rel => exact ⟨ss ++ [y1],todo',hp3,hS.sel (by exact selS)⟩
   case measure =>
    have hm2 := BT7 (hS.sel (L' := itR eZ ev r b l todo' :: X (ss ++ [y1]) :: blk g [.map (some b)] 80 :: L) (by exact selS))
    omega
def apZ (bB : Nat) (ss : List Int) : HP := fun f => ∃ v,sep (blk bB [v] 62) (row v 1 3 ss.length (ss.map eZ)) f
theorem appendZ {gf : Nat} {lb : Array Value} {S : List Int → Prop} {N : Nat} {W w : World} {R : List HP} (hN : N ≤ 1000000000) (hseq0 : Gives Tryz.prog eZ N gf lb S W R) (eg : ∀ args w,(callFunc gf args).run Tryz.prog w = .ok (.enter gf args) w) (hS : St W R w) :
  Calls Tryz.prog 190 #[.slice none 0 0,.func (.func gf) #[] lb] w fun e w' => ∃ v ss,e = .returned v ∧ S ss ∧ St W (row v 1 3 ss.length (ss.map eZ) :: R) w' := by
 refine (callsIn_wide (n := 5)).1 ?_
 refine callsIn_of_wp_marks Tryz.func190 rfl trivial ?_ rfl
 simp only [Tryz.ntmps190,List.size_toArray,List.length_cons,List.length_nil,Nat.reduceAdd,Nat.reduceSub,Array.replicate_succ,Array.replicate_zero,List.push_toArray,List.append_toArray,List.nil_append,List.cons_append]
 gi_wp2_with (first|((with_reducible apply Lu7 allF hS);(with_reducible rfl);rfl;rfl;rfl;clear hS;intro bB w hS;go_frame)|gi_in)
 have h0 : St W (apZ bB [] :: R) w := St.mkEx (.slice none 0 0) (St.join (St.swap (hS.rowNil (k := 1) (T := 3))))
 clear hS
 refine rangeF rfl eg hseq0 h0 ?_ ?_
 ·clear hseq0 h0 eg
  intro l m pre x L w hlt hS0
  obtain ⟨v,hS1⟩ := St.ex hS0
  have hS := St.split hS1
  clear hS0 hS1
  simp only [fA,fB,fC,Nat.reduceAdd]
  gi_wp2_with (first|gi_in)
  refine ⟨_,St.join hS,?_⟩
  clear hS
  intro L2 w2 hS2
  have hS := St.split hS2
  clear hS2
  gi_wp2_with (first|((with_reducible apply CN7 (allR _) hS);(with_reducible rfl);rfl;rfl;decide +kernel;(exact celS);go_frame)|((with_reducible apply NN7 (allR _) hS);(with_reducible rfl);rfl;(focus (simp only [fD,fI,fJ,Act.eval,fE,fF,fG,fH,fK];try rfl));(exact esS);(exact rsS);rfl;rfl;rfl;rfl;clear hS;intro bS w hS;go_frame)|((with_reducible apply FG7 hS);(with_reducible rfl);rfl;rfl;rfl;(exact esS);(exact rsS);rfl;decide;(exact takeS);(exact (Src.mk Cells.whole).at hS);rfl;rfl;(unfold maxLen;omega);omega;clear hS;intro v w hS;(have hv := hS.rowVal;obtain ⟨va,vc,rfl⟩ := hv);go_frame)|((with_reducible apply Lv7 (allR _) hS);(with_reducible rfl);rfl;rfl;(focus ((conv => lhs;whnf);try rfl));kernel_rfl;rfl;rfl;(exact updS);(simp only [List.length_cons,List.length_nil];omega);((simp only [List.set_cons_zero,List.set_cons_succ,setAll]);rfl);clear hS;intro w hS;go_frame)|gi_in)
  have e1 : (pre ++ [x]).length = pre.length + 1 := by simp
  have e2 : (pre ++ [x]).map eZ = pre.map eZ ++ [.int .i64 x] := by rw [List.map_append];rfl
  have hS1 := hS.sel (L' := blk bB [_] _ :: row _ 1 _ _ _ :: L2) (by exact selS)
  have hS2 : St W (blk bB [.slice va (pre.length + 1) vc] 62 :: row (.slice va (pre.length + 1) vc) 1 3 (pre.length + 1) (pre.map eZ ++ [.int .i64 x]) :: L2) w := hS1
  rw [← e2] at hS2
  rw [← e1] at hS2
  exact St.mkEx _ (St.join hS2)
 ·clear hseq0 h0 eg
  intro D ss w hs hS0
  obtain ⟨v,hS1⟩ := St.ex hS0
  have hS := St.split hS1
  clear hS0 hS1
  have hK := hS.get (b := D) (.tail (.tail .head))
  gi_wp2_with (first|((with_reducible apply CN7 allF hS);(with_reducible rfl);rfl;rfl;decide +kernel;(exact celS);go_frame)|gi_in)
  refine ⟨by simp,.inl ⟨_,_,rfl,run_takeDeferred hK,?_⟩⟩
  have hS2 := (hS.sel (L' := blkO D (.deferred (some [])) :: row v 1 3 ss.length (ss.map eZ) :: R) (by exact selS)).putObj (.deferred none)
  exact ⟨_,results_tmp rfl _ _ _,v,ss,rfl,hs,hS2.drop⟩
theorem collectZ {gf : Nat} {lb : Array Value} {S : List Int → Prop} {N : Nat} {W w : World} {R : List HP} (hN : N ≤ 1000000000) (hseq : Gives Tryz.prog eZ N gf lb S W R) (eg : ∀ args w,(callFunc gf args).run Tryz.prog w = .ok (.enter gf args) w) (hS : St W R w) :
  Calls Tryz.prog 133 #[.func (.func gf) #[] lb] w fun e w' => ∃ v ss,e = .returned v ∧ S ss ∧ St W (row v 1 3 ss.length (ss.map eZ) :: R) w' := by
 go_enter Tryz.func133,Tryz.ntmps133
 go_wp2_with (go_at_call 190;refine (appendZ hN hseq eg hS).mono ?_;clear hS;rintro e w ⟨v,ss,rfl,hs,hS⟩)
 go_ret
 exact ⟨v,ss,rfl,hs,hS⟩
def srtI (l : List Int) : List Int := l.mergeSort fun x y => decide (x ≤ y)
theorem Dz7 (l : List Int) : (srtI l).Perm l := List.mergeSort_perm _ _
theorem Ev7 (l : List Int) : (srtI l).length = l.length := (Dz7 l).length_eq
theorem LT7 (l : List Int) (g cap : Nat) (junk : List Value) (h62 : l.length < 4611686018427387904) (W w : World) (L : List HP) (hS : St W (blk g (l.map eZ ++ junk) 3 :: L) w) :
  Calls Tryz.prog 134 #[.slice (some ⟨g,0,none⟩) l.length cap] w fun e w' => e = .returned (.tuple #[]) ∧ St W (blk g ((srtI l).map eZ ++ junk) 3 :: L) w' := by
 have hgt := hS.get (b := g) .head
 have hblk : g < w.heap.size := (Array.getElem?_eq_some_iff.1 hgt).1
 have hH : Holds (Value.int .i64) w g 0 l.toArray := by
  intro j hj
  have hj2 : j < l.length := by simpa using hj
  refine ⟨hS.cell .head ?_,hS.free .head⟩
  rw [Nat.zero_add,List.getElem?_append_left (by simpa using hj2),List.getElem?_map,List.getElem?_eq_getElem hj2]
  simp [hj2]
 have hcon := Any.slices_Sort_int Tryz.sortInts g 0 cap l w hH hblk h62
 change Calls Tryz.prog 134 _ _ _ at hcon
 refine hcon.mono ?_
 rintro e w' ⟨rfl,n,os,rfl⟩
 refine ⟨rfl,?_⟩
 refine St.grow ?_ os
 have hSd : St W (blk g (l.map eZ ++ junk) 3 :: L) (Sort.ahead w n) := ⟨hS.os,hS.tape,hS.output,hS.sat⟩
 refine hSd.putO (w' := putRow (Value.int .i64) (Sort.ahead w n) g 0 (srtI l).toArray) (o' := .cells ((srtI l).map eZ ++ junk).toArray 3 (0,0)) .head rfl rfl rfl fun k => ?_
 show ((Sort.ahead w n).heap.modify g _)[k]? = _
 rw [Array.getElem?_modify]
 by_cases hk : k = g
 ·subst hk
  rw [if_pos rfl,if_pos rfl]
  have hgt' : (Sort.ahead w n).heap[k]? = some (.cells (l.map eZ ++ junk).toArray 3 (0,0)) := hgt
  rw [hgt']
  simp only [Option.map_some,Sort.onCells]
  congr 2
  have hsl := Ev7 l
  apply Array.ext_getElem?
  intro t
  unfold Sort.putCells
  simp only [Array.getElem?_mapIdx,List.getElem?_toArray,List.size_toArray,Nat.zero_le,true_and,Nat.zero_add,Nat.sub_zero]
  by_cases ht : t < l.length
  ·have ht2 : t < (srtI l).length := by omega
   rw [List.getElem?_append_left (by simpa using ht),List.getElem?_append_left (by simpa using ht2),List.getElem?_map,List.getElem?_map,List.getElem?_eq_getElem ht,List.getElem?_eq_getElem ht2]
   simp [ht2]
  ·have h2 : (l.map eZ ++ junk)[t]? = ((srtI l).map eZ ++ junk)[t]? := by
    rw [List.getElem?_append_right (by simpa using ht),List.getElem?_append_right (by rw [List.length_map];omega),List.length_map,List.length_map,hsl]
   rw [← h2]
   have ht3 : ¬ t < (srtI l).length := by omega
   simp [ht3]
 ·rw [if_neg (fun h => hk h.symm),if_neg hk]
theorem Io7 (W w : World) (L : List HP) (hS : St W L w) :
  Calls Tryz.prog 239 #[.slice none 0 0,.int .i64 0,.int .i64 0] w fun e w' => e = .returned (.tuple #[]) ∧ St W L w' := by
 go_enter Tryz.func239,Tryz.ntmps239
 go_wp2_with fail
 go_loopw [6] (fun v wr => v = .int .i64 1 ∧ St W L wr) (fun _ _ => 0)
 case atStart => exact ⟨rfl,hS⟩
 case round =>
  clear hS
  obtain ⟨rfl,hS⟩ := hrel
  go_wp2_with fail
  go_end0
  exact ⟨rfl,hS⟩
theorem Nr7 (n : Int) (W w : World) (L : List HP) (hS : St W L w) :
  Calls Tryz.prog 191 #[.slice none 0 0,.int .i64 0,.int .i64 0,.int .i64 n] w fun e w' => e = .returned (.tuple #[]) ∧ St W L w' := by
 go_enter Tryz.func191,Tryz.ntmps191
 go_wp2_with fail
 go_loopw [1,2] (fun v1 v2 wr => v1 = .int .i64 0 ∧ v2 = .int .i64 0 ∧ St W L wr) (fun _ _ _ => 0)
 case atStart => exact ⟨rfl,rfl,hS⟩
 case round =>
  clear hS
  obtain ⟨rfl,rfl,hS⟩ := hrel
  go_wp2_with (first|(go_at_call 239;refine (Io7 W _ _ hS).mono ?_;clear hS;rintro e w ⟨rfl,hS⟩))
  refine bodyPost_ret (results_none rfl _ _ _) rfl ?_
  exact ⟨rfl,hS⟩
theorem LU7 (W w : World) (L : List HP) (hS : St W L w) :
  Calls Tryz.prog 134 #[.slice none 0 0] w fun e w' => e = .returned (.tuple #[]) ∧ St W L w' := by
 have hl : ∀ w : World,Calls Tryz.prog 177 #[.int .u64 0] w fun e w' => (∃ l : Int,e = .returned (.int .i64 l)) ∧ w' = w := fun w =>
  (Any.bits_Len Tryz.bitsLenW 0 w (by omega) (by omega)).mono fun _ _ ⟨he,hw⟩ => ⟨⟨_,he⟩,hw⟩
 go_enter Tryz.func134,Tryz.ntmps134
 go_wp2_with (first|(go_at_call 177;refine (hl _).mono ?_;rintro e w ⟨⟨l,rfl⟩,rfl⟩)|(go_at_call 191;refine (Nr7 _ W _ _ hS).mono ?_;clear hS;rintro e w ⟨rfl,hS⟩))
 go_end0
 exact ⟨rfl,hS⟩
theorem Kg7 {l l' : List Int} (h : l.Perm l') : srtI l = srtI l' := by
 have hp : ∀ m : List Int,(srtI m).Pairwise fun x y => decide (x ≤ y) = true := fun m => List.pairwise_mergeSort (fun a b c h1 h2 => by simp only [decide_eq_true_eq] at *;omega) (fun a b => by simp only [Bool.or_eq_true,decide_eq_true_eq];omega) m
 exact List.Perm.eq_of_pairwise (fun a b _ _ h1 h2 => by simp only [decide_eq_true_eq] at h1 h2;omega) (hp l) (hp l') (((Dz7 l).trans h).trans (Dz7 l').symm)
theorem sortedZ {gf : Nat} {lb : Array Value} {K : List Int} {W w : World} {R : List HP} (hN : K.length ≤ 1000000000) (hseq : Gives Tryz.prog eZ K.length gf lb (fun ss => ss.Perm K) W R) (eg : ∀ args w,(callFunc gf args).run Tryz.prog w = .ok (.enter gf args) w) (hS : St W R w) :
  Calls Tryz.prog 68 #[.func (.func gf) #[] lb] w fun e w' => ∃ v,e = .returned v ∧ St W (row v 1 3 K.length ((srtI K).map eZ) :: R) w' := by
 go_enter Tryz.func68,Tryz.ntmps68
 go_wp2_with (go_at_call 133;refine (collectZ hN hseq eg hS).mono ?_;clear hS;rintro e w ⟨v,ss,rfl,hp,hS⟩)
 rcases hS.rowOpen with ⟨rfl,h0,hc,hS1⟩|⟨g,cap,junk,rfl,hn1,hm1,hj,hl,hS1⟩
 ·refine (LU7 W _ _ hS1).mono ?_
  clear hS
  rintro e w ⟨rfl,hS⟩
  go_wp2_with fail
  go_ret
  obtain rfl : ss = [] := List.eq_nil_of_length_eq_zero h0
  obtain rfl : K = [] := List.Perm.eq_nil hp.symm
  have e : srtI [] = [] := by unfold srtI;simp
  refine ⟨.slice none 0 0,rfl,?_⟩
  rw [e]
  exact hS.rowNil
 ·refine (LT7 ss g cap junk (by rw [hp.length_eq];omega) W _ _ hS1).mono ?_
  clear hS hS1
  rintro e w ⟨rfl,hS⟩
  have hl2 := Ev7 ss
  have hf : ((srtI ss).map eZ).length = (ss.map eZ).length := by rw [List.length_map,List.length_map,hl2]
  have hS1 := hS.rowShut (k := 1) (n := ss.length) (cap := cap) hn1 hm1 (by rw [List.length_append,hf,← List.length_append];exact hj) (by rw [hf];exact hl)
  have hk : K.length = ss.length := hp.length_eq.symm
  have hfin : St W (row (.slice (some ⟨g,0,none⟩) ss.length cap) 1 3 K.length ((srtI K).map eZ) :: R) w := by rw [hk,← Kg7 hp];exact hS1
  have Hfin := Lib.hid hfin
  clear hp hl2 hf hn1 hm1 hj hl hk hfin hS hS1
  go_wp2_with fail
  go_ret
  exact ⟨_,rfl,Hfin.out⟩
theorem Kh7 (mb : Option Nat) (W w : World) (L : List HP) (hS : St W L w) :
  Calls Tryz.prog 69 #[.map mb] w fun e w' => ∃ g,e = .returned (.func (.func 135) #[] #[.pointer (some ⟨g,0,none⟩)]) ∧ St W (blk g [.map mb] 80 :: L) w' := by
 go_enter Tryz.func69,Tryz.ntmps69
 go_wp2_with (refine zbx hS ?_;clear hS;intro b w hS)
 go_ret
 exact ⟨b,rfl,hS⟩
theorem Hv7 : ∀ args w,(callFunc 135 args).run Tryz.prog w = .ok (.enter 135 args) w := enters_of Tryz.func135 (by kernel_rfl) rfl
theorem Ip7 {ν : Type} {ev : ν → Value} {g b : Nat} {l : List (Int × ν)} {W : World} {R : List HP} :
  Gives Tryz.prog eZ (l.map (·.1)).length 135 #[.pointer (some ⟨g,0,none⟩)] (fun ss => ss.Perm (l.map (·.1))) W (blk g [.map (some b)] 80 :: amap eZ ev b l :: R) :=
 fun lp m X w hT hS => Nq7 (by rw [List.length_map] at hT;exact hT) hS
end Go.Proofs.YtlmhakmoioogaaaGreat
end
section
namespace Go.Proofs.YtlmhakmoioogaaaGreat
open Go.RowKit Go.Sl
def encF : Nat → Nat → List Int
 | 0,u => [(u : Int)]
 | f + 1,u => if 128 ≤ u then ((u % 128 + 128 : Nat) : Int) :: encF f (u / 128) else [(u : Int)]
def numU (n : Int) : Nat := if 4611686018427387904 < n then 4611686018427387904 else if 0 < n then n.toNat else 0
def numB (n : Int) : List Int := encF 8 (numU n)
theorem Ki7 {f u : Nat} (h : u < 128) : encF f u = [(u : Int)] := by
 cases f with
 | zero => rfl
 | succ f => rw [encF,if_neg (by omega)]
theorem Jq7 : ∀ f u,(encF f u).length ≤ f + 1
 | 0,u => Nat.le_refl _
 | f + 1,u => by
  rw [encF]
  split
  ·have := Jq7 f (u / 128)
   rw [List.length_cons]
   omega
  ·simp
theorem OR7 (n : Int) : numU n ≤ 4611686018427387904 := by
 unfold numU
 repeat' split
 all_goals omega
theorem Ax7 (n : Int) : (numB n).length ≤ 9 := Jq7 _ _
theorem Pz7 : ∀ v : Fin 256,bits .or .u8 ((v.val : Nat) : Int) 128 = ((v.val % 128 + 128 : Nat) : Int) := by decide +kernel
theorem OS7 (u : Nat) : bits .or .u8 ((u : Int) % 256) 128 = ((u % 128 + 128 : Nat) : Int) := by
 have h := Pz7 ⟨u % 256,Nat.mod_lt _ (by decide)⟩
 have e : ((u : Int) % 256) = ((u % 256 : Nat) : Int) := by omega
 rw [e,h]
 have : u % 256 % 128 = u % 128 := Nat.mod_mod_of_dvd _ (by decide)
 simp only [this]
theorem OT7 {u : Nat} (h : u ≤ 4611686018427387904) : u < 128 ^ (8 + 1) := by
 have : (128 : Nat) ^ (8 + 1) = 9223372036854775808 := by decide
 omega
abbrev u8s (l : List Int) : List Value := l.map (Value.int .u8)
abbrev byR (v : Value) (l : List Int) : HP := row v 1 5 l.length (u8s l)
def NmR (W : World) (L : List HP) (t : List Int) (v3 v4 : Value) (w : World) : Prop :=
 ∃ (f u : Nat) (d : List Int),v3 = .int .u64 u ∧ u < 128 ^ (f + 1) ∧ u ≤ 4611686018427387904 ∧ f ≤ 8 ∧ d.length ≤ 8 - f ∧ d ++ encF f u = t ∧ St W (byR v4 d :: L) w
theorem Jr7 (d : List Int) (x : Int) : u8s (d ++ [x]) = u8s d ++ [Value.int .u8 x] := by unfold u8s;rw [List.map_append];rfl
theorem Hw7 {v : Value} {n : Nat} {l : List Int} {L : List HP} {W w : World} (hl : l.length = n) (h : St W (row v 1 5 n (u8s l) :: L) w) : St W (byR v l :: L) w := by
 unfold byR
 rw [hl]
 exact h
end Go.Proofs.YtlmhakmoioogaaaGreat
end
section
namespace Go.Sl
open Go.RowKit
def strI (s : ByteArray) : List Int := s.data.toList.map fun b => (b.toNat : Int)
theorem AS7 (s : ByteArray) : (strI s).length = s.size := by unfold strI;rw [List.length_map];rfl
def sbR (g : Nat) (s : ByteArray) : HP := fun f => ∃ o : Obj,(∀ w : World,w.heap[g]? = some o → ∀ (j : Nat) (u : Value),((strI s).map (Value.int .u8))[j]? = some u → w.cell? ⟨g,j,none⟩ = some u) ∧ blkO g o f
section
variable {P : Program} {ops : Array Oper} {Q : Exit → Act → World → Prop} {a : Act} {w : World} {W : World} {L : List HP} {rest : List Oper} {o : Oper}
theorem Cells.sb {g : Nat} {s : ByteArray} : Cells (sbR g s :: L) g 0 ((strI s).map (Value.int .u8)) := fun j v hj W w hS => by
 obtain ⟨o,hS⟩ := St.ex hS
 obtain ⟨h1,hS⟩ := St.and hS
 rw [Nat.zero_add]
 exact h1 w (hS.get .head) j v hj
theorem AR7 {src dst e : TypeId} {x : Operand} {s : ByteArray} (hS : St W L w) (ho : o.op = .convert src dst x) (hg : Region.wanted o (yielded ops a.tmps) = true) (hx : a.eval x = .string s)
  (hs : P.underlying src = some .string) (hd : P.underlying dst = some (.slice e)) (he : P.underlying e = some (.int .u8))
  (h : ∀ g c w',St W (sbR g s :: L) w' → wpList P ops Q rest (a.put o.dst (.slice (some ⟨g,0,none⟩) s.size c)) w') : wpList P ops Q (o :: rest) a w := by
 have h1 := run_bytes_of_string (P := P) w src dst e s hs hd he
 refine Ap7 hg (v := .slice (some ⟨w.heap.size,0,none⟩) s.size (grownCap w s.size 0 e)) (w' := w.drew.alloc (.cells (bytesRow s (grownCap w s.size 0 e)) e ((bytesRow s (grownCap w s.size 0 e)).size,(bytesRow s (grownCap w s.size 0 e)).size + 1))) ?_ (h _ _ _ ?_)
 ·unfold execOp
  simp [ho,hx,h1]
 ·have h2 := (hS.drawn (w.drawn + 1)).alloc (.cells (bytesRow s (grownCap w s.size 0 e)) e ((bytesRow s (grownCap w s.size 0 e)).size,(bytesRow s (grownCap w s.size 0 e)).size + 1))
  refine St.mkEx _ (St.mkAnd ?_ h2)
  intro w' hw j u hj
  rw [List.getElem?_map] at hj
  unfold strI at hj
  rw [List.getElem?_map] at hj
  have hw2 : w'.heap[w.heap.size]? = some (.cells (bytesRow s (grownCap w s.size 0 e)) e ((bytesRow s (grownCap w s.size 0 e)).size,(bytesRow s (grownCap w s.size 0 e)).size + 1)) := hw
  cases hb : s.data.toList[j]? with
  | none => rw [hb] at hj;cases hj
  | some b =>
   rw [hb] at hj
   simp only [Option.map_some,Option.some.injEq] at hj
   have hb2 : s.data[j]? = some b := by rw [← hb];simp
   have hjl : j < s.data.size := (Array.getElem?_eq_some_iff.1 hb2).1
   have h3 : (bytesRow s (grownCap w s.size 0 e))[j]? = some u := by
    unfold bytesRow
    rw [Array.getElem?_append_left (by simpa using hjl),Array.getElem?_map,hb2,← hj]
    rfl
   show w'.cell? ⟨w.heap.size,j,none⟩ = some u
   simp [World.cell?,hw2,h3]
end
end Go.Sl
namespace Go.Proofs.YtlmhakmoioogaaaGreat
open Go.RowKit Go.Sl
theorem LV7 (l : List Int) : (u8s l).all (·.oneCell') = true := by
 rw [List.all_eq_true]
 intro v hv
 obtain ⟨x,_,rfl⟩ := List.mem_map.1 hv
 rfl
theorem LW7 (a b : List Int) : u8s (a ++ b) = u8s a ++ u8s b := List.map_append
theorem LX7 (a : List Int) : (u8s a).length = a.length := List.length_map ..
def NsR (W : World) (L : List HP) (ns : List Int) (v3 v4 : Value) (w : World) : Prop :=
 ∃ i : Nat,v4 = .int .i64 i ∧ i ≤ ns.length ∧ St W (byR v3 ((ns.take i).flatMap numB) :: L) w
theorem LY7 (ns : List Int) : (ns.flatMap numB).length ≤ 9 * ns.length := by
 induction ns with
 | nil => simp
 | cons n ns ih =>
  have := Ax7 n
  rw [List.flatMap_cons,List.length_append,List.length_cons]
  omega
def strE (s : ByteArray) : List Int := numB s.size ++ strI s
theorem Ew7 (s : ByteArray) (h : s.size ≤ 16) : (strE s).length ≤ 25 := by
 have h1 := Ax7 s.size
 unfold strE
 rw [List.length_append,AS7]
 omega
def numsB (ns : List Int) : List Int := ns.flatMap numB
theorem Hx7 (a b c d : Int) : (numsB [a,b,c,d]).length ≤ 36 := by
 have h := LY7 [a,b,c,d]
 simp only [List.length_cons,List.length_nil] at h
 exact h
def encH (h : Hd) : List Int := strE h.who ++ numsB [h.has.x0,h.has.x1,h.has.x2,h.has.x3]
def boolI (b : Bool) : Int := if b = true then 1 else 0
def encO (o : Ord) : List Int := numB o.id ++ strE o.who ++ numsB [boolI o.buy,o.item,o.cnt,o.price]
def encV (p : Ps) (L : List Ord) (n : Int) : List Int := numB (hdL p).length ++ (hdL p).flatMap encH ++ numB L.length ++ L.flatMap encO ++ numB n
theorem Gm7 (h : Hd) (hw : h.who.size ≤ 16) : (encH h).length ≤ 70 := by
 have h1 := Ew7 h.who hw
 have h2 := Hx7 h.has.x0 h.has.x1 h.has.x2 h.has.x3
 unfold encH
 rw [List.length_append]
 omega
theorem Gn7 (o : Ord) (hw : o.who.size ≤ 16) : (encO o).length ≤ 70 := by
 have h1 := Ew7 o.who hw
 have h3 := Ax7 o.id
 have h2 := Hx7 (boolI o.buy) o.item o.cnt o.price
 unfold encO
 rw [List.length_append,List.length_append]
 omega
theorem DX7 {α : Type} (f : α → List Int) (xs : List α) (h : ∀ x ∈ xs,(f x).length ≤ 70) : (xs.flatMap f).length ≤ 70 * xs.length := by
 induction xs with
 | nil => simp
 | cons x xs ih =>
  have h1 := h x (List.mem_cons_self ..)
  have h2 := ih fun y hy => h y (List.mem_cons_of_mem x hy)
  rw [List.flatMap_cons,List.length_append,List.length_cons]
  omega
def CtR {α : Type} (W : World) (F : List HP) (f : α → List Int) (base : List Int) (xs : List α) (v3 v4 : Value) (w : World) : Prop :=
 ∃ k : Nat,v4 = .int .i64 k ∧ k ≤ xs.length ∧ St W (byR v3 (base ++ (xs.take k).flatMap f) :: F) w
theorem CG7 {α : Type} (f : α → List Int) (base : List Int) (xs : List α) {k : Nat} (h : k < xs.length) : base ++ (xs.take (k + 1)).flatMap f = base ++ (xs.take k).flatMap f ++ f xs[k] := by
 rw [List.take_succ_eq_append_getElem h,List.flatMap_append,List.append_assoc]
 simp
def wrR (wb : Nat) (d : List Int) : HP := fun f => ∃ v : Value,sats [blk wb [v] 119,byR v d] f
section
variable {W w : World} {wb : Nat} {d : List Int} {R : List HP}
theorem wrOpen (h : St W (wrR wb d :: R) w) : ∃ a c,St W (blk wb [.slice a d.length c] 119 :: byR (.slice a d.length c) d :: R) w := by
 obtain ⟨v,h⟩ := St.ex h
 have hS := (St.split (St.split h).swap).swap.drop.swap
 obtain ⟨a,c,rfl⟩ := hS.drop.rowVal
 exact ⟨a,c,hS⟩
theorem wrShut {v : Value} (h : St W (blk wb [v] 119 :: byR v d :: R) w) : St W (wrR wb d :: R) w := by
 refine St.mkEx v ?_
 refine St.join ?_
 refine St.swap (St.imp h.swap ?_)
 intro f hf
 exact ⟨fun _ => true,hf,trivial⟩
end
def WnR (W : World) (L : List HP) (wb : Nat) (d : List Int) (ns : List Int) (v : Value) (w : World) : Prop :=
 ∃ i : Nat,v = .int .i64 i ∧ i ≤ ns.length ∧ St W (wrR wb (d ++ (ns.take i).flatMap numB) :: L) w
def WuR (W : World) (L : List HP) (wb : Nat) (t : List Int) (v : Value) (w : World) : Prop :=
 ∃ (f u : Nat) (d : List Int),v = .int .u64 u ∧ u < 128 ^ (f + 1) ∧ u ≤ 4611686018427387904 ∧ d.length ≤ 100000000 + (8 - f) ∧ f ≤ 8 ∧ d ++ encF f u = t ∧ St W (wrR wb d :: L) w
theorem NS7 (wb : Nat) (d : List Int) (ns : List Int) (g off c : Nat) (hd : d.length ≤ 90000000) (hl : ns.length ≤ 100) (hn : ∀ x ∈ ns, -9223372036854775808 ≤ x ∧ x ≤ 9223372036854775807) (W w : World) (R : List HP) (hcell : ∀ i, ∀ hi : i < ns.length,Cell R g (off + i) (.int .i64 ns[i])) (hS : St W (wrR wb d :: R) w) :
  Calls Tryz.prog 65 #[.pointer (some ⟨wb,0,none⟩),.slice (some ⟨g,off,none⟩) ns.length c] w fun e w' => e = .returned (.tuple #[]) ∧ St W (wrR wb (d ++ ns.flatMap numB) :: R) w' := by
 have Hcell := Lib.hid hcell
 clear hcell
 have Hn := Lib.hid hn
 clear hn
 go_enter Tryz.func65,Tryz.ntmps65
 go_wp2_with (first|go_big_skip)
 go_loopw [11] (fun v wr => WnR W R wb d ns v wr) (fun v _ => ns.length - (intOf v).toNat)
 case atStart => exact ⟨0,rfl,Nat.zero_le _,by simpa using hS⟩
 case round =>
  clear hS
  obtain ⟨i,rfl,hil,hS⟩ := hrel
  by_cases hin : i = ns.length
  ·subst hin
   rw [List.take_length] at hS
   go_wp2_with (first|go_big_skip)
   go_end0
   exact ⟨rfl,hS⟩
  ·have hi1 : i < ns.length := by omega
   have hx := Hcell.out i hi1
   have hr := Hn.out _ (List.getElem_mem hi1)
   have hst : d ++ (ns.take (i + 1)).flatMap numB = d ++ (ns.take i).flatMap numB ++ numB ns[i] := by rw [List.take_succ_eq_append_getElem hi1,List.flatMap_append,List.append_assoc];simp
   have hle := LY7 (ns.take i)
   rw [List.length_take] at hle
   generalize hdd : d ++ (ns.take i).flatMap numB = dd at hS hst
   have hdl : dd.length ≤ 90000900 := by rw [← hdd,List.length_append];omega
   generalize ns[i] = x at hx hr hst
   obtain ⟨r1,r2⟩ := hr
   have Hst := Lib.hid hst
   clear hst hin hil hdd hle
   go_wp2_with (first|go_big_skip|(refine zl1 hS ?_ (hc := by exact Cell.there hx)))
   have eu : max 0 (min x 4611686018427387904) = ((numU x : Nat) : Int) := by
    unfold numU
    repeat' split
    all_goals omega
   have hul := OR7 x
   have hnb : numB x = encF 8 (numU x) := rfl
   rw [hnb] at Hst
   have Eu := Lib.hid eu
   clear eu hnb
   generalize numU x = u0 at Eu hul Hst
   go_loopw [6] (fun v wr => WuR W R wb (dd ++ encF 8 u0) v wr) (fun v _ => (intOf v).toNat)
   case atStart => exact ⟨8,u0,dd,by rw [Eu.out],OT7 hul,hul,by omega,by omega,rfl,hS⟩
   case round =>
    clear hS
    obtain ⟨f,u,d2,rfl,hu,hu2,hd2,hf,hE,hS⟩ := hrel
    obtain ⟨wa,wc,hS1⟩ := wrOpen hS
    clear hS
    have hS := hS1
    clear hS1
    by_cases h128 : 128 ≤ u
    ·obtain ⟨f,rfl⟩ : ∃ f',f = f' + 1 := by
      cases f with
      | zero => simp at hu;omega
      | succ f => exact ⟨f,rfl⟩
     have hu3 : u / 128 < 128 ^ (f + 1) := Nat.div_lt_of_lt_mul (by rw [Nat.pow_succ] at hu;omega)
     rw [encF,if_pos h128] at hE
     have Hu3 := Lib.hid hu3
     have HE := Lib.hid hE
     clear hE hu hu3
     go_wp2_with (first|go_big_skip|(refine zl1 hS ?_)|(refine zbs hS ?_;clear hS;intro bS w hS)|((with_reducible apply Ah7 hS);(with_reducible rfl);rfl;rfl;rfl;(exact esS);(exact rsS);rfl;decide;(exact takeS);(exact Src.mk Cells.whole);(focus (try rfl));rfl;(focus (unfold maxLen;omega));(focus (omega));clear hS;intro v w hS;(have hv := hS.rowVal;obtain ⟨va,vc,rfl⟩ := hv);(refine frS ?_))|(refine zs1 hS ?_;clear hS;intro w hS))
     have hS1 := hS.sel (L' := row (.slice va (d2.length + 1) vc) 1 _ _ _ :: blk wb _ _ :: R) (by exact selS)
     have hb := OS7 u
     have h0 : St W (row (.slice va (d2.length + 1) vc) 1 5 (d2.length + 1) (u8s d2 ++ [Value.int .u8 (bits .or .u8 ((u : Int) % 256) 128)]) :: _) w := hS1
     rw [hb,← Jr7] at h0
     have h2 := wrShut (Hw7 (by rw [List.length_append,List.length_singleton]) h0).swap
     go_roundw
     case rel => exact ⟨f,u / 128,d2 ++ [((u % 128 + 128 : Nat) : Int)],by rw [Int.natCast_ediv];rfl,Hu3.out,by omega,by rw [List.length_append,List.length_singleton];omega,by omega,by rw [List.append_assoc];exact HE.out,h2⟩
     case measure => simp [intOf];omega
    ·have hu4 : u < 128 := by omega
     rw [Ki7 hu4] at hE
     have HE := Lib.hid hE
     clear hE hu h128
     go_wp2_with (first|go_big_skip|(refine zl1 hS ?_)|(refine zbs hS ?_;clear hS;intro bS w hS)|((with_reducible apply Ah7 hS);(with_reducible rfl);rfl;rfl;rfl;(exact esS);(exact rsS);rfl;decide;(exact takeS);(exact Src.mk Cells.whole);(focus (try rfl));rfl;(focus (unfold maxLen;omega));(focus (omega));clear hS;intro v w hS;(have hv := hS.rowVal;obtain ⟨va,vc,rfl⟩ := hv);(refine frS ?_))|(refine zs1 hS ?_;clear hS;intro w hS))
     have hS1 := hS.sel (L' := row (.slice va (d2.length + 1) vc) 1 _ _ _ :: blk wb _ _ :: R) (by exact selS)
     have h0 : St W (row (.slice va (d2.length + 1) vc) 1 5 (d2.length + 1) (u8s d2 ++ [Value.int .u8 (u : Int)]) :: _) w := hS1
     rw [← Jr7] at h0
     have h2 := wrShut (Hw7 (by rw [List.length_append,List.length_singleton]) h0).swap
     rw [HE.out,← Hst.out] at h2
     go_roundw
     case rel => exact ⟨i + 1,rfl,hi1,h2⟩
     case measure => simp [intOf];omega
theorem LZ7 (wb : Nat) (d : List Int) (ns : List Int) (b c : Nat) (hd : d.length ≤ 90000000) (hl : ns.length ≤ 100) (hn : ∀ x ∈ ns, -9223372036854775808 ≤ x ∧ x ≤ 9223372036854775807) (W w : World) (R : List HP) (hS : St W (wrR wb d :: blk b (ns.map (Value.int .i64)) 3 :: R) w) :
  Calls Tryz.prog 65 #[.pointer (some ⟨wb,0,none⟩),.slice (some ⟨b,0,none⟩) ns.length c] w fun e w' => e = .returned (.tuple #[]) ∧ St W (wrR wb (d ++ ns.flatMap numB) :: blk b (ns.map (Value.int .i64)) 3 :: R) w' :=
 NS7 wb d ns b 0 c hd hl hn W w _ (fun i hi => Cell.here (by rw [Nat.zero_add,List.getElem?_map,List.getElem?_eq_getElem hi];rfl)) hS
end Go.Proofs.YtlmhakmoioogaaaGreat
end
