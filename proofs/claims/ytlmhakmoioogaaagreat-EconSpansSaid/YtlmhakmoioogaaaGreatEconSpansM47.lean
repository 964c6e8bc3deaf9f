/-
  Requests go on in both economies, and both say the same. For every two that are alike, all requests.
  The program's Total of an economy. For every economy.
  What a request changes of all that an economy has. The plain law: no program in sight.
  EconTotal: the walk. For every row of requests.
  The library's contracts laid at this program: written by the kit's tool lay-plain.
  slices.Sorted(maps.Keys(m)) of maps by numbers: a row of the keys, sorted. For every map.
  Numbers as bytes: the document's. For every number.
  Numbers and names as bytes: the document's; a string's bytes, a string out of bytes. For all numbers and strings.
  The document's vault as bytes. For every vault.
  The program's Writer: numbers, rows of bytes. For all of them.
  The program's Writer: names, all that it laid. For all of them.
  The program's vault as bytes. For every vault.
  The program's Writer: rows of bytes from anywhere. For all of them.
  A reply as bytes, the program's. For every reply that may be.
  What holds of an economy behind requests: keys, sessions, what is under way, what has arrived. The plain law: no program in sight.
  The library's contracts laid at this program: written by the kit's tool lay-plain.
-/
import Derived.Test.YtlmhakmoioogaaaGreatEconSpansM5
import Derived.Test.YtlmhakmoioogaaaGreatEconSpansM25
import Derived.Test.YtlmhakmoioogaaaGreatEconSpansM29
import Derived.Test.YtlmhakmoioogaaaGreatEconSpansM30
import Derived.Test.YtlmhakmoioogaaaGreatEconSpansM31
import Derived.Test.YtlmhakmoioogaaaGreatEconSpansM36
import Derived.Test.YtlmhakmoioogaaaGreatEconSpansM43
import Derived.Test.YtlmhakmoioogaaaGreatEconSpansM45
import Derived.Test.YtlmhakmoioogaaaGreatProg
import Derived.Shelf.Sort.Plain
import Derived.Ground.NamesProg
import Derived.Laws.Bits64b
import Derived.Laws.IdiomStrings
import Derived.Lib.SliceRun
import Derived.Shelf.SlIter.Nil
import Derived.Shelf.SlIterI.Nil
import Derived.Shelf.SortM.Plain
import Derived.Shelf.SortM.SortNone
import Derived.Ground.GgzProg
import Derived.Ground.SlgmProg
set_option maxHeartbeats 16000000
set_option maxRecDepth 100000
set_option linter.unusedSimpArgs false
set_option linter.unusedVariables false
section
namespace Go.Proofs.YtlmhakmoioogaaaGreat
open Go.RowKit Go.Sl
def runD (l : List Opn) (d : Ec) : Ec := l.foldl (fun d o => (appD d o).2.2) d
theorem NZ7 {xs : List Opn} {i : Nat} (h : i < xs.length) (e : Ec) : runE (xs.take (i + 1)) e = (appE (runE (xs.take i) e) xs[i]).2.2 := by
 unfold runE
 rw [List.take_succ_eq_append_getElem h,List.foldl_append]
 rfl
theorem Oa7 {xs : List Opn} {i : Nat} (h : i < xs.length) (d : Ec) : runD (xs.take (i + 1)) d = (appD (runD (xs.take i) d) xs[i]).2.2 := by
 unfold runD
 rw [List.take_succ_eq_append_getElem h,List.foldl_append]
 rfl
theorem Ob7 (e : Ec) (o : Opn) : (appE e o).2.1 = !(peekE e o).2 := by
 unfold appE
 by_cases h : (peekE e o).2 = true
 ·rw [if_pos h,h];rfl
 ·rw [if_neg h]
  have : (peekE e o).2 = false := by simpa using h
  rw [this];rfl
theorem GOk.vok {d e : Ec} {n : Nat} (h : GOk d e n) (k : ByteArray) : VOk (atV d k).ps (atV d k).n n := by
 rw [h.sim.at]
 unfold atV
 cases hg : getL e.vs k with
 | none => exact vOk_i n
 | some V => exact h.ok _ (AG7 hg)
def KeepE (I : Ec → Nat → Prop) : Prop := ∀ (e : Ec) (n : Nat) (o : Opn),I e n → (∀ x ∈ e.vs,(∀ o ∈ x.2.L,MayP o) ∧ x.2.L.length ≤ 32) → (∀ x ∈ (appE e o).2.2.vs,(∀ o ∈ x.2.L,MayP o) ∧ x.2.L.length ≤ 32) → EOk (appE e o).2.2 (n + 1) → I (appE e o).2.2 (n + 1)
def GoR (I : Ec → Nat → Prop) (W : World) (Lr : List HP) (eb xb : Nat) (xs : List Opn) (d e : Ec) (n : Nat) (v : Value) (w : World) : Prop :=
 ∃ i : Nat,v = .int .i64 i ∧ i ≤ xs.length ∧ GOk (runD (xs.take i) d) (runE (xs.take i) e) (n + i) ∧ I (runE (xs.take i) e) (n + i) ∧ St W (ecP eb (runE (xs.take i) e) :: xecP xb (runD (xs.take i) d) :: Lr) w
section
variable {W w : World} {L R : List HP} {eb xb : Nat} {d e : Ec} {i : Nat} {k u : ByteArray} {x0 x1 x2 x3 cl sq : Int} {b : Bool}
theorem atA (ht : Take L (ecP eb e) R) (hx : purseA (atV e k).ps u = ⟨x0,x1,x2,x3⟩) (hS : St W L w) :
  Calls Tryz.prog 18 #[.pointer (some ⟨eb,0,none⟩),.agg #[.string k,.string u]] w fun x w' => x = .returned (.agg #[.int .i64 x0,.int .i64 x1,.int .i64 x2,.int .i64 x3]) ∧ St W L w' := by
 refine (IJ7 k u hx W w R (hS.take ht)).mono ?_
 rintro x w' ⟨rfl,hS⟩
 exact ⟨rfl,hS.back ht⟩
theorem at8A (ht : Take L (xecP xb d) R) (hA : Asc ltB d.vs) (hok : VOk (atV d k).ps (atV d k).n i) (hx : purseA (atV d k).ps u = ⟨x0,x1,x2,x3⟩) (hS : St W L w) :
  Calls Tryz.prog 84 #[.pointer (some ⟨xb,0,none⟩),.agg #[.string k,.string u]] w fun x w' => x = .returned (.agg #[.int .i64 x0,.int .i64 x1,.int .i64 x2,.int .i64 x3]) ∧ St W L w' := by
 refine (at8_x hA k u hok hx (hS.take ht)).mono ?_
 rintro x w' ⟨rfl,hS⟩
 exact ⟨rfl,hS.back ht⟩
theorem arrA (ht : Take L (ecP eb e) R) (hb : (getL e.ar (cl,sq)).isSome = b) (hS : St W L w) :
  Calls Tryz.prog 19 #[.pointer (some ⟨eb,0,none⟩),.int .i64 cl,.int .i64 sq] w fun x w' => x = .returned (.bool b) ∧ St W L w' := by
 refine (GU7 cl sq hb W w R (hS.take ht)).mono ?_
 rintro x w' ⟨rfl,hS⟩
 exact ⟨rfl,hS.back ht⟩
theorem arr8A (ht : Take L (xecP xb d) R) (hb : (getL d.ar (cl,sq)).isSome = b) (hS : St W L w) :
  Calls Tryz.prog 82 #[.pointer (some ⟨xb,0,none⟩),.int .i64 cl,.int .i64 sq] w fun x w' => x = .returned (.bool b) ∧ St W L w' := by
 refine (JF7 cl sq hb (hS.take ht)).mono ?_
 rintro x w' ⟨rfl,hS⟩
 exact ⟨rfl,hS.back ht⟩
end
theorem Ls7 {xb : Nat} {d d2 : Ec} {i : Nat} (hi : i ≤ 5000) {kd cl sq : Int} {ak aw tk tw : ByteArray} {it ct pr : Int} {bu : Bool} {id : Int} (hd0 : DOk d ak i) {r0 r1 r2 r3 r4 r5 : Int} {b : Bool} (h : appD d ⟨kd,cl,sq,ak,aw,tk,tw,it,ct,pr,bu,id⟩ = (⟨r0,r1,⟨r2,r3,r4,r5⟩⟩,b,d2)) (W w : World) (R : List HP) (hS : St W (xecP xb d :: R) w) :
  Calls Tryz.prog 21 #[.pointer (some ⟨xb,0,none⟩),oV kd cl sq ak aw tk tw it ct pr bu id] w fun x w' => x = .returned (.tuple #[rV r0 r1 r2 r3 r4 r5,.bool b]) ∧ St W (xecP xb d2 :: R) w' := by
 have h1 := MF7 hi (kd := kd) (cl := cl) (sq := sq) (aw := aw) (tk := tk) (tw := tw) (it := it) (ct := ct) (pr := pr) (bu := bu) (id := id) hd0 W w R hS
 rw [h] at h1
 exact h1
theorem Lt7 {eb : Nat} {e e2 : Ec} {i : Nat} (hE : EOk e i) (hi : i ≤ 1000000) {kd cl sq : Int} {ak aw tk tw : ByteArray} {it ct pr : Int} {bu : Bool} {id : Int} {r0 r1 r2 r3 r4 r5 : Int} {b : Bool} (h : appE e ⟨kd,cl,sq,ak,aw,tk,tw,it,ct,pr,bu,id⟩ = (⟨r0,r1,⟨r2,r3,r4,r5⟩⟩,b,e2)) (W w : World) (R : List HP) (hS : St W (ecP eb e :: R) w) :
  Calls Tryz.prog 16 #[.pointer (some ⟨eb,0,none⟩),oV kd cl sq ak aw tk tw it ct pr bu id] w fun x w' => EOk e2 (i + 1) ∧ x = .returned (.tuple #[rV r0 r1 r2 r3 r4 r5,.bool b]) ∧ St W (ecP eb e2 :: R) w' := FO7 hE hi h W w R hS
theorem Lu7 (xs : List Opn) (hlen : xs.length ≤ 150) (v : Value) (V : World) (hv : SliceV Opn.cells 12 V v xs) {d e : Ec} {n : Nat} (hn : n ≤ 4000) (h : GOk d e n) {I : Ec → Nat → Prop} (hI : KeepE I) (hi0 : I e n) (eb xb : Nat) (W w : World) (Lr : List HP) (hS : St W (ecP eb e :: xecP xb d :: Old V :: Lr) w) :
  Calls Tryz.prog 32 #[.pointer (some ⟨eb,0,none⟩),.pointer (some ⟨xb,0,none⟩),v] w fun r w' => r = .returned (.bool true) ∧ GOk (runD xs d) (runE xs e) (n + xs.length) ∧ I (runE xs e) (n + xs.length) ∧ St W (ecP eb (runE xs e) :: xecP xb (runD xs d) :: Old V :: Lr) w' := by
 obtain ⟨a,cap,rfl,h63,hact⟩ := hv.opn
 have Ha := Lib.hid hact
 have HG0 := Lib.hid h
 have HI := Lib.hid hI
 have HI0 := Lib.hid hi0
 clear hact hv h hI hi0
 go_enter Tryz.func32,Tryz.ntmps32
 go_wp2_with (first|go_big_skip)
 go_loopw [7] (fun v wr => GoR I W (Old V :: Lr) eb xb xs d e n v wr) (fun v _ => xs.length - (intOf v).toNat)
 case atStart => exact ⟨0,rfl,Nat.zero_le _,HG0.out,HI0.out,hS⟩
 case round =>
  clear hS
  obtain ⟨i,rfl,hi,hG,hi1,hS⟩ := hrel
  by_cases hend : i = xs.length
  ·subst hend
   have d3 : decide ((xs.length : Int) < (xs.length : Int)) = false := by simp
   rw [List.take_length] at hS hG hi1
   have HG := Lib.hid hG
   have HI1 := Lib.hid hi1
   clear hG hi1
   go_wp2_with (first|go_big_skip)
   go_ret
   exact ⟨rfl,HG.out,HI1.out,hS⟩
  have hil : i < xs.length := by omega
  have dil : decide ((i : Int) < (xs.length : Int)) = true := by simp;omega
  have hi6 : n + i ≤ 4150 := by omega
  clear hend hi
  obtain ⟨pb,poff,rfl,hA⟩ := Ha.out i hil
  have hall := hA.all
  have hcl := hA.client
  have hsq := hA.seq
  have hpl : ∀ (j : Nat) (v : Value),([.string xs[i].ak,.string xs[i].aw] : List Value)[j]? = some v → V.cell? ⟨pb,poff + i * 12 + 3 + j,none⟩ = some v := by
   intro j v hj
   match j,hj with
   | 0,hj => cases hj;exact hA.ak
   | 1,hj => cases hj;exact hA.aw
   | j + 2,hj => simp at hj
  clear hA
  have hs1 := NZ7 hil e
  have hs2 := Oa7 hil d
  obtain ⟨e1,he⟩ : ∃ z,runE (xs.take i) e = z := ⟨_,rfl⟩
  obtain ⟨d1,hd⟩ : ∃ z,runD (xs.take i) d = z := ⟨_,rfl⟩
  rw [he] at hG hS hs1 hi1
  rw [hd] at hG hS hs2
  clear he hd
  generalize xs[i] = x at hall hcl hsq hpl hs1 hs2
  obtain ⟨kd,cl,sq,ak,aw,tk,tw,it,ct,pr,bu,id⟩ := x
  simp only [Opn.cells] at hall hcl hsq hpl
  obtain ⟨⟨⟨p0,p1,⟨p2,p3,p4,p5⟩⟩,pk⟩,hp⟩ : ∃ z,peekE e1 ⟨kd,cl,sq,ak,aw,tk,tw,it,ct,pr,bu,id⟩ = z := ⟨_,rfl⟩
  obtain ⟨⟨⟨r0,r1,⟨r2,r3,r4,r5⟩⟩,rb,e2⟩,h1⟩ : ∃ z,appE e1 ⟨kd,cl,sq,ak,aw,tk,tw,it,ct,pr,bu,id⟩ = z := ⟨_,rfl⟩
  have hrb : rb = !pk := by
   have := Ob7 e1 ⟨kd,cl,sq,ak,aw,tk,tw,it,ct,pr,bu,id⟩
   rw [h1,hp] at this
   exact this
  have hq : peekD d1 ⟨kd,cl,sq,ak,aw,tk,tw,it,ct,pr,bu,id⟩ = (⟨p0,p1,⟨p2,p3,p4,p5⟩⟩,pk) := by rw [hG.sim.peek,hp]
  obtain ⟨d2,hd2⟩ : ∃ z,(appD d1 ⟨kd,cl,sq,ak,aw,tk,tw,it,ct,pr,bu,id⟩).2.2 = z := ⟨_,rfl⟩
  have h2 : appD d1 ⟨kd,cl,sq,ak,aw,tk,tw,it,ct,pr,bu,id⟩ = (⟨r0,r1,⟨r2,r3,r4,r5⟩⟩,rb,d2) := by
   obtain ⟨g1,g2,_⟩ := HV7 hG.sim ⟨kd,cl,sq,ak,aw,tk,tw,it,ct,pr,bu,id⟩
   rw [h1] at g1 g2
   exact Prod.ext g1 (Prod.ext g2 hd2)
  have hgn := hG.app ⟨kd,cl,sq,ak,aw,tk,tw,it,ct,pr,bu,id⟩
  have hin := HI.out e1 (n + i) ⟨kd,cl,sq,ak,aw,tk,tw,it,ct,pr,bu,id⟩ hi1
  rw [h1] at hs1 hgn hin
  rw [h2] at hs2 hgn
  dsimp only at hs1 hs2 hgn hin
  have hsim2 : SimE d2 e2 := by
   have := (HV7 hG.sim ⟨kd,cl,sq,ak,aw,tk,tw,it,ct,pr,bu,id⟩).2.2
   rw [h1,h2] at this
   exact this
  obtain ⟨⟨z0,z1,z2,z3⟩,hz⟩ : ∃ z,purseA (atV e2 ak).ps aw = z := ⟨_,rfl⟩
  have hz2 : purseA (atV d2 ak).ps aw = ⟨z0,z1,z2,z3⟩ := by rw [hsim2.at];exact hz
  obtain ⟨y,hy⟩ : ∃ y,(getL e2.ar (cl,sq)).isSome = y := ⟨_,rfl⟩
  have hy2 : (getL d2.ar (cl,sq)).isSome = y := by rw [AC7 hsim2.an hsim2.a];exact hy
  have Htk := Lib.hid hG.sim.tk
  have HG := Lib.hid hG
  have Hp := Lib.hid hp
  have Hq := Lib.hid hq
  have H1 := Lib.hid h1
  have H2 := Lib.hid h2
  have G2 := Lib.hid hgn
  have HIn := Lib.hid hin
  have S1 := Lib.hid hs1
  have S2 := Lib.hid hs2
  have Hz := Lib.hid hz
  have Hz2 := Lib.hid hz2
  have Hy := Lib.hid hy
  have Hy2 := Lib.hid hy2
  clear hi1 hin hG hp hq h1 h2 hgn hs1 hs2 hz hz2 hy hy2 hd2 hsim2
  have heq : ((z0 == z0) && ((z1 == z1) && ((z2 == z2) && (z3 == z3)))) = true := by simp
  have hep : Rpl.eqB ⟨p0,p1,⟨p2,p3,p4,p5⟩⟩ ⟨p0,p1,⟨p2,p3,p4,p5⟩⟩ = true := by unfold Rpl.eqB;simp
  have her : Rpl.eqB ⟨r0,r1,⟨r2,r3,r4,r5⟩⟩ ⟨r0,r1,⟨r2,r3,r4,r5⟩⟩ = true := by unfold Rpl.eqB;simp
  subst hrb
  cases pk
  all_goals cases y
  all_goals
   go_wp2_with (first|go_big_skip|(refine zlN hS ?_ (vs := [.int .i64 kd,.int .i64 cl,.int .i64 sq,.string ak,.string aw,.string tk,.string tw,.int .i64 it,.int .i64 ct,.int .i64 pr,.bool bu,.int .i64 id]) (hc := by exact Cells.old (by exact memS) hall))|((fail_if_success (have := gA));(refine zal hS ?_;clear hS;have gA : Nat := 0;intro bA w hS))|((have := gA);(fail_if_success (have := gB));(refine zal hS ?_;clear hS;have gB : Nat := 0;intro bB w hS))|((have := gB);(fail_if_success (have := gC));(refine zal hS ?_;clear hS;have gC : Nat := 0;intro bC w hS))|((have := gC);(refine zal hS ?_;clear hS;intro bD w hS))|(refine zsN hS ?_;clear hS;intro w hS)|(go_at_call 33;refine (NV7 Hp.out (hS.sel (L' := ecP eb e1 :: xecP xb d1 :: Old V :: Lr) (by exact selS))).mono ?_;clear hS;rintro ex w ⟨rfl,hS⟩)|(go_at_call 48;refine (NU7 Htk.out Hq.out (hS.sel (L' := xecP xb d1 :: ecP eb e1 :: blk bA _ _ :: Old V :: Lr) (by exact selS))).mono ?_;clear hS;rintro ex w ⟨rfl,hS⟩)|(go_at_call 16;have hS9 := hS.sel (L' := ecP eb e1 :: xecP xb d1 :: blk bB _ _ :: blk bA _ _ :: Old V :: Lr) (by exact selS);clear hS;have hdk := HG.out.dok (by omega) (HW7 hS9) ak;have Hdk := Lib.hid hdk;clear hdk;have heE := HW7 hS9;have HeE := Lib.hid heE;clear heE;refine (Lt7 HG.out.ok (by omega) H1.out W _ _ hS9).mono ?_;clear hS9;rintro ex w ⟨hok2,rfl,hS⟩;have Hok2 := Lib.hid hok2;clear hok2)|(go_at_call 21;refine (Ls7 (by omega) Hdk.out H2.out W _ _ (hS.sel (L' := xecP xb d1 :: ecP eb e2 :: blk bC _ _ :: blk bB _ _ :: blk bA _ _ :: Old V :: Lr) (by exact selS))).mono ?_;clear hS;rintro ex w ⟨rfl,hS⟩))
   have hg2 := G2.out Hok2.out
   have HG2 := Lib.hid hg2
   have HA2 := Lib.hid hg2.sim.va
   have HV2 := Lib.hid (hg2.vok ak)
   clear hg2
   have hS1 := hS.sel (L' := ecP eb e2 :: xecP xb d2 :: blk bA _ _ :: blk bB _ _ :: blk bC _ _ :: blk bD _ _ :: Old V :: Lr) (by exact selS)
   have HI2 := Lib.hid (HIn.out HeE.out (HW7 hS1) Hok2.out)
   clear hS
   refine Ab7 (by kernel_rfl) (by kernel_rfl) hS1 ?_
   repeat (first|go_big_quiet_skip|(refine zqN ?_)|(refine zqN ?_ (vs := [.string ak,.string aw]) (hc := by exact Cells.old (by exact memS) hpl))|(refine zq1 ?_ (hc := by first|exact Cell.old (by exact memS) hcl|exact Cell.old (by exact memS) hsq))|((apply KG7);(with_reducible rfl);rfl;rfl;rfl;kernel_rfl;exact FP7 hep;(simp only [Bool.not_true]);(refine frS ?_))|((apply KG7);(with_reducible rfl);rfl;rfl;rfl;kernel_rfl;exact FP7 her;(simp only [Bool.not_true]);(refine frS ?_))|((apply KG7);(with_reducible rfl);rfl;rfl;rfl;kernel_rfl;exact eqI _ _ _ _ _ _ _ _;(rw [heq]);(simp only [Bool.not_true]);(refine frS ?_))|(apply Ar7;rfl;(intro w;apply Ai7;(with_reducible rfl);decide +kernel;(focus (simp only [fD,fI,fJ,Act.eval,fE,fF,fG,fH,fK];try rfl)));(intro w hS;exact atA .head Hz.out hS);(refine frS ?_))|(apply Ar7;rfl;(intro w;apply Ai7;(with_reducible rfl);decide +kernel;(focus (simp only [fD,fI,fJ,Act.eval,fE,fF,fG,fH,fK];try rfl)));(intro w hS;exact at8A (.tail .head) HA2.out HV2.out Hz2.out hS);(refine frS ?_))|(apply Ar7;rfl;(intro w;apply Ai7;(with_reducible rfl);decide +kernel;(focus (simp only [fD,fI,fJ,Act.eval,fE,fF,fG,fH,fK];try rfl)));(intro w hS;exact arrA .head Hy.out hS);(refine frS ?_))|(apply Ar7;rfl;(intro w;apply Ai7;(with_reducible rfl);decide +kernel;(focus (simp only [fD,fI,fJ,Act.eval,fE,fF,fG,fH,fK];try rfl)));(intro w hS;exact arr8A (.tail .head) Hy2.out hS);(refine frS ?_))|(refine qQ ?_;intro K hK;go_big_quiet_op;go_big_quiet_on))
   clear hS1
   intro w hS
   go_wp2_with (first|go_big_skip)
   go_roundw
   case rel => exact ⟨i + 1,rfl,hil,by rw [S1.out,S2.out];exact HG2.out,by rw [S1.out];exact HI2.out,by rw [S1.out,S2.out];exact hS.sel (by exact selS)⟩
   case measure => simp [intOf];try omega
def TeR (W : World) (R : List HP) (E : Ev) (m1 r : Nat) (v4 : Value) (w : World) : Prop :=
 ∃ done todo : List (ByteArray × Nat),(done ++ todo).Perm (ptrsE E) ∧ St W (itsR v4 (done.map fun y => totI (vAt E y.1)) :: itR eS eN r m1 (ptrsE E) todo :: vauP E :: R) w
def sumVs (k : Int) : List (ByteArray × Vs) → Int
 | [] => 0
 | x :: l => totV x.2 k + sumVs k l
def totE (e : Ec) (k : Int) : Int := sumVs k e.vs
def EachV (e : Ec) : Prop := ∀ x ∈ e.vs,(∀ o ∈ x.2.L,MayP o) ∧ x.2.L.length ≤ 32
def addK (o : Opn) (r : Rpl) (b : Bool) (k : Int) : Int :=
 if b = true ∧ r.err = 0 then (if o.kind = 1 ∨ o.kind = 6 then (if k = o.item then o.cnt else 0) else if o.kind = 2 then -(if k = o.item then o.cnt else 0) else 0) else 0
section
variable {e : Ec} {o : Opn} {n : Nat}
theorem OD7 (hm : mayO o = true) (h : o.kind = 1 ∨ o.kind = 2 ∨ o.kind = 6) : Kx o.item ∧ 1 ≤ o.cnt ∧ o.cnt ≤ 1048576 ∧ whoB o.aw = true := by
 unfold mayO headB plcB at hm
 simp only [Bool.and_eq_true] at hm
 obtain ⟨⟨_,_,_,_,_,hw⟩,hk⟩ := hm
 have hc : cntB o = true := by
  unfold kindB at hk
  rcases h with h|h|h
  ·rw [if_pos h] at hk
   unfold countsB at hk
   simp only [Bool.and_eq_true] at hk
   exact hk.1
  ·rw [if_neg (by omega),if_pos h] at hk
   unfold sendsB at hk
   simp only [Bool.and_eq_true] at hk
   exact hk.2.1
  ·rw [if_neg (by omega),if_neg (by omega),if_neg (by omega),if_neg (by omega),if_neg (by omega),if_pos h] at hk
   unfold countsB at hk
   simp only [Bool.and_eq_true] at hk
   exact hk.1
 obtain ⟨h0,h4,c0,c1⟩ := Cm7 hc
 exact ⟨⟨h0,by omega⟩,c0,c1,hw⟩
end
theorem xec0 {W w : World} {R : List HP} {xb : Nat} (h : St W (xeB xb (.slice none 0 0) (.slice none 0 0) (.slice none 0 0) (.slice none 0 0) :: R) w) : St W (xecP xb ec0 :: R) w := by
 have h1 := h.rowNil (k := 2) (T := 140)
 have h2 := h1.rowNil (k := 8) (T := 40)
 have h3 := h2.rowNil (k := 8) (T := 143)
 have h4 : St W (sats [] :: _) w := St.shutS [] h3
 have h5 := h4.rowNil (k := 2) (T := 137)
 have h6 : St W (xrP (.slice none 0 0) [] :: dvaP [] :: xsP (.slice none 0 0) [] :: xtP (.slice none 0 0) [] :: xmP (.slice none 0 0) [] :: xeB xb (.slice none 0 0) (.slice none 0 0) (.slice none 0 0) (.slice none 0 0) :: R) w := h5
 exact xecShut (D := []) (d := ec0) rfl (h6.sel (by exact selS))
abbrev sumR (b : Nat) (s0 s1 s2 s3 : Int) : HP := blk b [.int .i64 s0,.int .i64 s1,.int .i64 s2,.int .i64 s3] 28
def TlR (W : World) (Lr : List HP) (eb xb sb : Nat) (xs : List Opn) (v : Value) (w : World) : Prop :=
 ∃ i : Nat,v = .int .i64 i ∧ i ≤ xs.length ∧ GOk (runD (xs.take i) ec0) (runE (xs.take i) ec0) i ∧ (∀ k,Kx k → totE (runE (xs.take i) ec0) k ≤ i * 1048576) ∧
  St W (ecP eb (runE (xs.take i) ec0) :: xecP xb (runD (xs.take i) ec0) :: sumR sb (totE (runE (xs.take i) ec0) 0) (totE (runE (xs.take i) ec0) 1) (totE (runE (xs.take i) ec0) 2) (totE (runE (xs.take i) ec0) 3) :: Lr) w
end Go.Proofs.YtlmhakmoioogaaaGreat
end
section
namespace Go.Proofs.YtlmhakmoioogaaaGreat
open Go.Shelf
def Tryz.sortInts_ren : Go.Shelf.Ren := ⟨fun|189 => 134|125 => 177|257 => 191|128 => 224|129 => 225|294 => 239|295 => 240|296 => 241|297 => 242|298 => 243|299 => 244|216 => 245|300 => 246|301 => 247|328 => 261|329 => 252|330 => 253|331 => 262|332 => 263|215 => 178|343 => 274|n => n,fun|28 => 62|3 => 3|46 => 195|0 => 0|51 => 295|53 => 194|4 => 4|183 => 289|182 => 288|131 => 134|5 => 5|9 => 9|218 => 318|222 => 262|228 => 332|229 => 181|n => n,fun|n => n⟩
end Go.Proofs.YtlmhakmoioogaaaGreat
end
section
namespace Go.Proofs.YtlmhakmoioogaaaGreat
open Go.Shelf Go.RowKit Go.Lib Go.Sort Go.Sl
abbrev eZ (z : Int) : Value := .int .i64 z
def KzR {ν : Type} (W : World) (ev : ν → Value) (X : List Int → HP) (r b : Nat) (l : List (Int × ν)) (L : List HP) (w : World) : Prop :=
 ∃ (ss : List Int) (todo : List (Int × ν)),(ss ++ todo.map (·.1)).Perm (l.map (·.1)) ∧ St W (itR eZ ev r b l todo :: X ss :: L) w
def apZ (bB : Nat) (ss : List Int) : HP := fun f => ∃ v,sep (blk bB [v] 62) (row v 1 3 ss.length (ss.map eZ)) f
def srtI (l : List Int) : List Int := l.mergeSort fun x y => decide (x ≤ y)
end Go.Proofs.YtlmhakmoioogaaaGreat
end
section
namespace Go.Proofs.YtlmhakmoioogaaaGreat
open Go.RowKit Go.Sl
def encF : Nat → Nat → List Int
 | 0,u => [(u : Int)]
 | f + 1,u => if 128 ≤ u then ((u % 128 + 128 : Nat) : Int) :: encF f (u / 128) else [(u : Int)]
def numU (n : Int) : Nat := if 4611686018427387904 < n then 4611686018427387904 else if 0 < n then n.toNat else 0
def numB (n : Int) : List Int := encF 8 (numU n)
abbrev u8s (l : List Int) : List Value := l.map (Value.int .u8)
abbrev byR (v : Value) (l : List Int) : HP := row v 1 5 l.length (u8s l)
def NmR (W : World) (L : List HP) (t : List Int) (v3 v4 : Value) (w : World) : Prop :=
 ∃ (f u : Nat) (d : List Int),v3 = .int .u64 u ∧ u < 128 ^ (f + 1) ∧ u ≤ 4611686018427387904 ∧ f ≤ 8 ∧ d.length ≤ 8 - f ∧ d ++ encF f u = t ∧ St W (byR v4 d :: L) w
end Go.Proofs.YtlmhakmoioogaaaGreat
end
section
namespace Go.Sl
open Go.RowKit
def strI (s : ByteArray) : List Int := s.data.toList.map fun b => (b.toNat : Int)
def sbR (g : Nat) (s : ByteArray) : HP := fun f => ∃ o : Obj,(∀ w : World,w.heap[g]? = some o → ∀ (j : Nat) (u : Value),((strI s).map (Value.int .u8))[j]? = some u → w.cell? ⟨g,j,none⟩ = some u) ∧ blkO g o f
section
variable {P : Program} {ops : Array Oper} {Q : Exit → Act → World → Prop} {a : Act} {w : World} {W : World} {L : List HP} {rest : List Oper} {o : Oper}
theorem Cells.sb {g : Nat} {s : ByteArray} : Cells (sbR g s :: L) g 0 ((strI s).map (Value.int .u8)) := fun j v hj W w hS => by
 obtain ⟨o,hS⟩ := St.ex hS
 obtain ⟨h1,hS⟩ := St.and hS
 rw [Nat.zero_add]
 exact h1 w (hS.get .head) j v hj
end
end Go.Sl
namespace Go.Proofs.YtlmhakmoioogaaaGreat
open Go.RowKit Go.Sl
def NsR (W : World) (L : List HP) (ns : List Int) (v3 v4 : Value) (w : World) : Prop :=
 ∃ i : Nat,v4 = .int .i64 i ∧ i ≤ ns.length ∧ St W (byR v3 ((ns.take i).flatMap numB) :: L) w
def strE (s : ByteArray) : List Int := numB s.size ++ strI s
def numsB (ns : List Int) : List Int := ns.flatMap numB
def encH (h : Hd) : List Int := strE h.who ++ numsB [h.has.x0,h.has.x1,h.has.x2,h.has.x3]
def boolI (b : Bool) : Int := if b = true then 1 else 0
def encO (o : Ord) : List Int := numB o.id ++ strE o.who ++ numsB [boolI o.buy,o.item,o.cnt,o.price]
def encV (p : Ps) (L : List Ord) (n : Int) : List Int := numB (hdL p).length ++ (hdL p).flatMap encH ++ numB L.length ++ L.flatMap encO ++ numB n
def CtR {α : Type} (W : World) (F : List HP) (f : α → List Int) (base : List Int) (xs : List α) (v3 v4 : Value) (w : World) : Prop :=
 ∃ k : Nat,v4 = .int .i64 k ∧ k ≤ xs.length ∧ St W (byR v3 (base ++ (xs.take k).flatMap f) :: F) w
def wrR (wb : Nat) (d : List Int) : HP := fun f => ∃ v : Value,sats [blk wb [v] 119,byR v d] f
section
variable {W w : World} {wb : Nat} {d : List Int} {R : List HP}
end
def WnR (W : World) (L : List HP) (wb : Nat) (d : List Int) (ns : List Int) (v : Value) (w : World) : Prop :=
 ∃ i : Nat,v = .int .i64 i ∧ i ≤ ns.length ∧ St W (wrR wb (d ++ (ns.take i).flatMap numB) :: L) w
def WuR (W : World) (L : List HP) (wb : Nat) (t : List Int) (v : Value) (w : World) : Prop :=
 ∃ (f u : Nat) (d : List Int),v = .int .u64 u ∧ u < 128 ^ (f + 1) ∧ u ≤ 4611686018427387904 ∧ d.length ≤ 100000000 + (8 - f) ∧ f ≤ 8 ∧ d ++ encF f u = t ∧ St W (wrR wb d :: L) w
end Go.Proofs.YtlmhakmoioogaaaGreat
end
section
namespace Go.Sl
open Go.RowKit
section
variable {P : Program} {ops : Array Oper} {Q : Exit → Act → World → Prop} {a : Act} {w : World} {rest : List Oper} {o : Oper}
end
end Go.Sl
namespace Go.Proofs.YtlmhakmoioogaaaGreat
open Go.RowKit Go.Sl
def WbR (W : World) (F : List Int → List HP) (d : List Int) (s : ByteArray) (v : Value) (w : World) : Prop :=
 (v = .int .i64 0 ∧ St W (F d) w) ∨ (v = .int .i64 1 ∧ St W (F (d ++ strE s)) w)
def CwR {α : Type} (W : World) (F : List HP) (wb : Nat) (f : α → List Int) (base : List Int) (xs : List α) (v : Value) (w : World) : Prop :=
 ∃ k : Nat,v = .int .i64 k ∧ k ≤ xs.length ∧ St W (wrR wb (base ++ (xs.take k).flatMap f) :: F) w
abbrev Rb := Option Addr × Nat × List Int
abbrev rbV (x : Rb) : Value := .slice x.1 x.2.2.length x.2.1
def encR (r : List Int) : List Int := numB r.length ++ r
def encRs (rs : List Rb) : List Int := rs.flatMap fun x => encR x.2.2
def WrsR (W : World) (R : List HP) (wb : Nat) (d : List Int) (rs : List Rb) (v : Value) (w : World) : Prop :=
 ∃ k : Nat,v = .int .i64 k ∧ k ≤ rs.length ∧ St W (wrR wb (d ++ encRs (rs.take k)) :: R) w
structure RpOk (r : Rpl) : Prop where
 e0 : 0 ≤ r.err
 e1 : r.err ≤ 19
 i0 : 0 ≤ r.id
 i1 : r.id ≤ 1099511627776
 has : isIt r.has = true
def rpB (r : Rpl) : List Int := numsB [r.err,r.id] ++ numsB [r.has.x0,r.has.x1,r.has.x2,r.has.x3]
def whOk (x : Int × Int) : Prop := (1 ≤ x.1 ∧ x.1 ≤ 1048576) ∧ 1 ≤ x.2 ∧ x.2 ≤ 1099511627776
structure TnOk (t : Tns) : Prop where
 w : whOk (t.client,t.seq)
 ak : t.ak.size ≤ 16
 aw : t.aw.size ≤ 16
 tk : t.tk.size ≤ 16
 tw : t.tw.size ≤ 16
 i0 : 0 ≤ t.item
 i1 : t.item < 4
 c0 : 1 ≤ t.cnt
 c1 : t.cnt ≤ 1048576
structure EnOk (e : Ec) (n : Nat) : Prop where
 ok : EOk e n
 vk : ∀ x ∈ e.vs,x.1.size ≤ 16
 sw : ∀ x ∈ e.ss,whOk (x.1,x.2.1)
 sr : ∀ x ∈ e.ss,RpOk x.2.2
 tw : ∀ x ∈ e.ts,TnOk x.2 ∧ x.1 = (x.2.client,x.2.seq)
 aw : ∀ x ∈ e.ar,whOk x.1
 lv : e.vs.length ≤ n
 ls : e.ss.length ≤ n
 lt : e.ts.length ≤ n
 la : e.ar.length ≤ n
theorem enOk0 : EnOk ec0 0 := ⟨eOk0 0,fun _ h => (by cases h),fun _ h => (by cases h),fun _ h => (by cases h),fun _ h => (by cases h),fun _ h => (by cases h),Nat.le_refl _,Nat.le_refl _,Nat.le_refl _,Nat.le_refl _⟩
theorem EnOk.on {e : Ec} {n : Nat} (h : EnOk e n) : EnOk e (n + 1) := ⟨fun x hx => (h.ok x hx).on,h.vk,h.sw,h.sr,h.tw,h.aw,Nat.le_succ_of_le h.lv,Nat.le_succ_of_le h.ls,Nat.le_succ_of_le h.lt,Nat.le_succ_of_le h.la⟩
theorem rpOk0 : RpOk rp0 := ⟨by decide,by decide,by decide,by decide,rfl⟩
theorem z00 : (0 : Int) ≤ 0 := by decide
theorem z19 : (0 : Int) ≤ 19 := by decide
theorem z40 : (0 : Int) ≤ 1099511627776 := by decide
theorem OE7 {V : Vs} {o : Opn} (hp : PsOk V.ps) (hn : 1 ≤ V.n) : RpOk (doV V o).1 := by
 unfold doV
 split
 ·have : putE V.ps o.aw (oneI o.item o.cnt) = 0 ∨ putE V.ps o.aw (oneI o.item o.cnt) = 6 ∨ putE V.ps o.aw (oneI o.item o.cnt) = 1 := by
   unfold putE
   repeat' split
   all_goals simp
  exact ⟨by show 0 ≤ putE V.ps o.aw (oneI o.item o.cnt);omega,by show putE V.ps o.aw (oneI o.item o.cnt) ≤ 19;omega,z00,z40,rfl⟩
 split
 ·have : takeE V.ps o.aw (oneI o.item o.cnt) = 0 ∨ takeE V.ps o.aw (oneI o.item o.cnt) = 14 ∨ takeE V.ps o.aw (oneI o.item o.cnt) = 1 := by
   unfold takeE
   repeat' split
   all_goals simp
  exact ⟨by show 0 ≤ takeE V.ps o.aw (oneI o.item o.cnt);omega,by show takeE V.ps o.aw (oneI o.item o.cnt) ≤ 19;omega,z00,z40,rfl⟩
 split
 ·have : ((ordV V (ordOf o)).2.1 = 0 ∨ (ordV V (ordOf o)).2.1 = 1 ∨ (ordV V (ordOf o)).2.1 = 6 ∨ (ordV V (ordOf o)).2.1 = 14) ∧ 0 ≤ (ordV V (ordOf o)).1 ∧ (ordV V (ordOf o)).1 ≤ 1099511627776 := by
   unfold ordV
   split
   ·simp
   ·split
    ·simp
    ·rename_i h
     split
     ·refine ⟨.inl rfl,by show 0 ≤ V.n;omega,by show V.n ≤ 1099511627776;omega⟩
     ·simp
  obtain ⟨h1,h2,h3⟩ := this
  exact ⟨by show 0 ≤ (ordV V (ordOf o)).2.1;omega,by show (ordV V (ordOf o)).2.1 ≤ 19;omega,h2,h3,rfl⟩
 split
 ·have : (canV V o.aw o.id).1 = 0 ∨ (canV V o.aw o.id).1 = 7 := by
   unfold canV
   split
   ·exact .inl rfl
   ·exact .inr rfl
  exact ⟨by show 0 ≤ (canV V o.aw o.id).1;omega,by show (canV V o.aw o.id).1 ≤ 19;omega,z00,z40,rfl⟩
 split
 ·exact ⟨z00,z19,z00,z40,hp _⟩
 split
 ·exact rpOk0
 ·exact rpOk0
theorem IV7 {u : ByteArray} (h : whoB u = true) : u.size ≤ 16 := KF7 h
theorem Hi7 {o : Opn} (hm : mayO o = true) : whOk (o.client,o.seq) ∧ o.ak.size ≤ 16 ∧ o.aw.size ≤ 16 := by
 unfold mayO headB plcB at hm
 simp only [Bool.and_eq_true,decide_eq_true_eq] at hm
 obtain ⟨⟨h1,h2,h3,h4,h5,h6⟩,_⟩ := hm
 exact ⟨⟨⟨h1,h2⟩,h3,h4⟩,IV7 h5,IV7 h6⟩
theorem HY7 {o : Opn} (hm : mayO o = true) (hk : o.kind = 2) : TnOk (tnsOf o) := by
 obtain ⟨h1,h2,h3⟩ := Hi7 hm
 have hc := OD7 hm (.inr (.inl hk))
 unfold mayO kindB at hm
 rw [if_neg (by omega),if_pos hk] at hm
 unfold sendsB plcB at hm
 simp only [Bool.and_eq_true,decide_eq_true_eq] at hm
 obtain ⟨_,⟨h4,h5⟩,_⟩ := hm
 exact ⟨h1,h2,h3,IV7 h4,IV7 h5,hc.1.1,by have := hc.1.2;show o.item < 4;omega,hc.2.1,hc.2.2.1⟩
theorem FV7 {κ ν : Type} [DecidableEq κ] (l : List (κ × ν)) (k : κ) : (delL l k).length ≤ l.length := List.length_filter_le _ _
theorem CG7 {κ ν : Type} [DecidableEq κ] {l : List (κ × ν)} {k : κ} {x : κ × ν} (h : x ∈ delL l k) : x ∈ l := (List.mem_filter.1 h).1
theorem EnOk.app {e : Ec} {n : Nat} (h : EnOk e n) (o : Opn) (hok : EOk (appE e o).2.2 (n + 1)) : EnOk (appE e o).2.2 (n + 1) := by
 cases hp : peekE e o with
 | mk r b =>
 cases b with
 | true =>
  rw [Eh7 hp]
  exact h.on
 | false =>
  obtain ⟨rfl,hm⟩ := BY7 hp
  rw [Db7 hp] at hok ⊢
  dsimp only at hok ⊢
  obtain ⟨hw,hak,haw⟩ := Hi7 hm
  have hV : PsOk (atV e o.ak).ps ∧ 1 ≤ (atV e o.ak).n := by
   unfold atV
   cases hg : getL e.vs o.ak with
   | none => exact ⟨FJ7,by decide⟩
   | some V => exact ⟨(h.ok _ (AG7 hg)).ok,(h.ok _ (AG7 hg)).n0⟩
  have hrp := OE7 (o := o) hV.1 hV.2
  have hlv := h.lv
  have hls := h.ls
  have hlt := h.lt
  have hla := h.la
  refine ⟨hok,?_,?_,?_,?_,?_,?_,?_,?_,?_⟩
  ·intro x hx
   have hx2 : x ∈ (if noneV (doV (atV e o.ak) o).2 = true then delL e.vs o.ak else (o.ak,(doV (atV e o.ak) o).2) :: delL e.vs o.ak) := hx
   split at hx2
   ·exact h.vk x (CG7 hx2)
   ·rcases List.mem_cons.1 hx2 with rfl|hx2
    ·exact hak
    ·exact h.vk x (CG7 hx2)
  ·intro x hx
   have hx2 : x ∈ doS e o (doV (atV e o.ak) o).1 := hx
   unfold doS at hx2
   split at hx2
   ·exact h.sw x hx2
   ·rcases List.mem_cons.1 hx2 with rfl|hx2
    ·exact hw
    ·exact h.sw x (CG7 hx2)
  ·intro x hx
   have hx2 : x ∈ doS e o (doV (atV e o.ak) o).1 := hx
   unfold doS at hx2
   split at hx2
   ·exact h.sr x hx2
   ·rcases List.mem_cons.1 hx2 with rfl|hx2
    ·exact hrp
    ·exact h.sr x (CG7 hx2)
  ·intro x hx
   have hx2 : x ∈ doT e o (doV (atV e o.ak) o).1 := hx
   unfold doT at hx2
   split at hx2
   ·rename_i h2
    rcases List.mem_cons.1 hx2 with rfl|hx2
    ·exact ⟨HY7 hm h2.1,rfl⟩
    ·exact h.tw x (CG7 hx2)
   ·split at hx2
    ·exact h.tw x (CG7 hx2)
    ·exact h.tw x hx2
  ·intro x hx
   have hx2 : x ∈ doA e o := hx
   unfold doA at hx2
   split at hx2
   ·rcases List.mem_cons.1 hx2 with rfl|hx2
    ·exact hw
    ·exact h.aw x (CG7 hx2)
   ·exact h.aw x hx2
  ·show (if noneV (doV (atV e o.ak) o).2 = true then delL e.vs o.ak else (o.ak,(doV (atV e o.ak) o).2) :: delL e.vs o.ak).length ≤ n + 1
   have := FV7 e.vs o.ak
   split
   ·omega
   ·rw [List.length_cons];omega
  ·show (doS e o (doV (atV e o.ak) o).1).length ≤ n + 1
   have := FV7 e.ss o.client
   unfold doS
   split
   ·omega
   ·rw [List.length_cons];omega
  ·show (doT e o (doV (atV e o.ak) o).1).length ≤ n + 1
   have := FV7 e.ts (o.client,o.seq)
   unfold doT
   split
   ·rw [List.length_cons];omega
   ·split <;> omega
  ·show (doA e o).length ≤ n + 1
   have := FV7 e.ar (o.client,o.seq)
   unfold doA
   split
   ·rw [List.length_cons];omega
   ·omega
end Go.Proofs.YtlmhakmoioogaaaGreat
end
section
namespace Go.Proofs.YtlmhakmoioogaaaGreat
open Go.Shelf
def Tryz.keysV_ren : Go.Shelf.Ren := ⟨fun|7 => 63|10 => 131|n => n,fun|23 => 79|26 => 9|3 => 100|28 => 115|0 => 0|27 => 114|33 => 178|4 => 4|n => n,fun|n => n⟩
theorem Tryz.keysV : Go.Proofs.SlLaysZ.n7 Tryz.prog Tryz.keysV_ren := {
 mixed := by kernel_rfl
 f7 := ⟨Tryz.f63.name,by decide,Tryz.func63.trans (congrArg some (by kernel_rfl))⟩
 f10 := ⟨Tryz.f131.name,by decide,Tryz.func131.trans (congrArg some (by kernel_rfl))⟩
 t0 := Tryz.underlying0
 a0 := Tryz.isAgg0
 z0 := Tryz.sizeOf0
 v0 := Tryz.zeroValue0
 t4 := Tryz.underlying4
 a4 := Tryz.isAgg4
 z4 := Tryz.sizeOf4
 v4 := Tryz.zeroValue4
 t23 := Tryz.underlying79
 a23 := Tryz.isAgg79
 z23 := Tryz.sizeOf79
 v23 := Tryz.zeroValue79
 t26 := Tryz.underlying9
 a26 := Tryz.isAgg9
 z26 := Tryz.sizeOf9
 v26 := Tryz.zeroValue9
 t27 := Tryz.underlying114
 a27 := Tryz.isAgg114
 z27 := Tryz.sizeOf114
 v27 := Tryz.zeroValue114
 t28 := Tryz.underlying115
 a28 := Tryz.isAgg115
 z28 := Tryz.sizeOf115
 v28 := Tryz.zeroValue115
 t33 := Tryz.underlying178
 a33 := Tryz.isAgg178
 z33 := Tryz.sizeOf178
 v33 := Tryz.zeroValue178 }
end Go.Proofs.YtlmhakmoioogaaaGreat
end
