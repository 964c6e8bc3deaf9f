/-
  The program's Writer: names, all that it laid. For all of them.
  The program's vault as bytes. For every vault.
  The program's Writer: rows of bytes from anywhere. For all of them.
  A reply as bytes, the program's. For every reply that may be.
-/
import Derived.Test.YtlmhakmoioogaaaGreatEconOnceM5
import Derived.Test.YtlmhakmoioogaaaGreatEconOnceM26
import Derived.Test.YtlmhakmoioogaaaGreatEconOnceM47
import Derived.Lib.SliceRun
set_option maxHeartbeats 16000000
set_option maxRecDepth 100000
set_option linter.unusedSimpArgs false
set_option linter.unusedVariables false
section
namespace Go.Sl
open Go.RowKit
section
variable {P : Program} {ops : Array Oper} {Q : Exit → Act → World → Prop} {a : Act} {w : World} {rest : List Oper} {o : Oper}
theorem OU7 {t t2 e : TypeId} {x y : Operand} {a0 : Addr} {n c : Nat} (ho : o.op = .binOp .eql t x y t2) (hg : Region.wanted o (yielded ops a.tmps) = true) (hx : a.eval x = .slice (some a0) n c) (hy : a.eval y = .slice none 0 0) (ht : P.underlying t = some (.slice e))
  (h : wpList P ops Q rest (a.put o.dst (.bool false)) w) : wpList P ops Q (o :: rest) a w := by
 refine Ap7 hg (v := .bool false) (w' := w) ?_ h
 have h1 : (binOp .eql t (.slice (some a0) n c) (.slice none 0 0)).run P w = .ok (.bool false) w := Lib.run_eql_slice_nil w t e (some a0) n c 0 0 ht
 unfold execOp
 simp [ho,hx,hy,eqGuard,h1]
end
end Go.Sl
namespace Go.Proofs.YtlmhakmoioogaaaGreat
open Go.RowKit Go.Sl
theorem raw_w (wb : Nat) (d : List Int) (s : ByteArray) (g c : Nat) (hd : d.length ≤ 90001000) (hs : s.size ≤ 1000000) (W w : World) (R : List HP) (hS : St W (wrR wb d :: sbR g s :: R) w) :
  Calls Tryz.prog 132 #[.pointer (some ⟨wb,0,none⟩),.slice (some ⟨g,0,none⟩) s.size c] w fun e w' => e = .returned (.tuple #[]) ∧ St W (wrR wb (d ++ strI s) :: sbR g s :: R) w' := by
 obtain ⟨wa,wc,hS1⟩ := wrOpen hS
 clear hS
 have hS := hS1
 clear hS1
 go_enter Tryz.func132,Tryz.ntmps132
 go_wp2_with (first|(refine zl1 hS ?_)|((with_reducible apply Ah7 hS);(with_reducible rfl);rfl;rfl;rfl;(exact esS);(exact rsS);rfl;decide;(exact takeS);exact Src.mk (Cells.there (Cells.there Cells.sb));(focus (rw [List.length_map,AS7,Nat.mul_one]));(exact LV7 _);(focus (unfold maxLen;omega));(focus (omega));clear hS;intro v w hS;(have hv := hS.rowVal;obtain ⟨va,vc,rfl⟩ := hv);(refine frS ?_))|(refine zs1 hS ?_;clear hS;intro w hS))
 go_end0
 have hS1 := hS.sel (L' := row (.slice va (d.length + s.size) vc) 1 _ _ _ :: blk wb _ _ :: sbR g s :: R) (by exact selS)
 have h0 : St W (row (.slice va (d.length + s.size) vc) 1 5 (d.length + s.size) (u8s d ++ u8s (strI s)) :: _) w := hS1
 rw [← LW7] at h0
 exact ⟨rfl,wrShut (Hw7 (by rw [List.length_append,AS7]) h0).swap⟩
def WbR (W : World) (F : List Int → List HP) (d : List Int) (s : ByteArray) (v : Value) (w : World) : Prop :=
 (v = .int .i64 0 ∧ St W (F d) w) ∨ (v = .int .i64 1 ∧ St W (F (d ++ strE s)) w)
theorem Iq7 (wb : Nat) (d : List Int) (s : ByteArray) (b g c c1 : Nat) (hd : d.length ≤ 90000000) (hs : s.size ≤ 1000000) (W w : World) (R : List HP) (hS : St W (wrR wb d :: blk b [.slice (some ⟨g,0,none⟩) s.size c] 63 :: sbR g s :: R) w) :
  Calls Tryz.prog 66 #[.pointer (some ⟨wb,0,none⟩),.slice (some ⟨b,0,none⟩) 1 c1] w fun e w' => e = .returned (.tuple #[]) ∧ St W (wrR wb (d ++ strE s) :: blk b [.slice (some ⟨g,0,none⟩) s.size c] 63 :: sbR g s :: R) w' := by
 have hln := Ax7 s.size
 go_enter Tryz.func66,Tryz.ntmps66
 go_wp2_with (fail)
 go_loopw [8] (fun v wr => WbR W (fun q => wrR wb q :: blk b [.slice (some ⟨g,0,none⟩) s.size c] 63 :: sbR g s :: R) d s v wr) (fun v _ => 1 - (intOf v).toNat)
 case atStart => exact .inl ⟨rfl,hS⟩
 case round =>
  clear hS
  rcases hrel with ⟨rfl,hS⟩|⟨rfl,hS⟩
  ·have hn : ∀ x ∈ [(s.size : Int)], -9223372036854775808 ≤ x ∧ x ≤ 9223372036854775807 := by
    intro x hx
    rw [List.mem_singleton.1 hx]
    exact ⟨by omega,by omega⟩
   have Hn := Lib.hid hn
   clear hn
   have hdl : (d ++ [(s.size : Int)].flatMap numB).length ≤ 90001000 := by rw [List.length_append];simp;omega
   have e : d ++ [(s.size : Int)].flatMap numB ++ strI s = d ++ strE s := by unfold strE;rw [List.append_assoc];simp
   have Hdl := Lib.hid hdl
   have E := Lib.hid e
   clear hdl e
   go_wp2_with (first|(refine zl1 hS ?_)|(refine zbs hS ?_;clear hS;intro bS w hS)|(go_at_call 65;refine (LZ7 wb d [(s.size : Int)] bS 1 hd (by simp) Hn.out W _ _ (hS.sel (L' := wrR wb d :: blk bS _ _ :: blk b _ _ :: sbR g s :: R) (by exact selS))).mono ?_;clear hS;rintro e w ⟨rfl,hS⟩)|(go_at_call 132;refine (raw_w wb _ s g c Hdl.out hs W _ _ (hS.sel (L' := wrR wb _ :: sbR g s :: blk b _ _ :: R) (by exact selS))).mono ?_;clear hS;rw [E.out];rintro e w ⟨rfl,hS⟩))
   go_roundw
   case rel => exact .inr ⟨rfl,hS.sel (by exact selS)⟩
   case measure => simp [intOf]
  ·go_wp2_with (fail)
   go_end0
   exact ⟨rfl,hS⟩
theorem OV7 (d : List Int) (g c : Nat) (hd : d.length ≤ 100000000) (W w : World) (R : List HP) (hS : St W (byR (.slice (some ⟨g,0,none⟩) d.length c) d :: R) w) :
  Calls Tryz.prog 138 #[.slice (some ⟨g,0,none⟩) d.length c] w fun e w' => ∃ v,e = .returned v ∧ St W (byR v d :: byR (.slice (some ⟨g,0,none⟩) d.length c) d :: R) w' := by
 go_enter Tryz.func138,Tryz.ntmps138
 go_wp2_with (first|((with_reducible apply OU7);(with_reducible rfl);rfl;rfl;rfl;exact Tryz.underlying63;(refine frS ?_))|((with_reducible apply Bg7 (n := 0) hS);(with_reducible rfl);rfl;(focus (simp only [fD,fI,fJ,Act.eval,fE,fF,fG,fH,fK];try rfl));(exact esS);(exact rsS);rfl;rfl;rfl;rfl;rfl;decide;clear hS;intro bv w hS;(refine frS ?_))|((with_reducible apply Ah7 hS);(with_reducible rfl);rfl;rfl;rfl;(exact esS);(exact rsS);rfl;decide;(exact takeS);exact (St.src (by decide) hS.drop).there;(focus (rw [LX7,Nat.mul_one]));(exact LV7 _);(focus (unfold maxLen;omega));(focus (omega));clear hS;intro v w hS;(have hv := hS.rowVal;obtain ⟨va,vc,rfl⟩ := hv);(refine frS ?_)))
 go_ret
 refine ⟨_,rfl,?_⟩
 have h0 : St W (row (.slice va (0 + d.length) vc) 1 5 (0 + d.length) (u8s ([] ++ d)) :: _) w := hS
 have h2 := Hw7 (by rw [List.nil_append,Nat.zero_add]) h0
 rw [List.nil_append] at h2
 exact h2
theorem out_w (wb : Nat) (d : List Int) (hd : d.length ≤ 100000000) (h0 : 0 < d.length) (W w : World) (R : List HP) (hS : St W (wrR wb d :: R) w) :
  Calls Tryz.prog 72 #[.pointer (some ⟨wb,0,none⟩)] w fun e w' => ∃ v,e = .returned v ∧ St W (byR v d :: wrR wb d :: R) w' := by
 obtain ⟨wa,wc,hS1⟩ := wrOpen hS
 clear hS
 have hS := hS1
 clear hS1
 obtain ⟨⟨g,rfl⟩,hcap,hcn⟩ := St.rowAddr hS.drop (by omega)
 go_enter Tryz.func72,Tryz.ntmps72
 go_wp2_with (first|(refine zl1 hS ?_)|(go_at_call 138;refine (OV7 d g wc hd W _ _ hS.swap).mono ?_;clear hS;rintro e w ⟨v,rfl,hS⟩))
 go_ret
 have hS1 := hS.sel (L' := blk wb _ _ :: byR (.slice (some ⟨g,0,none⟩) d.length wc) d :: byR v d :: R) (by exact selS)
 exact ⟨v,rfl,(wrShut hS1).swap⟩
theorem wrNew {W w : World} {wb : Nat} {L : List HP} (h : St W (blk wb [.slice none 0 0] 119 :: L) w) : St W (wrR wb [] :: L) w := by
 have h1 := (h.rowNil (k := 1) (T := 5)).swap
 exact wrShut (d := []) h1
theorem Ex7 (n : Int) : 0 < (numB n).length := by
 unfold numB
 rw [show (8 : Nat) = 7 + 1 from rfl,encF]
 split <;> simp
theorem nums1E (wb : Nat) (d : List Int) (x : Int) (b c : Nat) (hd : d.length ≤ 90000000) (hx : -9223372036854775808 ≤ x ∧ x ≤ 9223372036854775807) (W w : World) (R : List HP) (hS : St W (wrR wb d :: blk b [.int .i64 x] 3 :: R) w) :
  Calls Tryz.prog 65 #[.pointer (some ⟨wb,0,none⟩),.slice (some ⟨b,0,none⟩) 1 c] w fun e w' => e = .returned (.tuple #[]) ∧ St W (wrR wb (d ++ numB x) :: blk b [.int .i64 x] 3 :: R) w' := by
 have h := LZ7 wb d [x] b c hd (by simp) (fun y hy => by rw [List.mem_singleton.1 hy];exact hx) W w R hS
 simpa using h
theorem nums4E (wb : Nat) (d : List Int) (x0 x1 x2 x3 : Int) (g off c : Nat) (hd : d.length ≤ 90000000) (hn : ∀ x ∈ [x0,x1,x2,x3], -9223372036854775808 ≤ x ∧ x ≤ 9223372036854775807) (W w : World) (R : List HP) (hc0 : Cell R g off (.int .i64 x0)) (hc1 : Cell R g (off + 1) (.int .i64 x1)) (hc2 : Cell R g (off + 2) (.int .i64 x2)) (hc3 : Cell R g (off + 3) (.int .i64 x3)) (hS : St W (wrR wb d :: R) w) :
  Calls Tryz.prog 65 #[.pointer (some ⟨wb,0,none⟩),.slice (some ⟨g,off,none⟩) 4 c] w fun e w' => e = .returned (.tuple #[]) ∧ St W (wrR wb (d ++ numsB [x0,x1,x2,x3]) :: R) w' :=
 NS7 wb d [x0,x1,x2,x3] g off c hd (by simp) hn W w R (fun i hi => by
  have hi4 : i = 0 ∨ i = 1 ∨ i = 2 ∨ i = 3 := by simp at hi;omega
  rcases hi4 with rfl|rfl|rfl|rfl
  ·exact hc0
  ·exact hc1
  ·exact hc2
  ·exact hc3) hS
def CwR {α : Type} (W : World) (F : List HP) (wb : Nat) (f : α → List Int) (base : List Int) (xs : List α) (v : Value) (w : World) : Prop :=
 ∃ k : Nat,v = .int .i64 k ∧ k ≤ xs.length ∧ St W (wrR wb (base ++ (xs.take k).flatMap f) :: F) w
theorem encodeV (vb mb bb : Nat) (p : Ps) (L : List Ord) (n : Int) {N : Nat} (hp : PsOk p) (hw : PsW p N) (hN : N ≤ 1000000) (hn0 : 1 ≤ n) (hn1 : n ≤ 1099511627777) (W w : World) (R : List HP) (hS : St W (vaultL vb mb bb p L n R) w) :
  Calls Tryz.prog 67 #[.pointer (some ⟨vb,0,none⟩)] w fun e w' => ∃ v,e = .returned v ∧ St W (byR v (encV p L n) :: vaultL vb mb bb p L n R) w' := by
 have hlh : (hdL p).length ≤ 1000000 := by rw [CL7];exact Nat.le_trans hw.len hN
 have hl32 := BZ7 hS.drop.drop
 have hmay : ∀ x ∈ L,MayP x := fun x hx => (Bs7 hS.drop.drop x hx).1
 have hhw : ∀ x ∈ hdL p,x.who.size ≤ 16 ∧ isIt x.has = true := fun x hx => by
  refine ⟨?_,by rw [DW7 hx];exact hp _⟩
  have hk : x.who ∈ (hdL p).map Hd.who := List.mem_map_of_mem hx
  rw [Gj7] at hk
  obtain ⟨y,hy,e⟩ := Li7 hk
  rw [← e]
  exact Ga7 (hw.who y hy)
 have hN2 : N ≤ 1000000000 := by omega
 have Hmay := Lib.hid hmay
 have Hhw := Lib.hid hhw
 have Hw := Lib.hid hw
 clear hmay hw hp hhw
 unfold encV
 go_enter Tryz.func67,Tryz.ntmps67
 go_wp2_with (first|(go_at_call 124;refine (DR7 vb mb bb p L n Hw.out hN2 W _ _ hS).mono ?_;clear hS;rintro e w ⟨sa,sc,oa,oc,rfl,hS⟩)|((fail_if_success (have := wb));(with_reducible apply Ao7 hS);(with_reducible rfl);rfl;(exact zsS);clear hS;intro wb w hS;(refine frS ?_))|(refine zbs hS ?_;clear hS;intro bS w hS)|(go_at_call 65;refine (nums1E wb [] ((hdL p).length : Int) bS 1 (by simp) ⟨by omega,by omega⟩ W _ _ (wrNew (hS.sel (L' := blk wb _ _ :: blk bS _ _ :: blk vb _ _ :: amap eS eP mb p :: bookL bb L n :: hdR (.slice sa (hdL p).length sc) (hdL p) :: pileR (.slice oa L.length oc) L :: R) (by exact selS)))).mono ?_;clear hS;rw [List.nil_append];rintro e w ⟨rfl,hS⟩))
 have hS1 := hS.sel (L' := wrR wb _ :: blk vb _ _ :: amap eS eP mb p :: bookL bb L n :: hdR (.slice sa (hdL p).length sc) (hdL p) :: pileR (.slice oa L.length oc) L :: R) (by exact selS)
 clear hS
 have hS := hS1
 clear hS1
 generalize hhs : hdL p = hs at hS hlh Hhw
 have Hhs := Lib.hid hhs
 clear hhs
 go_loopw [26] (fun v wr => CwR W (vaultL vb mb bb p L n (hdR (.slice sa hs.length sc) hs :: pileR (.slice oa L.length oc) L :: R)) wb encH (numB hs.length) hs v wr) (fun v _ => hs.length - (intOf v).toNat)
 case atStart => exact ⟨0,rfl,Nat.zero_le _,by simpa using hS⟩
 case round =>
  clear hS
  obtain ⟨k,rfl,hkl,hS⟩ := hrel
  by_cases hkn : k = hs.length
  ·rw [hkn,List.take_length] at hS
   have hd1 : decide (k < hs.length) = false := by simp;omega
   clear hkl hkn
   have hlkk := Ax7 hs.length
   generalize hacc : numB hs.length ++ hs.flatMap encH = acc at hS
   have hal : acc.length ≤ 70000100 := by
    have h1 := DX7 encH hs fun x hx => Gm7 x (Hhw.out x hx).1
    rw [← hacc,List.length_append]
    omega
   have Hacc := Lib.hid hacc
   clear hacc hlkk
   have hln := Ax7 L.length
   go_wp2_with (first|(refine zbs hS ?_;clear hS;intro bS w hS)|(go_at_call 65;refine (nums1E wb acc (L.length : Int) bS 1 (by omega) ⟨by omega,by omega⟩ W _ _ (hS.sel (L' := wrR wb acc :: blk bS _ _ :: blk vb _ _ :: amap eS eP mb p :: bookL bb L n :: hdR _ hs :: pileR (.slice oa L.length oc) L :: R) (by exact selS))).mono ?_;clear hS;rintro e w ⟨rfl,hS⟩))
   have hS1 := hS.sel (L' := wrR wb _ :: blk vb _ _ :: amap eS eP mb p :: bookL bb L n :: hdR (.slice sa hs.length sc) hs :: pileR (.slice oa L.length oc) L :: R) (by exact selS)
   clear hS
   have hS := hS1
   clear hS1
   go_loopw [45] (fun v wr => CwR W (vaultL vb mb bb p L n (hdR (.slice sa hs.length sc) hs :: pileR (.slice oa L.length oc) L :: R)) wb encO (acc ++ numB L.length) L v wr) (fun v _ => L.length - (intOf v).toNat)
   case atStart => exact ⟨0,rfl,Nat.zero_le _,by simpa using hS⟩
   case round =>
    clear hS
    obtain ⟨j,rfl,hjl,hS⟩ := hrel
    by_cases hjn : j = L.length
    ·rw [hjn,List.take_length] at hS
     have hd2 : decide (j < L.length) = false := by simp;omega
     clear hjl hjn
     have hlo := DX7 encO L fun x hx => Gn7 x (Hmay.out x hx).who1
     generalize hd : acc ++ numB L.length ++ L.flatMap encO = d at hS
     have hdl : d.length ≤ 70010000 := by rw [← hd,List.length_append,List.length_append];omega
     have Hd2 := Lib.hid hd
     have hlq := Ax7 n
     have hlz : 0 < (d ++ numB n).length := by
      have : 0 < (numB n).length := Ex7 n
      rw [List.length_append]
      omega
     have hlz2 : (d ++ numB n).length ≤ 100000000 := by rw [List.length_append];omega
     have Hz := Lib.hid hlz
     have Hz2 := Lib.hid hlz2
     clear hd hlz hlz2
     go_wp2_with (first|(refine zbs hS ?_;clear hS;intro bS w hS)|(go_at_call 65;refine (nums1E wb d n bS 1 (by omega) ⟨by omega,by omega⟩ W _ _ (hS.sel (L' := wrR wb d :: blk bS _ _ :: blk vb _ _ :: amap eS eP mb p :: bookL bb L n :: hdR _ hs :: pileR (.slice oa L.length oc) L :: R) (by exact selS))).mono ?_;clear hS;rintro e w ⟨rfl,hS⟩)|(go_at_call 72;refine (out_w wb _ Hz2.out Hz.out W _ _ hS).mono ?_;clear hS;rintro e w ⟨vo,rfl,hS⟩))
     go_ret
     refine ⟨vo,rfl,?_⟩
     rw [Hhs.out,Hacc.out,Hd2.out]
     exact hS.sel (by exact selS)
    ·have hj1 : j < L.length := by omega
     obtain ⟨⟨g,rfl⟩,hcap,hcn⟩ := St.rowAddr hS.drop.drop.drop.drop.drop (by omega)
     have hcells : ∀ {K K' : List HP},Take K (pileR (.slice (some ⟨g,0,none⟩) L.length oc) L) K' → Cells K g (j * 6) (Ord.cells L[j]) := fun hu => Cells.elemM (enc := Ord.cells) Ord.len hu hj1
     have hst := CG7 encO (acc ++ numB L.length) L hj1
     have hmx := Hmay.out _ (List.getElem_mem hj1)
     have hlt := DX7 encO (L.take j) fun x hx => Gn7 x (Hmay.out x (List.mem_of_mem_take hx)).who1
     rw [List.length_take] at hlt
     generalize hd : acc ++ numB L.length ++ (L.take j).flatMap encO = d at hS hst
     have hdl : d.length ≤ 70010000 := by rw [← hd,List.length_append,List.length_append];omega
     generalize L[j] = x at hcells hst hmx
     obtain ⟨oi,ou,oy,ot,oc2,op⟩ := x
     have i0 : 1 ≤ oi := hmx.id0
     have i1 : oi ≤ 1099511627776 := hmx.id1
     have w1 : ou.size ≤ 16 := hmx.who1
     have t0 : 1 ≤ ot := hmx.item0
     have t1 : ot ≤ 3 := hmx.item1
     have c0 : 1 ≤ oc2 := hmx.cnt0
     have c1 : oc2 ≤ 1048576 := hmx.cnt1
     have p0 : 1 ≤ op := hmx.price0
     have p1 : op ≤ 1024 := hmx.price1
     have l1 := Ax7 oi
     have l4 := Ew7 ou w1
     have Hst := Lib.hid hst
     clear hst hmx hd hlt hjn hjl
     simp only [Ord.cells] at hcells
     have hq1 : (d ++ numB oi).length ≤ 90000000 := by rw [List.length_append];omega
     have hq2 : (d ++ numB oi ++ strE ou).length ≤ 90000000 := by rw [List.length_append,List.length_append];omega
     have Hq1 := Lib.hid hq1
     have Hq2 := Lib.hid hq2
     clear hq1 hq2
     cases oy with
     | false =>
      have Hst2 := Lib.hid (show acc ++ numB L.length ++ (L.take (j + 1)).flatMap encO = d ++ numB oi ++ strE ou ++ numsB [0,ot,oc2,op] by rw [Hst.out];unfold encO;simp [boolI,List.append_assoc])
      have hn : ∀ x ∈ [(0 : Int),ot,oc2,op], -9223372036854775808 ≤ x ∧ x ≤ 9223372036854775807 := by
       intro x hx
       simp only [List.mem_cons,List.not_mem_nil,or_false] at hx
       rcases hx with rfl|rfl|rfl|rfl
       all_goals exact ⟨by omega,by omega⟩
      have Hn := Lib.hid hn
      clear hn
      go_wp2_with (first|(refine zlN hS ?_ (hc := by exact hcells (by exact takeS)))|((fail_if_success (have := b8));((have := wb);(with_reducible apply Ao7 hS);(with_reducible rfl);rfl;(exact zsS);clear hS;intro b8 w hS;(refine frS ?_)))|(refine zsN hS ?_;clear hS;intro w hS)|(refine zl1 hS ?_)|((with_reducible apply AR7 hS);(with_reducible rfl);rfl;rfl;exact Tryz.underlying9;exact Tryz.underlying63;exact Tryz.underlying5;clear hS;intro g9 c9 w hS;(refine frS ?_))|(refine zbs hS ?_;clear hS;intro bS w hS)|((fail_if_success (have := mN1));go_at_call 65;refine (nums1E wb d oi bS 1 (by omega) ⟨by omega,by omega⟩ W _ _ (hS.sel (L' := wrR wb d :: blk bS _ _ :: blk b8 _ _ :: blk vb _ _ :: amap eS eP mb p :: bookL bb L n :: hdR _ hs :: pileR _ L :: R) (by exact selS))).mono ?_;clear hS;rintro e w ⟨rfl,hS⟩;have mN1 : Nat := 0)|(go_at_call 66;(have hS2 : St W (blk bS [.slice (some ⟨g9,0,none⟩) ou.size c9] 63 :: _) _ := hS);refine (Iq7 wb (d ++ numB oi) ou bS g9 c9 1 Hq1.out (by omega) W _ _ (hS2.sel (L' := wrR wb _ :: blk bS _ _ :: sbR g9 ou :: blk b8 _ _ :: blk vb _ _ :: amap eS eP mb p :: bookL bb L n :: hdR _ hs :: pileR _ L :: R) (by exact selS))).mono ?_;clear hS hS2;rintro e w ⟨rfl,hS⟩)|((have := mN1);go_at_call 65;(have hS2 : St W (blk bS [.int .i64 0,.int .i64 ot,.int .i64 oc2,.int .i64 op] 3 :: _) _ := hS);refine (nums4E wb (d ++ numB oi ++ strE ou) 0 ot oc2 op bS 0 4 Hq2.out Hn.out W _ (blk bS [.int .i64 0,.int .i64 ot,.int .i64 oc2,.int .i64 op] 3 :: blk vb _ _ :: amap eS eP mb p :: bookL bb L n :: hdR _ hs :: pileR _ L :: R) (Cell.here rfl) (Cell.here rfl) (Cell.here rfl) (Cell.here rfl) (hS2.sel (by exact selS))).mono ?_;clear hS hS2;rintro e w ⟨rfl,hS⟩))
      go_roundw
      case rel => exact ⟨j + 1,rfl,hj1,by rw [Hst2.out];exact hS.sel (by exact selS)⟩
      case measure => simp [intOf];omega
     | true =>
      have Hst2 := Lib.hid (show acc ++ numB L.length ++ (L.take (j + 1)).flatMap encO = d ++ numB oi ++ strE ou ++ numsB [1,ot,oc2,op] by rw [Hst.out];unfold encO;simp [boolI,List.append_assoc])
      have hn : ∀ x ∈ [(1 : Int),ot,oc2,op], -9223372036854775808 ≤ x ∧ x ≤ 9223372036854775807 := by
       intro x hx
       simp only [List.mem_cons,List.not_mem_nil,or_false] at hx
       rcases hx with rfl|rfl|rfl|rfl
       all_goals exact ⟨by omega,by omega⟩
      have Hn := Lib.hid hn
      clear hn
      go_wp2_with (first|(refine zlN hS ?_ (hc := by exact hcells (by exact takeS)))|((fail_if_success (have := b8));((have := wb);(with_reducible apply Ao7 hS);(with_reducible rfl);rfl;(exact zsS);clear hS;intro b8 w hS;(refine frS ?_)))|(refine zsN hS ?_;clear hS;intro w hS)|(refine zl1 hS ?_)|((with_reducible apply AR7 hS);(with_reducible rfl);rfl;rfl;exact Tryz.underlying9;exact Tryz.underlying63;exact Tryz.underlying5;clear hS;intro g9 c9 w hS;(refine frS ?_))|(refine zbs hS ?_;clear hS;intro bS w hS)|((fail_if_success (have := mN1));go_at_call 65;refine (nums1E wb d oi bS 1 (by omega) ⟨by omega,by omega⟩ W _ _ (hS.sel (L' := wrR wb d :: blk bS _ _ :: blk b8 _ _ :: blk vb _ _ :: amap eS eP mb p :: bookL bb L n :: hdR _ hs :: pileR _ L :: R) (by exact selS))).mono ?_;clear hS;rintro e w ⟨rfl,hS⟩;have mN1 : Nat := 0)|(go_at_call 66;(have hS2 : St W (blk bS [.slice (some ⟨g9,0,none⟩) ou.size c9] 63 :: _) _ := hS);refine (Iq7 wb (d ++ numB oi) ou bS g9 c9 1 Hq1.out (by omega) W _ _ (hS2.sel (L' := wrR wb _ :: blk bS _ _ :: sbR g9 ou :: blk b8 _ _ :: blk vb _ _ :: amap eS eP mb p :: bookL bb L n :: hdR _ hs :: pileR _ L :: R) (by exact selS))).mono ?_;clear hS hS2;rintro e w ⟨rfl,hS⟩)|((have := mN1);go_at_call 65;(have hS2 : St W (blk bS [.int .i64 1,.int .i64 ot,.int .i64 oc2,.int .i64 op] 3 :: _) _ := hS);refine (nums4E wb (d ++ numB oi ++ strE ou) 1 ot oc2 op bS 0 4 Hq2.out Hn.out W _ (blk bS [.int .i64 1,.int .i64 ot,.int .i64 oc2,.int .i64 op] 3 :: blk vb _ _ :: amap eS eP mb p :: bookL bb L n :: hdR _ hs :: pileR _ L :: R) (Cell.here rfl) (Cell.here rfl) (Cell.here rfl) (Cell.here rfl) (hS2.sel (by exact selS))).mono ?_;clear hS hS2;rintro e w ⟨rfl,hS⟩))
      go_roundw
      case rel => exact ⟨j + 1,rfl,hj1,by rw [Hst2.out];exact hS.sel (by exact selS)⟩
      case measure => simp [intOf];omega
  ·have hk1 : k < hs.length := by omega
   obtain ⟨⟨g,rfl⟩,hcap,hcn⟩ := St.rowAddr hS.drop.drop.drop.drop (by omega)
   have hcells : ∀ {K K' : List HP},Take K (hdR (.slice (some ⟨g,0,none⟩) hs.length sc) hs) K' → Cells K g (k * 5) (Hd.cells hs[k]) := fun hu => Cells.elemM (enc := Hd.cells) Hd.len hu hk1
   have hst := CG7 encH (numB hs.length) hs hk1
   have hmx := Hhw.out _ (List.getElem_mem hk1)
   have hlt := DX7 encH (hs.take k) fun x hx => Gm7 x (Hhw.out x (List.mem_of_mem_take hx)).1
   rw [List.length_take] at hlt
   have hlk := Ax7 hs.length
   generalize hd : numB hs.length ++ (hs.take k).flatMap encH = d at hS hst
   have hdl : d.length ≤ 70000100 := by rw [← hd,List.length_append];omega
   generalize hs[k] = x at hcells hst hmx
   obtain ⟨xw,⟨x0,x1,x2,x3⟩⟩ := x
   obtain ⟨w1,hit⟩ := hmx
   simp only at w1
   obtain ⟨a0,a1,a2,a3⟩ := Ak7.1 hit
   simp only at a0 a1 a2 a3
   have hn : ∀ x ∈ [x0,x1,x2,x3], -9223372036854775808 ≤ x ∧ x ≤ 9223372036854775807 := by
    intro x hx
    simp only [List.mem_cons,List.not_mem_nil,or_false] at hx
    rcases hx with rfl|rfl|rfl|rfl
    all_goals exact ⟨by omega,by omega⟩
   have l4 := Ew7 xw w1
   have hdl2 : (d ++ strE xw).length ≤ 90000000 := by rw [List.length_append];omega
   have Hdl2 := Lib.hid hdl2
   have Hn := Lib.hid hn
   have Hst := Lib.hid (show numB hs.length ++ (hs.take (k + 1)).flatMap encH = d ++ strE xw ++ numsB [x0,x1,x2,x3] by rw [hst,List.append_assoc];rfl)
   clear hst hit hd hlt hkn hkl hdl2 hn
   simp only [Hd.cells,It.cells] at hcells
   go_wp2_with (first|(refine zlN hS ?_ (hc := by exact hcells (by exact takeS)))|((fail_if_success (have := b8));((have := wb);(with_reducible apply Ao7 hS);(with_reducible rfl);rfl;(exact zsS);clear hS;intro b8 w hS;(refine frS ?_)))|(refine zsN hS ?_;clear hS;intro w hS)|(refine zl1 hS ?_)|((with_reducible apply AR7 hS);(with_reducible rfl);rfl;rfl;exact Tryz.underlying9;exact Tryz.underlying63;exact Tryz.underlying5;clear hS;intro g9 c9 w hS;(refine frS ?_))|((with_reducible apply wl_bs hS);(with_reducible rfl);rfl;(focus (simp only [fD,fI,fJ,Act.eval,fE,fF,fG,fH,fK];try rfl));(exact esS);(exact rsS);rfl;rfl;rfl;rfl;clear hS;intro bT w hS;(refine frS ?_))|(go_at_call 66;refine (Iq7 wb d xw bT g9 c9 1 (by omega) (by omega) W _ _ (hS.sel (L' := wrR wb d :: blk bT _ _ :: sbR g9 xw :: blk b8 _ _ :: blk vb _ _ :: amap eS eP mb p :: bookL bb L n :: hdR _ hs :: pileR _ L :: R) (by exact selS))).mono ?_;clear hS;rintro e w ⟨rfl,hS⟩)|(go_at_call 65;refine (nums4E wb (d ++ strE xw) x0 x1 x2 x3 b8 1 4 Hdl2.out Hn.out W _ (blk b8 [.string xw,.int .i64 x0,.int .i64 x1,.int .i64 x2,.int .i64 x3] 189 :: blk vb _ _ :: amap eS eP mb p :: bookL bb L n :: hdR _ hs :: pileR _ L :: R) (Cell.here rfl) (Cell.here rfl) (Cell.here rfl) (Cell.here rfl) (hS.sel (by exact selS))).mono ?_;clear hS;rintro e w ⟨rfl,hS⟩))
   go_roundw
   case rel => exact ⟨k + 1,rfl,hk1,by rw [Hst.out];exact hS.sel (by exact selS)⟩
   case measure => simp [intOf];omega
abbrev Rb := Option Addr × Nat × List Int
abbrev rbV (x : Rb) : Value := .slice x.1 x.2.2.length x.2.1
def encR (r : List Int) : List Int := numB r.length ++ r
def encRs (rs : List Rb) : List Int := rs.flatMap fun x => encR x.2.2
theorem AW7 (r : List Int) : (encR r).length ≤ r.length + 9 := by
 have := Ax7 r.length
 unfold encR
 rw [List.length_append]
 omega
theorem raw_g (wb : Nat) (d : List Int) (a : Option Addr) (c : Nat) (r : List Int) (hd : d.length ≤ 90000000) (hr : r.length ≤ 10000000) (W w : World) (R : List HP) (hsrc : Src R (.slice a r.length c) r.length (u8s r)) (hS : St W (wrR wb d :: R) w) :
  Calls Tryz.prog 132 #[.pointer (some ⟨wb,0,none⟩),.slice a r.length c] w fun e w' => e = .returned (.tuple #[]) ∧ St W (wrR wb (d ++ r) :: R) w' := by
 obtain ⟨wa,wc,hS1⟩ := wrOpen hS
 clear hS
 have hS := hS1
 clear hS1
 have Hsrc := Lib.hid hsrc
 clear hsrc
 go_enter Tryz.func132,Tryz.ntmps132
 go_wp2_with (first|go_big_skip|(refine zl1 hS ?_)|((with_reducible apply Ah7 hS);(with_reducible rfl);rfl;rfl;rfl;(exact esS);(exact rsS);rfl;decide;(exact takeS);exact Hsrc.out.there.there;(focus (rw [LX7,Nat.mul_one]));(exact LV7 _);(focus (unfold maxLen;omega));(focus (omega));clear hS;intro v w hS;(have hv := hS.rowVal;obtain ⟨va,vc,rfl⟩ := hv);(refine frS ?_))|(refine zs1 hS ?_;clear hS;intro w hS))
 go_end0
 have hS1 := hS.sel (L' := row (.slice va (d.length + r.length) vc) 1 _ _ _ :: blk wb _ _ :: R) (by exact selS)
 have h0 : St W (row (.slice va (d.length + r.length) vc) 1 5 (d.length + r.length) (u8s d ++ u8s r) :: _) w := hS1
 rw [← LW7] at h0
 exact ⟨rfl,wrShut (Hw7 (by rw [List.length_append]) h0).swap⟩
def WrsR (W : World) (R : List HP) (wb : Nat) (d : List Int) (rs : List Rb) (v : Value) (w : World) : Prop :=
 ∃ k : Nat,v = .int .i64 k ∧ k ≤ rs.length ∧ St W (wrR wb (d ++ encRs (rs.take k)) :: R) w
theorem Kj7 {rs : List Rb} {k : Nat} (h : k < rs.length) : encRs (rs.take (k + 1)) = encRs (rs.take k) ++ (numB rs[k].2.2.length ++ rs[k].2.2) := by
 unfold encRs
 rw [List.take_succ_eq_append_getElem h,List.flatMap_append]
 simp [encR]
theorem Hy7 : ∀ {rs : List Rb},(∀ x ∈ rs,x.2.2.length ≤ 5000000) → (encRs rs).length ≤ rs.length * 5000009
 | [],_ => by simp [encRs]
 | x :: rs,h => by
  have h1 := Hy7 (rs := rs) fun y hy => h y (List.mem_cons_of_mem _ hy)
  have h2 := h x (List.mem_cons_self ..)
  have h3 := AW7 x.2.2
  unfold encRs at h1 ⊢
  rw [List.flatMap_cons,List.length_append,List.length_cons]
  omega
theorem Ir7 (wb : Nat) (d : List Int) (rs : List Rb) (b off c : Nat) (hd : d.length ≤ 30000000) (hl : rs.length ≤ 8) (hlen : ∀ x ∈ rs,x.2.2.length ≤ 5000000) (W w : World) (R : List HP) (hcell : ∀ i, ∀ hi : i < rs.length,Cell R b (off + i) (rbV rs[i])) (hsrc : ∀ x ∈ rs,Src R (rbV x) x.2.2.length (u8s x.2.2)) (hS : St W (wrR wb d :: R) w) :
  Calls Tryz.prog 66 #[.pointer (some ⟨wb,0,none⟩),.slice (some ⟨b,off,none⟩) rs.length c] w fun e w' => e = .returned (.tuple #[]) ∧ St W (wrR wb (d ++ encRs rs) :: R) w' := by
 have Hcell := Lib.hid hcell
 have Hsrc := Lib.hid hsrc
 have Hlen := Lib.hid hlen
 clear hcell hsrc hlen
 go_enter Tryz.func66,Tryz.ntmps66
 go_wp2_with (first|go_big_skip)
 go_loopw [8] (fun v wr => WrsR W R wb d rs v wr) (fun v _ => rs.length - (intOf v).toNat)
 case atStart => exact ⟨0,rfl,Nat.zero_le _,by simpa [encRs] using hS⟩
 case round =>
  clear hS
  obtain ⟨k,rfl,hkl,hS⟩ := hrel
  by_cases hkn : k = rs.length
  ·subst hkn
   have d3 : decide ((rs.length : Int) < (rs.length : Int)) = false := by simp
   rw [List.take_length] at hS
   go_wp2_with (first|go_big_skip)
   go_end0
   exact ⟨rfl,hS⟩
  ·have hk1 : k < rs.length := by omega
   have dk : decide ((k : Int) < (rs.length : Int)) = true := by simp;omega
   have hc := (Hcell.out k hk1).there (X := wrR wb (d ++ encRs (rs.take k)))
   have hs := Hsrc.out _ (List.getElem_mem hk1)
   have hln := Hlen.out _ (List.getElem_mem hk1)
   have hst := Kj7 hk1
   have htl := Hy7 (rs := rs.take k) fun x hx => Hlen.out x (List.mem_of_mem_take hx)
   rw [List.length_take] at htl
   have hnl := Ax7 (rs[k].2.2.length : Int)
   generalize rs[k] = x at hc hs hln hst hnl
   obtain ⟨xa,xc,r⟩ := x
   simp only at hc hs hln hst hnl
   generalize hE : encRs (rs.take k) = E at hS hst htl hc
   have hdl : (d ++ E).length ≤ 80000000 := by rw [List.length_append];omega
   have Hs := Lib.hid hs
   have Hst := Lib.hid hst
   have Hdl := Lib.hid hdl
   have hdl2 : (d ++ E ++ numB (r.length : Int)).length ≤ 90000000 := by rw [List.length_append];omega
   have Hdl2 := Lib.hid hdl2
   clear hs hst htl hE hkn hkl hdl hdl2
   go_wp2_with (first|go_big_skip|(refine zl1 hS ?_ (hc := by exact hc))|(refine zbs hS ?_;clear hS;intro bS w hS)|(go_at_call 65;refine (nums1E wb _ (r.length : Int) bS 1 (by have := Hdl.out;omega) ⟨by omega,by omega⟩ W _ _ (hS.sel (L' := wrR wb (d ++ E) :: blk bS _ _ :: R) (by exact selS))).mono ?_;clear hS;rintro e w ⟨rfl,hS⟩)|(go_at_call 132;refine (raw_g wb _ xa xc r Hdl2.out (by omega) W _ _ Hs.out.there hS).mono ?_;clear hS;rintro e w ⟨rfl,hS⟩))
   go_roundw
   case rel => exact ⟨k + 1,rfl,hk1,by rw [Hst.out,← List.append_assoc,← List.append_assoc];exact hS.sel (by exact selS)⟩
   case measure => simp [intOf];omega
structure RpOk (r : Rpl) : Prop where
 e0 : 0 ≤ r.err
 e1 : r.err ≤ 19
 i0 : 0 ≤ r.id
 i1 : r.id ≤ 1099511627776
 has : isIt r.has = true
def rpB (r : Rpl) : List Int := numsB [r.err,r.id] ++ numsB [r.has.x0,r.has.x1,r.has.x2,r.has.x3]
theorem Bp7 (l : List Int) : (numsB l).length ≤ l.length * 9 := by
 induction l with
 | nil => simp [numsB]
 | cons x l ih =>
  have := Ax7 x
  unfold numsB at ih ⊢
  rw [List.flatMap_cons,List.length_append,List.length_cons]
  omega
theorem Is7 (r : Rpl) : (rpB r).length ≤ 54 := by
 have h1 := Bp7 [r.err,r.id]
 have h2 := Bp7 [r.has.x0,r.has.x1,r.has.x2,r.has.x3]
 unfold rpB
 rw [List.length_append]
 simp only [List.length_cons,List.length_nil] at h1 h2
 omega
theorem OW7 (r : Rpl) : 0 < (rpB r).length := by
 have := Ex7 r.err
 unfold rpB numsB
 rw [List.flatMap_cons,List.append_assoc,List.length_append]
 omega
theorem OX7 {e i x0 x1 x2 x3 : Int} (h : RpOk ⟨e,i,⟨x0,x1,x2,x3⟩⟩) (W w : World) (R : List HP) (hS : St W R w) :
  Calls Tryz.prog 136 #[rV e i x0 x1 x2 x3] w fun x w' => x = .returned (.bool true) ∧ St W R w' := by
 have d0 : decide (0 ≤ e) = true := by simpa using h.e0
 have d1 : decide (e ≤ 19) = true := by simpa using h.e1
 have d2 : decide (0 ≤ i) = true := by simpa using h.i0
 have d3 : decide (i ≤ 1099511627776) = true := by simpa using h.i1
 have Hi := Lib.hid h.has
 clear h
 go_enter Tryz.func136,Tryz.ntmps136
 go_wp2_with (first|go_big_skip|(refine zbx hS ?_;clear hS;intro bO w hS)|(refine zl1 hS ?_)|(refine zlN hS ?_ (vs := [.int .i64 x0,.int .i64 x1,.int .i64 x2,.int .i64 x3]) (hc := by exact Cells.here rfl))|(go_at_call 126;refine (is_at _ _ _ _ W _ _ hS).mono ?_;clear hS;rw [Hi.out];rintro e w ⟨rfl,hS⟩))
 go_ret
 exact ⟨rfl,hS.drop⟩
theorem nums2E (wb : Nat) (d : List Int) (x y : Int) (b c : Nat) (hd : d.length ≤ 90000000) (hx : -9223372036854775808 ≤ x ∧ x ≤ 9223372036854775807) (hy : -9223372036854775808 ≤ y ∧ y ≤ 9223372036854775807) (W w : World) (R : List HP) (hS : St W (wrR wb d :: blk b [.int .i64 x,.int .i64 y] 3 :: R) w) :
  Calls Tryz.prog 65 #[.pointer (some ⟨wb,0,none⟩),.slice (some ⟨b,0,none⟩) 2 c] w fun e w' => e = .returned (.tuple #[]) ∧ St W (wrR wb (d ++ numsB [x,y]) :: blk b [.int .i64 x,.int .i64 y] 3 :: R) w' :=
 LZ7 wb d [x,y] b c hd (by simp) (fun z hz => by
  rcases List.mem_cons.1 hz with rfl|hz
  ·exact hx
  ·rw [List.mem_singleton.1 hz];exact hy) W w R hS
theorem It7 {e i x0 x1 x2 x3 : Int} (h : RpOk ⟨e,i,⟨x0,x1,x2,x3⟩⟩) (W w : World) (R : List HP) (hS : St W R w) :
  Calls Tryz.prog 70 #[rV e i x0 x1 x2 x3] w fun x w' => ∃ v,x = .returned (.tuple #[v,.int .i64 0]) ∧ St W (byR v (rpB ⟨e,i,⟨x0,x1,x2,x3⟩⟩) :: R) w' := by
 have hl := Is7 ⟨e,i,⟨x0,x1,x2,x3⟩⟩
 have hp := OW7 ⟨e,i,⟨x0,x1,x2,x3⟩⟩
 have he : rpB ⟨e,i,⟨x0,x1,x2,x3⟩⟩ = numsB [e,i] ++ numsB [x0,x1,x2,x3] := rfl
 have hit := Ak7.1 h.has
 obtain ⟨⟨a0,a1⟩,⟨b0,b1⟩,⟨c0,c1⟩,⟨f0,f1⟩⟩ := hit
 simp only at a0 a1 b0 b1 c0 c1 f0 f1
 have e0 := h.e0
 have e1 := h.e1
 have i0 := h.i0
 have i1 := h.i1
 simp only at e0 e1 i0 i1
 have hn4 : ∀ x ∈ [x0,x1,x2,x3], -9223372036854775808 ≤ x ∧ x ≤ 9223372036854775807 := by
  intro x hx
  simp only [List.mem_cons,List.not_mem_nil,or_false] at hx
  rcases hx with rfl|rfl|rfl|rfl <;> constructor <;> omega
 have hd2 : (numsB [e,i]).length ≤ 90000000 := by have := Bp7 [e,i];simp only [List.length_cons,List.length_nil] at this;omega
 have Hn4 := Lib.hid hn4
 have He := Lib.hid he
 have Hd2 := Lib.hid hd2
 have Hh := Lib.hid h
 rw [he] at hl hp
 have Hl := Lib.hid hl
 have Hp := Lib.hid hp
 clear hn4 h hd2 he hl hp
 go_enter Tryz.func70,Tryz.ntmps70
 go_wp2_with (first|go_big_skip|(refine zbx hS ?_;clear hS;intro bO w hS)|(refine zl1 hS ?_)|(refine zlN hS ?_)|(go_at_call 136;refine (OX7 Hh.out W _ _ hS).mono ?_;clear hS;rintro x w ⟨rfl,hS⟩)|(refine zal hS ?_;clear hS;intro wb w hS)|(refine zbs hS ?_;clear hS;intro bS w hS)|((fail_if_success (have := mN));go_at_call 65;refine (nums2E wb [] e i bS 2 (by simp) ⟨by omega,by omega⟩ ⟨by omega,by omega⟩ W _ _ (wrNew (hS.sel (L' := blk wb _ _ :: blk bS _ _ :: blk bO _ _ :: R) (by exact selS)))).mono ?_;clear hS;rw [List.nil_append];rintro x w ⟨rfl,hS⟩;have mN : Nat := 0)|((have := mN);go_at_call 65;refine (nums4E wb (numsB [e,i]) x0 x1 x2 x3 bO 2 4 Hd2.out Hn4.out W _ _ (Cell.there (Cell.here rfl)) (Cell.there (Cell.here rfl)) (Cell.there (Cell.here rfl)) (Cell.there (Cell.here rfl)) hS).mono ?_;clear hS;rintro x w ⟨rfl,hS⟩)|(go_at_call 72;refine (out_w wb _ (by have := Hl.out;omega) Hp.out W _ _ hS).mono ?_;clear hS;rintro x w ⟨v,rfl,hS⟩))
 go_ret2
 refine ⟨v,rfl,?_⟩
 rw [He.out]
 exact hS.sel (by exact selS)
end Go.Proofs.YtlmhakmoioogaaaGreat
end
