/-
  The program's vault as bytes. For every vault.
  The program's Writer: rows of bytes from anywhere. For all of them.
  An economy as plain values: its vaults by keys, what each client asked last, what is under way, what has arrived; what a request does to it. No program in sight.
  What is done at one key changes nothing that another key has. The plain law: no program in sight.
  Maps whose keys are structs: keys that are told by values, compared one by one. Over any program.
  An economy as a resource: its block, its maps, the vaults that the first of them points to. Over any program.
-/
import Derived.Test.YtlmhakmoioogaaaGreatEconPlaysM5
import Derived.Test.YtlmhakmoioogaaaGreatEconPlaysM8
import Derived.Test.YtlmhakmoioogaaaGreatEconPlaysM27
import Derived.Test.YtlmhakmoioogaaaGreatEconPlaysM28
set_option maxHeartbeats 16000000
set_option maxRecDepth 100000
set_option linter.unusedSimpArgs false
set_option linter.unusedVariables false
section
namespace Go.Proofs.YtlmhakmoioogaaaGreat
open Go.RowKit Go.Sl
theorem wrNew{W w:World}{wb:Nat}{L:List HP}(h:St W (blk wb [.slice none 0 0] 119::L) w):St W (wrR wb []::L) w:=by
 have h1:=(h.rowNil (k:=1) (T:=5)).swap
 exact wrShut (d:=[]) h1
theorem EV7(n:Int):0<(numB n).length:=by
 unfold numB
 rw[show(8:Nat)=7+1 from rfl,encF]
 split <;> simp
theorem nums1E(wb:Nat)(d:List Int)(x:Int)(b c:Nat)(hd:d.length≤90000000)(hx : -9223372036854775808≤x∧x≤9223372036854775807)(W w:World)(R:List HP)(hS:St W (wrR wb d::blk b [.int .i64 x] 3::R) w):
  Calls Tryz.prog 65 #[.pointer (some ⟨wb,0,none⟩),.slice (some ⟨b,0,none⟩) 1 c] w fun e w'=>e=.returned (.tuple #[])∧St W (wrR wb (d++numB x)::blk b [.int .i64 x] 3::R) w':=by
 have h:=MJ7 wb d [x] b c hd (by simp) (fun y hy=>by rw[List.mem_singleton.1 hy];exact hx) W w R hS
 simpa using h
theorem nums4E(wb:Nat)(d:List Int)(x0 x1 x2 x3:Int)(g off c:Nat)(hd:d.length≤90000000)(hn:∀x∈[x0,x1,x2,x3], -9223372036854775808≤x∧x≤9223372036854775807)(W w:World)(R:List HP)(hc0:Cell R g off (.int .i64 x0))(hc1:Cell R g (off+1) (.int .i64 x1))(hc2:Cell R g (off+2) (.int .i64 x2))(hc3:Cell R g (off+3) (.int .i64 x3))(hS:St W (wrR wb d::R) w):
  Calls Tryz.prog 65 #[.pointer (some ⟨wb,0,none⟩),.slice (some ⟨g,off,none⟩) 4 c] w fun e w'=>e=.returned (.tuple #[])∧St W (wrR wb (d++numsB [x0,x1,x2,x3])::R) w':=
 Pm7 wb d [x0,x1,x2,x3] g off c hd (by simp) hn W w R (fun i hi=>by
  have hi4:i=0∨i=1∨i=2∨i=3:=by simp at hi;omega
  rcases hi4 with rfl|rfl|rfl|rfl
  ·exact hc0
  ·exact hc1
  ·exact hc2
  ·exact hc3) hS
def CwR{α:Type}(W:World)(F:List HP)(wb:Nat)(f:α→List Int)(base:List Int)(xs:List α)(v:Value)(w:World):Prop:=
 ∃k:Nat,v=.int .i64 k∧k≤xs.length∧St W (wrR wb (base++(xs.take k).flatMap f)::F) w
theorem encodeV(vb mb bb:Nat)(p:Ps)(L:List Ord)(n:Int){N:Nat}(hp:PsOk p)(hw:PsW p N)(hN:N≤1000000)(hn0:1≤n)(hn1:n≤1099511627777)(W w:World)(R:List HP)(hS:St W (vaultL vb mb bb p L n R) w):
  Calls Tryz.prog 67 #[.pointer (some ⟨vb,0,none⟩)] w fun e w'=>∃v,e=.returned v∧St W (byR v (encV p L n)::vaultL vb mb bb p L n R) w':=by
 have hlh:(hdL p).length≤1000000:=by rw[Ce7];exact Nat.le_trans hw.len hN
 have hl32:=BM7 hS.drop.drop
 have hmay:∀x∈L,MayP x:=fun x hx=>(Bj7 hS.drop.drop x hx).1
 have hhw:∀x∈hdL p,x.who.size≤16∧isIt x.has=true:=fun x hx=>by
  refine⟨?_,by rw[Dh7 hx];exact hp _⟩
  have hk:x.who∈(hdL p).map Hd.who:=List.mem_map_of_mem hx
  rw[FE7]at hk
  obtain⟨y,hy,e⟩:=Kg7 hk
  rw[←e]
  exact FB7 (hw.who y hy)
 have hN2:N≤1000000000:=by omega
 have Hmay:=Lib.hid hmay
 have Hhw:=Lib.hid hhw
 have Hw:=Lib.hid hw
 clear hmay hw hp hhw
 unfold encV
 go_enter Tryz.func67,Tryz.ntmps67
 go_wp2_with(first|(go_at_call 124;refine(CX7 vb mb bb p L n Hw.out hN2 W _ _ hS).mono ?_;clear hS;rintro e w ⟨sa,sc,oa,oc,rfl,hS⟩)|((fail_if_success (have:=wb));(with_reducible apply Aj7 hS);(with_reducible rfl);rfl;(exact zsS);clear hS;intro wb w hS;(refine frS ?_))|(refine zbs hS ?_;clear hS;intro bS w hS)|(go_at_call 65;refine(nums1E wb [] ((hdL p).length:Int) bS 1 (by simp) ⟨by omega,by omega⟩ W _ _ (wrNew (hS.s (blk wb _ _::blk bS _ _::blk vb _ _::amap eS eP mb p::bookL bb L n::hdR (.slice sa (hdL p).length sc) (hdL p)::pileR (.slice oa L.length oc) L::R)))).mono ?_;clear hS;rw[List.nil_append];rintro e w ⟨rfl,hS⟩))
 have hS1:=hS.s (wrR wb _::blk vb _ _::amap eS eP mb p::bookL bb L n::hdR (.slice sa (hdL p).length sc) (hdL p)::pileR (.slice oa L.length oc) L::R)
 clear hS
 have hS:=hS1
 clear hS1
 generalize hhs:hdL p=hs at hS hlh Hhw
 have Hhs:=Lib.hid hhs
 clear hhs
 go_loopw [26] (fun v wr=>CwR W (vaultL vb mb bb p L n (hdR (.slice sa hs.length sc) hs::pileR (.slice oa L.length oc) L::R)) wb encH (numB hs.length) hs v wr) (fun v _=>hs.length-(intOf v).toNat)
 case atStart=>exact⟨0,rfl,Nat.zero_le _,by simpa using hS⟩
 case round=>
  clear hS
  obtain⟨k,rfl,hkl,hS⟩:=hrel
  by_cases hkn:k=hs.length
  ·rw[hkn,List.take_length]at hS
   have hd1:decide (k<hs.length)=false:=by simp;omega
   clear hkl hkn
   have hlkk:=Am7 hs.length
   generalize hacc:numB hs.length++hs.flatMap encH=acc at hS
   have hal:acc.length≤70000100:=by
    have h1:=Bw7 encH hs fun x hx=>DM7 x (Hhw.out x hx).1
    rw[←hacc,List.length_append]
    omega
   have Hacc:=Lib.hid hacc
   clear hacc hlkk
   have hln:=Am7 L.length
   go_wp2_with(first|(refine zbs hS ?_;clear hS;intro bS w hS)|(go_at_call 65;refine(nums1E wb acc (L.length:Int) bS 1 (by omega) ⟨by omega,by omega⟩ W _ _ (hS.s (wrR wb acc::blk bS _ _::blk vb _ _::amap eS eP mb p::bookL bb L n::hdR _ hs::pileR (.slice oa L.length oc) L::R))).mono ?_;clear hS;rintro e w ⟨rfl,hS⟩))
   have hS1:=hS.s (wrR wb _::blk vb _ _::amap eS eP mb p::bookL bb L n::hdR (.slice sa hs.length sc) hs::pileR (.slice oa L.length oc) L::R)
   clear hS
   have hS:=hS1
   clear hS1
   go_loopw [45] (fun v wr=>CwR W (vaultL vb mb bb p L n (hdR (.slice sa hs.length sc) hs::pileR (.slice oa L.length oc) L::R)) wb encO (acc++numB L.length) L v wr) (fun v _=>L.length-(intOf v).toNat)
   case atStart=>exact⟨0,rfl,Nat.zero_le _,by simpa using hS⟩
   case round=>
    clear hS
    obtain⟨j,rfl,hjl,hS⟩:=hrel
    by_cases hjn:j=L.length
    ·rw[hjn,List.take_length]at hS
     have hd2:decide (j<L.length)=false:=by simp;omega
     clear hjl hjn
     have hlo:=Bw7 encO L fun x hx=>DN7 x (Hmay.out x hx).who1
     generalize hd:acc++numB L.length++L.flatMap encO=d at hS
     have hdl:d.length≤70010000:=by rw[←hd,List.length_append,List.length_append];omega
     have Hd2:=Lib.hid hd
     have hlq:=Am7 n
     have hlz:0<(d++numB n).length:=by
      have:0<(numB n).length:=EV7 n
      rw[List.length_append]
      omega
     have hlz2:(d++numB n).length≤100000000:=by rw[List.length_append];omega
     have Hz:=Lib.hid hlz
     have Hz2:=Lib.hid hlz2
     clear hd hlz hlz2
     go_wp2_with(first|(refine zbs hS ?_;clear hS;intro bS w hS)|(go_at_call 65;refine(nums1E wb d n bS 1 (by omega) ⟨by omega,by omega⟩ W _ _ (hS.s (wrR wb d::blk bS _ _::blk vb _ _::amap eS eP mb p::bookL bb L n::hdR _ hs::pileR (.slice oa L.length oc) L::R))).mono ?_;clear hS;rintro e w ⟨rfl,hS⟩)|(go_at_call 72;refine(out_w wb _ Hz2.out Hz.out W _ _ hS).mono ?_;clear hS;rintro e w ⟨vo,rfl,hS⟩))
     go_ret
     refine⟨vo,rfl,?_⟩
     rw[Hhs.out,Hacc.out,Hd2.out]
     exact hS.s _
    ·have hj1:j<L.length:=by omega
     obtain⟨⟨g,rfl⟩,hcap,hcn⟩:=St.rowAddr hS.drop.drop.drop.drop.drop (by omega)
     have hcells:∀{K K':List HP},Take K (pileR (.slice (some ⟨g,0,none⟩) L.length oc) L) K'→Cells K g (j*6) (Ord.cells L[j]):=fun hu=>Cells.elemM (enc:=Ord.cells) Ord.len hu hj1
     have hst:=AX7 encO (acc++numB L.length) L hj1
     have hmx:=Hmay.out _ (List.getElem_mem hj1)
     have hlt:=Bw7 encO (L.take j) fun x hx=>DN7 x (Hmay.out x (List.mem_of_mem_take hx)).who1
     rw[List.length_take]at hlt
     generalize hd:acc++numB L.length++(L.take j).flatMap encO=d at hS hst
     have hdl:d.length≤70010000:=by rw[←hd,List.length_append,List.length_append];omega
     generalize L[j]=x at hcells hst hmx
     obtain⟨oi,ou,oy,ot,oc2,op⟩:=x
     have i0:1≤oi:=hmx.id0
     have i1:oi≤1099511627776:=hmx.id1
     have w1:ou.size≤16:=hmx.who1
     have t0:1≤ot:=hmx.item0
     have t1:ot≤3:=hmx.item1
     have c0:1≤oc2:=hmx.cnt0
     have c1:oc2≤1048576:=hmx.cnt1
     have p0:1≤op:=hmx.price0
     have p1:op≤1024:=hmx.price1
     have l1:=Am7 oi
     have l4:=BA7 ou w1
     have Hst:=Lib.hid hst
     clear hst hmx hd hlt hjn hjl
     simp only[Ord.cells]at hcells
     have hq1:(d++numB oi).length≤90000000:=by rw[List.length_append];omega
     have hq2:(d++numB oi++strE ou).length≤90000000:=by rw[List.length_append,List.length_append];omega
     have Hq1:=Lib.hid hq1
     have Hq2:=Lib.hid hq2
     clear hq1 hq2
     cases oy with
     | false=>
      have Hst2:=Lib.hid (show acc++numB L.length++(L.take (j+1)).flatMap encO=d++numB oi++strE ou++numsB [0,ot,oc2,op]by rw[Hst.out];unfold encO;simp[boolI,List.append_assoc])
      have hn:∀x∈[(0:Int),ot,oc2,op], -9223372036854775808≤x∧x≤9223372036854775807:=by
       intro x hx
       simp only[List.mem_cons,List.not_mem_nil,or_false]at hx
       rcases hx with rfl|rfl|rfl|rfl
       all_goals exact⟨by omega,by omega⟩
      have Hn:=Lib.hid hn
      clear hn
      go_wp2_with(first|(refine zlN hS ?_ (hc:=by exact hcells (by exact takeS)))|((fail_if_success (have:=b8));((have:=wb);(with_reducible apply Aj7 hS);(with_reducible rfl);rfl;(exact zsS);clear hS;intro b8 w hS;(refine frS ?_)))|(refine zsN hS ?_;clear hS;intro w hS)|(refine zl1 hS ?_)|((with_reducible apply Av7 hS);(with_reducible rfl);rfl;rfl;exact Tryz.underlying9;exact Tryz.underlying63;exact Tryz.underlying5;clear hS;intro g9 c9 w hS;(refine frS ?_))|(refine zbs hS ?_;clear hS;intro bS w hS)|((fail_if_success (have:=mN1));go_at_call 65;refine(nums1E wb d oi bS 1 (by omega) ⟨by omega,by omega⟩ W _ _ (hS.s (wrR wb d::blk bS _ _::blk b8 _ _::blk vb _ _::amap eS eP mb p::bookL bb L n::hdR _ hs::pileR _ L::R))).mono ?_;clear hS;rintro e w ⟨rfl,hS⟩;have mN1:Nat:=0)|(go_at_call 66;(have hS2:St W (blk bS [.slice (some ⟨g9,0,none⟩) ou.size c9] 63::_) _:=hS);refine(Jf7 wb (d++numB oi) ou bS g9 c9 1 Hq1.out (by omega) W _ _ (hS2.s (wrR wb _::blk bS _ _::sbR g9 ou::blk b8 _ _::blk vb _ _::amap eS eP mb p::bookL bb L n::hdR _ hs::pileR _ L::R))).mono ?_;clear hS hS2;rintro e w ⟨rfl,hS⟩)|((have:=mN1);go_at_call 65;(have hS2:St W (blk bS [.int .i64 0,.int .i64 ot,.int .i64 oc2,.int .i64 op] 3::_) _:=hS);refine(nums4E wb (d++numB oi++strE ou) 0 ot oc2 op bS 0 4 Hq2.out Hn.out W _ (blk bS [.int .i64 0,.int .i64 ot,.int .i64 oc2,.int .i64 op] 3::blk vb _ _::amap eS eP mb p::bookL bb L n::hdR _ hs::pileR _ L::R) (Cell.here rfl) (Cell.here rfl) (Cell.here rfl) (Cell.here rfl) (hS2.s _)).mono ?_;clear hS hS2;rintro e w ⟨rfl,hS⟩))
      go_roundw
      case rel=>exact⟨j+1,rfl,hj1,by rw[Hst2.out];exact hS.s _⟩
      case measure=>simp[intOf];omega
     | true=>
      have Hst2:=Lib.hid (show acc++numB L.length++(L.take (j+1)).flatMap encO=d++numB oi++strE ou++numsB [1,ot,oc2,op]by rw[Hst.out];unfold encO;simp[boolI,List.append_assoc])
      have hn:∀x∈[(1:Int),ot,oc2,op], -9223372036854775808≤x∧x≤9223372036854775807:=by
       intro x hx
       simp only[List.mem_cons,List.not_mem_nil,or_false]at hx
       rcases hx with rfl|rfl|rfl|rfl
       all_goals exact⟨by omega,by omega⟩
      have Hn:=Lib.hid hn
      clear hn
      go_wp2_with(first|(refine zlN hS ?_ (hc:=by exact hcells (by exact takeS)))|((fail_if_success (have:=b8));((have:=wb);(with_reducible apply Aj7 hS);(with_reducible rfl);rfl;(exact zsS);clear hS;intro b8 w hS;(refine frS ?_)))|(refine zsN hS ?_;clear hS;intro w hS)|(refine zl1 hS ?_)|((with_reducible apply Av7 hS);(with_reducible rfl);rfl;rfl;exact Tryz.underlying9;exact Tryz.underlying63;exact Tryz.underlying5;clear hS;intro g9 c9 w hS;(refine frS ?_))|(refine zbs hS ?_;clear hS;intro bS w hS)|((fail_if_success (have:=mN1));go_at_call 65;refine(nums1E wb d oi bS 1 (by omega) ⟨by omega,by omega⟩ W _ _ (hS.s (wrR wb d::blk bS _ _::blk b8 _ _::blk vb _ _::amap eS eP mb p::bookL bb L n::hdR _ hs::pileR _ L::R))).mono ?_;clear hS;rintro e w ⟨rfl,hS⟩;have mN1:Nat:=0)|(go_at_call 66;(have hS2:St W (blk bS [.slice (some ⟨g9,0,none⟩) ou.size c9] 63::_) _:=hS);refine(Jf7 wb (d++numB oi) ou bS g9 c9 1 Hq1.out (by omega) W _ _ (hS2.s (wrR wb _::blk bS _ _::sbR g9 ou::blk b8 _ _::blk vb _ _::amap eS eP mb p::bookL bb L n::hdR _ hs::pileR _ L::R))).mono ?_;clear hS hS2;rintro e w ⟨rfl,hS⟩)|((have:=mN1);go_at_call 65;(have hS2:St W (blk bS [.int .i64 1,.int .i64 ot,.int .i64 oc2,.int .i64 op] 3::_) _:=hS);refine(nums4E wb (d++numB oi++strE ou) 1 ot oc2 op bS 0 4 Hq2.out Hn.out W _ (blk bS [.int .i64 1,.int .i64 ot,.int .i64 oc2,.int .i64 op] 3::blk vb _ _::amap eS eP mb p::bookL bb L n::hdR _ hs::pileR _ L::R) (Cell.here rfl) (Cell.here rfl) (Cell.here rfl) (Cell.here rfl) (hS2.s _)).mono ?_;clear hS hS2;rintro e w ⟨rfl,hS⟩))
      go_roundw
      case rel=>exact⟨j+1,rfl,hj1,by rw[Hst2.out];exact hS.s _⟩
      case measure=>simp[intOf];omega
  ·have hk1:k<hs.length:=by omega
   obtain⟨⟨g,rfl⟩,hcap,hcn⟩:=St.rowAddr hS.drop.drop.drop.drop (by omega)
   have hcells:∀{K K':List HP},Take K (hdR (.slice (some ⟨g,0,none⟩) hs.length sc) hs) K'→Cells K g (k*5) (Hd.cells hs[k]):=fun hu=>Cells.elemM (enc:=Hd.cells) Hd.len hu hk1
   have hst:=AX7 encH (numB hs.length) hs hk1
   have hmx:=Hhw.out _ (List.getElem_mem hk1)
   have hlt:=Bw7 encH (hs.take k) fun x hx=>DM7 x (Hhw.out x (List.mem_of_mem_take hx)).1
   rw[List.length_take]at hlt
   have hlk:=Am7 hs.length
   generalize hd:numB hs.length++(hs.take k).flatMap encH=d at hS hst
   have hdl:d.length≤70000100:=by rw[←hd,List.length_append];omega
   generalize hs[k]=x at hcells hst hmx
   obtain⟨xw,⟨x0,x1,x2,x3⟩⟩:=x
   obtain⟨w1,hit⟩:=hmx
   simp only at w1
   obtain⟨a0,a1,a2,a3⟩:=Ag7.1 hit
   simp only at a0 a1 a2 a3
   have hn:∀x∈[x0,x1,x2,x3], -9223372036854775808≤x∧x≤9223372036854775807:=by
    intro x hx
    simp only[List.mem_cons,List.not_mem_nil,or_false]at hx
    rcases hx with rfl|rfl|rfl|rfl
    all_goals exact⟨by omega,by omega⟩
   have l4:=BA7 xw w1
   have hdl2:(d++strE xw).length≤90000000:=by rw[List.length_append];omega
   have Hdl2:=Lib.hid hdl2
   have Hn:=Lib.hid hn
   have Hst:=Lib.hid (show numB hs.length++(hs.take (k+1)).flatMap encH=d++strE xw++numsB [x0,x1,x2,x3]by rw[hst,List.append_assoc];rfl)
   clear hst hit hd hlt hkn hkl hdl2 hn
   simp only[Hd.cells,It.cells]at hcells
   go_wp2_with(first|(refine zlN hS ?_ (hc:=by exact hcells (by exact takeS)))|((fail_if_success (have:=b8));((have:=wb);(with_reducible apply Aj7 hS);(with_reducible rfl);rfl;(exact zsS);clear hS;intro b8 w hS;(refine frS ?_)))|(refine zsN hS ?_;clear hS;intro w hS)|(refine zl1 hS ?_)|((with_reducible apply Av7 hS);(with_reducible rfl);rfl;rfl;exact Tryz.underlying9;exact Tryz.underlying63;exact Tryz.underlying5;clear hS;intro g9 c9 w hS;(refine frS ?_))|((with_reducible apply wl_bs hS);(with_reducible rfl);rfl;(focus(simp only[fD,fI,fJ,Act.eval,fE,fF,fG,fH,fK];try rfl));(exact esS);(exact rsS);rfl;rfl;rfl;rfl;clear hS;intro bT w hS;(refine frS ?_))|(go_at_call 66;refine(Jf7 wb d xw bT g9 c9 1 (by omega) (by omega) W _ _ (hS.s (wrR wb d::blk bT _ _::sbR g9 xw::blk b8 _ _::blk vb _ _::amap eS eP mb p::bookL bb L n::hdR _ hs::pileR _ L::R))).mono ?_;clear hS;rintro e w ⟨rfl,hS⟩)|(go_at_call 65;refine(nums4E wb (d++strE xw) x0 x1 x2 x3 b8 1 4 Hdl2.out Hn.out W _ (blk b8 [.string xw,.int .i64 x0,.int .i64 x1,.int .i64 x2,.int .i64 x3] 189::blk vb _ _::amap eS eP mb p::bookL bb L n::hdR _ hs::pileR _ L::R) (Cell.here rfl) (Cell.here rfl) (Cell.here rfl) (Cell.here rfl) (hS.s _)).mono ?_;clear hS;rintro e w ⟨rfl,hS⟩))
   go_roundw
   case rel=>exact⟨k+1,rfl,hk1,by rw[Hst.out];exact hS.s _⟩
   case measure=>simp[intOf];omega
abbrev Rb:=Option Addr×Nat×List Int
abbrev rbV(x:Rb):Value:=.slice x.1 x.2.2.length x.2.1
def encR(r:List Int):List Int:=numB r.length++r
def encRs(rs:List Rb):List Int:=rs.flatMap fun x=>encR x.2.2
theorem AS7(r:List Int):(encR r).length≤r.length+9:=by
 have:=Am7 r.length
 unfold encR
 rw[List.length_append]
 omega
theorem raw_g(wb:Nat)(d:List Int)(a:Option Addr)(c:Nat)(r:List Int)(hd:d.length≤90000000)(hr:r.length≤10000000)(W w:World)(R:List HP)(hsrc:Src R (.slice a r.length c) r.length (u8s r))(hS:St W (wrR wb d::R) w):
  Calls Tryz.prog 132 #[.pointer (some ⟨wb,0,none⟩),.slice a r.length c] w fun e w'=>e=.returned (.tuple #[])∧St W (wrR wb (d++r)::R) w':=by
 obtain⟨wa,wc,hS1⟩:=wrOpen hS
 clear hS
 have hS:=hS1
 clear hS1
 have Hsrc:=Lib.hid hsrc
 clear hsrc
 go_enter Tryz.func132,Tryz.ntmps132
 go_wp2_with(first|(refine zl1 hS ?_)|((with_reducible apply Ae7 hS);(with_reducible rfl);rfl;rfl;rfl;(exact esS);(exact rsS);rfl;decide;(exact takeS);exact Hsrc.out.there.there;(focus(rw[AL7,Nat.mul_one]));(exact AY7 _);(focus(unfold maxLen;omega));(focus(omega));clear hS;intro v w hS;(have hv:=hS.rowVal;obtain⟨va,vc,rfl⟩:=hv);(refine frS ?_))|(refine zs1 hS ?_;clear hS;intro w hS))
 go_end0
 have hS1:=hS.s (row (.slice va (d.length+r.length) vc) 1 _ _ _::blk wb _ _::R)
 have h0:St W (row (.slice va (d.length+r.length) vc) 1 5 (d.length+r.length) (u8s d++u8s r)::_) w:=hS1
 rw[←Aw7]at h0
 exact⟨rfl,wrShut (AD7 (by rw[List.length_append]) h0).swap⟩
def WrsR(W:World)(R:List HP)(wb:Nat)(d:List Int)(rs:List Rb)(v:Value)(w:World):Prop:=
 ∃k:Nat,v=.int .i64 k∧k≤rs.length∧St W (wrR wb (d++encRs (rs.take k))::R) w
theorem Le7{rs:List Rb}{k:Nat}(h:k<rs.length):encRs (rs.take (k+1))=encRs (rs.take k)++(numB rs[k].2.2.length++rs[k].2.2):=by
 unfold encRs
 rw[List.take_succ_eq_append_getElem h,List.flatMap_append]
 simp[encR]
theorem Ia7:∀{rs:List Rb},(∀x∈rs,x.2.2.length≤5000000)→(encRs rs).length≤rs.length*5000009
 | [],_=>by simp[encRs]
 | x::rs,h=>by
  have h1:=Ia7 (rs:=rs) fun y hy=>h y (List.mem_cons_of_mem _ hy)
  have h2:=h x (List.mem_cons_self ..)
  have h3:=AS7 x.2.2
  unfold encRs at h1 ⊢
  rw[List.flatMap_cons,List.length_append,List.length_cons]
  omega
theorem Jg7(wb:Nat)(d:List Int)(rs:List Rb)(b off c:Nat)(hd:d.length≤30000000)(hl:rs.length≤8)(hlen:∀x∈rs,x.2.2.length≤5000000)(W w:World)(R:List HP)(hcell:∀i, ∀hi:i<rs.length,Cell R b (off+i) (rbV rs[i]))(hsrc:∀x∈rs,Src R (rbV x) x.2.2.length (u8s x.2.2))(hS:St W (wrR wb d::R) w):
  Calls Tryz.prog 66 #[.pointer (some ⟨wb,0,none⟩),.slice (some ⟨b,off,none⟩) rs.length c] w fun e w'=>e=.returned (.tuple #[])∧St W (wrR wb (d++encRs rs)::R) w':=by
 have Hcell:=Lib.hid hcell
 have Hsrc:=Lib.hid hsrc
 have Hlen:=Lib.hid hlen
 clear hcell hsrc hlen
 go_enter Tryz.func66,Tryz.ntmps66
 go_wp2_with(fail)
 go_loopw [8] (fun v wr=>WrsR W R wb d rs v wr) (fun v _=>rs.length-(intOf v).toNat)
 case atStart=>exact⟨0,rfl,Nat.zero_le _,by simpa[encRs]using hS⟩
 case round=>
  clear hS
  obtain⟨k,rfl,hkl,hS⟩:=hrel
  by_cases hkn:k=rs.length
  ·subst hkn
   have d3:decide ((rs.length:Int)<(rs.length:Int))=false:=by simp
   rw[List.take_length]at hS
   go_wp2_with(fail)
   go_end0
   exact⟨rfl,hS⟩
  ·have hk1:k<rs.length:=by omega
   have dk:decide ((k:Int)<(rs.length:Int))=true:=by simp;omega
   have hc:=(Hcell.out k hk1).there (X:=wrR wb (d++encRs (rs.take k)))
   have hs:=Hsrc.out _ (List.getElem_mem hk1)
   have hln:=Hlen.out _ (List.getElem_mem hk1)
   have hst:=Le7 hk1
   have htl:=Ia7 (rs:=rs.take k) fun x hx=>Hlen.out x (List.mem_of_mem_take hx)
   rw[List.length_take]at htl
   have hnl:=Am7 (rs[k].2.2.length:Int)
   generalize rs[k]=x at hc hs hln hst hnl
   obtain⟨xa,xc,r⟩:=x
   simp only at hc hs hln hst hnl
   generalize hE:encRs (rs.take k)=E at hS hst htl hc
   have hdl:(d++E).length≤80000000:=by rw[List.length_append];omega
   have Hs:=Lib.hid hs
   have Hst:=Lib.hid hst
   have Hdl:=Lib.hid hdl
   have hdl2:(d++E++numB (r.length:Int)).length≤90000000:=by rw[List.length_append];omega
   have Hdl2:=Lib.hid hdl2
   clear hs hst htl hE hkn hkl hdl hdl2
   go_wp2_with(first|(refine zl1 hS ?_ (hc:=by exact hc))|(refine zbs hS ?_;clear hS;intro bS w hS)|(go_at_call 65;refine(nums1E wb _ (r.length:Int) bS 1 (by have:=Hdl.out;omega) ⟨by omega,by omega⟩ W _ _ (hS.s (wrR wb (d++E)::blk bS _ _::R))).mono ?_;clear hS;rintro e w ⟨rfl,hS⟩)|(go_at_call 132;refine(raw_g wb _ xa xc r Hdl2.out (by omega) W _ _ Hs.out.there hS).mono ?_;clear hS;rintro e w ⟨rfl,hS⟩))
   go_roundw
   case rel=>exact⟨k+1,rfl,hk1,by rw[Hst.out,←List.append_assoc,←List.append_assoc];exact hS.s _⟩
   case measure=>simp[intOf];omega
structure Opn where
 kind:Int
 client:Int
 seq:Int
 ak:ByteArray
 aw:ByteArray
 tk:ByteArray
 tw:ByteArray
 item:Int
 cnt:Int
 price:Int
 buy:Bool
 id:Int
def Opn.cells(o:Opn):List Value:=[.int .i64 o.kind,.int .i64 o.client,.int .i64 o.seq,.string o.ak,.string o.aw,.string o.tk,.string o.tw,.int .i64 o.item,.int .i64 o.cnt,.int .i64 o.price,.bool o.buy,.int .i64 o.id]
theorem Opn.len(o:Opn):o.cells.length=12:=rfl
structure Rpl where
 err:Int
 id:Int
 has:It
def Rpl.cells(r:Rpl):List Value:=.int .i64 r.err::.int .i64 r.id::r.has.cells
abbrev rp0:Rpl:=⟨0,0,it0⟩
structure Tns where
 client:Int
 seq:Int
 ak:ByteArray
 aw:ByteArray
 tk:ByteArray
 tw:ByteArray
 item:Int
 cnt:Int
def Tns.cells(t:Tns):List Value:=[.int .i64 t.client,.int .i64 t.seq,.string t.ak,.string t.aw,.string t.tk,.string t.tw,.int .i64 t.item,.int .i64 t.cnt]
theorem Tns.len(t:Tns):t.cells.length=8:=rfl
structure Ec where
 vs:List (ByteArray×Vs)
 ss:List (Int×(Int×Rpl))
 ts:List ((Int×Int)×Tns)
 ar:List ((Int×Int)×Unit)
abbrev ec0:Ec:=⟨[],[],[],[]⟩
abbrev vs0:Vs:=⟨[],[],1⟩
def noB(u:ByteArray):Bool:=decide (u.size=0)
def cntB(o:Opn):Bool:=decide (0≤o.item)&&(decide (o.item<4)&&(decide (1≤o.cnt)&&decide (o.cnt≤1048576)))
def restB(o:Opn):Bool:=noB o.tk&&(noB o.tw&&(decide (o.price=0)&&(!o.buy&&decide (o.id=0))))
def plcB(k u:ByteArray):Bool:=whoB k&&whoB u
def countsB(o:Opn):Bool:=cntB o&&restB o
def sendsB(o:Opn):Bool:=plcB o.tk o.tw&&(cntB o&&(decide (o.price=0)&&(!o.buy&&decide (o.id=0))))
def ordersB(o:Opn):Bool:=decide (1≤o.item)&&(decide (1≤o.price)&&(decide (o.price≤1024)&&(cntB o&&(noB o.tk&&(noB o.tw&&decide (o.id=0))))))
def cancelsB(o:Opn):Bool:=decide (1≤o.id)&&(decide (o.id≤1099511627776)&&(noB o.tk&&(noB o.tw&&(decide (o.item=0)&&(decide (o.cnt=0)&&(decide (o.price=0)&&!o.buy))))))
def bareB(o:Opn):Bool:=noB o.tk&&(noB o.tw&&(decide (o.item=0)&&(decide (o.cnt=0)&&(decide (o.price=0)&&(!o.buy&&decide (o.id=0))))))
def kindB(o:Opn):Bool:=
 if o.kind=1 then countsB o else if o.kind=2 then sendsB o else if o.kind=3 then ordersB o else if o.kind=4 then cancelsB o
 else if o.kind=5 then bareB o else if o.kind=6 then countsB o else if o.kind=7 then bareB o else false
def headB(o:Opn):Bool:=decide (1≤o.client)&&(decide (o.client≤1048576)&&(decide (1≤o.seq)&&(decide (o.seq≤1099511627776)&&plcB o.ak o.aw)))
def mayO(o:Opn):Bool:=headB o&&kindB o
def peekE(e:Ec)(o:Opn):Rpl×Bool:=
 if mayO o=false then(⟨1,0,it0⟩,true)
 else if o.kind=6 then(rp0,(getL e.ar (o.client,o.seq)).isSome)
 else if o.kind=7 then(rp0,(getL e.ts (o.client,o.seq)).isNone)
 else match getL e.ss o.client with
  | none=>(rp0,false)
  | some (q,r)=>if o.seq<q then(⟨13,0,it0⟩,true)else if o.seq=q then(r,true)else(rp0,false)
def atV(e:Ec)(k:ByteArray):Vs:=(getL e.vs k).getD vs0
def noneV(V:Vs):Bool:=decide (V.ps.length=0)&&(decide (V.L.length=0)&&decide (V.n=1))
def setV(e:Ec)(k:ByteArray)(V:Vs):Ec:={ e with vs:=if noneV V=true then delL e.vs k else(k,V)::delL e.vs k }
def oneI(item n:Int):It:=setK it0 item n
def tnsOf(o:Opn):Tns:=⟨o.client,o.seq,o.ak,o.aw,o.tk,o.tw,o.item,o.cnt⟩
def ordOf(o:Opn):Ord:=⟨0,o.aw,o.buy,o.item,o.cnt,o.price⟩
def doV(V:Vs)(o:Opn):Rpl×Vs:=
 if o.kind=1 then(⟨putE V.ps o.aw (oneI o.item o.cnt),0,it0⟩, { V with ps:=putP V.ps o.aw (oneI o.item o.cnt) })
 else if o.kind=2 then(⟨takeE V.ps o.aw (oneI o.item o.cnt),0,it0⟩, { V with ps:=takeP V.ps o.aw (oneI o.item o.cnt) })
 else if o.kind=3 then(⟨(ordV V (ordOf o)).2.1,(ordV V (ordOf o)).1,it0⟩,(ordV V (ordOf o)).2.2)
 else if o.kind=4 then(⟨(canV V o.aw o.id).1,0,it0⟩,(canV V o.aw o.id).2)
 else if o.kind=5 then(⟨0,0,purseA V.ps o.aw⟩,V)
 else if o.kind=6 then(rp0, { V with ps:=putP V.ps o.aw (oneI o.item o.cnt) })
 else(rp0,V)
def doT(e:Ec)(o:Opn)(r:Rpl):List ((Int×Int)×Tns):=
 if o.kind=2∧r.err=0 then((o.client,o.seq),tnsOf o)::delL e.ts (o.client,o.seq)
 else if o.kind=7 then delL e.ts (o.client,o.seq)else e.ts
def doA(e:Ec)(o:Opn):List ((Int×Int)×Unit):=if o.kind=6 then((o.client,o.seq),())::delL e.ar (o.client,o.seq)else e.ar
def doS(e:Ec)(o:Opn)(r:Rpl):List (Int×(Int×Rpl)):=if o.kind=6∨o.kind=7 then e.ss else(o.client,(o.seq,r))::delL e.ss o.client
def appE(e:Ec)(o:Opn):Rpl×Bool×Ec:=
 if(peekE e o).2=true then((peekE e o).1,false,e)
 else
  let r:=(doV (atV e o.ak) o).1
  (r,true, { setV e o.ak (doV (atV e o.ak) o).2 with ss:=doS e o r,ts:=doT e o r,ar:=doA e o })
section
variable{κ ν:Type}[DecidableEq κ]
theorem DO7(k:κ)(v:ν)(l:List (κ×ν))(x:κ):getL ((k,v)::l) x=if k=x then some v else getL l x:=by
 unfold getL
 rw[List.find?_cons]
 by_cases h:k=x
 ·rw[if_pos h]
  simp[h]
 ·rw[if_neg h]
  simp[h]
theorem Ol7(l:List (κ×ν))(k x:κ):getL (delL l k) x=if x=k then none else getL l x:=by
 by_cases h:x=k
 ·rw[if_pos h]
  refine GD7 fun y hy=>?_
  have:=(List.mem_filter.1 hy).2
  rw[h]
  simpa using this
 ·rw[if_neg h]
  induction l with
  | nil=>rfl
  | cons y l ih=>
   obtain⟨a,b⟩:=y
   have e:delL ((a,b)::l) k=if a=k then delL l k else(a,b)::delL l k:=by
    unfold delL
    rw[List.filter_cons]
    by_cases hk:a=k <;> simp[hk]
   rw[e,DO7]
   by_cases hk:a=k
   ·rw[if_pos hk,ih,if_neg (fun e=>h (e.symm.trans hk))]
   ·rw[if_neg hk,DO7,ih]
theorem Om7(l:List (κ×ν))(k x:κ)(v:ν):getL ((k,v)::delL l k) x=if k=x then some v else getL l x:=by
 rw[DO7,Ol7]
 by_cases h:k=x
 ·rw[if_pos h,if_pos h]
 ·rw[if_neg h,if_neg h,if_neg (fun e=>h e.symm)]
end
theorem GV7{V:Vs}(h:noneV V=true):V=vs0:=by
 obtain⟨p,L,n⟩:=V
 unfold noneV at h
 simp only[Bool.and_eq_true,decide_eq_true_eq]at h
 obtain⟨h1,h2,h3⟩:=h
 rw[List.eq_nil_of_length_eq_zero h1,List.eq_nil_of_length_eq_zero h2,h3]
structure AlkE(C:Int→Prop)(k:ByteArray)(e f:Ec):Prop where
 v:atV e k=atV f k
 s:∀c,C c→getL e.ss c=getL f.ss c
 t:∀c q,C c→getL e.ts (c,q)=getL f.ts (c,q)
 a:∀c q,C c→getL e.ar (c,q)=getL f.ar (c,q)
def runE(l:List Opn)(e:Ec):Ec:=l.foldl (fun e o=>(appE e o).2.2) e
def atKey(k:ByteArray)(l:List Opn):List Opn:=l.filter fun o=>decide (o.ak=k)
end Go.Proofs.YtlmhakmoioogaaaGreat
end
section
namespace Go.Sl
open Go.RowKit
section
variable{κ:Type}[DecidableEq κ]{P:Program}{K:TypeId}{kd:TypeDesc}{ek:κ→Value}
theorem Df7(heq:∀a b w,(Op.equal K (ek a) (ek b)).run P w=.ok (decide (a=b)) w)(k:κ):∀(l:List (κ×Value×Nat)) (i:Nat) (w:World),(Instr.findAsking K (ek k) (l.map (entA ek)) i).run P w=.ok (findA k l i) w
 | [],_,_=>rfl
 | x::l,i,w=>by
  have e:(entA ek x).key=ek x.1:=rfl
  rw[List.map_cons,Instr.findAsking,e,findA]
  simp only[Sem.run_bind,heq,Result.andThen_ok]
  by_cases hk:k=x.1
  ·rw[if_pos hk]
   simp[hk,entA]
  ·rw[if_neg hk]
   simp[hk]
   exact Df7 heq k l (i+1) w
theorem KeyOk.deep(hK:P.underlying K=some kd)(hsn:∀a b,Instr.sameNow kd (ek a) (ek b)=none)(hchk:∀e k w,(Instr.checkKey e 10000 K (ek k)).run P w=.ok () w)(heq:∀a b w,(Op.equal K (ek a) (ek b)).run P w=.ok (decide (a=b)) w)
  (hb:∀k,Instr.sameBits 10000 (ek k) (ek k)=true):KeyOk P K ek:=
 ⟨hchk,fun k l w=>by
  unfold Instr.findKey
  simp only[Sem.run_bind,run_underlying hK,Result.andThen_ok]
  cases l with
  | nil=>rfl
  | cons x l=>
   have e:Instr.findNow kd (ek k) ((x::l).map (entA ek)) 0=none:=by
    rw[List.map_cons,Instr.findNow]
    have:(entA ek x).key=ek x.1:=rfl
    rw[this,hsn]
   rw[e]
   exact Df7 heq k (x::l) 0 w,hb⟩
end
end Go.Sl
end
section
namespace Go.Sl
open Go.RowKit
section
variable{W w:World}{R A:List HP}
theorem On7{h:Frag}{R:List HP}(hs:sats R h):sep (fun _=>True) (sats R) h:=⟨fun _=>false,trivial,by
 have:cutOut (fun _=>false) h=h:=by funext b;rfl
 rw[this];exact hs⟩
theorem satsOpen:∀{A:List HP} {h:Frag},sep (sats A) (sats R) h→sats (A++R) h
 | [],_,⟨_,_,h2⟩=>Ct7 h2
 | _::_,_,hs=>AH7 (fun _ x=>x) (fun _ x=>satsOpen x) (Hg7 hs)
theorem satsShut:∀{A:List HP} {h:Frag},sats (A++R) h→sep (sats A) (sats R) h
 | [],_,hs=>On7 hs
 | _::_,_,hs=>JB7 (AH7 (fun _ x=>x) (fun _ x=>satsShut x) hs)
theorem St.openS(h:St W (sats A::R) w):St W (A++R) w:=⟨h.os,h.tape,h.output,satsOpen h.sat⟩
theorem St.shutS(A:List HP)(h:St W (A++R) w):St W (sats A::R) w:=⟨h.os,h.tape,h.output,satsShut h.sat⟩
theorem Et7{L L':List HP}(hp:L.Perm L'):∀{h:Frag},sats L h→sats L' h:=by
 induction hp with
 | nil=>exact fun h=>h
 | cons _ _ ih=>exact fun h=>AH7 (fun _ x=>x) (fun _ x=>ih x) h
 | swap _ _ _=>exact fun h=>CO7 h
 | trans _ _ i1 i2=>exact fun h=>i2 (i1 h)
end
section
variable{κ ν:Type}[DecidableEq κ]
theorem Bl7{k:κ}{v:ν}:∀{l:List (κ×ν)},(l.map (·.1)).Nodup→getL l k=some v→l.Perm ((k,v)::delL l k)
 | [],_,h=>(by cases h)
 | y::l,hn,h=>by
  rw[List.map_cons,List.nodup_cons]at hn
  have e:delL (y::l) k=if y.1=k then delL l k else y::delL l k:=by
   unfold delL
   rw[List.filter_cons]
   by_cases hk:y.1=k <;> simp[hk]
  by_cases hk:y.1=k
  ·have h0:∀x∈l,x.1≠k:=fun x hx e=>hn.1 (List.mem_map.2 ⟨x,hx,e.trans hk.symm⟩)
   have hv:y=(k,v):=by
    have h2:=AK7 h
    rcases List.mem_cons.1 h2 with h2|h2
    ·exact h2.symm
    ·exact absurd rfl (h0 _ h2)
   rw[e,if_pos hk,BG7 h0,hv]
  ·have h2:getL l k=some v:=by
    unfold getL at h ⊢
    rw[List.find?_cons]at h
    simpa[hk]using h
   rw[e,if_neg hk]
   exact((Bl7 hn.2 h2).cons y).trans (List.Perm.swap _ _ _)
end
end Go.Sl
namespace Go.Proofs.YtlmhakmoioogaaaGreat
open Go.RowKit Go.Sl
abbrev eN(b:Nat):Value:=.pointer (some ⟨b,0,none⟩)
abbrev eI(z:Int):Value:=.int .i64 z
abbrev eU(_:Unit):Value:=.bool true
abbrev eW(x:Int×Int):Value:=.agg #[.int .i64 x.1,.int .i64 x.2]
abbrev eSs(x:Int×Rpl):Value:=.agg #[.int .i64 x.1,.int .i64 x.2.err,.int .i64 x.2.id,.int .i64 x.2.has.x0,.int .i64 x.2.has.x1,.int .i64 x.2.has.x2,.int .i64 x.2.has.x3]
abbrev eTn(t:Tns):Value:=.agg #[.int .i64 t.client,.int .i64 t.seq,.string t.ak,.string t.aw,.string t.tk,.string t.tw,.int .i64 t.item,.int .i64 t.cnt]
abbrev Ev:=List (ByteArray×(Nat×Vs))
def ptrsE(E:Ev):List (ByteArray×Nat):=E.map fun x=>(x.1,x.2.1)
def stripE(E:Ev):List (ByteArray×Vs):=E.map fun x=>(x.1,x.2.2)
def vaultP(vb:Nat)(V:Vs):HP:=fun f=>∃mb bb:Nat,sats [blk vb [.map (some mb),.pointer (some ⟨bb,0,none⟩),.int .i64 V.n] 176,amap eS eP mb V.ps,bookL bb V.L V.n] f
def vauP(E:Ev):HP:=sats (E.map fun x=>vaultP x.2.1 x.2.2)
abbrev ecL(eb m1 m2 m3 m4:Nat)(E:Ev)(e:Ec)(R:List HP):List HP:=
 blk eb [.map (some m1),.map (some m2),.map (some m3),.map (some m4)] 84::amap eS eN m1 (ptrsE E)::vauP E::amap eI eSs m2 e.ss::amap eW eTn m3 e.ts::amap eW eU m4 e.ar::R
def ecP(eb:Nat)(e:Ec):HP:=fun f=>∃(m1 m2 m3 m4:Nat) (E:Ev),(stripE E).Perm e.vs∧sats (ecL eb m1 m2 m3 m4 E e []) f
section
variable{W w:World}{R L:List HP}{vb eb m1 m2 m3 m4:Nat}{V:Vs}{E E':Ev}{e:Ec}{k:ByteArray}
theorem vaultOpen(h:St W (vaultP vb V::R) w):∃mb bb,St W (vaultL vb mb bb V.ps V.L V.n R) w:=by
 obtain⟨mb,h⟩:=St.ex h
 obtain⟨bb,h⟩:=St.ex h
 exact⟨mb,bb,h.openS⟩
theorem vaultShut{mb bb:Nat}(h:St W (vaultL vb mb bb V.ps V.L V.n R) w):St W (vaultP vb V::R) w:=
 St.mkEx mb (St.mkEx bb (St.shutS [_,_,_] h))
theorem vauOpen{x:ByteArray×(Nat×Vs)}(h:St W (vauP (x::E)::R) w):St W (vaultP x.2.1 x.2.2::vauP E::R) w:=St.split h
theorem vauShut{x:ByteArray×(Nat×Vs)}(h:St W (vaultP x.2.1 x.2.2::vauP E::R) w):St W (vauP (x::E)::R) w:=St.join h
theorem vauPerm(hp:E.Perm E')(h:St W (vauP E::R) w):St W (vauP E'::R) w:=h.imp fun _=>Et7 (hp.map _)
theorem ecOpen(h:St W (ecP eb e::R) w):∃m1 m2 m3 m4 E,(stripE E).Perm e.vs∧St W (ecL eb m1 m2 m3 m4 E e R) w:=by
 obtain⟨m1,h⟩:=St.ex h
 obtain⟨m2,h⟩:=St.ex h
 obtain⟨m3,h⟩:=St.ex h
 obtain⟨m4,h⟩:=St.ex h
 obtain⟨E,h⟩:=St.ex h
 obtain⟨hp,h⟩:=St.and h
 exact⟨m1,m2,m3,m4,E,hp,h.openS⟩
theorem ecShut(hp:(stripE E).Perm e.vs)(h:St W (ecL eb m1 m2 m3 m4 E e R) w):St W (ecP eb e::R) w:=
 St.mkEx m1 (St.mkEx m2 (St.mkEx m3 (St.mkEx m4 (St.mkEx E (St.mkAnd hp (St.shutS [_,_,_,_,_,_] h))))))
theorem AM7(E:Ev):(ptrsE E).map (·.1)=E.map (·.1):=by unfold ptrsE;rw[List.map_map];rfl
theorem Bk7(E:Ev):(stripE E).map (·.1)=E.map (·.1):=by unfold stripE;rw[List.map_map];rfl
theorem Kp7(E:Ev)(k:ByteArray):delL (ptrsE E) k=ptrsE (delL E k):=by unfold ptrsE delL;rw[List.filter_map];rfl
theorem Ib7(E:Ev)(k:ByteArray):delL (stripE E) k=stripE (delL E k):=by unfold stripE delL;rw[List.filter_map];rfl
theorem Kq7{α β:Type}(f:α→β)(l:List (ByteArray×α))(k:ByteArray):getL (l.map fun x=>(x.1,f x.2)) k=(getL l k).map f:=by
 unfold getL
 rw[List.find?_map]
 show((l.find? fun x=>decide (x.1=k)).map fun x=>(x.1,f x.2)).map (·.2)=_
 rw[Option.map_map,Option.map_map]
 rfl
theorem Cx7(E:Ev)(k:ByteArray):getL (ptrsE E) k=(getL E k).map (·.1):=Kq7 (fun x:Nat×Vs=>x.1) E k
theorem Ic7(E:Ev)(k:ByteArray):getL (stripE E) k=(getL E k).map (·.2):=Kq7 (fun x:Nat×Vs=>x.2) E k
theorem QS7(hn:(E.map (·.1)).Nodup)(hp:(stripE E).Perm e.vs)(k:ByteArray):getL e.vs k=(getL E k).map (·.2):=by
 rw[←AA7 (by rw[Bk7];exact hn) hp k,Ic7]
end
end Go.Proofs.YtlmhakmoioogaaaGreat
end
