/-
  The program's vault as bytes.
-/
import Derived.Test.YtlmhakmoioogaaaGreatEconDcM4
import Derived.Test.YtlmhakmoioogaaaGreatEconDcM19
import Derived.Test.YtlmhakmoioogaaaGreatEconDcM22
import Derived.Test.YtlmhakmoioogaaaGreatEconDcM23
set_option maxHeartbeats 16000000
set_option maxRecDepth 100000
set_option linter.unusedSimpArgs false
set_option linter.unusedVariables false
section
namespace Go.Proofs.YtlmhakmoioogaaaGreat
open Go.RowKit Go.Sl
theorem eo4{W w:World}{wb:Nat}{L:List HP}(h:St W (blk wb [.slice none 0 0] 119::L) w):St W (wrR wb []::L) w:=by have h1:=(h.rowNil (k:=1) (T:=5)).swap;exact cb4 (d:=[]) h1
theorem EK7(n:Int):0<(j9 n).length:=by unfold j9;rw[show(8:Nat)=7+1 from rfl,aH4];split <;> simp
theorem aZ4(wb:Nat)(d:List Int)(x:Int)(b c:Nat)(hd:d.length<=90000000)(hx : -9223372036854775808<=x/\x<=9223372036854775807)(W w:World)(R:List HP)(hS:St W (wrR wb d::blk b [.I x] 3::R) w):
  Calls Tryz.prog 65 #[.P wb,.S b 1 c] w fun e w'=>e=.returned (.tuple #[])/\St W (wrR wb (d++j9 x)::blk b [.I x] 3::R) w':=by
 have h:=OB7 wb d [x] b c hd (by simp) (fun y hy=>by rw[List.mem_singleton.1 hy];exact hx) W w R hS;simpa using h
theorem cW4(wb:Nat)(d:List Int)(x0 x1 x2 x3:Int)(g off c:Nat)(hd:d.length<=90000000)(hn:∀x∈[x0,x1,x2,x3], -9223372036854775808<=x/\x<=9223372036854775807)(W w:World)(R:List HP)(hc0:e8 R g off (.I x0))(hc1:e8 R g (off+1) (.I x1))(hc2:e8 R g (off+2) (.I x2))(hc3:e8 R g (off+3) (.I x3))(hS:St W (wrR wb d::R) w):
  Calls Tryz.prog 65 #[.P wb,.slice (some ⟨g,off,none⟩) 4 c] w fun e w'=>e=.returned (.tuple #[])/\St W (wrR wb (d++l9 [x0,x1,x2,x3])::R) w':=
 Rs7 wb d [x0,x1,x2,x3] g off c hd (by simp) hn W w R (fun i hi=>by
  have hi4:i=0\/i=1\/i=2\/i=3:=by simp at hi;omega
  rcases hi4 with rfl|rfl|rfl|rfl
  ·exact hc0
  ·exact hc1
  ·exact hc2
  ·exact hc3) hS
def CwR{α:Type}(W:World)(F:List HP)(wb:Nat)(f:α->List Int)(base:List Int)(xs:List α)(v:Value)(w:World):Prop:=
 ∃k:Nat,v=.I k/\k<=xs.length/\St W (wrR wb (base++(xs.take k).flatMap f)::F) w
theorem bS4(vb mb bb:Nat)(p:Ps)(L:List Ord)(n:Int){N:Nat}(hp:P8 p)(hw:PsW p N)(hN:N<=1000000)(hn0:1<=n)(hn1:n<=1099511627777)(W w:World)(R:List HP)(hS:St W (t8 vb mb bb p L n R) w):
  Calls Tryz.prog 67 #[.P vb] w fun e w'=>∃v,e=.returned v/\St W (byR v (I9 p L n)::t8 vb mb bb p L n R) w':=by
 have hlh:(hdL p).length<=1000000:=by rw[BW7];exact Nat.le_trans hw.len hN
 have hl32:=BP7 hS.drop.drop;have hmay:∀x∈L,MayP x:=fun x hx=>(By7 hS.drop.drop x hx).1
 have hhw:∀x∈hdL p,x.who.size<=16/\w8 x.has=true:=fun x hx=>by refine⟨?_,by rw[Du7 hx];exact hp _⟩;have hk:x.who∈(hdL p).map Hd.who:=List.mem_map_of_mem hx;rw[GT7]at hk;obtain⟨y,hy,e⟩:=Ju7 hk;rw[<-e];exact Ds7 (hw.who y hy)
 have hN2:N<=1000000000:=by omega
 have Hmay:=jH hmay;have Hhw:=jH hhw;have Hw:=jH hw;clear hmay hw hp hhw;unfold I9;go_enter Tryz.func67,Tryz.ntmps67;go_wp2_with(first|go_at_call 124;refine(CQ7 vb mb bb p L n Hw.out hN2 W _ _ hS).mono ?_;clear hS;rintro e w ⟨sa,sc,oa,oc,rfl,hS⟩|(fail_if_success (have:=wb));(with_reducible apply Ao7 hS);rfl;rfl;exact zsS;clear hS;intro wb w hS;refine frS ?_|refine zbs hS ?_;clear hS;intro bS w hS|go_at_call 65;refine(aZ4 wb [] ((hdL p).length:Int) bS 1 (by simp) ⟨by omega,by omega⟩ W _ _ (eo4 (hS.s (blk wb _ _::blk bS _ _::blk vb _ _::c8 eS eP mb p::r7 bb L n::hdR (.slice sa (hdL p).length sc) (hdL p)::i9 (.slice oa L.length oc) L::R)))).mono ?_;clear hS;rw[jN];rintro e w ⟨rfl,hS⟩);have hS1:=hS.s (wrR wb _::blk vb _ _::c8 eS eP mb p::r7 bb L n::hdR (.slice sa (hdL p).length sc) (hdL p)::i9 (.slice oa L.length oc) L::R);clear hS;have hS:=hS1;clear hS1;generalize hhs:hdL p=hs at hS hlh Hhw;have Hhs:=jH hhs;clear hhs
 go_loopw [26] (fun v wr=>CwR W (t8 vb mb bb p L n (hdR (.slice sa hs.length sc) hs::i9 (.slice oa L.length oc) L::R)) wb af4 (j9 hs.length) hs v wr) (fun v _=>hs.length-(intOf v).toNat)
 case atStart=>exact⟨0,rfl,Nat.zero_le _,by simpa using hS⟩
 case round=>
  clear hS;obtain⟨k,rfl,hkl,hS⟩:=hrel;by_cases hkn:k=hs.length
  ·rw[hkn,List.take_length]at hS;have hd1:decide (k<hs.length)=false:=by simp;omega
   clear hkl hkn;have hlkk:=Ap7 hs.length;generalize hacc:j9 hs.length++hs.flatMap af4=acc at hS
   have hal:acc.length<=70000100:=by
    have h1:=BY7 af4 hs fun x hx=>EI7 x (Hhw.out x hx).1
    rw[<-hacc,jA];omega
   have Hacc:=jH hacc;clear hacc hlkk;have hln:=Ap7 L.length;go_wp2_with(first|refine zbs hS ?_;clear hS;intro bS w hS|go_at_call 65;refine(aZ4 wb acc (L.length:Int) bS 1 (by omega) ⟨by omega,by omega⟩ W _ _ (hS.s (wrR wb acc::blk bS _ _::blk vb _ _::c8 eS eP mb p::r7 bb L n::hdR _ hs::i9 (.slice oa L.length oc) L::R))).mono ?_;clear hS;rintro e w ⟨rfl,hS⟩);have hS1:=hS.s (wrR wb _::blk vb _ _::c8 eS eP mb p::r7 bb L n::hdR (.slice sa hs.length sc) hs::i9 (.slice oa L.length oc) L::R);clear hS;have hS:=hS1;clear hS1
   go_loopw [45] (fun v wr=>CwR W (t8 vb mb bb p L n (hdR (.slice sa hs.length sc) hs::i9 (.slice oa L.length oc) L::R)) wb P5 (acc++j9 L.length) L v wr) (fun v _=>L.length-(intOf v).toNat)
   case atStart=>exact⟨0,rfl,Nat.zero_le _,by simpa using hS⟩
   case round=>
    clear hS;obtain⟨j,rfl,hjl,hS⟩:=hrel;by_cases hjn:j=L.length
    ·rw[hjn,List.take_length]at hS;have hd2:decide (j<L.length)=false:=by simp;omega
     clear hjl hjn;have hlo:=BY7 P5 L fun x hx=>EJ7 x (Hmay.out x hx).who1
     generalize hd:acc++j9 L.length++L.flatMap P5=d at hS;have hdl:d.length<=70010000:=by rw[<-hd,jA,jA];omega
     have Hd2:=jH hd;have hlq:=Ap7 n;have hlz:0<(d++j9 n).length:=by have:0<(j9 n).length:=EK7 n;rw[jA];omega
     have hlz2:(d++j9 n).length<=100000000:=by rw[jA];omega
     have Hz:=jH hlz;have Hz2:=jH hlz2;clear hd hlz hlz2;go_wp2_with(first|refine zbs hS ?_;clear hS;intro bS w hS|go_at_call 65;refine(aZ4 wb d n bS 1 (by omega) ⟨by omega,by omega⟩ W _ _ (hS.s (wrR wb d::blk bS _ _::blk vb _ _::c8 eS eP mb p::r7 bb L n::hdR _ hs::i9 (.slice oa L.length oc) L::R))).mono ?_;clear hS;rintro e w ⟨rfl,hS⟩|go_at_call 72;refine(en4 wb _ Hz2.out Hz.out W _ _ hS).mono ?_;clear hS;rintro e w ⟨vo,rfl,hS⟩);go_ret;refine⟨vo,rfl,?_⟩;rw[Hhs.out,Hacc.out,Hd2.out];exact hS.s _
    ·have hj1:j<L.length:=by omega
     obtain⟨⟨g,rfl⟩,_,_⟩:=St.rowAddr hS.drop.drop.drop.drop.drop (by omega);have hcells:∀{K K':List HP},Take K (i9 (.S g L.length oc) L) K'->d7 K g (j*6) (Ord.cells L[j]):=fun hu=>d7.elemM (enc:=Ord.cells) Ord.len hu hj1
     have hst:=Bq7 P5 (acc++j9 L.length) L hj1;have hmx:=Hmay.out _ (jW hj1);have hlt:=BY7 P5 (L.take j) fun x hx=>EJ7 x (Hmay.out x (List.mem_of_mem_take hx)).who1
     rw[jT]at hlt;generalize hd:acc++j9 L.length++(L.take j).flatMap P5=d at hS hst;have hdl:d.length<=70010000:=by rw[<-hd,jA,jA];omega
     generalize L[j]=x at hcells hst hmx;obtain⟨oi,ou,oy,ot,oc2,op⟩:=x;have i0:1<=oi:=hmx.id0;have i1:oi<=1099511627776:=hmx.id1;have w1:ou.size<=16:=hmx.who1;have t0:1<=ot:=hmx.item0;have t1:ot<=3:=hmx.item1;have c0:1<=oc2:=hmx.cnt0;have c1:oc2<=1048576:=hmx.cnt1;have p0:1<=op:=hmx.price0;have p1:op<=1024:=hmx.price1;have l1:=Ap7 oi;have l4:=Cc7 ou w1;have Hst:=jH hst;clear hst hmx hd hlt hjn hjl;simp only[Ord.cells]at hcells;have hq1:(d++j9 oi).length<=90000000:=by rw[jA];omega
     have hq2:(d++j9 oi++y8 ou).length<=90000000:=by rw[jA,jA];omega
     have Hq1:=jH hq1;have Hq2:=jH hq2;clear hq1 hq2
     cases oy with
     | false=>
      have Hst2:=jH (show acc++j9 L.length++(L.take (j+1)).flatMap P5=d++j9 oi++y8 ou++l9 [0,ot,oc2,op]by rw[Hst.out];unfold P5;simp[bp4,jS])
      have hn:∀x∈[(0:Int),ot,oc2,op], -9223372036854775808<=x/\x<=9223372036854775807:=by
       intro x hx;simp only[List.mem_cons,List.not_mem_nil,or_false]at hx
       rcases hx with rfl|rfl|rfl|rfl
       all_goals exact⟨by omega,by omega⟩
      have Hn:=jH hn;clear hn;go_wp2_with(first|refine zlN hS ?_ (hc:=by exact hcells (by exact g8))|(fail_if_success (have:=b8));((have:=wb);(with_reducible apply Ao7 hS);rfl;rfl;exact zsS;clear hS;intro b8 w hS;refine frS ?_)|refine zsN hS ?_;clear hS;intro w hS|refine zl1 hS ?_|(with_reducible apply AB7 hS);rfl;rfl;rfl;exact Tryz.underlying9;exact Tryz.underlying63;exact Tryz.underlying5;clear hS;intro g9 c9 w hS;refine frS ?_|refine zbs hS ?_;clear hS;intro bS w hS|(fail_if_success (have:=mN1));go_at_call 65;refine(aZ4 wb d oi bS 1 (by omega) ⟨by omega,by omega⟩ W _ _ (hS.s (wrR wb d::blk bS _ _::blk b8 _ _::blk vb _ _::c8 eS eP mb p::r7 bb L n::hdR _ hs::i9 _ L::R))).mono ?_;clear hS;rintro e w ⟨rfl,hS⟩;have mN1:Nat:=0|go_at_call 66;(have hS2:St W (blk bS [.S g9 ou.size c9] 63::_) _:=hS);refine(KL7 wb (d++j9 oi) ou bS g9 c9 1 Hq1.out (by omega) W _ _ (hS2.s (wrR wb _::blk bS _ _::sbR g9 ou::blk b8 _ _::blk vb _ _::c8 eS eP mb p::r7 bb L n::hdR _ hs::i9 _ L::R))).mono ?_;clear hS hS2;rintro e w ⟨rfl,hS⟩|(have:=mN1);go_at_call 65;(have hS2:St W (blk bS [.I 0,.I ot,.I oc2,.I op] 3::_) _:=hS);refine(cW4 wb (d++j9 oi++y8 ou) 0 ot oc2 op bS 0 4 Hq2.out Hn.out W _ (blk bS [.I 0,.I ot,.I oc2,.I op] 3::blk vb _ _::c8 eS eP mb p::r7 bb L n::hdR _ hs::i9 _ L::R) (e8.here rfl) (e8.here rfl) (e8.here rfl) (e8.here rfl) (hS2.s _)).mono ?_;clear hS hS2;rintro e w ⟨rfl,hS⟩);go_roundw
      case rel=>exact⟨j+1,rfl,hj1,by rw[Hst2.out];exact hS.s _⟩
      case measure=>simp[intOf];omega
     | true=>
      have Hst2:=jH (show acc++j9 L.length++(L.take (j+1)).flatMap P5=d++j9 oi++y8 ou++l9 [1,ot,oc2,op]by rw[Hst.out];unfold P5;simp[bp4,jS])
      have hn:∀x∈[(1:Int),ot,oc2,op], -9223372036854775808<=x/\x<=9223372036854775807:=by
       intro x hx;simp only[List.mem_cons,List.not_mem_nil,or_false]at hx
       rcases hx with rfl|rfl|rfl|rfl
       all_goals exact⟨by omega,by omega⟩
      have Hn:=jH hn;clear hn;go_wp2_with(first|refine zlN hS ?_ (hc:=by exact hcells (by exact g8))|(fail_if_success (have:=b8));((have:=wb);(with_reducible apply Ao7 hS);rfl;rfl;exact zsS;clear hS;intro b8 w hS;refine frS ?_)|refine zsN hS ?_;clear hS;intro w hS|refine zl1 hS ?_|(with_reducible apply AB7 hS);rfl;rfl;rfl;exact Tryz.underlying9;exact Tryz.underlying63;exact Tryz.underlying5;clear hS;intro g9 c9 w hS;refine frS ?_|refine zbs hS ?_;clear hS;intro bS w hS|(fail_if_success (have:=mN1));go_at_call 65;refine(aZ4 wb d oi bS 1 (by omega) ⟨by omega,by omega⟩ W _ _ (hS.s (wrR wb d::blk bS _ _::blk b8 _ _::blk vb _ _::c8 eS eP mb p::r7 bb L n::hdR _ hs::i9 _ L::R))).mono ?_;clear hS;rintro e w ⟨rfl,hS⟩;have mN1:Nat:=0|go_at_call 66;(have hS2:St W (blk bS [.S g9 ou.size c9] 63::_) _:=hS);refine(KL7 wb (d++j9 oi) ou bS g9 c9 1 Hq1.out (by omega) W _ _ (hS2.s (wrR wb _::blk bS _ _::sbR g9 ou::blk b8 _ _::blk vb _ _::c8 eS eP mb p::r7 bb L n::hdR _ hs::i9 _ L::R))).mono ?_;clear hS hS2;rintro e w ⟨rfl,hS⟩|(have:=mN1);go_at_call 65;(have hS2:St W (blk bS [.I 1,.I ot,.I oc2,.I op] 3::_) _:=hS);refine(cW4 wb (d++j9 oi++y8 ou) 1 ot oc2 op bS 0 4 Hq2.out Hn.out W _ (blk bS [.I 1,.I ot,.I oc2,.I op] 3::blk vb _ _::c8 eS eP mb p::r7 bb L n::hdR _ hs::i9 _ L::R) (e8.here rfl) (e8.here rfl) (e8.here rfl) (e8.here rfl) (hS2.s _)).mono ?_;clear hS hS2;rintro e w ⟨rfl,hS⟩);go_roundw
      case rel=>exact⟨j+1,rfl,hj1,by rw[Hst2.out];exact hS.s _⟩
      case measure=>simp[intOf];omega
  ·have hk1:k<hs.length:=by omega
   obtain⟨⟨g,rfl⟩,_,_⟩:=St.rowAddr hS.drop.drop.drop.drop (by omega);have hcells:∀{K K':List HP},Take K (hdR (.S g hs.length sc) hs) K'->d7 K g (k*5) (Hd.cells hs[k]):=fun hu=>d7.elemM (enc:=Hd.cells) Hd.len hu hk1
   have hst:=Bq7 af4 (j9 hs.length) hs hk1;have hmx:=Hhw.out _ (jW hk1);have hlt:=BY7 af4 (hs.take k) fun x hx=>EI7 x (Hhw.out x (List.mem_of_mem_take hx)).1
   rw[jT]at hlt;have hlk:=Ap7 hs.length;generalize hd:j9 hs.length++(hs.take k).flatMap af4=d at hS hst;have hdl:d.length<=70000100:=by rw[<-hd,jA];omega
   generalize hs[k]=x at hcells hst hmx;obtain⟨xw,⟨x0,x1,x2,x3⟩⟩:=x;obtain⟨w1,hit⟩:=hmx;simp only at w1;obtain⟨a0,a1,a2,a3⟩:=Ai7.1 hit;simp only at a0 a1 a2 a3
   have hn:∀x∈[x0,x1,x2,x3], -9223372036854775808<=x/\x<=9223372036854775807:=by
    intro x hx;simp only[List.mem_cons,List.not_mem_nil,or_false]at hx
    rcases hx with rfl|rfl|rfl|rfl
    all_goals exact⟨by omega,by omega⟩
   have l4:=Cc7 xw w1;have hdl2:(d++y8 xw).length<=90000000:=by rw[jA];omega
   have Hdl2:=jH hdl2;have Hn:=jH hn;have Hst:=jH (show j9 hs.length++(hs.take (k+1)).flatMap af4=d++y8 xw++l9 [x0,x1,x2,x3]by rw[hst,jS];rfl);clear hst hit hd hlt hkn hkl hdl2 hn;simp only[Hd.cells,It.cells]at hcells;go_wp2_with(first|refine zlN hS ?_ (hc:=by exact hcells (by exact g8))|(fail_if_success (have:=b8));((have:=wb);(with_reducible apply Ao7 hS);rfl;rfl;exact zsS;clear hS;intro b8 w hS;refine frS ?_)|refine zsN hS ?_;clear hS;intro w hS|refine zl1 hS ?_|(with_reducible apply AB7 hS);rfl;rfl;rfl;exact Tryz.underlying9;exact Tryz.underlying63;exact Tryz.underlying5;clear hS;intro g9 c9 w hS;refine frS ?_|(with_reducible apply eI4 hS);rfl;rfl;(focus(simp only[fD,fI,fJ,Act.eval,fE,fF,fG,fH,fK];try rfl));exact esS;exact rsS;rfl;rfl;rfl;rfl;clear hS;intro bT w hS;refine frS ?_|go_at_call 66;refine(KL7 wb d xw bT g9 c9 1 (by omega) (by omega) W _ _ (hS.s (wrR wb d::blk bT _ _::sbR g9 xw::blk b8 _ _::blk vb _ _::c8 eS eP mb p::r7 bb L n::hdR _ hs::i9 _ L::R))).mono ?_;clear hS;rintro e w ⟨rfl,hS⟩|go_at_call 65;refine(cW4 wb (d++y8 xw) x0 x1 x2 x3 b8 1 4 Hdl2.out Hn.out W _ (blk b8 [.string xw,.I x0,.I x1,.I x2,.I x3] 189::blk vb _ _::c8 eS eP mb p::r7 bb L n::hdR _ hs::i9 _ L::R) (e8.here rfl) (e8.here rfl) (e8.here rfl) (e8.here rfl) (hS.s _)).mono ?_;clear hS;rintro e w ⟨rfl,hS⟩);go_roundw
   case rel=>exact⟨k+1,rfl,hk1,by rw[Hst.out];exact hS.s _⟩
   case measure=>simp[intOf];omega
theorem Qx7(vb mb bb:Nat)(p:Ps)(L:List Ord)(n:Int){N:Nat}(hw:PsW p N)(hN:N<=1000000000)(W w:World)(R:List HP)(hS:St W (t8 vb mb bb p L n R) w):
  Calls Tryz.prog 57 #[.P vb] w fun e w'=>e=.returned (.tuple #[.agg (I6 (G7 ⟨p,L,n⟩)).cells.toArray,.bool (y9 (G7 ⟨p,L,n⟩) it0).isSome])/\St W (t8 vb mb bb p L n R) w':=by
 have hll:=BP7 hS.drop.drop;have hmay:∀x∈L,MayP x:=fun x hx=>(By7 hS.drop.drop x hx).1
 have hlh:(hdL p).length<=1000000000:=by rw[BW7];exact Nat.le_trans hw.len hN
 have Hmay:=jH hmay;have Hw:=jH hw;clear hmay hw;go_enter Tryz.func57,Tryz.ntmps57;go_wp2_with(first|go_at_call 124;refine(CQ7 vb mb bb p L n Hw.out hN W _ _ (hS.s (blk vb _ _::c8 eS eP mb p::r7 bb L n::blk b0 _ _::R))).mono ?_;clear hS;rintro e w ⟨sa,sc,oa,oc,rfl,hS⟩|(with_reducible apply Ao7 hS);rfl;rfl;exact zsS;clear hS;intro b0 w hS;refine frS ?_);generalize hhs:hdL p=hs at hS hlh;have Hhs:=jH hhs;clear hhs;have hS1:=hS.rowNil (k:=4) (T:=29);clear hS;have hS:=hS1;clear hS1
 go_loopw [7,22] (fun v7 v22 wr=>TtR W (t8 vb mb bb p L n (hdR (.slice sa hs.length sc) hs::i9 (.slice oa L.length oc) L::blk b0 [.I 0,.I 0,.I 0,.I 0] 29::R)) hs.length (fun k=>(hs.take k).map Hd.has) v7 v22 wr) (fun _ v22 _=>hs.length-(intOf v22).toNat)
 case atStart=>exact⟨0,rfl,Nat.zero_le _,hS⟩
 case round=>
  clear hS;obtain⟨k,rfl,hkl,hS⟩:=hrel;dsimp only at hS;by_cases hkn:k=hs.length
  ·rw[hkn,List.take_length]at hS;have hd1:decide (k<hs.length)=false:=by simp;omega
   clear hkl hkn;generalize hacc:hs.map Hd.has=acc at hS;have hal:acc.length<=1000000000:=by rw[<-hacc,jM];exact hlh
   have Hacc:=jH hacc;clear hacc;go_wp2_with(fail)
   go_loopw [7,34] (fun v7 v34 wr=>TtR W (t8 vb mb bb p L n (hdR (.slice sa hs.length sc) hs::i9 (.slice oa L.length oc) L::blk b0 [.I 0,.I 0,.I 0,.I 0] 29::R)) L.length (fun k=>acc++(L.take k).map m9) v7 v34 wr) (fun _ v34 _=>L.length-(intOf v34).toNat)
   case atStart=>exact⟨0,rfl,Nat.zero_le _,by simpa using hS⟩
   case round=>
    clear hS;obtain⟨j,rfl,hjl,hS⟩:=hrel;dsimp only at hS;by_cases hjn:j=L.length
    ·rw[hjn,List.take_length]at hS;have hd2:decide (j<L.length)=false:=by simp;omega
     have eall:G7 ⟨p,L,n⟩=acc++L.map m9:=by unfold G7;rw[Hhs.out,Hacc.out]
     have Eall:=jH eall;clear eall;obtain⟨q,hq⟩:∃q,I6 (acc++L.map m9)=q:=⟨_,rfl⟩
     obtain⟨s0,s1,s2,s3⟩:=q;obtain⟨bo,hbo⟩:∃b,(y9 (acc++L.map m9) it0).isSome=b:=⟨_,rfl⟩
     have Hq:=jH hq;have Hbo:=jH hbo;clear hq hbo hjl hjn
     cases bo
     ·skip
      go_wp2_with(first|go_at_call 58;refine(Ln7 _ _ W _ _ hS).mono ?_;clear hS;rw[Hq.out,Hbo.out];simp only[It.cells];rintro e w ⟨rfl,hS⟩|(with_reducible apply Ao7 hS);rfl;rfl;exact zsS;clear hS;intro bt w hS;refine frS ?_|refine zsN hS ?_;clear hS;intro w hS|refine zlN hS ?_);apply Ab7;rfl;rfl;rfl;rfl;exact hS;decide +kernel;(exact x9);kernel_rfl;rw[Eall.out,Hq.out,Hbo.out];exact⟨rfl,hS.s _⟩
     ·skip
      go_wp2_with(first|go_at_call 58;refine(Ln7 _ _ W _ _ hS).mono ?_;clear hS;rw[Hq.out,Hbo.out];simp only[It.cells];rintro e w ⟨rfl,hS⟩|(with_reducible apply Ao7 hS);rfl;rfl;exact zsS;clear hS;intro bt w hS;refine frS ?_|refine zsN hS ?_;clear hS;intro w hS|refine zlN hS ?_);apply Ab7;rfl;rfl;rfl;rfl;exact hS;decide +kernel;(exact x9);kernel_rfl;rw[Eall.out,Hq.out,Hbo.out];exact⟨rfl,hS.s _⟩
    ·have hj1:j<L.length:=by omega
     obtain⟨⟨g,rfl⟩,_,_⟩:=St.rowAddr hS.drop.drop.drop.drop.drop (by omega);have hcells:∀{K K':List HP},Take K (i9 (.S g L.length oc) L) K'->d7 K g (j*6) (Ord.cells L[j]):=fun hu=>d7.elemM (enc:=Ord.cells) Ord.len hu hj1
     have hstep:acc++(L.take (j+1)).map m9=(acc++(L.take j).map m9)++[m9 L[j]]:=by rw[BR7 _ _ hj1,jS]
     have hmx:=Hmay.out _ (jW hj1);have hbl:(acc++(L.take j).map m9).length<=1000000100:=by rw[jA,jM,jT];omega
     have Hstep:=jH hstep;clear hstep hjn hjl;generalize acc++(L.take j).map m9=accj at hS Hstep hbl;generalize L[j]=x at hcells Hstep hmx;obtain⟨it,hit⟩:∃y,m9 x=y:=⟨_,rfl⟩
     obtain⟨oi,ou,oy,ot,oc2,op⟩:=x;obtain⟨h0,h1,h2,h3⟩:=it;have Hit:=jH hit;have Hm:=jH hmx;clear hit hmx;simp only[Ord.cells]at hcells;go_wp2_with(first|refine zlN hS ?_ (hc:=by exact hcells (by exact g8))|go_at_call 125;refine(Ey7 (o:=⟨oi,ou,oy,ot,oc2,op⟩) Hm.out Hit.out W _ _ hS).mono ?_;clear hS;rintro e w ⟨rfl,hS⟩|refine zbs hS ?_;clear hS;intro bS w hS|refine zap hS ?_ (h63:=by unfold maxLen;omega) (hb:=by omega);clear hS;intro v w hS|(with_reducible apply Ao7 hS);rfl;rfl;exact zsS;clear hS;intro bx w hS;refine frS ?_|refine zsN hS ?_;clear hS;intro w hS|refine zlN hS ?_);go_roundw
     case rel=>
      refine⟨j+1,rfl,hj1,?_⟩;dsimp only;rw[Hstep.out,Hit.out];unfold aU4;rw[CA7,jA,List.length_singleton];have h0:St W (row v 4 29 (accj.length+1) (accj.flatMap It.cells++It.cells ⟨h0,h1,h2,h3⟩)::_) w:=hS;exact h0.s _
     case measure=>simp[intOf];omega
  ·have hk1:k<hs.length:=by omega
   obtain⟨⟨g,rfl⟩,_,_⟩:=St.rowAddr hS.drop.drop.drop.drop (by omega);have hcells:∀{K K':List HP},Take K (hdR (.S g hs.length sc) hs) K'->d7 K g (k*5) (Hd.cells hs[k]):=fun hu=>d7.elemM (enc:=Hd.cells) Hd.len hu hk1
   have hstep:=BR7 Hd.has hs hk1;have hbl:((hs.take k).map Hd.has).length<=1000000100:=by rw[jM,jT];omega
   have Hstep:=jH hstep;clear hstep hkn hkl;generalize (hs.take k).map Hd.has=accj at hS Hstep hbl;generalize hs[k]=x at hcells Hstep;obtain⟨xw,⟨x0,x1,x2,x3⟩⟩:=x;simp only[Hd.cells,It.cells]at hcells;go_wp2_with(first|refine zlN hS ?_ (hc:=by exact hcells (by exact g8))|refine zlN hS ?_ (hc:=by exact d7.here (vs:=[.I x0,.I x1,.I x2,.I x3]) rfl)|refine zbs hS ?_;clear hS;intro bS w hS|refine zap hS ?_ (h63:=by unfold maxLen;omega) (hb:=by omega);clear hS;intro v w hS|(with_reducible apply Ao7 hS);rfl;rfl;exact zsS;clear hS;intro bx w hS;refine frS ?_|refine zsN hS ?_;clear hS;intro w hS);go_roundw
   case rel=>
    refine⟨k+1,rfl,hk1,?_⟩;dsimp only;rw[Hstep.out];unfold aU4;rw[CA7,jA,List.length_singleton];have h0:St W (row v 4 29 (accj.length+1) (accj.flatMap It.cells++It.cells ⟨x0,x1,x2,x3⟩)::_) w:=hS;exact h0.s _
   case measure=>simp[intOf];omega
theorem LV7:∀(l:List It) {s t:It},w8 s=true->y9 l s=some t->w8 t=true/\(∀i∈l,w8 i=true)/\∀k,Kx k->G8 t k=G8 s k+bD4 k l
 | [],s,t,hs,h=>by
  rw[y9]at h
  cases h
  refine⟨hs,fun i hi=>(by cases hi),fun k _=>?_⟩;show _=_+(0:Int)
  omega
 | i::l,s,t,hs,h=>by
  rw[y9]at h;by_cases hc:w8 i=true/\w8 (S7 s i)=true
  ·rw[if_pos hc]at h;obtain⟨h1,h2,h3⟩:=LV7 l hc.2 h;refine⟨h1,fun j hj=>?_,fun k hk=>?_⟩
   ·rcases List.mem_cons.1 hj with rfl|hj
    ·exact hc.1
    ·exact h2 j hj
   ·rw[h3 k hk,Io7];show _+_+bD4 k l=_+(G8 i k+bD4 k l)
    omega
  ·rw[if_neg hc]at h
   cases h
theorem Ea7{l l':List It}(hp:l.Perm l'){t:It}(h:y9 l it0=some t):y9 l' it0=some t:=by obtain⟨h1,h2,h3⟩:=LV7 l KC7 h;exact LP7 l' (fun i hi=>h2 i (hp.mem_iff.2 hi)) KC7 (fun k hk=>by rw[h3 k hk,Op7 hp]) fun k hk=>(Fj7 h1 k).2
theorem JF7{l l':List It}(hp:l.Perm l'):y9 l it0=y9 l' it0:=by
 cases h:y9 l it0 with
 | some t=>exact(Ea7 hp h).symm
 | none=>
  cases h':y9 l' it0 with
  | none=>rfl
  | some t=>rw[Ea7 hp.symm h']at h;cases h
structure TotR(vs:List Vs)(r:It)(b:Bool):Prop where
 no:∀V∈vs,y9 (G7 V) it0=none->b=false/\r=it0
 all:(∀V∈vs,y9 (G7 V) it0≠none)->∀l:List It,l.Perm (vs.map fun V=>I6 (G7 V))->(b=true/\y9 l it0=some r)\/(b=false/\r=it0/\y9 l it0=none)
theorem So7(vs:List Vs):∃r b,TotR vs r b:=by
 by_cases h:∃V∈vs,y9 (G7 V) it0=none
 ·obtain⟨V,hV,h1⟩:=h;exact⟨it0,false,fun _ _ _=>⟨rfl,rfl⟩,fun h2=>absurd h1 (h2 V hV)⟩
 ·have h0:∀V∈vs,y9 (G7 V) it0≠none:=fun V hV h1=>h ⟨V,hV,h1⟩
  cases ht:y9 (vs.map fun V=>I6 (G7 V)) it0 with
  | some t=>exact⟨t,true,fun V hV h1=>absurd h1 (h0 V hV),fun _ l hl=>.inl ⟨rfl,by rw[JF7 hl,ht]⟩⟩
  | none=>exact⟨it0,false,fun V hV h1=>absurd h1 (h0 V hV),fun _ l hl=>.inr ⟨rfl,rfl,by rw[JF7 hl,ht]⟩⟩
theorem JG7{vs vs':List Vs}(hp:vs.Perm vs'){r:It}{b:Bool}(h:TotR vs r b):TotR vs' r b:=
 ⟨fun V hV=>h.no V (hp.mem_iff.2 hV),fun h2 l hl=>h.all (fun V hV=>h2 V (hp.mem_iff.1 hV)) l (hl.trans (hp.symm.map _))⟩
theorem OC7(vb mb bb:Nat)(p:Ps)(L:List Ord)(n:Int){N:Nat}(hw:PsW p N)(hN:N<=1000000000)(ht:y9 (G7 ⟨p,L,n⟩) it0=none)(W w:World)(R:List HP)(hS:St W (t8 vb mb bb p L n R) w):
  Calls Tryz.prog 57 #[.P vb] w fun e w'=>e=.returned (.tuple #[.agg #[.I 0,.I 0,.I 0,.I 0],.bool false])/\St W (t8 vb mb bb p L n R) w':=by
 have h:=Qx7 vb mb bb p L n hw hN W w R hS;rw[I6,ht]at h;exact h
theorem OD7{vb N:Nat}{V:Vs}(hw:PsW V.ps N)(hN:N<=1000000)(hmay:∀x∈V.L,MayP x)(hl32:V.L.length<=32)(ht:y9 (G7 V) it0=none){W w:World}{R:List HP}(hS:St W (dvP vb V::R) w):
  Calls Tryz.prog 139 #[.P vb] w fun e w'=>e=.returned (.tuple #[.agg #[.I 0,.I 0,.I 0,.I 0],.bool false])/\St W (dvP vb V::R) w':=by
 obtain⟨xB,hS0⟩:=dx4 hS;refine(em4 vb xB V.ps V.L V.n hw hN hmay hl32 W w R hS0).mono ?_;have h1:y9 (G7 ⟨V.ps,V.L,V.n⟩) it0=none:=ht;rw[I6,h1];rintro e w' ⟨rfl,hS⟩;exact⟨rfl,cy4 hS⟩
def TgR(W:World)(R:List HP)(E:Ev)(m1 r:Nat)(v4:Value)(w:World):Prop:=
 ∃done todo:List (ByteArray×Nat),(done++todo).Perm (i8 E)/\(∀y∈done,y9 (G7 (vAt E y.1)) it0≠none)/\St W (aU4 v4 (done.map fun y=>I6 (G7 (vAt E y.1)))::itR eS eN r m1 (i8 E) todo::j8 E::R) w
theorem LW7{eb:Nat}{e:Ec}(hw:∀x∈e.vs,PsW x.2.ps 60000)(hl:e.vs.length<=1000000){t0 t1 t2 t3:Int}{b:Bool}(ht:TotR (e.vs.map (·.2)) ⟨t0,t1,t2,t3⟩ b)(W w:World)(R:List HP)(hS:St W (ecP eb e::R) w):
  Calls Tryz.prog 22 #[.P eb] w fun x w'=>x=.returned (.tuple #[.agg #[.I t0,.I t1,.I t2,.I t3],.bool b])/\St W (ecP eb e::R) w':=by
 obtain⟨m1,m2,m3,m4,E,hp,hn,hS0⟩:=aO4 hS;have hS1:=D9 hS0;clear hS hS0;have hEl:(i8 E).length<=1000000:=by have h1:=hp.length_eq;unfold m8 at h1;unfold i8;rw[jM]at h1 ⊢;omega
 have hm:∀(y:ByteArray×Nat) (todo':List (ByteArray×Nat)) {done todo:List (ByteArray×Nat)},(done++todo).Perm (i8 E)->todo.Perm (y::todo')->∃V,E.Perm ((y.1,(y.2,V))::l8 E y.1)/\vAt E y.1=V/\PsW V.ps 60000/\V∈e.vs.map (·.2):=by intro y todo' done todo h1 h2;have h3:y∈i8 E:=h1.mem_iff.1 (List.mem_append_right _ (h2.mem_iff.2 (List.mem_cons_self ..)));obtain⟨x,hx,rfl⟩:=List.mem_map.1 h3;have h4:p9 E x.1=some x.2:=BK7 hn hx;have h5:(x.1,x.2.2)∈e.vs:=hp.mem_iff.1 (List.mem_map.2 ⟨x,hx,rfl⟩);refine⟨x.2.2,CX7 hn h4,?_,hw _ h5,List.mem_map.2 ⟨_,h5,rfl⟩⟩;unfold vAt;rw[h4];rfl
 have hva:∀x∈E,vAt E x.1=x.2.2:=fun x hx=>by unfold vAt;rw[BK7 (v:=x.2) hn hx];rfl
 have hend:∀done:List (ByteArray×Nat),done.Perm (i8 E)->(∀y∈done,y9 (G7 (vAt E y.1)) it0≠none)->(b=true/\y9 (done.map fun y=>I6 (G7 (vAt E y.1))) it0=some ⟨t0,t1,t2,t3⟩)\/(b=false/\(⟨t0,t1,t2,t3⟩:It)=it0/\y9 (done.map fun y=>I6 (G7 (vAt E y.1))) it0=none):=by
  intro done h1 h2;refine ht.all (fun V hV=>?_) _ ?_
  ·obtain⟨x,hx,rfl⟩:=List.mem_map.1 hV;obtain⟨y,hy,rfl⟩:=List.mem_map.1 (hp.mem_iff.2 hx);have h3:=h2 (y.1,y.2.1) (h1.mem_iff.2 (List.mem_map.2 ⟨y,hy,rfl⟩));rw[hva y hy]at h3;exact h3
  ·refine(h1.map _).trans ?_
   have h4:((i8 E).map fun y=>I6 (G7 (vAt E y.1)))=(m8 E).map fun x=>I6 (G7 x.2):=by
    unfold i8 m8;rw[List.map_map,List.map_map];refine List.map_congr_left fun x hx=>?_
    show I6 (G7 (vAt E x.1))=I6 (G7 x.2.2)
    rw[hva x hx]
   rw[h4,List.map_map];exact hp.map _
 have Hend:=jH hend;have Hp:=jH hp;have Ht:=jH ht;clear hend hp hw ht hva;have hS:=hS1;clear hS1;go_enter Tryz.func22,Tryz.ntmps22;go_wp2_with(first|(fail_if_success (have:=gA));(refine zal hS ?_;clear hS;have gA:Nat:=0;intro b0 w hS)|refine zl1 hS ?_|(with_reducible apply Nz7 (ek:=eS) (ev:=eN) hS);rfl;rfl;rfl;exact mV;exact g8;clear hS;intro r w hS;refine frS ?_);have hS1:=hS.rowNil (k:=4) (T:=29);clear hS;have hS:=hS1;clear hS1
 go_loopw [4] (fun v4 wr=>TgR W (blk eb [.map (some m1),.map (some m2),.map (some m3),.map (some m4)] 84::blk b0 [.I 0,.I 0,.I 0,.I 0] 29::c8 eI eSs m2 e.ss::c8 eW eTn m3 e.ts::c8 eW eU m4 e.ar::R) E m1 r v4 wr) (fun _ wr=>bV4 r m1 wr)
 case atStart=>
  refine⟨[],i8 E,List.Perm.refl _,fun y hy=>(by cases hy),?_⟩;have h0:St W (aU4 (.slice none 0 0) ([]:List It)::_) _:=hS;show St W (aU4 (.slice none 0 0) ([]:List It)::_) _
  exact h0.s _
 case round=>
  clear hS;obtain⟨done,todo,hdt,hdn,hS⟩:=hrel;have hm1:=BN7 hS.drop;have hdl:done.length<=1000000:=by have:=hdt.length_eq;rw[jA]at this;omega
  by_cases ht:todo=[]
  ·have hall:=Hend.out done (by rw[ht,List.append_nil]at hdt;exact hdt) hdn;clear hdt hm1 hm hdn;generalize (done.map fun y=>I6 (G7 (vAt E y.1)))=acc at hS hall
   rcases hall with ⟨rfl,hall⟩|⟨rfl,hz,hall⟩
   ·have Hall:=jH hall;clear hall;go_wp2_with(first|(with_reducible apply IZ7 (ek:=eS) (ev:=eN) hS);rfl;rfl;rfl;exact g8;exact ht;refine frS ?_|go_at_call 58;refine(Ig7 Hall.out _ W _ _ hS).mono ?_;clear hS;rintro ex w ⟨rfl,hS⟩|refine zsN hS ?_;clear hS;intro w hS);apply Ab7;rfl;rfl;rfl;rfl;exact hS;decide +kernel;(exact x9);kernel_rfl;have h1:=cF4 (hS.s (itR eS eN r m1 (i8 E) todo::j8 E::blk eb _ _::c8 eI eSs m2 e.ss::c8 eW eTn m3 e.ts::c8 eW eU m4 e.ar::R));exact⟨rfl,R6 Hp.out (h1.s _)⟩
   ·have Hall:=jH hall;clear hall
    injection hz with z0 z1 z2 z3
    subst z0 z1 z2 z3;go_wp2_with(first|(with_reducible apply IZ7 (ek:=eS) (ev:=eN) hS);rfl;rfl;rfl;exact g8;exact ht;refine frS ?_|go_at_call 58;refine(Lt7 Hall.out _ W _ _ hS).mono ?_;clear hS;rintro ex w ⟨rfl,hS⟩|refine zsN hS ?_;clear hS;intro w hS);apply Ab7;rfl;rfl;rfl;rfl;exact hS;decide +kernel;(exact x9);kernel_rfl;have h1:=cF4 (hS.s (itR eS eN r m1 (i8 E) todo::j8 E::blk eb _ _::c8 eI eSs m2 e.ss::c8 eW eTn m3 e.ts::c8 eW eU m4 e.ar::R));exact⟨rfl,R6 Hp.out (h1.s _)⟩
  ·have hm':∀(y:ByteArray×Nat) (todo':List (ByteArray×Nat)),todo.Perm (y::todo')->∃V,E.Perm ((y.1,(y.2,V))::l8 E y.1)/\vAt E y.1=V/\PsW V.ps 60000/\V∈e.vs.map (·.2):=fun y todo' h=>hm y todo' hdt h
   have hnx:∀(y:ByteArray×Nat) (todo':List (ByteArray×Nat)),todo.Perm (y::todo')->(done++[y]++todo').Perm (i8 E):=fun y todo' h=>by rw[jS];exact(List.Perm.append_left done h.symm).trans hdt
   have Hm:=jH hm';have Hnx:=jH hnx;have Hm1:=jH hm1;have Hdn:=jH hdn;clear hm hm' hnx hdt hm1 hdn;obtain⟨accj,hacc⟩:∃l,(done.map fun y=>I6 (G7 (vAt E y.1)))=l:=⟨_,rfl⟩
   have hal:accj.length<=1000000:=by rw[<-hacc,jM];exact hdl
   rw[hacc]at hS;have Hacc:=jH hacc;clear hacc;go_wp2_with(first|(with_reducible apply NB7 (ek:=eS) (ev:=eN) hS);rfl;rfl;rfl;exact g8;exact ht;clear hS;intro y todo' hy1 hy2 w hS;obtain⟨yk,yb⟩:=y;have Hy:=jH hy1;clear hy1 hy2;refine frS ?_|(with_reducible apply NA7 (ek:=eS) (ev:=eN) hS);rfl;rfl;rfl;exact g8;clear hS;intro hS;refine frS ?_);obtain⟨V,hp2,hv2,hw2,hme⟩:=Hm.out (yk,yb) todo' Hy.out;have Hp2:=jH hp2;have Hv2:=jH hv2;have Hw2:=jH hw2
   cases hadd:y9 (G7 V) it0 with
   | none=>
    obtain⟨rfl,hz⟩:=Ht.out.no V hme hadd
    injection hz with z0 z1 z2 z3
    subst z0 z1 z2 z3;have Hadd:=jH (show y9 (G7 ⟨V.ps,V.L,V.n⟩) it0=none from hadd);clear hadd hp2 hv2 hw2 hme;go_wp2_with(first|go_at_call 57;have h1:=bn4 (aq4 Hp2.out (hS.s (j8 E::itR eS eN r m1 (i8 E) todo'::aU4 _ accj::blk eb _ _::blk b0 _ _::c8 eI eSs m2 e.ss::c8 eW eTn m3 e.ts::c8 eW eU m4 e.ar::R)));obtain⟨mb,bb,h2⟩:=ay4 h1;clear hS h1;refine(OC7 yb mb bb V.ps V.L V.n Hw2.out (by omega) Hadd.out W _ _ h2).mono ?_;clear h2;rintro ex w ⟨rfl,h3⟩;have hS:=aq4 Hp2.out.symm (bo4 (x:=(yk,(yb,V))) (J6 h3));clear h3|(have:=gA);refine zal hS ?_;clear hS;intro bt w hS|refine zsN hS ?_;clear hS;intro w hS);apply Ab7;rfl;rfl;rfl;rfl;exact hS;decide +kernel;(exact x9);kernel_rfl;have h1:=cF4 (hS.s (itR eS eN r m1 (i8 E) todo'::j8 E::blk eb _ _::c8 eI eSs m2 e.ss::c8 eW eTn m3 e.ts::c8 eW eU m4 e.ar::R));exact⟨rfl,R6 Hp.out (h1.s _)⟩
   | some z=>
    obtain⟨z0,z1,z2,z3⟩:=z;have Hadd:=jH (show y9 (G7 ⟨V.ps,V.L,V.n⟩) it0=some ⟨z0,z1,z2,z3⟩from hadd);have hzz:I6 (G7 V)=⟨z0,z1,z2,z3⟩:=by unfold I6;rw[hadd];rfl
    have Hzz:=jH hzz;have Hne:=jH (show y9 (G7 V) it0≠none by rw[hadd];exact fun h=>(by cases h));clear hadd hp2 hv2 hw2 hme hzz;go_wp2_with(first|go_at_call 57;have h1:=bn4 (aq4 Hp2.out (hS.s (j8 E::itR eS eN r m1 (i8 E) todo'::aU4 _ accj::blk eb _ _::blk b0 _ _::c8 eI eSs m2 e.ss::c8 eW eTn m3 e.ts::c8 eW eU m4 e.ar::R)));obtain⟨mb,bb,h2⟩:=ay4 h1;clear hS h1;refine(KD7 yb mb bb V.ps V.L V.n Hw2.out (by omega) Hadd.out W _ _ h2).mono ?_;clear h2;rintro ex w ⟨rfl,h3⟩;have hS:=aq4 Hp2.out.symm (bo4 (x:=(yk,(yb,V))) (J6 h3));clear h3|(have:=gA);refine zal hS ?_;clear hS;intro bt w hS|refine zsN hS ?_;clear hS;intro w hS|refine zlN hS ?_|refine zbs hS ?_;clear hS;intro bS w hS|refine zap hS ?_ (h63:=by unfold maxLen;omega) (hb:=by omega);clear hS;intro v w hS);go_roundw
    case rel=>
     refine⟨done++[(yk,yb)],todo',Hnx.out _ _ Hy.out,fun y hy=>?_,?_⟩
     ·rcases List.mem_append.1 hy with hy|hy
      ·exact Hdn.out y hy
      ·rw[List.mem_singleton.1 hy];show y9 (G7 (vAt E yk)) it0≠none
       rw[Hv2.out];exact Hne.out
     ·rw[List.map_append,Hacc.out];show St W (aU4 _ (accj++[I6 (G7 (vAt E yk))])::_) w
      rw[Hv2.out,Hzz.out];unfold aU4;rw[CA7,jA,List.length_singleton];have h0:St W (row v 4 29 (accj.length+1) (accj.flatMap It.cells++It.cells ⟨z0,z1,z2,z3⟩)::_) w:=hS;exact h0.s _
    case measure=>
     have h3:=BN7 (hS.take (by exact g8));have h4:=Hy.out.length_eq;rw[jC]at h4;have h5:=Hm1.out;omega
def Tg8(W:World)(F:List HP)(m:Nat)(D:Ev)(v4 vk:Value)(w:World):Prop:=
 ∃k:Nat,vk=.I k/\k<=m/\(∀x∈D.take k,y9 (G7 x.2.2) it0≠none)/\St W (aU4 v4 ((D.take k).map fun x=>I6 (G7 x.2.2))::F) w
theorem LX7{xb:Nat}{d:Ec}(hv:∀x∈d.vs,PsW x.2.ps 60000/\(∀o∈x.2.L,MayP o)/\x.2.L.length<=32)(hl:d.vs.length<=100000){t0 t1 t2 t3:Int}{b:Bool}(ht:TotR (d.vs.map (·.2)) ⟨t0,t1,t2,t3⟩ b)(W w:World)(R:List HP)(hS:St W (L6 xb d::R) w):
  Calls Tryz.prog 74 #[.P xb] w fun x w'=>x=.returned (.tuple #[.agg #[.I t0,.I t1,.I t2,.I t3],.bool b])/\St W (L6 xb d::R) w':=by
 obtain⟨v1,v2,v3,v4,D,hd,hS0⟩:=aV4 hS;clear hS;have hS:=hS0.s (xeB xb v1 v2 v3 v4::xrP v1 D::w5 D::xsP v2 d.ss::xtP v3 d.ts::xmP v4 d.ar::R);clear hS0;have hD:D.length<=100000:=by rw[<-Dv7,hd];exact hl
 have hvD:∀x∈D,PsW x.2.2.ps 60000/\(∀o∈x.2.2.L,MayP o)/\x.2.2.L.length<=32:=fun x hx=>hv (x.1,x.2.2) (by rw[<-hd];exact List.mem_map.2 ⟨x,hx,rfl⟩)
 have hdm:d.vs.map (·.2)=D.map fun x=>x.2.2:=by rw[<-hd];unfold m8;rw[List.map_map];rfl
 have htD:TotR (D.map fun x=>x.2.2) ⟨t0,t1,t2,t3⟩ b:=by rw[<-hdm];exact ht
 have hend:(∀x∈D,y9 (G7 x.2.2) it0≠none)->(b=true/\y9 (D.map fun x=>I6 (G7 x.2.2)) it0=some ⟨t0,t1,t2,t3⟩)\/(b=false/\(⟨t0,t1,t2,t3⟩:It)=it0/\y9 (D.map fun x=>I6 (G7 x.2.2)) it0=none):=fun h=>by
  refine htD.all (fun V hV=>?_) _ ?_
  ·obtain⟨x,hx,rfl⟩:=List.mem_map.1 hV;exact h x hx
  ·rw[List.map_map];exact List.Perm.refl _
 have Hend:=jH hend;have Hd:=jH hd;have HvD:=jH hvD;have HtD:=jH htD;clear hd hl hv ht hvD htD hend hdm;obtain⟨a,cap,rfl⟩:=hS.drop.rowVal;go_enter Tryz.func74,Tryz.ntmps74;go_wp2_with(first|refine zal hS ?_;clear hS;intro b0 w hS);have hS1:=hS.rowNil (k:=4) (T:=29);clear hS;have hS:=hS1;clear hS1
 go_loopw [4,5] (fun v4' v5 wr=>Tg8 W (blk b0 [.I 0,.I 0,.I 0,.I 0] 29::xeB xb (.slice a D.length cap) v2 v3 v4::xrP (.slice a D.length cap) D::w5 D::xsP v2 d.ss::xtP v3 d.ts::xmP v4 d.ar::R) D.length D v4' v5 wr) (fun _ v5 _=>D.length-(intOf v5).toNat)
 case atStart=>exact⟨0,rfl,Nat.zero_le _,fun x hx=>(by rw[List.take_zero]at hx;cases hx),hS⟩
 case round=>
  clear hS;obtain⟨k,rfl,hkl,hdn,hS⟩:=hrel;by_cases hkn:k=D.length
  ·rw[hkn,List.take_length]at hS hdn;have hd1:decide (k<D.length)=false:=by simp;omega
   have hall:=Hend.out hdn;clear hkl hkn hdn;generalize (D.map fun x=>I6 (G7 x.2.2))=acc at hS hall
   rcases hall with ⟨rfl,hall⟩|⟨rfl,hz,hall⟩
   ·have Hall:=jH hall;clear hall;go_wp2_with(first|refine zl1 hS ?_|go_at_call 117;refine(Ov7 Hall.out _ W _ _ hS).mono ?_;clear hS;rintro ex w ⟨rfl,hS⟩|refine zsN hS ?_;clear hS;intro w hS);apply Ab7;rfl;rfl;rfl;rfl;exact hS;decide +kernel;(exact x9);kernel_rfl;exact⟨rfl,N9 Hd.out (hS.s _)⟩
   ·have Hall:=jH hall;clear hall
    injection hz with z0 z1 z2 z3
    subst z0 z1 z2 z3;go_wp2_with(first|refine zl1 hS ?_|go_at_call 117;refine(Ow7 Hall.out _ W _ _ hS).mono ?_;clear hS;rintro ex w ⟨rfl,hS⟩|refine zsN hS ?_;clear hS;intro w hS);apply Ab7;rfl;rfl;rfl;rfl;exact hS;decide +kernel;(exact x9);kernel_rfl;exact⟨rfl,N9 Hd.out (hS.s _)⟩
  ·have hk1:k<D.length:=by omega
   have hd1:decide (k<D.length)=true:=decide_eq_true hk1;obtain⟨⟨g,rfl⟩,_,_⟩:=St.rowAddr hS.drop.drop.drop (by omega);have hcp:∀{K K':List HP},Take K (xrP (.S g D.length cap) D) K'->e8 K g (k*2+1) (.pointer (some ⟨D[k].2.1,0,none⟩)):=fun hu=>d7.elemM (enc:=rwC) GU7 hu hk1 1 _ rfl
   have hstep:=BR7 (fun x:ByteArray×(Nat×Vs)=>I6 (G7 x.2.2)) D hk1;have htk:D.take (k+1)=D.take k++[D[k]]:=List.take_succ_eq_append_getElem hk1;have hme:D[k].2.2∈D.map (fun x=>x.2.2):=List.mem_map.2 ⟨_,jW hk1,rfl⟩;have hmx:=HvD.out _ (jW hk1);have hbl:((D.take k).map fun x=>I6 (G7 x.2.2)).length<=100000:=by rw[jM,jT];omega
   have hop:∀(w:World) (K:List HP),St W (w5 D::K) w->St W (dvP D[k].2.1 D[k].2.2::w5 (D.take k++D.drop (k+1))::K) w:=fun w K h=>by
    have h1:St W (w5 (D.take k++D[k]::D.drop (k+1))::K) w:=by rw[<-List.drop_eq_getElem_cons hk1,List.take_append_drop];exact h
    exact dD4 h1
   have hcl:∀(w:World) (K:List HP),St W (dvP D[k].2.1 D[k].2.2::w5 (D.take k++D.drop (k+1))::K) w->St W (w5 D::K) w:=fun w K h=>by have h1:=co4 h;rwa [<-List.drop_eq_getElem_cons hk1,List.take_append_drop]at h1
   generalize D.take k++D.drop (k+1)=D2 at hop hcl;generalize ((D.take k).map fun x=>I6 (G7 x.2.2))=acc at hS hstep hbl;generalize D[k]=x at hcp hstep hmx hop hcl htk hme;obtain⟨xk,vb,V⟩:=x;simp only at hcp hop hcl hstep hme hmx;have Hstep:=jH hstep;have Htk:=jH htk;have Hdn:=jH hdn;have Hw:=jH hmx;have Hop:=jH hop;have Hcl:=jH hcl;clear hstep hop hcl hkn hkl htk hdn hmx
   cases hadd:y9 (G7 V) it0 with
   | none=>
    obtain⟨rfl,hz⟩:=HtD.out.no V hme hadd
    injection hz with z0 z1 z2 z3
    subst z0 z1 z2 z3;have Ht:=jH hadd;clear hadd hme;go_wp2_with(first|refine zl1 hS ?_ (hc:=by exact hcp (by exact g8))|refine zl1 hS ?_|go_at_call 139;refine(OD7 Hw.out.1 (by decide) Hw.out.2.1 Hw.out.2.2 Ht.out (Hop.out _ _ (hS.s (w5 D::aU4 _ acc::blk b0 _ _::xeB xb (.S g D.length cap) v2 v3 v4::xrP (.S g D.length cap) D::xsP v2 d.ss::xtP v3 d.ts::xmP v4 d.ar::R)))).mono ?_;clear hS;rintro e w ⟨rfl,hS0⟩;have hS:=(Hcl.out _ _ hS0).s (aU4 _ acc::w5 D::blk b0 _ _::xeB xb (.S g D.length cap) v2 v3 v4::xrP (.S g D.length cap) D::xsP v2 d.ss::xtP v3 d.ts::xmP v4 d.ar::R);clear hS0|refine zal hS ?_;clear hS;intro b6 w hS|refine zsN hS ?_;clear hS;intro w hS);apply Ab7;rfl;rfl;rfl;rfl;exact hS;decide +kernel;(exact x9);kernel_rfl;exact⟨rfl,N9 Hd.out (hS.s (xeB xb (.S g D.length cap) v2 v3 v4::xrP (.S g D.length cap) D::w5 D::xsP v2 d.ss::xtP v3 d.ts::xmP v4 d.ar::R))⟩
   | some z=>
    obtain⟨s0,s1,s2,s3⟩:=z;have hzz:I6 (G7 V)=⟨s0,s1,s2,s3⟩:=by unfold I6;rw[hadd];rfl
    have Hzz:=jH hzz;have Hne:=jH (show y9 (G7 V) it0≠none by rw[hadd];exact fun h=>(by cases h));have Ht:=jH hadd;clear hadd hme hzz;go_wp2_with(first|refine zl1 hS ?_ (hc:=by exact hcp (by exact g8))|refine zl1 hS ?_|go_at_call 139;refine(Qw7 Hw.out.1 (by decide) Hw.out.2.1 Hw.out.2.2 Ht.out (Hop.out _ _ (hS.s (w5 D::aU4 _ acc::blk b0 _ _::xeB xb (.S g D.length cap) v2 v3 v4::xrP (.S g D.length cap) D::xsP v2 d.ss::xtP v3 d.ts::xmP v4 d.ar::R)))).mono ?_;clear hS;rintro e w ⟨rfl,hS0⟩;have hS:=(Hcl.out _ _ hS0).s (aU4 _ acc::w5 D::blk b0 _ _::xeB xb (.S g D.length cap) v2 v3 v4::xrP (.S g D.length cap) D::xsP v2 d.ss::xtP v3 d.ts::xmP v4 d.ar::R);clear hS0|refine zal hS ?_;clear hS;intro b6 w hS|refine zsN hS ?_;clear hS;intro w hS|refine zlN hS ?_|refine zbs hS ?_;clear hS;intro bS w hS|refine zap hS ?_ (h63:=by unfold maxLen;omega) (hb:=by omega);clear hS;intro v w hS);go_roundw
    case rel=>
     refine⟨k+1,rfl,hk1,fun y hy=>?_,?_⟩
     ·rw[Htk.out]at hy
      rcases List.mem_append.1 hy with hy|hy
      ·exact Hdn.out y hy
      ·rw[List.mem_singleton.1 hy];exact Hne.out
     ·rw[Hstep.out];show St W (aU4 _ (acc++[I6 (G7 V)])::_) w
      rw[Hzz.out];unfold aU4;rw[CA7,jA,List.length_singleton];have h0:St W (row v 4 29 (acc.length+1) (acc.flatMap It.cells++It.cells ⟨s0,s1,s2,s3⟩)::_) w:=hS;exact h0.s _
    case measure=>simp[intOf];omega
abbrev Rb:=Option Addr×Nat×List Int
abbrev rbV(x:Rb):Value:=.slice x.1 x.2.2.length x.2.1
def B6(r:List Int):List Int:=j9 r.length++r
def aD4(rs:List Rb):List Int:=rs.flatMap fun x=>B6 x.2.2
theorem Bu7(r:List Int):(B6 r).length<=r.length+9:=by have:=Ap7 r.length;unfold B6;rw[jA];omega
theorem fS4(wb:Nat)(d:List Int)(a:Option Addr)(c:Nat)(r:List Int)(hd:d.length<=90000000)(hr:r.length<=10000000)(W w:World)(R:List HP)(hsrc:Src R (.slice a r.length c) r.length (u8s r))(hS:St W (wrR wb d::R) w):
  Calls Tryz.prog 132 #[.P wb,.slice a r.length c] w fun e w'=>e=.returned (.tuple #[])/\St W (wrR wb (d++r)::R) w':=by
 obtain⟨wa,wc,hS1⟩:=cV4 hS;clear hS;have hS:=hS1;clear hS1;have Hsrc:=jH hsrc;clear hsrc;go_enter Tryz.func132,Tryz.ntmps132;go_wp2_with(first|refine zl1 hS ?_|(with_reducible apply Aj7 hS);rfl;rfl;rfl;rfl;exact esS;exact rsS;rfl;decide;exact g8;exact Hsrc.out.there.there;(focus(rw[AS7,Nat.mul_one]));exact Be7 _;(focus(unfold maxLen;omega));(focus(omega));clear hS;intro v w hS;(have hv:=hS.rowVal;obtain⟨va,vc,rfl⟩:=hv);refine frS ?_|refine zs1 hS ?_;clear hS;intro w hS);go_end0;have hS1:=hS.s (row (.slice va (d.length+r.length) vc) 1 _ _ _::blk wb _ _::R);have h0:St W (row (.slice va (d.length+r.length) vc) 1 5 (d.length+r.length) (u8s d++u8s r)::_) w:=hS1;rw[<-AC7]at h0;exact⟨rfl,cb4 (AR7 (by rw[jA]) h0).swap⟩
def gy4(W:World)(R:List HP)(wb:Nat)(d:List Int)(rs:List Rb)(v:Value)(w:World):Prop:=
 ∃k:Nat,v=.I k/\k<=rs.length/\St W (wrR wb (d++aD4 (rs.take k))::R) w
theorem MX7{rs:List Rb}{k:Nat}(h:k<rs.length):aD4 (rs.take (k+1))=aD4 (rs.take k)++(j9 rs[k].2.2.length++rs[k].2.2):=by unfold aD4;rw[List.take_succ_eq_append_getElem h,List.flatMap_append];simp[B6]
theorem JH7:∀{rs:List Rb},(∀x∈rs,x.2.2.length<=5000000)->(aD4 rs).length<=rs.length*5000009
 | [],_=>by simp[aD4]
 | x::rs,h=>by
  have h1:=JH7 (rs:=rs) fun y hy=>h y (List.mem_cons_of_mem _ hy)
  have h2:=h x (List.mem_cons_self ..);have h3:=Bu7 x.2.2;unfold aD4 at h1 ⊢;rw[List.flatMap_cons,jA,jC];omega
theorem KM7(wb:Nat)(d:List Int)(rs:List Rb)(b off c:Nat)(hd:d.length<=30000000)(hl:rs.length<=8)(hlen:∀x∈rs,x.2.2.length<=5000000)(W w:World)(R:List HP)(hcell:∀i, ∀hi:i<rs.length,e8 R b (off+i) (rbV rs[i]))(hsrc:∀x∈rs,Src R (rbV x) x.2.2.length (u8s x.2.2))(hS:St W (wrR wb d::R) w):
  Calls Tryz.prog 66 #[.P wb,.slice (some ⟨b,off,none⟩) rs.length c] w fun e w'=>e=.returned (.tuple #[])/\St W (wrR wb (d++aD4 rs)::R) w':=by
 have Hcell:=jH hcell;have Hsrc:=jH hsrc;have Hlen:=jH hlen;clear hcell hsrc hlen;go_enter Tryz.func66,Tryz.ntmps66;go_wp2_with(fail)
 go_loopw [8] (fun v wr=>gy4 W R wb d rs v wr) (fun v _=>rs.length-(intOf v).toNat)
 case atStart=>exact⟨0,rfl,Nat.zero_le _,by simpa[aD4]using hS⟩
 case round=>
  clear hS;obtain⟨k,rfl,hkl,hS⟩:=hrel;by_cases hkn:k=rs.length
  ·subst hkn;have d3:decide ((rs.length:Int)<(rs.length:Int))=false:=by simp
   rw[List.take_length]at hS;go_wp2_with(fail);go_end0;exact⟨rfl,hS⟩
  ·have hk1:k<rs.length:=by omega
   have dk:decide ((k:Int)<(rs.length:Int))=true:=by simp;omega
   have hc:=(Hcell.out k hk1).there (X:=wrR wb (d++aD4 (rs.take k)));have hs:=Hsrc.out _ (jW hk1);have hln:=Hlen.out _ (jW hk1);have hst:=MX7 hk1;have htl:=JH7 (rs:=rs.take k) fun x hx=>Hlen.out x (List.mem_of_mem_take hx)
   rw[jT]at htl;have hnl:=Ap7 (rs[k].2.2.length:Int);generalize rs[k]=x at hc hs hln hst hnl;obtain⟨xa,xc,r⟩:=x;simp only at hc hs hln hst hnl;generalize hE:aD4 (rs.take k)=E at hS hst htl hc;have hdl:(d++E).length<=80000000:=by rw[jA];omega
   have Hs:=jH hs;have Hst:=jH hst;have Hdl:=jH hdl;have hdl2:(d++E++j9 (r.length:Int)).length<=90000000:=by rw[jA];omega
   have Hdl2:=jH hdl2;clear hs hst htl hE hkn hkl hdl hdl2;go_wp2_with(first|refine zl1 hS ?_ (hc:=by exact hc)|refine zbs hS ?_;clear hS;intro bS w hS|go_at_call 65;refine(aZ4 wb _ (r.length:Int) bS 1 (by have:=Hdl.out;omega) ⟨by omega,by omega⟩ W _ _ (hS.s (wrR wb (d++E)::blk bS _ _::R))).mono ?_;clear hS;rintro e w ⟨rfl,hS⟩|go_at_call 132;refine(fS4 wb _ xa xc r Hdl2.out (by omega) W _ _ Hs.out.there hS).mono ?_;clear hS;rintro e w ⟨rfl,hS⟩);go_roundw
   case rel=>exact⟨k+1,rfl,hk1,by rw[Hst.out,<-jS,<-jS];exact hS.s _⟩
   case measure=>simp[intOf];omega
end Go.Proofs.YtlmhakmoioogaaaGreat
end
