/-
  The program's vault as bytes.
-/
import Derived.Test.YtienbkdjkjbelaaGreatJoAM5
import Derived.Test.YtienbkdjkjbelaaGreatJoAM20
import Derived.Test.YtienbkdjkjbelaaGreatJoAM23
import Derived.Test.YtienbkdjkjbelaaGreatJoAM39
import Derived.Test.YtienbkdjkjbelaaGreatJoAM41
import Derived.Test.YtienbkdjkjbelaaGreatProg
import Derived.Shelf.SlIter.Nil
import Derived.Shelf.SlIterI.Nil
import Derived.Shelf.SortM.Plain
import Derived.Shelf.SortM.SortNone
import Derived.Ground.GgzProg
import Derived.Ground.SlgmProg
set_option maxHeartbeats 16000000
set_option maxRecDepth 100000
set_option linter.unusedSimpArgs false
set_option linter.unusedVariables false
section
namespace Go.Proofs.YtienbkdjkjbelaaGreat
open Go.RowKit Go.Sl
theorem ed4{W w:World}{wb:Nat}{L:List HP}(h:St W (blk wb [.slice none 0 0] 105::L) w):St W (wrR wb []::L) w:=by have h1:=(h.rowNil (k:=1) (T:=5)).swap;exact cd4 (d:=[]) h1
theorem EP7(n:Int):0<(l6 n).length:=by unfold l6;rw[show(8:Nat)=7+1 from rfl,bc4];split <;> simp
theorem aK4(wb:Nat)(d:List Int)(x:Int)(b c:Nat)(hd:d.length<=90000000)(hx : -9223372036854775808<=x/\x<=9223372036854775807)(W w:World)(R:List HP)(hS:St W (wrR wb d::blk b [.I x] 3::R) w):
  Calls Tryz.prog 41 #[.P wb,.S b 1 c] w fun e w'=>e=.returned (.tuple #[])/\St W (wrR wb (d++l6 x)::blk b [.I x] 3::R) w':=by
 have h:=MK7 wb d [x] b c hd (by simp) (fun y hy=>by rw[List.mem_singleton.1 hy];exact hx) W w R hS;simpa using h
theorem cS4(wb:Nat)(d:List Int)(x0 x1 x2 x3:Int)(g off c:Nat)(hd:d.length<=90000000)(hn:∀x∈[x0,x1,x2,x3], -9223372036854775808<=x/\x<=9223372036854775807)(W w:World)(R:List HP)(hc0:i7 R g off (.I x0))(hc1:i7 R g (off+1) (.I x1))(hc2:i7 R g (off+2) (.I x2))(hc3:i7 R g (off+3) (.I x3))(hS:St W (wrR wb d::R) w):
  Calls Tryz.prog 41 #[.P wb,.slice (some ⟨g,off,none⟩) 4 c] w fun e w'=>e=.returned (.tuple #[])/\St W (wrR wb (d++l7 [x0,x1,x2,x3])::R) w':=
 Pj7 wb d [x0,x1,x2,x3] g off c hd (by simp) hn W w R (fun i hi=>by
  have hi4:i=0\/i=1\/i=2\/i=3:=by simp at hi;omega
  rcases hi4 with rfl|rfl|rfl|rfl
  ·exact hc0
  ·exact hc1
  ·exact hc2
  ·exact hc3) hS
def CwR{α:Type}(W:World)(F:List HP)(wb:Nat)(f:α->List Int)(base:List Int)(xs:List α)(v:Value)(w:World):Prop:=
 ∃k:Nat,v=.I k/\k<=xs.length/\St W (wrR wb (base++(xs.take k).flatMap f)::F) w
theorem es4(vb mb bb:Nat)(p:Ps)(L:List Ord)(n:Int){N:Nat}(hp:K6 p)(hw:PsW p N)(hN:N<=1000000)(hn0:1<=n)(hn1:n<=1099511627777)(W w:World)(R:List HP)(hS:St W (w9 vb mb bb p L n R) w):
  Calls Tryz.prog 43 #[.P vb] w fun e w'=>∃v,e=.returned v/\St W (byR v (av4 p L n)::w9 vb mb bb p L n R) w':=by
 have hlh:(hdL p).length<=1000000:=by rw[CD7];exact Nat.le_trans hw.len hN
 have hl32:=Cj7 hS.drop.drop;have hmay:∀x∈L,MayP x:=fun x hx=>(By7 hS.drop.drop x hx).1
 have hhw:∀x∈hdL p,x.who.size<=16/\w5 x.has=true:=fun x hx=>by refine⟨?_,by rw[CZ7 hx];exact hp _⟩;have hk:x.who∈(hdL p).map Hd.who:=List.mem_map_of_mem hx;rw[Fy7]at hk;obtain⟨y,hy,e⟩:=JK7 hk;rw[<-e];exact Fo7 (hw.who y hy)
 have hN2:N<=1000000000:=by omega
 have Hmay:=jH hmay;have Hhw:=jH hhw;have Hw:=jH hw;clear hmay hw hp hhw;unfold av4;go_enter Tryz.func43,Tryz.ntmps43;go_wp2_with(first|go_at_call 83;refine(Ej7 vb mb bb p L n Hw.out hN2 W _ _ hS).mono ?_;clear hS;rintro e w ⟨sa,sc,oa,oc,rfl,hS⟩|(fail_if_success (have:=wb));(with_reducible apply An7 hS);rfl;rfl;exact zsS;clear hS;intro wb w hS;refine frS ?_|refine zbs hS ?_;clear hS;intro bS w hS|go_at_call 41;refine(aK4 wb [] ((hdL p).length:Int) bS 1 (by simp) ⟨by omega,by omega⟩ W _ _ (ed4 (hS.s (blk wb _ _::blk bS _ _::blk vb _ _::d8 eS eP mb p::p8 bb L n::hdR (.slice sa (hdL p).length sc) (hdL p)::j7 (.slice oa L.length oc) L::R)))).mono ?_;clear hS;rw[jN];rintro e w ⟨rfl,hS⟩);have hS1:=hS.s (wrR wb _::blk vb _ _::d8 eS eP mb p::p8 bb L n::hdR (.slice sa (hdL p).length sc) (hdL p)::j7 (.slice oa L.length oc) L::R);clear hS;have hS:=hS1;clear hS1;generalize hhs:hdL p=hs at hS hlh Hhw;have Hhs:=jH hhs;clear hhs
 go_loopw [26] (fun v wr=>CwR W (w9 vb mb bb p L n (hdR (.slice sa hs.length sc) hs::j7 (.slice oa L.length oc) L::R)) wb bd4 (l6 hs.length) hs v wr) (fun v _=>hs.length-(intOf v).toNat)
 case atStart=>exact⟨0,rfl,Nat.zero_le _,by simpa using hS⟩
 case round=>
  clear hS;obtain⟨k,rfl,hkl,hS⟩:=hrel;by_cases hkn:k=hs.length
  ·rw[hkn,List.take_length]at hS;have hd1:decide (k<hs.length)=false:=by simp;omega
   clear hkl hkn;have hlkk:=Ak7 hs.length;generalize hacc:l6 hs.length++hs.flatMap bd4=acc at hS
   have hal:acc.length<=70000100:=by
    have h1:=Br7 bd4 hs fun x hx=>DO7 x (Hhw.out x hx).1
    rw[<-hacc,jA];omega
   have Hacc:=jH hacc;clear hacc hlkk;have hln:=Ak7 L.length;go_wp2_with(first|refine zbs hS ?_;clear hS;intro bS w hS|go_at_call 41;refine(aK4 wb acc (L.length:Int) bS 1 (by omega) ⟨by omega,by omega⟩ W _ _ (hS.s (wrR wb acc::blk bS _ _::blk vb _ _::d8 eS eP mb p::p8 bb L n::hdR _ hs::j7 (.slice oa L.length oc) L::R))).mono ?_;clear hS;rintro e w ⟨rfl,hS⟩);have hS1:=hS.s (wrR wb _::blk vb _ _::d8 eS eP mb p::p8 bb L n::hdR (.slice sa hs.length sc) hs::j7 (.slice oa L.length oc) L::R);clear hS;have hS:=hS1;clear hS1
   go_loopw [45] (fun v wr=>CwR W (w9 vb mb bb p L n (hdR (.slice sa hs.length sc) hs::j7 (.slice oa L.length oc) L::R)) wb aE4 (acc++l6 L.length) L v wr) (fun v _=>L.length-(intOf v).toNat)
   case atStart=>exact⟨0,rfl,Nat.zero_le _,by simpa using hS⟩
   case round=>
    clear hS;obtain⟨j,rfl,hjl,hS⟩:=hrel;by_cases hjn:j=L.length
    ·rw[hjn,List.take_length]at hS;have hd2:decide (j<L.length)=false:=by simp;omega
     clear hjl hjn;have hlo:=Br7 aE4 L fun x hx=>DP7 x (Hmay.out x hx).who1
     generalize hd:acc++l6 L.length++L.flatMap aE4=d at hS;have hdl:d.length<=70010000:=by rw[<-hd,jA,jA];omega
     have Hd2:=jH hd;have hlq:=Ak7 n;have hlz:0<(d++l6 n).length:=by have:0<(l6 n).length:=EP7 n;rw[jA];omega
     have hlz2:(d++l6 n).length<=100000000:=by rw[jA];omega
     have Hz:=jH hlz;have Hz2:=jH hlz2;clear hd hlz hlz2;go_wp2_with(first|refine zbs hS ?_;clear hS;intro bS w hS|go_at_call 41;refine(aK4 wb d n bS 1 (by omega) ⟨by omega,by omega⟩ W _ _ (hS.s (wrR wb d::blk bS _ _::blk vb _ _::d8 eS eP mb p::p8 bb L n::hdR _ hs::j7 (.slice oa L.length oc) L::R))).mono ?_;clear hS;rintro e w ⟨rfl,hS⟩|go_at_call 50;refine(ec4 wb _ Hz2.out Hz.out W _ _ hS).mono ?_;clear hS;rintro e w ⟨vo,rfl,hS⟩);go_ret;refine⟨vo,rfl,?_⟩;rw[Hhs.out,Hacc.out,Hd2.out];exact hS.s _
    ·have hj1:j<L.length:=by omega
     obtain⟨⟨g,rfl⟩,_,_⟩:=St.rowAddr hS.drop.drop.drop.drop.drop (by omega);have hcells:∀{K K':List HP},Take K (j7 (.S g L.length oc) L) K'->i6 K g (j*6) (Ord.cells L[j]):=fun hu=>i6.elemM (enc:=Ord.cells) Ord.len hu hj1
     have hst:=AW7 aE4 (acc++l6 L.length) L hj1;have hmx:=Hmay.out _ (jW hj1);have hlt:=Br7 aE4 (L.take j) fun x hx=>DP7 x (Hmay.out x (List.mem_of_mem_take hx)).who1
     rw[jT]at hlt;generalize hd:acc++l6 L.length++(L.take j).flatMap aE4=d at hS hst;have hdl:d.length<=70010000:=by rw[<-hd,jA,jA];omega
     generalize L[j]=x at hcells hst hmx;obtain⟨oi,ou,oy,ot,oc2,op⟩:=x;have i0:1<=oi:=hmx.id0;have i1:oi<=1099511627776:=hmx.id1;have w1:ou.size<=16:=hmx.who1;have t0:1<=ot:=hmx.item0;have t1:ot<=3:=hmx.item1;have c0:1<=oc2:=hmx.cnt0;have c1:oc2<=1048576:=hmx.cnt1;have p0:1<=op:=hmx.price0;have p1:op<=1024:=hmx.price1;have l1:=Ak7 oi;have l4:=Bv7 ou w1;have Hst:=jH hst;clear hst hmx hd hlt hjn hjl;simp only[Ord.cells]at hcells;have hq1:(d++l6 oi).length<=90000000:=by rw[jA];omega
     have hq2:(d++l6 oi++F9 ou).length<=90000000:=by rw[jA,jA];omega
     have Hq1:=jH hq1;have Hq2:=jH hq2;clear hq1 hq2
     cases oy with
     | false=>
      have Hst2:=jH (show acc++l6 L.length++(L.take (j+1)).flatMap aE4=d++l6 oi++F9 ou++l7 [0,ot,oc2,op]by rw[Hst.out];unfold aE4;simp[cG4,jS])
      have hn:∀x∈[(0:Int),ot,oc2,op], -9223372036854775808<=x/\x<=9223372036854775807:=by
       intro x hx;simp only[List.mem_cons,List.not_mem_nil,or_false]at hx
       rcases hx with rfl|rfl|rfl|rfl
       all_goals exact⟨by omega,by omega⟩
      have Hn:=jH hn;clear hn;go_wp2_with(first|refine zlN hS ?_ (hc:=by exact hcells (by exact i8))|(fail_if_success (have:=b8));((have:=wb);(with_reducible apply An7 hS);rfl;rfl;exact zsS;clear hS;intro b8 w hS;refine frS ?_)|refine zsN hS ?_;clear hS;intro w hS|refine zl1 hS ?_|(with_reducible apply Au7 hS);rfl;rfl;rfl;exact Tryz.underlying9;exact Tryz.underlying73;exact Tryz.underlying5;clear hS;intro g9 c9 w hS;refine frS ?_|refine zbs hS ?_;clear hS;intro bS w hS|(fail_if_success (have:=mN1));go_at_call 41;refine(aK4 wb d oi bS 1 (by omega) ⟨by omega,by omega⟩ W _ _ (hS.s (wrR wb d::blk bS _ _::blk b8 _ _::blk vb _ _::d8 eS eP mb p::p8 bb L n::hdR _ hs::j7 _ L::R))).mono ?_;clear hS;rintro e w ⟨rfl,hS⟩;have mN1:Nat:=0|go_at_call 42;(have hS2:St W (blk bS [.S g9 ou.size c9] 73::_) _:=hS);refine(IU7 wb (d++l6 oi) ou bS g9 c9 1 Hq1.out (by omega) W _ _ (hS2.s (wrR wb _::blk bS _ _::sbR g9 ou::blk b8 _ _::blk vb _ _::d8 eS eP mb p::p8 bb L n::hdR _ hs::j7 _ L::R))).mono ?_;clear hS hS2;rintro e w ⟨rfl,hS⟩|(have:=mN1);go_at_call 41;(have hS2:St W (blk bS [.I 0,.I ot,.I oc2,.I op] 3::_) _:=hS);refine(cS4 wb (d++l6 oi++F9 ou) 0 ot oc2 op bS 0 4 Hq2.out Hn.out W _ (blk bS [.I 0,.I ot,.I oc2,.I op] 3::blk vb _ _::d8 eS eP mb p::p8 bb L n::hdR _ hs::j7 _ L::R) (i7.here rfl) (i7.here rfl) (i7.here rfl) (i7.here rfl) (hS2.s _)).mono ?_;clear hS hS2;rintro e w ⟨rfl,hS⟩);go_roundw
      case rel=>exact⟨j+1,rfl,hj1,by rw[Hst2.out];exact hS.s _⟩
      case measure=>simp[intOf];omega
     | true=>
      have Hst2:=jH (show acc++l6 L.length++(L.take (j+1)).flatMap aE4=d++l6 oi++F9 ou++l7 [1,ot,oc2,op]by rw[Hst.out];unfold aE4;simp[cG4,jS])
      have hn:∀x∈[(1:Int),ot,oc2,op], -9223372036854775808<=x/\x<=9223372036854775807:=by
       intro x hx;simp only[List.mem_cons,List.not_mem_nil,or_false]at hx
       rcases hx with rfl|rfl|rfl|rfl
       all_goals exact⟨by omega,by omega⟩
      have Hn:=jH hn;clear hn;go_wp2_with(first|refine zlN hS ?_ (hc:=by exact hcells (by exact i8))|(fail_if_success (have:=b8));((have:=wb);(with_reducible apply An7 hS);rfl;rfl;exact zsS;clear hS;intro b8 w hS;refine frS ?_)|refine zsN hS ?_;clear hS;intro w hS|refine zl1 hS ?_|(with_reducible apply Au7 hS);rfl;rfl;rfl;exact Tryz.underlying9;exact Tryz.underlying73;exact Tryz.underlying5;clear hS;intro g9 c9 w hS;refine frS ?_|refine zbs hS ?_;clear hS;intro bS w hS|(fail_if_success (have:=mN1));go_at_call 41;refine(aK4 wb d oi bS 1 (by omega) ⟨by omega,by omega⟩ W _ _ (hS.s (wrR wb d::blk bS _ _::blk b8 _ _::blk vb _ _::d8 eS eP mb p::p8 bb L n::hdR _ hs::j7 _ L::R))).mono ?_;clear hS;rintro e w ⟨rfl,hS⟩;have mN1:Nat:=0|go_at_call 42;(have hS2:St W (blk bS [.S g9 ou.size c9] 73::_) _:=hS);refine(IU7 wb (d++l6 oi) ou bS g9 c9 1 Hq1.out (by omega) W _ _ (hS2.s (wrR wb _::blk bS _ _::sbR g9 ou::blk b8 _ _::blk vb _ _::d8 eS eP mb p::p8 bb L n::hdR _ hs::j7 _ L::R))).mono ?_;clear hS hS2;rintro e w ⟨rfl,hS⟩|(have:=mN1);go_at_call 41;(have hS2:St W (blk bS [.I 1,.I ot,.I oc2,.I op] 3::_) _:=hS);refine(cS4 wb (d++l6 oi++F9 ou) 1 ot oc2 op bS 0 4 Hq2.out Hn.out W _ (blk bS [.I 1,.I ot,.I oc2,.I op] 3::blk vb _ _::d8 eS eP mb p::p8 bb L n::hdR _ hs::j7 _ L::R) (i7.here rfl) (i7.here rfl) (i7.here rfl) (i7.here rfl) (hS2.s _)).mono ?_;clear hS hS2;rintro e w ⟨rfl,hS⟩);go_roundw
      case rel=>exact⟨j+1,rfl,hj1,by rw[Hst2.out];exact hS.s _⟩
      case measure=>simp[intOf];omega
  ·have hk1:k<hs.length:=by omega
   obtain⟨⟨g,rfl⟩,_,_⟩:=St.rowAddr hS.drop.drop.drop.drop (by omega);have hcells:∀{K K':List HP},Take K (hdR (.S g hs.length sc) hs) K'->i6 K g (k*5) (Hd.cells hs[k]):=fun hu=>i6.elemM (enc:=Hd.cells) Hd.len hu hk1
   have hst:=AW7 bd4 (l6 hs.length) hs hk1;have hmx:=Hhw.out _ (jW hk1);have hlt:=Br7 bd4 (hs.take k) fun x hx=>DO7 x (Hhw.out x (List.mem_of_mem_take hx)).1
   rw[jT]at hlt;have hlk:=Ak7 hs.length;generalize hd:l6 hs.length++(hs.take k).flatMap bd4=d at hS hst;have hdl:d.length<=70000100:=by rw[<-hd,jA];omega
   generalize hs[k]=x at hcells hst hmx;obtain⟨xw,⟨x0,x1,x2,x3⟩⟩:=x;obtain⟨w1,hit⟩:=hmx;simp only at w1;obtain⟨a0,a1,a2,a3⟩:=Ah7.1 hit;simp only at a0 a1 a2 a3
   have hn:∀x∈[x0,x1,x2,x3], -9223372036854775808<=x/\x<=9223372036854775807:=by
    intro x hx;simp only[List.mem_cons,List.not_mem_nil,or_false]at hx
    rcases hx with rfl|rfl|rfl|rfl
    all_goals exact⟨by omega,by omega⟩
   have l4:=Bv7 xw w1;have hdl2:(d++F9 xw).length<=90000000:=by rw[jA];omega
   have Hdl2:=jH hdl2;have Hn:=jH hn;have Hst:=jH (show l6 hs.length++(hs.take (k+1)).flatMap bd4=d++F9 xw++l7 [x0,x1,x2,x3]by rw[hst,jS];rfl);clear hst hit hd hlt hkn hkl hdl2 hn;simp only[Hd.cells,It.cells]at hcells;go_wp2_with(first|refine zlN hS ?_ (hc:=by exact hcells (by exact i8))|(fail_if_success (have:=b8));((have:=wb);(with_reducible apply An7 hS);rfl;rfl;exact zsS;clear hS;intro b8 w hS;refine frS ?_)|refine zsN hS ?_;clear hS;intro w hS|refine zl1 hS ?_|(with_reducible apply Au7 hS);rfl;rfl;rfl;exact Tryz.underlying9;exact Tryz.underlying73;exact Tryz.underlying5;clear hS;intro g9 c9 w hS;refine frS ?_|(with_reducible apply eu4 hS);rfl;rfl;(focus(simp only[fD,fI,fJ,Act.eval,fE,fF,fG,fH,fK];try rfl));exact esS;exact rsS;rfl;rfl;rfl;rfl;clear hS;intro bT w hS;refine frS ?_|go_at_call 42;refine(IU7 wb d xw bT g9 c9 1 (by omega) (by omega) W _ _ (hS.s (wrR wb d::blk bT _ _::sbR g9 xw::blk b8 _ _::blk vb _ _::d8 eS eP mb p::p8 bb L n::hdR _ hs::j7 _ L::R))).mono ?_;clear hS;rintro e w ⟨rfl,hS⟩|go_at_call 41;refine(cS4 wb (d++F9 xw) x0 x1 x2 x3 b8 1 4 Hdl2.out Hn.out W _ (blk b8 [.string xw,.I x0,.I x1,.I x2,.I x3] 171::blk vb _ _::d8 eS eP mb p::p8 bb L n::hdR _ hs::j7 _ L::R) (i7.here rfl) (i7.here rfl) (i7.here rfl) (i7.here rfl) (hS.s _)).mono ?_;clear hS;rintro e w ⟨rfl,hS⟩);go_roundw
   case rel=>exact⟨k+1,rfl,hk1,by rw[Hst.out];exact hS.s _⟩
   case measure=>simp[intOf];omega
abbrev Rb:=Option Addr×Nat×List Int
abbrev rbV(x:Rb):Value:=.slice x.1 x.2.2.length x.2.1
def E5(r:List Int):List Int:=l6 r.length++r
def ar4(rs:List Rb):List Int:=rs.flatMap fun x=>E5 x.2.2
theorem AS7(r:List Int):(E5 r).length<=r.length+9:=by have:=Ak7 r.length;unfold E5;rw[jA];omega
theorem gd4(wb:Nat)(d:List Int)(a:Option Addr)(c:Nat)(r:List Int)(hd:d.length<=90000000)(hr:r.length<=10000000)(W w:World)(R:List HP)(hsrc:Src R (.slice a r.length c) r.length (u8s r))(hS:St W (wrR wb d::R) w):
  Calls Tryz.prog 82 #[.P wb,.slice a r.length c] w fun e w'=>e=.returned (.tuple #[])/\St W (wrR wb (d++r)::R) w':=by
 obtain⟨wa,wc,hS1⟩:=cR4 hS;clear hS;have hS:=hS1;clear hS1;have Hsrc:=jH hsrc;clear hsrc;go_enter Tryz.func82,Tryz.ntmps82;go_wp2_with(first|refine zl1 hS ?_|(with_reducible apply Ae7 hS);rfl;rfl;rfl;rfl;exact esS;exact rsS;rfl;decide;exact i8;exact Hsrc.out.there.there;(focus(rw[AM7,Nat.mul_one]));exact AX7 _;(focus(unfold maxLen;omega));(focus(omega));clear hS;intro v w hS;(have hv:=hS.rowVal;obtain⟨va,vc,rfl⟩:=hv);refine frS ?_|refine zs1 hS ?_;clear hS;intro w hS);go_end0;have hS1:=hS.s (row (.slice va (d.length+r.length) vc) 1 _ _ _::blk wb _ _::R);have h0:St W (row (.slice va (d.length+r.length) vc) 1 5 (d.length+r.length) (u8s d++u8s r)::_) w:=hS1;rw[<-Av7]at h0;exact⟨rfl,cd4 (AC7 (by rw[jA]) h0).swap⟩
def gK4(W:World)(R:List HP)(wb:Nat)(d:List Int)(rs:List Rb)(v:Value)(w:World):Prop:=
 ∃k:Nat,v=.I k/\k<=rs.length/\St W (wrR wb (d++ar4 (rs.take k))::R) w
theorem KM7{rs:List Rb}{k:Nat}(h:k<rs.length):ar4 (rs.take (k+1))=ar4 (rs.take k)++(l6 rs[k].2.2.length++rs[k].2.2):=by unfold ar4;rw[List.take_succ_eq_append_getElem h,List.flatMap_append];simp[E5]
theorem HT7:∀{rs:List Rb},(∀x∈rs,x.2.2.length<=5000000)->(ar4 rs).length<=rs.length*5000009
 | [],_=>by simp[ar4]
 | x::rs,h=>by
  have h1:=HT7 (rs:=rs) fun y hy=>h y (List.mem_cons_of_mem _ hy)
  have h2:=h x (List.mem_cons_self ..);have h3:=AS7 x.2.2;unfold ar4 at h1 ⊢;rw[List.flatMap_cons,jA,jC];omega
theorem IV7(wb:Nat)(d:List Int)(rs:List Rb)(b off c:Nat)(hd:d.length<=30000000)(hl:rs.length<=8)(hlen:∀x∈rs,x.2.2.length<=5000000)(W w:World)(R:List HP)(hcell:∀i, ∀hi:i<rs.length,i7 R b (off+i) (rbV rs[i]))(hsrc:∀x∈rs,Src R (rbV x) x.2.2.length (u8s x.2.2))(hS:St W (wrR wb d::R) w):
  Calls Tryz.prog 42 #[.P wb,.slice (some ⟨b,off,none⟩) rs.length c] w fun e w'=>e=.returned (.tuple #[])/\St W (wrR wb (d++ar4 rs)::R) w':=by
 have Hcell:=jH hcell;have Hsrc:=jH hsrc;have Hlen:=jH hlen;clear hcell hsrc hlen;go_enter Tryz.func42,Tryz.ntmps42;go_wp2_with(fail)
 go_loopw [8] (fun v wr=>gK4 W R wb d rs v wr) (fun v _=>rs.length-(intOf v).toNat)
 case atStart=>exact⟨0,rfl,Nat.zero_le _,by simpa[ar4]using hS⟩
 case round=>
  clear hS;obtain⟨k,rfl,hkl,hS⟩:=hrel;by_cases hkn:k=rs.length
  ·subst hkn;have d3:decide ((rs.length:Int)<(rs.length:Int))=false:=by simp
   rw[List.take_length]at hS;go_wp2_with(fail);go_end0;exact⟨rfl,hS⟩
  ·have hk1:k<rs.length:=by omega
   have dk:decide ((k:Int)<(rs.length:Int))=true:=by simp;omega
   have hc:=(Hcell.out k hk1).there (X:=wrR wb (d++ar4 (rs.take k)));have hs:=Hsrc.out _ (jW hk1);have hln:=Hlen.out _ (jW hk1);have hst:=KM7 hk1;have htl:=HT7 (rs:=rs.take k) fun x hx=>Hlen.out x (List.mem_of_mem_take hx)
   rw[jT]at htl;have hnl:=Ak7 (rs[k].2.2.length:Int);generalize rs[k]=x at hc hs hln hst hnl;obtain⟨xa,xc,r⟩:=x;simp only at hc hs hln hst hnl;generalize hE:ar4 (rs.take k)=E at hS hst htl hc;have hdl:(d++E).length<=80000000:=by rw[jA];omega
   have Hs:=jH hs;have Hst:=jH hst;have Hdl:=jH hdl;have hdl2:(d++E++l6 (r.length:Int)).length<=90000000:=by rw[jA];omega
   have Hdl2:=jH hdl2;clear hs hst htl hE hkn hkl hdl hdl2;go_wp2_with(first|refine zl1 hS ?_ (hc:=by exact hc)|refine zbs hS ?_;clear hS;intro bS w hS|go_at_call 41;refine(aK4 wb _ (r.length:Int) bS 1 (by have:=Hdl.out;omega) ⟨by omega,by omega⟩ W _ _ (hS.s (wrR wb (d++E)::blk bS _ _::R))).mono ?_;clear hS;rintro e w ⟨rfl,hS⟩|go_at_call 82;refine(gd4 wb _ xa xc r Hdl2.out (by omega) W _ _ Hs.out.there hS).mono ?_;clear hS;rintro e w ⟨rfl,hS⟩);go_roundw
   case rel=>exact⟨k+1,rfl,hk1,by rw[Hst.out,<-jS,<-jS];exact hS.s _⟩
   case measure=>simp[intOf];omega
structure RpOk(r:Rpl):Prop where
 e0:0<=r.err
 e1:r.err<=19
 i0:0<=r.id
 i1:r.id<=1099511627776
 has:w5 r.has=true
def rpB(r:Rpl):List Int:=l7 [r.err,r.id]++l7 [r.has.x0,r.has.x1,r.has.x2,r.has.x3]
theorem AE7(l:List Int):(l7 l).length<=l.length*9:=by
 induction l with
 | nil=>simp[l7]
 | cons x l ih=>
  have:=Ak7 x;unfold l7 at ih ⊢;rw[List.flatMap_cons,jA,jC];omega
theorem FG7(r:Rpl):(rpB r).length<=54:=by have h1:=AE7 [r.err,r.id];have h2:=AE7 [r.has.x0,r.has.x1,r.has.x2,r.has.x3];unfold rpB;rw[jA];simp only[jC,List.length_nil]at h1 h2;omega
theorem Qe7(r:Rpl):0<(rpB r).length:=by have:=EP7 r.err;unfold rpB l7;rw[List.flatMap_cons,jS,jA];omega
theorem Qf7{e i x0 x1 x2 x3:Int}(h:RpOk ⟨e,i,⟨x0,x1,x2,x3⟩⟩)(W w:World)(R:List HP)(hS:St W R w):
  Calls Tryz.prog 87 #[rV e i x0 x1 x2 x3] w fun x w'=>x=.returned (.bool true)/\St W R w':=by
 have d0:decide (0<=e)=true:=by simpa using h.e0
 have d1:decide (e<=19)=true:=by simpa using h.e1
 have d2:decide (0<=i)=true:=by simpa using h.i0
 have d3:decide (i<=1099511627776)=true:=by simpa using h.i1
 have Hi:=jH h.has;clear h;go_enter Tryz.func87,Tryz.ntmps87;go_wp2_with(first|refine zbx hS ?_;clear hS;intro bO w hS|refine zl1 hS ?_|refine zlN hS ?_ (vs:=[.I x0,.I x1,.I x2,.I x3]) (hc:=by exact i6.here rfl)|go_at_call 75;refine(ay4 _ _ _ _ W _ _ hS).mono ?_;clear hS;rw[Hi.out];rintro e w ⟨rfl,hS⟩);go_ret;exact⟨rfl,hS.drop⟩
theorem cv4(wb:Nat)(d:List Int)(x y:Int)(b c:Nat)(hd:d.length<=90000000)(hx : -9223372036854775808<=x/\x<=9223372036854775807)(hy : -9223372036854775808<=y/\y<=9223372036854775807)(W w:World)(R:List HP)(hS:St W (wrR wb d::blk b [.I x,.I y] 3::R) w):
  Calls Tryz.prog 41 #[.P wb,.S b 2 c] w fun e w'=>e=.returned (.tuple #[])/\St W (wrR wb (d++l7 [x,y])::blk b [.I x,.I y] 3::R) w':=
 MK7 wb d [x,y] b c hd (by simp) (fun z hz=>by
  rcases List.mem_cons.1 hz with rfl|hz
  ·exact hx
  ·rw[List.mem_singleton.1 hz];exact hy) W w R hS
theorem IW7{e i x0 x1 x2 x3:Int}(h:RpOk ⟨e,i,⟨x0,x1,x2,x3⟩⟩)(W w:World)(R:List HP)(hS:St W R w):
  Calls Tryz.prog 46 #[rV e i x0 x1 x2 x3] w fun x w'=>∃v,x=.returned (.tuple #[v,.I 0])/\St W (byR v (rpB ⟨e,i,⟨x0,x1,x2,x3⟩⟩)::R) w':=by
 have hl:=FG7 ⟨e,i,⟨x0,x1,x2,x3⟩⟩;have hp:=Qe7 ⟨e,i,⟨x0,x1,x2,x3⟩⟩;have he:rpB ⟨e,i,⟨x0,x1,x2,x3⟩⟩=l7 [e,i]++l7 [x0,x1,x2,x3]:=rfl;have hit:=Ah7.1 h.has;obtain⟨⟨a0,a1⟩,⟨b0,b1⟩,⟨c0,c1⟩,⟨f0,f1⟩⟩:=hit;simp only at a0 a1 b0 b1 c0 c1 f0 f1;have e0:=h.e0;have e1:=h.e1;have i0:=h.i0;have i1:=h.i1;simp only at e0 e1 i0 i1
 have hn4:∀x∈[x0,x1,x2,x3], -9223372036854775808<=x/\x<=9223372036854775807:=by
  intro x hx;simp only[List.mem_cons,List.not_mem_nil,or_false]at hx
  rcases hx with rfl|rfl|rfl|rfl <;> constructor <;> omega
 have hd2:(l7 [e,i]).length<=90000000:=by have:=AE7 [e,i];simp only[jC,List.length_nil]at this;omega
 have Hn4:=jH hn4;have He:=jH he;have Hd2:=jH hd2;have Hh:=jH h;rw[he]at hl hp;have Hl:=jH hl;have Hp:=jH hp;clear hn4 h hd2 he hl hp;go_enter Tryz.func46,Tryz.ntmps46;go_wp2_with(first|refine zbx hS ?_;clear hS;intro bO w hS|refine zl1 hS ?_|refine zlN hS ?_|go_at_call 87;refine(Qf7 Hh.out W _ _ hS).mono ?_;clear hS;rintro x w ⟨rfl,hS⟩|refine zal hS ?_;clear hS;intro wb w hS|refine zbs hS ?_;clear hS;intro bS w hS|(fail_if_success (have:=mN));go_at_call 41;refine(cv4 wb [] e i bS 2 (by simp) ⟨by omega,by omega⟩ ⟨by omega,by omega⟩ W _ _ (ed4 (hS.s (blk wb _ _::blk bS _ _::blk bO _ _::R)))).mono ?_;clear hS;rw[jN];rintro x w ⟨rfl,hS⟩;have mN:Nat:=0|(have:=mN);go_at_call 41;refine(cS4 wb (l7 [e,i]) x0 x1 x2 x3 bO 2 4 Hd2.out Hn4.out W _ _ (i7.there (i7.here rfl)) (i7.there (i7.here rfl)) (i7.there (i7.here rfl)) (i7.there (i7.here rfl)) hS).mono ?_;clear hS;rintro x w ⟨rfl,hS⟩|go_at_call 50;refine(ec4 wb _ (by have:=Hl.out;omega) Hp.out W _ _ hS).mono ?_;clear hS;rintro x w ⟨v,rfl,hS⟩);go_ret2;refine⟨v,rfl,?_⟩;rw[He.out];exact hS.s _
def cA4(x:Int×Int):Prop:=(1<=x.1/\x.1<=1048576)/\1<=x.2/\x.2<=1099511627776
structure TnOk(t:Tns):Prop where
 w:cA4 (t.client,t.seq)
 ak:t.ak.size<=16
 aw:t.aw.size<=16
 tk:t.tk.size<=16
 tw:t.tw.size<=16
 i0:0<=t.item
 i1:t.item<4
 c0:1<=t.cnt
 c1:t.cnt<=1048576
structure EnOk(e:Ec)(n:Nat):Prop where
 ok:EOk e n
 vk:∀x∈e.vs,x.1.size<=16
 sw:∀x∈e.ss,cA4 (x.1,x.2.1)
 sr:∀x∈e.ss,RpOk x.2.2
 tw:∀x∈e.ts,TnOk x.2/\x.1=(x.2.client,x.2.seq)
 aw:∀x∈e.ar,cA4 x.1
 lv:e.vs.length<=n
 ls:e.ss.length<=n
 lt:e.ts.length<=n
 la:e.ar.length<=n
theorem ge4:EnOk ec0 0:=⟨fE4 0,fun _ h=>(by cases h),fun _ h=>(by cases h),fun _ h=>(by cases h),fun _ h=>(by cases h),fun _ h=>(by cases h),Nat.le_refl _,Nat.le_refl _,Nat.le_refl _,Nat.le_refl _⟩
theorem EnOk.on{e:Ec}{n:Nat}(h:EnOk e n):EnOk e (n+1):=⟨fun x hx=>(h.ok x hx).on,h.vk,h.sw,h.sr,h.tw,h.aw,Nat.le_succ_of_le h.lv,Nat.le_succ_of_le h.ls,Nat.le_succ_of_le h.lt,Nat.le_succ_of_le h.la⟩
theorem eJ4:RpOk rp0:=⟨by decide,by decide,by decide,by decide,rfl⟩
theorem z00:(0:Int)<=0:=by decide
theorem z19:(0:Int)<=19:=by decide
theorem z40:(0:Int)<=1099511627776:=by decide
theorem QT7{V:Vs}{o:Opn}(hp:K6 V.ps)(hn:1<=V.n):RpOk (doV V o).1:=by
 unfold doV;split
 ·have:L9 V.ps o.aw (s9 o.item o.cnt)=0\/L9 V.ps o.aw (s9 o.item o.cnt)=6\/L9 V.ps o.aw (s9 o.item o.cnt)=1:=by
   unfold L9
   repeat' split
   all_goals simp
  exact⟨by show 0<=L9 V.ps o.aw (s9 o.item o.cnt);omega,by show L9 V.ps o.aw (s9 o.item o.cnt)<=19;omega,z00,z40,rfl⟩
 split
 ·have:r6 V.ps o.aw (s9 o.item o.cnt)=0\/r6 V.ps o.aw (s9 o.item o.cnt)=14\/r6 V.ps o.aw (s9 o.item o.cnt)=1:=by
   unfold r6
   repeat' split
   all_goals simp
  exact⟨by show 0<=r6 V.ps o.aw (s9 o.item o.cnt);omega,by show r6 V.ps o.aw (s9 o.item o.cnt)<=19;omega,z00,z40,rfl⟩
 split
 ·have:((B5 V (at4 o)).2.1=0\/(B5 V (at4 o)).2.1=1\/(B5 V (at4 o)).2.1=6\/(B5 V (at4 o)).2.1=14)/\0<=(B5 V (at4 o)).1/\(B5 V (at4 o)).1<=1099511627776:=by
   unfold B5;split
   ·simp
   ·split
    ·simp
    ·rename_i h
     split
     ·refine⟨.inl rfl,by show 0<=V.n;omega,by show V.n<=1099511627776;omega⟩
     ·simp
  obtain⟨h1,h2,h3⟩:=this;exact⟨by show 0<=(B5 V (at4 o)).2.1;omega,by show(B5 V (at4 o)).2.1<=19;omega,h2,h3,rfl⟩
 split
 ·have:(B9 V o.aw o.id).1=0\/(B9 V o.aw o.id).1=7:=by
   unfold B9;split
   ·exact .inl rfl
   ·exact .inr rfl
  exact⟨by show 0<=(B9 V o.aw o.id).1;omega,by show(B9 V o.aw o.id).1<=19;omega,z00,z40,rfl⟩
 split
 ·exact⟨z00,z19,z00,z40,hp _⟩
 split
 ·exact eJ4
 ·exact eJ4
theorem JW7{u:ByteArray}(h:B7 u=true):u.size<=16:=Fo7 h
theorem HU7{o:Opn}(hm:A5 o=true):cA4 (o.client,o.seq)/\o.ak.size<=16/\o.aw.size<=16:=by unfold A5 F6 ap4 at hm;simp only[jB,decide_eq_true_eq]at hm;obtain⟨⟨h1,h2,h3,h4,h5,h6⟩,_⟩:=hm;exact⟨⟨⟨h1,h2⟩,h3,h4⟩,JW7 h5,JW7 h6⟩
theorem IX7{o:Opn}(hm:A5 o=true)(hk:o.kind=2):TnOk (cY4 o):=by obtain⟨h1,h2,h3⟩:=HU7 hm;have hc:=QR7 hm (.inr (.inl hk));unfold A5 I6 at hm;rw[if_neg (by omega),if_pos hk]at hm;unfold M6 ap4 at hm;simp only[jB,decide_eq_true_eq]at hm;obtain⟨_,⟨h4,h5⟩,_⟩:=hm;exact⟨h1,h2,h3,JW7 h4,JW7 h5,hc.1.1,by have:=hc.1.2;show o.item<4;omega,hc.2.1,hc.2.2.1⟩
theorem GM7{κ ν:Type}[DecidableEq κ](l:List (κ×ν))(k:κ):(j5 l k).length<=l.length:=List.length_filter_le _ _
theorem Db7{κ ν:Type}[DecidableEq κ]{l:List (κ×ν)}{k:κ}{x:κ×ν}(h:x∈j5 l k):x∈l:=(List.mem_filter.1 h).1
theorem EnOk.app{e:Ec}{n:Nat}(h:EnOk e n)(o:Opn)(hok:EOk (C5 e o).2.2 (n+1)):EnOk (C5 e o).2.2 (n+1):=by
 cases hp:H6 e o with
 | mk r b=>
 cases b with
 | true=>
  rw[EL7 hp];exact h.on
 | false=>
  obtain⟨rfl,hm⟩:=Cq7 hp;rw[DB7 hp]at hok ⊢;dsimp only at hok ⊢;obtain⟨hw,hak,haw⟩:=HU7 hm
  have hV:K6 (atV e o.ak).ps/\1<=(atV e o.ak).n:=by
   unfold atV
   cases hg:j8 e.vs o.ak with
   | none=>exact⟨Gv7,by decide⟩
   | some V=>exact⟨(h.ok _ (AN7 hg)).ok,(h.ok _ (AN7 hg)).n0⟩
  have hrp:=QT7 (o:=o) hV.1 hV.2;have hlv:=h.lv;have hls:=h.ls;have hlt:=h.lt;have hla:=h.la;refine⟨hok,?_,?_,?_,?_,?_,?_,?_,?_,?_⟩
  ·intro x hx;have hx2:x∈(if A9 (doV (atV e o.ak) o).2=true then j5 e.vs o.ak else(o.ak,(doV (atV e o.ak) o).2)::j5 e.vs o.ak):=hx;split at hx2
   ·exact h.vk x (Db7 hx2)
   ·rcases List.mem_cons.1 hx2 with rfl|hx2
    ·exact hak
    ·exact h.vk x (Db7 hx2)
  ·intro x hx;have hx2:x∈doS e o (doV (atV e o.ak) o).1:=hx;unfold doS at hx2;split at hx2
   ·exact h.sw x hx2
   ·rcases List.mem_cons.1 hx2 with rfl|hx2
    ·exact hw
    ·exact h.sw x (Db7 hx2)
  ·intro x hx;have hx2:x∈doS e o (doV (atV e o.ak) o).1:=hx;unfold doS at hx2;split at hx2
   ·exact h.sr x hx2
   ·rcases List.mem_cons.1 hx2 with rfl|hx2
    ·exact hrp
    ·exact h.sr x (Db7 hx2)
  ·intro x hx;have hx2:x∈doT e o (doV (atV e o.ak) o).1:=hx;unfold doT at hx2;split at hx2
   ·rename_i h2
    rcases List.mem_cons.1 hx2 with rfl|hx2
    ·exact⟨IX7 hm h2.1,rfl⟩
    ·exact h.tw x (Db7 hx2)
   ·split at hx2
    ·exact h.tw x (Db7 hx2)
    ·exact h.tw x hx2
  ·intro x hx;have hx2:x∈doA e o:=hx;unfold doA at hx2;split at hx2
   ·rcases List.mem_cons.1 hx2 with rfl|hx2
    ·exact hw
    ·exact h.aw x (Db7 hx2)
   ·exact h.aw x hx2
  ·show(if A9 (doV (atV e o.ak) o).2=true then j5 e.vs o.ak else(o.ak,(doV (atV e o.ak) o).2)::j5 e.vs o.ak).length<=n+1
   have:=GM7 e.vs o.ak;split
   ·omega
   ·rw[jC];omega
  ·show(doS e o (doV (atV e o.ak) o).1).length<=n+1
   have:=GM7 e.ss o.client;unfold doS;split
   ·omega
   ·rw[jC];omega
  ·show(doT e o (doV (atV e o.ak) o).1).length<=n+1
   have:=GM7 e.ts (o.client,o.seq);unfold doT;split
   ·rw[jC];omega
   ·split <;> omega
  ·show(doA e o).length<=n+1
   have:=GM7 e.ar (o.client,o.seq);unfold doA;split
   ·rw[jC];omega
   ·omega
end Go.Proofs.YtienbkdjkjbelaaGreat
end
section
namespace Go.Proofs.YtienbkdjkjbelaaGreat
open Go.Shelf
def Tryz.keysV_ren:Go.Shelf.Ren:=⟨fun|7=>79|10=>122|n=>n,fun|23=>107|26=>9|3=>114|28=>158|0=>0|27=>157|33=>191|4=>4|n=>n,fun|n=>n⟩
theorem Tryz.keysV:Go.Proofs.SlLaysZ.n7 Tryz.prog Tryz.keysV_ren:={
 mixed:=by kernel_rfl
 f7:=⟨Tryz.f79.name,by decide,Tryz.func79.trans (congrArg some (by kernel_rfl))⟩
 f10:=⟨Tryz.f122.name,by decide,Tryz.func122.trans (congrArg some (by kernel_rfl))⟩
 t0:=Tryz.underlying0
 a0:=Tryz.isAgg0
 z0:=Tryz.sizeOf0
 v0:=Tryz.zeroValue0
 t4:=Tryz.underlying4
 a4:=Tryz.isAgg4
 z4:=Tryz.sizeOf4
 v4:=Tryz.zeroValue4
 t23:=Tryz.underlying107
 a23:=Tryz.isAgg107
 z23:=Tryz.sizeOf107
 v23:=Tryz.zeroValue107
 t26:=Tryz.underlying9
 a26:=Tryz.isAgg9
 z26:=Tryz.sizeOf9
 v26:=Tryz.zeroValue9
 t27:=Tryz.underlying157
 a27:=Tryz.isAgg157
 z27:=Tryz.sizeOf157
 v27:=Tryz.zeroValue157
 t28:=Tryz.underlying158
 a28:=Tryz.isAgg158
 z28:=Tryz.sizeOf158
 v28:=Tryz.zeroValue158
 t33:=Tryz.underlying191
 a33:=Tryz.isAgg191
 z33:=Tryz.sizeOf191
 v33:=Tryz.zeroValue191 }
end Go.Proofs.YtienbkdjkjbelaaGreat
end
section
namespace Go.Proofs.YtienbkdjkjbelaaGreat
open Go.RowKit Go.Maps Go.Sort Go.Shelf Go.Sl
theorem KN7(mb:Option Nat)(W w:World)(L:List HP)(hS:St W L w):
  Calls Tryz.prog 79 #[.map mb] w fun e w'=>∃g,e=.returned (.func (.func 122) #[] #[.P g])/\St W (blk g [.map mb] 107::L) w':=by
 have cK:CallsIn Fence.wide 5 Tryz.prog 79 #[.map mb] w fun e w'=>e=.returned (.func (.func 122) #[] #[.pointer (some ⟨w.heap.size,0,none⟩)])/\w'=w.alloc (.cells #[.map mb] 107):=AnyZ.keys_in Tryz.keysV Fence.wide 5 trivial rfl mb w
 refine((callsIn_wide (n:=5)).1 cK).mono ?_;rintro e w' ⟨rfl,rfl⟩;exact⟨_,rfl,hS.alloc _⟩
section
variable{ν:Type}{ev:ν->Value}{W w:World}{L:List HP}{b g:Nat}
theorem HV7{l:List (ByteArray×ν)}(hwf:∀x∈l,x.1.size<=maxLen)(hl:l.length<=1000000000)(hS:St W (blk g [.map (some b)] 107::d8 eS ev b l::L) w):
  Calls Tryz.prog 78 #[.func (.func 122) #[] #[.P g]] w fun e w'=>∃v,e=.returned v/\St W (row v 1 9 l.length ((aF4 (l.map (·.1))).map eS)::d8 eS ev b l::L) w':=by
 obtain⟨D,hD1,hD2,hD3⟩:=dK4 hS.drop hwf (by unfold maxLen;omega)
 have hseq:SeqGives Fence.wide 2 Tryz.prog 122 #[.P g] encStr (fun ss=>ss.Perm (strKeys D)) (Maps.size D) w:=
  AnyZ.keys_gives (ρ:=Tryz.keysV_ren) { Tryz.keysV with } Fence.wide _ trivial rfl (by omega) g b l.length D _ (Array.getElem?_eq_some_iff.1 (hS.get (b:=g) .head)).1 (hS.cell (b:=g) (off:=0) .head rfl) hD1
 have cS:=AnyZ.sorted_in Tryz.sortedS Fence.wide 5 trivial trivial trivial trivial rfl (by omega) (dJ4 _) (enters_of Tryz.func121 (by kernel_rfl) rfl) 122 #[.P g] trivial (enters_of Tryz.func122 (by kernel_rfl) rfl) _ _ (by rw[hD2];unfold maxLen;omega) (by rw[hD2];omega) _ hseq;change CallsIn _ _ Tryz.prog 78 _ _ _ at cS;refine((callsIn_wide (n:=5)).1 cS).mono ?_;rintro e w' ⟨v,ss,rfl,hP,hrow,hnil,hb⟩;refine⟨v,rfl,?_⟩;have hp:=hP.trans hD3;have e:=JJ7 (l:=l.map (·.1)) (ss:=ss) (by rw[List.map_map];exact hp);rw[e,show ss.length=l.length by rw[hp.length_eq,jM]]at hrow;exact(hS.drop).called hb hrow
end
theorem FH7{l l':List ByteArray}(h:l.Perm l'):aF4 l=aF4 l':=
 List.Perm.eq_of_pairwise (fun a b _ _ h1 h2=>EI7 h1 h2) (AF7 l) (AF7 l') (((Aw7 l).trans h).trans (Aw7 l').symm)
theorem QU7{x y:ByteArray}(h:ltB x y=true):leB x y=true:=DF7 h
theorem ML7{ν:Type}{l:List (ByteArray×ν)}(h:Asc ltB l):aF4 (l.map (·.1))=l.map (·.1):=by refine List.Perm.eq_of_pairwise (fun a b _ _ h1 h2=>EI7 h1 h2) (AF7 _) ?_ (Aw7 _);exact List.pairwise_map.2 (List.Pairwise.imp (fun h=>QU7 h) h)
def ksE(e:Ec):List ByteArray:=aF4 (e.vs.map (·.1))
theorem IY7(e:Ec):(ksE e).length=e.vs.length:=by unfold ksE;rw[(Aw7 _).length_eq,jM]
abbrev cw4(v:Value)(l:List ByteArray):HP:=row v 1 9 l.length (l.map eS)
theorem MM7{eb:Nat}{e:Ec}(hk:∀x∈e.vs,x.1.size<=maxLen)(hl:e.vs.length<=1000000)(W w:World)(R:List HP)(hS:St W (ecP eb e::R) w):
  Calls Tryz.prog 37 #[.P eb] w fun x w'=>∃v,x=.returned v/\St W (cw4 v (ksE e)::ecP eb e::R) w':=by
 obtain⟨m1,m2,m3,m4,E,hp,hn,hS0⟩:=br4 hS;have hS1:=F5 hS0;clear hS hS0;have hpk:((j6 E).map (·.1)).Perm (e.vs.map (·.1)):=by rw[AJ7,<-Bz7];exact hp.map _
 have hks:aF4 ((j6 E).map (·.1))=ksE e:=FH7 hpk;have hlk:(j6 E).length=(ksE e).length:=by rw[IY7];have:=hpk.length_eq;rw[jM,jM]at this;exact this
 have hwf:∀x∈j6 E,x.1.size<=maxLen:=fun x hx=>by have h1:=hpk.mem_iff.1 (List.mem_map.2 ⟨x,hx,rfl⟩);obtain⟨y,hy,hxy⟩:=List.mem_map.1 h1;rw[<-hxy];exact hk y hy
 have hl2:(j6 E).length<=1000000000:=by rw[hlk,IY7];omega
 have Hp:=jH hp;have Hks:=jH hks;have Hlk:=jH hlk;have Hwf:=jH hwf;have Hl2:=jH hl2;clear hp hn hpk hks hlk hwf hl2 hl;have hS:=hS1;clear hS1;go_enter Tryz.func37,Tryz.ntmps37;go_wp2_with(first|go_big_skip|refine zl1 hS ?_|go_at_call 79;refine(KN7 (some m1) W _ _ hS).mono ?_;clear hS;rintro x w ⟨g,rfl,hS⟩|go_at_call 78;refine(HV7 (g:=g) (b:=m1) (ev:=eN) (l:=j6 E) Hwf.out Hl2.out (hS.s (blk g _ _::d8 eS eN m1 (j6 E)::ebB eb m1 m2 m3 m4::k9 E::d8 eI eSs m2 e.ss::d8 eW eTn m3 e.ts::d8 eW eU m4 e.ar::R))).mono ?_;clear hS;rintro x w ⟨v,rfl,hS⟩);go_ret;rw[Hks.out,Hlk.out]at hS;have h1:=hS.s (ebB eb m1 m2 m3 m4::d8 eS eN m1 (j6 E)::k9 E::d8 eI eSs m2 e.ss::d8 eW eTn m3 e.ts::d8 eW eU m4 e.ar::cw4 v (ksE e)::R);exact⟨v,rfl,(bl4 Hp.out h1).swap⟩
end Go.Proofs.YtienbkdjkjbelaaGreat
end
