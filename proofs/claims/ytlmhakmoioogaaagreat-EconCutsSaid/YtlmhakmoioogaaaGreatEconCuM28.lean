/-
  The program's vault as bytes.
-/
import Derived.Test.YtlmhakmoioogaaaGreatEconCuM5
import Derived.Test.YtlmhakmoioogaaaGreatEconCuM7
import Derived.Test.YtlmhakmoioogaaaGreatEconCuM21
import Derived.Test.YtlmhakmoioogaaaGreatEconCuM27
import Derived.Laws.StructEq
set_option maxHeartbeats 16000000
set_option maxRecDepth 100000
set_option linter.unusedSimpArgs false
set_option linter.unusedVariables false
section
namespace Go.Proofs.YtlmhakmoioogaaaGreat
open Go.RowKit Go.Sl
theorem ex4{W w:World}{wb:Nat}{L:List HP}(h:St W (blk wb [.slice none 0 0] 119::L) w):St W (wrR wb []::L) w:=by have h1:=(h.rowNil (k:=1) (T:=5)).swap;exact cF4 (d:=[]) h1
theorem Fz7(n:Int):0<(l9 n).length:=by unfold l9;rw[show(8:Nat)=7+1 from rfl,bH4];split <;> simp
theorem bn4(wb:Nat)(d:List Int)(x:Int)(b c:Nat)(hd:d.length<=90000000)(hx : -9223372036854775808<=x/\x<=9223372036854775807)(W w:World)(R:List HP)(hS:St W (wrR wb d::blk b [.I x] 3::R) w):
  Calls Tryz.prog 65 #[.P wb,.S b 1 c] w fun e w'=>e=.returned (.tuple #[])/\St W (wrR wb (d++l9 x)::blk b [.I x] 3::R) w':=by
 have h:=Oa7 wb d [x] b c hd (by simp) (fun y hy=>by rw[List.mem_singleton.1 hy];exact hx) W w R hS;simpa using h
theorem du4(wb:Nat)(d:List Int)(x0 x1 x2 x3:Int)(g off c:Nat)(hd:d.length<=90000000)(hn:∀x∈[x0,x1,x2,x3], -9223372036854775808<=x/\x<=9223372036854775807)(W w:World)(R:List HP)(hc0:i8 R g off (.I x0))(hc1:i8 R g (off+1) (.I x1))(hc2:i8 R g (off+2) (.I x2))(hc3:i8 R g (off+3) (.I x3))(hS:St W (wrR wb d::R) w):
  Calls Tryz.prog 65 #[.P wb,.slice (some ⟨g,off,none⟩) 4 c] w fun e w'=>e=.returned (.tuple #[])/\St W (wrR wb (d++m5 [x0,x1,x2,x3])::R) w':=
 QS7 wb d [x0,x1,x2,x3] g off c hd (by simp) hn W w R (fun i hi=>by
  have hi4:i=0\/i=1\/i=2\/i=3:=by simp at hi;omega
  rcases hi4 with rfl|rfl|rfl|rfl
  ·exact hc0
  ·exact hc1
  ·exact hc2
  ·exact hc3) hS
def CwR{α:Type}(W:World)(F:List HP)(wb:Nat)(f:α->List Int)(base:List Int)(xs:List α)(v:Value)(w:World):Prop:=
 ∃k:Nat,v=.I k/\k<=xs.length/\St W (wrR wb (base++(xs.take k).flatMap f)::F) w
theorem eV4(vb mb bb:Nat)(p:Ps)(L:List Ord)(n:Int){N:Nat}(hp:M6 p)(hw:PsW p N)(hN:N<=1000000)(hn0:1<=n)(hn1:n<=1099511627777)(W w:World)(R:List HP)(hS:St W (w5 vb mb bb p L n R) w):
  Calls Tryz.prog 67 #[.P vb] w fun e w'=>∃v,e=.returned v/\St W (byR v (aV4 p L n)::w5 vb mb bb p L n R) w':=by
 have hlh:(hdL p).length<=1000000:=by rw[Cs7];exact Nat.le_trans hw.len hN
 have hl32:=Cb7 hS.drop.drop;have hmay:∀x∈L,MayP x:=fun x hx=>(By7 hS.drop.drop x hx).1
 have hhw:∀x∈hdL p,x.who.size<=16/\s9 x.has=true:=fun x hx=>by refine⟨?_,by rw[DD7 hx];exact hp _⟩;have hk:x.who∈(hdL p).map Hd.who:=List.mem_map_of_mem hx;rw[Gm7]at hk;obtain⟨y,hy,e⟩:=Ld7 hk;rw[<-e];exact Gi7 (hw.who y hy)
 have hN2:N<=1000000000:=by omega
 have Hmay:=jH hmay;have Hhw:=jH hhw;have Hw:=jH hw;clear hmay hw hp hhw;unfold aV4;go_enter Tryz.func67,Tryz.ntmps67;go_wp2_with(first|go_at_call 124;refine(Dq7 vb mb bb p L n Hw.out hN2 W _ _ hS).mono ?_;clear hS;rintro e w ⟨sa,sc,oa,oc,rfl,hS⟩|(fail_if_success (have:=wb));(with_reducible apply Al7 hS);rfl;rfl;exact zsS;clear hS;intro wb w hS;refine frS ?_|refine zbs hS ?_;clear hS;intro bS w hS|go_at_call 65;refine(bn4 wb [] ((hdL p).length:Int) bS 1 (by simp) ⟨by omega,by omega⟩ W _ _ (ex4 (hS.s (blk wb _ _::blk bS _ _::blk vb _ _::d8 eS eP mb p::m8 bb L n::hdR (.slice sa (hdL p).length sc) (hdL p)::j7 (.slice oa L.length oc) L::R)))).mono ?_;clear hS;rw[jN];rintro e w ⟨rfl,hS⟩);have hS1:=hS.s (wrR wb _::blk vb _ _::d8 eS eP mb p::m8 bb L n::hdR (.slice sa (hdL p).length sc) (hdL p)::j7 (.slice oa L.length oc) L::R);clear hS;have hS:=hS1;clear hS1;generalize hhs:hdL p=hs at hS hlh Hhw;have Hhs:=jH hhs;clear hhs
 go_loopw [26] (fun v wr=>CwR W (w5 vb mb bb p L n (hdR (.slice sa hs.length sc) hs::j7 (.slice oa L.length oc) L::R)) wb bI4 (l9 hs.length) hs v wr) (fun v _=>hs.length-(intOf v).toNat)
 case atStart=>exact⟨0,rfl,Nat.zero_le _,by simpa using hS⟩
 case round=>
  clear hS;obtain⟨k,rfl,hkl,hS⟩:=hrel;by_cases hkn:k=hs.length
  ·rw[hkn,List.take_length]at hS;have hd1:decide (k<hs.length)=false:=by simp;omega
   clear hkl hkn;have hlkk:=Ao7 hs.length;generalize hacc:l9 hs.length++hs.flatMap bI4=acc at hS
   have hal:acc.length<=70000100:=by
    have h1:=BK7 bI4 hs fun x hx=>Ek7 x (Hhw.out x hx).1
    rw[<-hacc,jA];omega
   have Hacc:=jH hacc;clear hacc hlkk;have hln:=Ao7 L.length;go_wp2_with(first|refine zbs hS ?_;clear hS;intro bS w hS|go_at_call 65;refine(bn4 wb acc (L.length:Int) bS 1 (by omega) ⟨by omega,by omega⟩ W _ _ (hS.s (wrR wb acc::blk bS _ _::blk vb _ _::d8 eS eP mb p::m8 bb L n::hdR _ hs::j7 (.slice oa L.length oc) L::R))).mono ?_;clear hS;rintro e w ⟨rfl,hS⟩);have hS1:=hS.s (wrR wb _::blk vb _ _::d8 eS eP mb p::m8 bb L n::hdR (.slice sa hs.length sc) hs::j7 (.slice oa L.length oc) L::R);clear hS;have hS:=hS1;clear hS1
   go_loopw [45] (fun v wr=>CwR W (w5 vb mb bb p L n (hdR (.slice sa hs.length sc) hs::j7 (.slice oa L.length oc) L::R)) wb bf4 (acc++l9 L.length) L v wr) (fun v _=>L.length-(intOf v).toNat)
   case atStart=>exact⟨0,rfl,Nat.zero_le _,by simpa using hS⟩
   case round=>
    clear hS;obtain⟨j,rfl,hjl,hS⟩:=hrel;by_cases hjn:j=L.length
    ·rw[hjn,List.take_length]at hS;have hd2:decide (j<L.length)=false:=by simp;omega
     clear hjl hjn;have hlo:=BK7 bf4 L fun x hx=>El7 x (Hmay.out x hx).who1
     generalize hd:acc++l9 L.length++L.flatMap bf4=d at hS;have hdl:d.length<=70010000:=by rw[<-hd,jA,jA];omega
     have Hd2:=jH hd;have hlq:=Ao7 n;have hlz:0<(d++l9 n).length:=by have:0<(l9 n).length:=Fz7 n;rw[jA];omega
     have hlz2:(d++l9 n).length<=100000000:=by rw[jA];omega
     have Hz:=jH hlz;have Hz2:=jH hlz2;clear hd hlz hlz2;go_wp2_with(first|refine zbs hS ?_;clear hS;intro bS w hS|go_at_call 65;refine(bn4 wb d n bS 1 (by omega) ⟨by omega,by omega⟩ W _ _ (hS.s (wrR wb d::blk bS _ _::blk vb _ _::d8 eS eP mb p::m8 bb L n::hdR _ hs::j7 (.slice oa L.length oc) L::R))).mono ?_;clear hS;rintro e w ⟨rfl,hS⟩|go_at_call 72;refine(ew4 wb _ Hz2.out Hz.out W _ _ hS).mono ?_;clear hS;rintro e w ⟨vo,rfl,hS⟩);go_ret;refine⟨vo,rfl,?_⟩;rw[Hhs.out,Hacc.out,Hd2.out];exact hS.s _
    ·have hj1:j<L.length:=by omega
     obtain⟨⟨g,rfl⟩,_,_⟩:=St.rowAddr hS.drop.drop.drop.drop.drop (by omega);have hcells:∀{K K':List HP},Take K (j7 (.S g L.length oc) L) K'->i5 K g (j*6) (Ord.cells L[j]):=fun hu=>i5.elemM (enc:=Ord.cells) Ord.len hu hj1
     have hst:=Bc7 bf4 (acc++l9 L.length) L hj1;have hmx:=Hmay.out _ (jW hj1);have hlt:=BK7 bf4 (L.take j) fun x hx=>El7 x (Hmay.out x (List.mem_of_mem_take hx)).who1
     rw[jT]at hlt;generalize hd:acc++l9 L.length++(L.take j).flatMap bf4=d at hS hst;have hdl:d.length<=70010000:=by rw[<-hd,jA,jA];omega
     generalize L[j]=x at hcells hst hmx;obtain⟨oi,ou,oy,ot,oc2,op⟩:=x;have i0:1<=oi:=hmx.id0;have i1:oi<=1099511627776:=hmx.id1;have w1:ou.size<=16:=hmx.who1;have t0:1<=ot:=hmx.item0;have t1:ot<=3:=hmx.item1;have c0:1<=oc2:=hmx.cnt0;have c1:oc2<=1048576:=hmx.cnt1;have p0:1<=op:=hmx.price0;have p1:op<=1024:=hmx.price1;have l1:=Ao7 oi;have l4:=BO7 ou w1;have Hst:=jH hst;clear hst hmx hd hlt hjn hjl;simp only[Ord.cells]at hcells;have hq1:(d++l9 oi).length<=90000000:=by rw[jA];omega
     have hq2:(d++l9 oi++G9 ou).length<=90000000:=by rw[jA,jA];omega
     have Hq1:=jH hq1;have Hq2:=jH hq2;clear hq1 hq2
     cases oy with
     | false=>
      have Hst2:=jH (show acc++l9 L.length++(L.take (j+1)).flatMap bf4=d++l9 oi++G9 ou++m5 [0,ot,oc2,op]by rw[Hst.out];unfold bf4;simp[di4,jS])
      have hn:∀x∈[(0:Int),ot,oc2,op], -9223372036854775808<=x/\x<=9223372036854775807:=by
       intro x hx;simp only[List.mem_cons,List.not_mem_nil,or_false]at hx
       rcases hx with rfl|rfl|rfl|rfl
       all_goals exact⟨by omega,by omega⟩
      have Hn:=jH hn;clear hn;go_wp2_with(first|refine zlN hS ?_ (hc:=by exact hcells (by exact i6))|(fail_if_success (have:=b8));((have:=wb);(with_reducible apply Al7 hS);rfl;rfl;exact zsS;clear hS;intro b8 w hS;refine frS ?_)|refine zsN hS ?_;clear hS;intro w hS|refine zl1 hS ?_|(with_reducible apply Ay7 hS);rfl;rfl;rfl;exact Tryz.underlying9;exact Tryz.underlying63;exact Tryz.underlying5;clear hS;intro g9 c9 w hS;refine frS ?_|refine zbs hS ?_;clear hS;intro bS w hS|(fail_if_success (have:=mN1));go_at_call 65;refine(bn4 wb d oi bS 1 (by omega) ⟨by omega,by omega⟩ W _ _ (hS.s (wrR wb d::blk bS _ _::blk b8 _ _::blk vb _ _::d8 eS eP mb p::m8 bb L n::hdR _ hs::j7 _ L::R))).mono ?_;clear hS;rintro e w ⟨rfl,hS⟩;have mN1:Nat:=0|go_at_call 66;(have hS2:St W (blk bS [.S g9 ou.size c9] 63::_) _:=hS);refine(Kc7 wb (d++l9 oi) ou bS g9 c9 1 Hq1.out (by omega) W _ _ (hS2.s (wrR wb _::blk bS _ _::sbR g9 ou::blk b8 _ _::blk vb _ _::d8 eS eP mb p::m8 bb L n::hdR _ hs::j7 _ L::R))).mono ?_;clear hS hS2;rintro e w ⟨rfl,hS⟩|(have:=mN1);go_at_call 65;(have hS2:St W (blk bS [.I 0,.I ot,.I oc2,.I op] 3::_) _:=hS);refine(du4 wb (d++l9 oi++G9 ou) 0 ot oc2 op bS 0 4 Hq2.out Hn.out W _ (blk bS [.I 0,.I ot,.I oc2,.I op] 3::blk vb _ _::d8 eS eP mb p::m8 bb L n::hdR _ hs::j7 _ L::R) (i8.here rfl) (i8.here rfl) (i8.here rfl) (i8.here rfl) (hS2.s _)).mono ?_;clear hS hS2;rintro e w ⟨rfl,hS⟩);go_roundw
      case rel=>exact⟨j+1,rfl,hj1,by rw[Hst2.out];exact hS.s _⟩
      case measure=>simp[intOf];omega
     | true=>
      have Hst2:=jH (show acc++l9 L.length++(L.take (j+1)).flatMap bf4=d++l9 oi++G9 ou++m5 [1,ot,oc2,op]by rw[Hst.out];unfold bf4;simp[di4,jS])
      have hn:∀x∈[(1:Int),ot,oc2,op], -9223372036854775808<=x/\x<=9223372036854775807:=by
       intro x hx;simp only[List.mem_cons,List.not_mem_nil,or_false]at hx
       rcases hx with rfl|rfl|rfl|rfl
       all_goals exact⟨by omega,by omega⟩
      have Hn:=jH hn;clear hn;go_wp2_with(first|refine zlN hS ?_ (hc:=by exact hcells (by exact i6))|(fail_if_success (have:=b8));((have:=wb);(with_reducible apply Al7 hS);rfl;rfl;exact zsS;clear hS;intro b8 w hS;refine frS ?_)|refine zsN hS ?_;clear hS;intro w hS|refine zl1 hS ?_|(with_reducible apply Ay7 hS);rfl;rfl;rfl;exact Tryz.underlying9;exact Tryz.underlying63;exact Tryz.underlying5;clear hS;intro g9 c9 w hS;refine frS ?_|refine zbs hS ?_;clear hS;intro bS w hS|(fail_if_success (have:=mN1));go_at_call 65;refine(bn4 wb d oi bS 1 (by omega) ⟨by omega,by omega⟩ W _ _ (hS.s (wrR wb d::blk bS _ _::blk b8 _ _::blk vb _ _::d8 eS eP mb p::m8 bb L n::hdR _ hs::j7 _ L::R))).mono ?_;clear hS;rintro e w ⟨rfl,hS⟩;have mN1:Nat:=0|go_at_call 66;(have hS2:St W (blk bS [.S g9 ou.size c9] 63::_) _:=hS);refine(Kc7 wb (d++l9 oi) ou bS g9 c9 1 Hq1.out (by omega) W _ _ (hS2.s (wrR wb _::blk bS _ _::sbR g9 ou::blk b8 _ _::blk vb _ _::d8 eS eP mb p::m8 bb L n::hdR _ hs::j7 _ L::R))).mono ?_;clear hS hS2;rintro e w ⟨rfl,hS⟩|(have:=mN1);go_at_call 65;(have hS2:St W (blk bS [.I 1,.I ot,.I oc2,.I op] 3::_) _:=hS);refine(du4 wb (d++l9 oi++G9 ou) 1 ot oc2 op bS 0 4 Hq2.out Hn.out W _ (blk bS [.I 1,.I ot,.I oc2,.I op] 3::blk vb _ _::d8 eS eP mb p::m8 bb L n::hdR _ hs::j7 _ L::R) (i8.here rfl) (i8.here rfl) (i8.here rfl) (i8.here rfl) (hS2.s _)).mono ?_;clear hS hS2;rintro e w ⟨rfl,hS⟩);go_roundw
      case rel=>exact⟨j+1,rfl,hj1,by rw[Hst2.out];exact hS.s _⟩
      case measure=>simp[intOf];omega
  ·have hk1:k<hs.length:=by omega
   obtain⟨⟨g,rfl⟩,_,_⟩:=St.rowAddr hS.drop.drop.drop.drop (by omega);have hcells:∀{K K':List HP},Take K (hdR (.S g hs.length sc) hs) K'->i5 K g (k*5) (Hd.cells hs[k]):=fun hu=>i5.elemM (enc:=Hd.cells) Hd.len hu hk1
   have hst:=Bc7 bI4 (l9 hs.length) hs hk1;have hmx:=Hhw.out _ (jW hk1);have hlt:=BK7 bI4 (hs.take k) fun x hx=>Ek7 x (Hhw.out x (List.mem_of_mem_take hx)).1
   rw[jT]at hlt;have hlk:=Ao7 hs.length;generalize hd:l9 hs.length++(hs.take k).flatMap bI4=d at hS hst;have hdl:d.length<=70000100:=by rw[<-hd,jA];omega
   generalize hs[k]=x at hcells hst hmx;obtain⟨xw,⟨x0,x1,x2,x3⟩⟩:=x;obtain⟨w1,hit⟩:=hmx;simp only at w1;obtain⟨a0,a1,a2,a3⟩:=Ah7.1 hit;simp only at a0 a1 a2 a3
   have hn:∀x∈[x0,x1,x2,x3], -9223372036854775808<=x/\x<=9223372036854775807:=by
    intro x hx;simp only[List.mem_cons,List.not_mem_nil,or_false]at hx
    rcases hx with rfl|rfl|rfl|rfl
    all_goals exact⟨by omega,by omega⟩
   have l4:=BO7 xw w1;have hdl2:(d++G9 xw).length<=90000000:=by rw[jA];omega
   have Hdl2:=jH hdl2;have Hn:=jH hn;have Hst:=jH (show l9 hs.length++(hs.take (k+1)).flatMap bI4=d++G9 xw++m5 [x0,x1,x2,x3]by rw[hst,jS];rfl);clear hst hit hd hlt hkn hkl hdl2 hn;simp only[Hd.cells,It.cells]at hcells;go_wp2_with(first|refine zlN hS ?_ (hc:=by exact hcells (by exact i6))|(fail_if_success (have:=b8));((have:=wb);(with_reducible apply Al7 hS);rfl;rfl;exact zsS;clear hS;intro b8 w hS;refine frS ?_)|refine zsN hS ?_;clear hS;intro w hS|refine zl1 hS ?_|(with_reducible apply Ay7 hS);rfl;rfl;rfl;exact Tryz.underlying9;exact Tryz.underlying63;exact Tryz.underlying5;clear hS;intro g9 c9 w hS;refine frS ?_|(with_reducible apply fg4 hS);rfl;rfl;(focus(simp only[fD,fI,fJ,Act.eval,fE,fF,fG,fH,fK];try rfl));exact esS;exact rsS;rfl;rfl;rfl;rfl;clear hS;intro bT w hS;refine frS ?_|go_at_call 66;refine(Kc7 wb d xw bT g9 c9 1 (by omega) (by omega) W _ _ (hS.s (wrR wb d::blk bT _ _::sbR g9 xw::blk b8 _ _::blk vb _ _::d8 eS eP mb p::m8 bb L n::hdR _ hs::j7 _ L::R))).mono ?_;clear hS;rintro e w ⟨rfl,hS⟩|go_at_call 65;refine(du4 wb (d++G9 xw) x0 x1 x2 x3 b8 1 4 Hdl2.out Hn.out W _ (blk b8 [.string xw,.I x0,.I x1,.I x2,.I x3] 189::blk vb _ _::d8 eS eP mb p::m8 bb L n::hdR _ hs::j7 _ L::R) (i8.here rfl) (i8.here rfl) (i8.here rfl) (i8.here rfl) (hS.s _)).mono ?_;clear hS;rintro e w ⟨rfl,hS⟩);go_roundw
   case rel=>exact⟨k+1,rfl,hk1,by rw[Hst.out];exact hS.s _⟩
   case measure=>simp[intOf];omega
abbrev Rb:=Option Addr×Nat×List Int
abbrev rbV(x:Rb):Value:=.slice x.1 x.2.2.length x.2.1
def E6(r:List Int):List Int:=l9 r.length++r
def aN4(rs:List Rb):List Int:=rs.flatMap fun x=>E6 x.2.2
theorem AY7(r:List Int):(E6 r).length<=r.length+9:=by have:=Ao7 r.length;unfold E6;rw[jA];omega
theorem gl4(wb:Nat)(d:List Int)(a:Option Addr)(c:Nat)(r:List Int)(hd:d.length<=90000000)(hr:r.length<=10000000)(W w:World)(R:List HP)(hsrc:Src R (.slice a r.length c) r.length (u8s r))(hS:St W (wrR wb d::R) w):
  Calls Tryz.prog 132 #[.P wb,.slice a r.length c] w fun e w'=>e=.returned (.tuple #[])/\St W (wrR wb (d++r)::R) w':=by
 obtain⟨wa,wc,hS1⟩:=dt4 hS;clear hS;have hS:=hS1;clear hS1;have Hsrc:=jH hsrc;clear hsrc;go_enter Tryz.func132,Tryz.ntmps132;go_wp2_with(first|refine zl1 hS ?_|(with_reducible apply Ae7 hS);rfl;rfl;rfl;rfl;exact esS;exact rsS;rfl;decide;exact i6;exact Hsrc.out.there.there;(focus(rw[AQ7,Nat.mul_one]));exact Be7 _;(focus(unfold maxLen;omega));(focus(omega));clear hS;intro v w hS;(have hv:=hS.rowVal;obtain⟨va,vc,rfl⟩:=hv);refine frS ?_|refine zs1 hS ?_;clear hS;intro w hS);go_end0;have hS1:=hS.s (row (.slice va (d.length+r.length) vc) 1 _ _ _::blk wb _ _::R);have h0:St W (row (.slice va (d.length+r.length) vc) 1 5 (d.length+r.length) (u8s d++u8s r)::_) w:=hS1;rw[<-Az7]at h0;exact⟨rfl,cF4 (AJ7 (by rw[jA]) h0).swap⟩
def hg4(W:World)(R:List HP)(wb:Nat)(d:List Int)(rs:List Rb)(v:Value)(w:World):Prop:=
 ∃k:Nat,v=.I k/\k<=rs.length/\St W (wrR wb (d++aN4 (rs.take k))::R) w
theorem Mq7{rs:List Rb}{k:Nat}(h:k<rs.length):aN4 (rs.take (k+1))=aN4 (rs.take k)++(l9 rs[k].2.2.length++rs[k].2.2):=by unfold aN4;rw[List.take_succ_eq_append_getElem h,List.flatMap_append];simp[E6]
theorem IR7:∀{rs:List Rb},(∀x∈rs,x.2.2.length<=5000000)->(aN4 rs).length<=rs.length*5000009
 | [],_=>by simp[aN4]
 | x::rs,h=>by
  have h1:=IR7 (rs:=rs) fun y hy=>h y (List.mem_cons_of_mem _ hy)
  have h2:=h x (List.mem_cons_self ..);have h3:=AY7 x.2.2;unfold aN4 at h1 ⊢;rw[List.flatMap_cons,jA,jC];omega
theorem Kd7(wb:Nat)(d:List Int)(rs:List Rb)(b off c:Nat)(hd:d.length<=30000000)(hl:rs.length<=8)(hlen:∀x∈rs,x.2.2.length<=5000000)(W w:World)(R:List HP)(hcell:∀i, ∀hi:i<rs.length,i8 R b (off+i) (rbV rs[i]))(hsrc:∀x∈rs,Src R (rbV x) x.2.2.length (u8s x.2.2))(hS:St W (wrR wb d::R) w):
  Calls Tryz.prog 66 #[.P wb,.slice (some ⟨b,off,none⟩) rs.length c] w fun e w'=>e=.returned (.tuple #[])/\St W (wrR wb (d++aN4 rs)::R) w':=by
 have Hcell:=jH hcell;have Hsrc:=jH hsrc;have Hlen:=jH hlen;clear hcell hsrc hlen;go_enter Tryz.func66,Tryz.ntmps66;go_wp2_with(fail)
 go_loopw [8] (fun v wr=>hg4 W R wb d rs v wr) (fun v _=>rs.length-(intOf v).toNat)
 case atStart=>exact⟨0,rfl,Nat.zero_le _,by simpa[aN4]using hS⟩
 case round=>
  clear hS;obtain⟨k,rfl,hkl,hS⟩:=hrel;by_cases hkn:k=rs.length
  ·subst hkn;have d3:decide ((rs.length:Int)<(rs.length:Int))=false:=by simp
   rw[List.take_length]at hS;go_wp2_with(fail);go_end0;exact⟨rfl,hS⟩
  ·have hk1:k<rs.length:=by omega
   have dk:decide ((k:Int)<(rs.length:Int))=true:=by simp;omega
   have hc:=(Hcell.out k hk1).there (X:=wrR wb (d++aN4 (rs.take k)));have hs:=Hsrc.out _ (jW hk1);have hln:=Hlen.out _ (jW hk1);have hst:=Mq7 hk1;have htl:=IR7 (rs:=rs.take k) fun x hx=>Hlen.out x (List.mem_of_mem_take hx)
   rw[jT]at htl;have hnl:=Ao7 (rs[k].2.2.length:Int);generalize rs[k]=x at hc hs hln hst hnl;obtain⟨xa,xc,r⟩:=x;simp only at hc hs hln hst hnl;generalize hE:aN4 (rs.take k)=E at hS hst htl hc;have hdl:(d++E).length<=80000000:=by rw[jA];omega
   have Hs:=jH hs;have Hst:=jH hst;have Hdl:=jH hdl;have hdl2:(d++E++l9 (r.length:Int)).length<=90000000:=by rw[jA];omega
   have Hdl2:=jH hdl2;clear hs hst htl hE hkn hkl hdl hdl2;go_wp2_with(first|refine zl1 hS ?_ (hc:=by exact hc)|refine zbs hS ?_;clear hS;intro bS w hS|go_at_call 65;refine(bn4 wb _ (r.length:Int) bS 1 (by have:=Hdl.out;omega) ⟨by omega,by omega⟩ W _ _ (hS.s (wrR wb (d++E)::blk bS _ _::R))).mono ?_;clear hS;rintro e w ⟨rfl,hS⟩|go_at_call 132;refine(gl4 wb _ xa xc r Hdl2.out (by omega) W _ _ Hs.out.there hS).mono ?_;clear hS;rintro e w ⟨rfl,hS⟩);go_roundw
   case rel=>exact⟨k+1,rfl,hk1,by rw[Hst.out,<-jS,<-jS];exact hS.s _⟩
   case measure=>simp[intOf];omega
section
variable{κ ν:Type}[DecidableEq κ]
theorem Em7(k:κ)(v:ν)(l:List (κ×ν))(x:κ):i9 ((k,v)::l) x=if k=x then some v else i9 l x:=by
 unfold i9;rw[List.find?_cons];by_cases h:k=x
 ·rw[if_pos h];simp[h]
 ·rw[if_neg h];simp[h]
theorem Lm7(l:List (κ×ν))(k x:κ):i9 (j6 l k) x=if x=k then none else i9 l x:=by
 by_cases h:x=k
 ·rw[if_pos h];refine CJ7 fun y hy=>?_
  have:=(List.mem_filter.1 hy).2;rw[h];simpa using this
 ·rw[if_neg h]
  induction l with
  | nil=>rfl
  | cons y l ih=>
   obtain⟨a,b⟩:=y;have e:j6 ((a,b)::l) k=if a=k then j6 l k else(a,b)::j6 l k:=by unfold j6;rw[List.filter_cons];by_cases hk:a=k <;> simp[hk]
   rw[e,Em7];by_cases hk:a=k
   ·rw[if_pos hk,ih,if_neg (fun e=>h (e.symm.trans hk))]
   ·rw[if_neg hk,Em7,ih]
theorem Ln7(l:List (κ×ν))(k x:κ)(v:ν):i9 ((k,v)::j6 l k) x=if k=x then some v else i9 l x:=by
 rw[Em7,Lm7];by_cases h:k=x
 ·rw[if_pos h,if_pos h]
 ·rw[if_neg h,if_neg h,if_neg (fun e=>h e.symm)]
end
theorem HJ7{V:Vs}(h:A6 V=true):V=vs0:=by obtain⟨p,L,n⟩:=V;unfold A6 at h;simp only[jB,decide_eq_true_eq]at h;obtain⟨h1,h2,h3⟩:=h;rw[List.eq_nil_of_length_eq_zero h1,List.eq_nil_of_length_eq_zero h2,h3]
structure AlkE(C:Int->Prop)(k:ByteArray)(e f:Ec):Prop where
 v:atV e k=atV f k
 s:∀c,C c->i9 e.ss c=i9 f.ss c
 t:∀c q,C c->i9 e.ts (c,q)=i9 f.ts (c,q)
 a:∀c q,C c->i9 e.ar (c,q)=i9 f.ar (c,q)
def bg4(l:List Opn)(e:Ec):Ec:=l.foldl (fun e o=>(G8 e o).2.2) e
def hO4(k:ByteArray)(l:List Opn):List Opn:=l.filter fun o=>decide (o.ak=k)
end Go.Proofs.YtlmhakmoioogaaaGreat
end
section
namespace Go.Sl
open Go.RowKit
section
variable{κ:Type}[DecidableEq κ]{P:Program}{K:TypeId}{kd:TypeDesc}{ek:κ->Value}
theorem DB7(heq:∀a b w,(Op.equal K (ek a) (ek b)).run P w=.ok (decide (a=b)) w)(k:κ):∀(l:List (κ×Value×Nat)) (i:Nat) (w:World),(Instr.findAsking K (ek k) (l.map (K6 ek)) i).run P w=.ok (bM4 k l i) w
 | [],_,_=>rfl
 | x::l,i,w=>by
  have e:(K6 ek x).key=ek x.1:=rfl;rw[List.map_cons,Instr.findAsking,e,bM4];simp only[Sem.run_bind,heq,Result.andThen_ok];by_cases hk:k=x.1
  ·rw[if_pos hk];simp[hk,K6]
  ·rw[if_neg hk];simp[hk];exact DB7 heq k l (i+1) w
theorem KeyOk.deep(hK:P.underlying K=some kd)(hsn:∀a b,Instr.sameNow kd (ek a) (ek b)=none)(hchk:∀e k w,(Instr.checkKey e 10000 K (ek k)).run P w=.ok () w)(heq:∀a b w,(Op.equal K (ek a) (ek b)).run P w=.ok (decide (a=b)) w)
  (hb:∀k,Instr.sameBits 10000 (ek k) (ek k)=true):KeyOk P K ek:=
 ⟨hchk,fun k l w=>by
  unfold Instr.findKey;simp only[Sem.run_bind,run_underlying hK,Result.andThen_ok]
  cases l with
  | nil=>rfl
  | cons x l=>
   have e:Instr.findNow kd (ek k) ((x::l).map (K6 ek)) 0=none:=by rw[List.map_cons,Instr.findNow];have:(K6 ek x).key=ek x.1:=rfl;rw[this,hsn]
   rw[e];exact DB7 heq k (x::l) 0 w,hb⟩
end
end Go.Sl
end
section
namespace Go.Sl
open Go.RowKit
section
variable{W w:World}{R A:List HP}
theorem PI7{h:ai4}{R:List HP}(hs:sats R h):sep (fun _=>True) (sats R) h:=⟨fun _=>false,trivial,by
 have:r7 (fun _=>false) h=h:=by funext b;rfl
 rw[this];exact hs⟩
theorem cs4:∀{A:List HP} {h:ai4},sep (sats A) (sats R) h->sats (A++R) h
 | [],_,⟨_,_,h2⟩=>CG7 h2
 | _::_,_,hs=>AN7 (fun _ x=>x) (fun _ x=>cs4 x) (HW7 hs)
theorem ct4:∀{A:List HP} {h:ai4},sats (A++R) h->sep (sats A) (sats R) h
 | [],_,hs=>PI7 hs
 | _::_,_,hs=>Ky7 (AN7 (fun _ x=>x) (fun _ x=>ct4 x) hs)
theorem St.openS(h:St W (sats A::R) w):St W (A++R) w:=⟨h.os,h.tape,h.output,cs4 h.sat⟩
theorem St.shutS(A:List HP)(h:St W (A++R) w):St W (sats A::R) w:=⟨h.os,h.tape,h.output,ct4 h.sat⟩
theorem Du7{L L':List HP}(hp:L.Perm L'):∀{h:ai4},sats L h->sats L' h:=by
 induction hp with
 | nil=>exact fun h=>h
 | cons _ _ ih=>exact fun h=>AN7 (fun _ x=>x) (fun _ x=>ih x) h
 | swap _ _ _=>exact fun h=>Dg7 h
 | trans _ _ i1 i2=>exact fun h=>i2 (i1 h)
end
section
variable{κ ν:Type}[DecidableEq κ]
theorem Bt7{k:κ}{v:ν}:∀{l:List (κ×ν)},(l.map (·.1)).Nodup->i9 l k=some v->l.Perm ((k,v)::j6 l k)
 | [],_,h=>(by cases h)
 | y::l,hn,h=>by
  rw[List.map_cons,List.nodup_cons]at hn;have e:j6 (y::l) k=if y.1=k then j6 l k else y::j6 l k:=by unfold j6;rw[List.filter_cons];by_cases hk:y.1=k <;> simp[hk]
  by_cases hk:y.1=k
  ·have h0:∀x∈l,x.1≠k:=fun x hx e=>hn.1 (List.mem_map.2 ⟨x,hx,e.trans hk.symm⟩)
   have hv:y=(k,v):=by
    have h2:=AI7 h
    rcases List.mem_cons.1 h2 with h2|h2
    ·exact h2.symm
    ·exact absurd rfl (h0 _ h2)
   rw[e,if_pos hk,Bk7 h0,hv]
  ·have h2:i9 l k=some v:=by
    unfold i9 at h ⊢;rw[List.find?_cons]at h;simpa[hk]using h
   rw[e,if_neg hk];exact((Bt7 hn.2 h2).cons y).trans (List.Perm.swap _ _ _)
end
end Go.Sl
namespace Go.Proofs.YtlmhakmoioogaaaGreat
open Go.RowKit Go.Sl
abbrev eN(b:Nat):Value:=.P b
abbrev eI(z:Int):Value:=.I z
abbrev eU(_:Unit):Value:=.bool true
abbrev eW(x:Int×Int):Value:=.agg #[.I x.1,.I x.2]
abbrev eSs(x:Int×Rpl):Value:=.agg #[.I x.1,.I x.2.err,.I x.2.id,.I x.2.has.x0,.I x.2.has.x1,.I x.2.has.x2,.I x.2.has.x3]
abbrev eTn(t:Tns):Value:=.agg #[.I t.client,.I t.seq,.string t.ak,.string t.aw,.string t.tk,.string t.tw,.I t.item,.I t.cnt]
abbrev Ev:=List (ByteArray×(Nat×Vs))
def i7(E:Ev):List (ByteArray×Nat):=E.map fun x=>(x.1,x.2.1)
def k8(E:Ev):List (ByteArray×Vs):=E.map fun x=>(x.1,x.2.2)
def H6(vb:Nat)(V:Vs):HP:=fun f=>∃mb bb:Nat,sats [blk vb [.map (some mb),.P bb,.I V.n] 176,d8 eS eP mb V.ps,m8 bb V.L V.n] f
def j8(E:Ev):HP:=sats (E.map fun x=>H6 x.2.1 x.2.2)
abbrev ecL(eb m1 m2 m3 m4:Nat)(E:Ev)(e:Ec)(R:List HP):List HP:=
 blk eb [.map (some m1),.map (some m2),.map (some m3),.map (some m4)] 84::d8 eS eN m1 (i7 E)::j8 E::d8 eI eSs m2 e.ss::d8 eW eTn m3 e.ts::d8 eW eU m4 e.ar::R
def ecP(eb:Nat)(e:Ec):HP:=fun f=>∃(m1 m2 m3 m4:Nat) (E:Ev),(k8 E).Perm e.vs/\sats (ecL eb m1 m2 m3 m4 E e []) f
section
variable{W w:World}{R L:List HP}{vb eb m1 m2 m3 m4:Nat}{V:Vs}{E E':Ev}{e:Ec}{k:ByteArray}
theorem aY4(h:St W (H6 vb V::R) w):∃mb bb,St W (w5 vb mb bb V.ps V.L V.n R) w:=by obtain⟨mb,h⟩:=St.ex h;obtain⟨bb,h⟩:=St.ex h;exact⟨mb,bb,h.openS⟩
theorem aC4{mb bb:Nat}(h:St W (w5 vb mb bb V.ps V.L V.n R) w):St W (H6 vb V::R) w:=
 St.mkEx mb (St.mkEx bb (St.shutS [_,_,_] h))
theorem bW4{x:ByteArray×(Nat×Vs)}(h:St W (j8 (x::E)::R) w):St W (H6 x.2.1 x.2.2::j8 E::R) w:=St.split h
theorem cu4{x:ByteArray×(Nat×Vs)}(h:St W (H6 x.2.1 x.2.2::j8 E::R) w):St W (j8 (x::E)::R) w:=St.join h
theorem aE4(hp:E.Perm E')(h:St W (j8 E::R) w):St W (j8 E'::R) w:=h.imp fun _=>Du7 (hp.map _)
theorem dM4(h:St W (ecP eb e::R) w):∃m1 m2 m3 m4 E,(k8 E).Perm e.vs/\St W (ecL eb m1 m2 m3 m4 E e R) w:=by obtain⟨m1,h⟩:=St.ex h;obtain⟨m2,h⟩:=St.ex h;obtain⟨m3,h⟩:=St.ex h;obtain⟨m4,h⟩:=St.ex h;obtain⟨E,h⟩:=St.ex h;obtain⟨hp,h⟩:=St.and h;exact⟨m1,m2,m3,m4,E,hp,h.openS⟩
theorem K9(hp:(k8 E).Perm e.vs)(h:St W (ecL eb m1 m2 m3 m4 E e R) w):St W (ecP eb e::R) w:=
 St.mkEx m1 (St.mkEx m2 (St.mkEx m3 (St.mkEx m4 (St.mkEx E (St.mkAnd hp (St.shutS [_,_,_,_,_,_] h))))))
theorem AR7(E:Ev):(i7 E).map (·.1)=E.map (·.1):=by unfold i7;rw[List.map_map];rfl
theorem Bz7(E:Ev):(k8 E).map (·.1)=E.map (·.1):=by unfold k8;rw[List.map_map];rfl
theorem Lo7(E:Ev)(k:ByteArray):j6 (i7 E) k=i7 (j6 E k):=by unfold i7 j6;rw[List.filter_map];rfl
theorem IS7(E:Ev)(k:ByteArray):j6 (k8 E) k=k8 (j6 E k):=by unfold k8 j6;rw[List.filter_map];rfl
theorem Lp7{α β:Type}(f:α->β)(l:List (ByteArray×α))(k:ByteArray):i9 (l.map fun x=>(x.1,f x.2)) k=(i9 l k).map f:=by
 unfold i9;rw[List.find?_map];show((l.find? fun x=>decide (x.1=k)).map fun x=>(x.1,f x.2)).map (·.2)=_
 rw[Option.map_map,Option.map_map];rfl
theorem BP7(E:Ev)(k:ByteArray):i9 (i7 E) k=(i9 E k).map (·.1):=Lp7 (fun x:Nat×Vs=>x.1) E k
theorem IT7(E:Ev)(k:ByteArray):i9 (k8 E) k=(i9 E k).map (·.2):=Lp7 (fun x:Nat×Vs=>x.2) E k
theorem Ob7(hn:(E.map (·.1)).Nodup)(hp:(k8 E).Perm e.vs)(k:ByteArray):i9 e.vs k=(i9 E k).map (·.2):=by rw[<-Ap7 (by rw[Bz7];exact hn) hp k,IT7]
end
theorem dv4(k u k2 u2:ByteArray)(d:Nat)(w:World):(Op.equalIn (d+2) 26 (.agg #[.string k,.string u]) (.agg #[.string k2,.string u2])).run Tryz.prog w=.ok (k.toList==k2.toList&&u.toList==u2.toList) w:=by
 have u9:=Tryz.underlying9;have a9:=Tryz.isAgg9;have z9:=Tryz.sizeOf9;have hs:Tryz.prog.stoodInHeld 26=false:=by kernel_rfl
 rw[Op.equalIn];simp only[Sem.run_bind,run_underlying Tryz.underlying26,Result.andThen_ok,run_program,hs,Bool.false_eq_true,if_false];rw[<-Array.forIn_toList];simp only[List.forIn_cons,List.forIn_nil]
 go_simp
 by_cases h1:k.toList=k2.toList <;> by_cases h2:u.toList=u2.toList <;> simp[h1,h2]
def Opn.eqB(o q:Opn):Bool:=
 decide (o.kind=q.kind)&&(decide (o.client=q.client)&&(decide (o.seq=q.seq)&&(decide (o.ak.toList=q.ak.toList)&&(decide (o.aw.toList=q.aw.toList)&&(decide (o.tk.toList=q.tk.toList)&&(decide (o.tw.toList=q.tw.toList) &&
  (decide (o.item=q.item)&&(decide (o.cnt=q.cnt)&&(decide (o.price=q.price)&&(decide (o.buy=q.buy)&&decide (o.id=q.id)))))))))))
theorem ey4(o q:Opn)(w:World):(Op.equalIn 10000 207 (.agg o.cells.toArray) (.agg q.cells.toArray)).run Tryz.prog w=.ok (o.eqB q) w:=by
 have u9:=Tryz.underlying9;have a9:=Tryz.isAgg9;have z9:=Tryz.sizeOf9;have u3:=Tryz.underlying3;have a3:=Tryz.isAgg3;have z3:=Tryz.sizeOf3;have u4:=Tryz.underlying4;have a4:=Tryz.isAgg4;have z4:=Tryz.sizeOf4;have u5:=Tryz.underlying26;have a5:=Tryz.isAgg26;have z5:=Tryz.sizeOf26;have hp:=fun k u k2 u2 w=>dv4 k u k2 u2 9997 w
 have hs:Tryz.prog.stoodInHeld 207=false:=by kernel_rfl
 obtain⟨o0,o1,o2,o3,o4,o5,o6,o7,o8,o9,o10,o11⟩:=o;obtain⟨q0,q1,q2,q3,q4,q5,q6,q7,q8,q9,q10,q11⟩:=q;unfold Opn.eqB Opn.cells;dsimp only;rw[Op.equalIn];simp only[Sem.run_bind,run_underlying Tryz.underlying207,Result.andThen_ok,run_program,hs,Bool.false_eq_true,if_false];rw[<-Array.forIn_toList];simp only[List.forIn_cons,List.forIn_nil]
 go_simp
 by_cases h:o0=q0
 case neg=>simp[h]
 rw[if_pos h,decide_eq_true h,Bool.true_and];clear h;by_cases h:o1=q1
 case neg=>simp[h]
 rw[if_pos h,decide_eq_true h,Bool.true_and];clear h;by_cases h:o2=q2
 case neg=>simp[h]
 rw[if_pos h,decide_eq_true h,Bool.true_and];clear h;by_cases h:o3.toList=q3.toList
 case neg=>simp[h]
 by_cases h2:o4.toList=q4.toList
 case neg=>simp[h2]
 rw[if_neg (fun f=>f h h2),decide_eq_true h,decide_eq_true h2,Bool.true_and,Bool.true_and];clear h h2;by_cases h:o5.toList=q5.toList
 case neg=>simp[h]
 by_cases h2:o6.toList=q6.toList
 case neg=>simp[h2]
 rw[if_neg (fun f=>f h h2),decide_eq_true h,decide_eq_true h2,Bool.true_and,Bool.true_and];clear h h2;by_cases h:o7=q7
 case neg=>simp[h]
 rw[if_pos h,decide_eq_true h,Bool.true_and];clear h;by_cases h:o8=q8
 case neg=>simp[h]
 rw[if_pos h,decide_eq_true h,Bool.true_and];clear h;by_cases h:o9=q9
 case neg=>simp[h]
 rw[if_pos h,decide_eq_true h,Bool.true_and];clear h;by_cases h:o10=q10
 case neg=>simp[h]
 rw[if_pos h,decide_eq_true h,Bool.true_and];clear h;by_cases h:o11=q11 <;> simp[h]
theorem ez4(d:Nat)(x0 x1 x2 x3 y0 y1 y2 y3:Int)(w:World):(Op.equalIn (d+2) 29 (.agg #[.I x0,.I x1,.I x2,.I x3]) (.agg #[.I y0,.I y1,.I y2,.I y3])).run Tryz.prog w=.ok (x0==y0&&(x1==y1&&(x2==y2&&x3==y3))) w:=by
 have u3:=Tryz.underlying3;have a3:=Tryz.isAgg3;have z3:=Tryz.sizeOf3;rw[Op.equalIn];simp only[Sem.run_bind,run_underlying Tryz.underlying29,Result.andThen_ok];simp only[Std.Legacy.Range.forIn_eq_forIn_range',Std.Legacy.Range.size,Nat.sub_zero,Nat.add_sub_cancel,Nat.div_one,List.range'_succ,List.range'_zero,List.forIn_cons,List.forIn_nil]
 go_simp
 by_cases h1:x0=y0 <;> by_cases h2:x1=y1 <;> by_cases h3:x2=y2 <;> by_cases h4:x3=y3 <;> simp[h1,h2,h3,h4]
def Rpl.eqB(r q:Rpl):Bool:=decide (r.err=q.err)&&(decide (r.id=q.id)&&(r.has.x0==q.has.x0&&(r.has.x1==q.has.x1&&(r.has.x2==q.has.x2&&r.has.x3==q.has.x3))))
theorem gm4(r q:Rpl)(w:World):(Op.equalIn 10000 31 (.agg #[.I r.err,.I r.id,.I r.has.x0,.I r.has.x1,.I r.has.x2,.I r.has.x3]) (.agg #[.I q.err,.I q.id,.I q.has.x0,.I q.has.x1,.I q.has.x2,.I q.has.x3])).run Tryz.prog w=.ok (r.eqB q) w:=by
 have u3:=Tryz.underlying3;have a3:=Tryz.isAgg3;have z3:=Tryz.sizeOf3;have u4:=Tryz.underlying27;have a4:=Tryz.isAgg27;have z4:=Tryz.sizeOf27;have u5:=Tryz.underlying29;have a5:=Tryz.isAgg29;have z5:=Tryz.sizeOf29;have hp:=ez4 9997;have hs:Tryz.prog.stoodInHeld 31=false:=by kernel_rfl
 obtain⟨r0,r1,r2,r3,r4,r5⟩:=r;obtain⟨q0,q1,q2,q3,q4,q5⟩:=q;unfold Rpl.eqB;dsimp only;rw[Op.equalIn];simp only[Sem.run_bind,run_underlying Tryz.underlying31,Result.andThen_ok,run_program,hs,Bool.false_eq_true,if_false];rw[<-Array.forIn_toList];simp only[List.forIn_cons,List.forIn_nil]
 go_simp
 by_cases h:r0=q0
 case neg=>simp[h]
 rw[if_pos h,decide_eq_true h,Bool.true_and];clear h;by_cases h:r1=q1
 case neg=>simp[h]
 rw[if_pos h,decide_eq_true h,Bool.true_and];clear h;by_cases h1:r2=q2 <;> by_cases h2:r3=q3 <;> by_cases h3:r4=q4 <;> by_cases h4:r5=q5 <;> simp[h1,h2,h3,h4]
end Go.Proofs.YtlmhakmoioogaaaGreat
end
