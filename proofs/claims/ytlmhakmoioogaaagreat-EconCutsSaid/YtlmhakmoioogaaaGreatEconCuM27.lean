/-
  The document's vault as bytes.
-/
import Derived.Test.YtlmhakmoioogaaaGreatEconCuM5
import Derived.Test.YtlmhakmoioogaaaGreatEconCuM26
import Derived.Lib.SliceRun
set_option maxHeartbeats 16000000
set_option maxRecDepth 100000
set_option linter.unusedSimpArgs false
set_option linter.unusedVariables false
section
namespace Go.Proofs.YtlmhakmoioogaaaGreat
open Go.RowKit Go.Sl
def G9(s:ByteArray):List Int:=l9 s.size++A8 s
theorem BO7(s:ByteArray)(h:s.size<=16):(G9 s).length<=25:=by have h1:=Ao7 s.size;unfold G9;rw[jA,AK7];omega
theorem cr4(g c:Nat)(s:ByteArray)(hs:s.size<=1000000)(W w:World)(R:List HP)(hS:St W (sbR g s::R) w):
  Calls Tryz.prog 141 #[.S g s.size c] w fun e w'=>∃v,e=.returned v/\St W (byR v (G9 s)::R) w':=fM4 g c s hs W w R hS
def m5(ns:List Int):List Int:=ns.flatMap l9
theorem Dc7(a b c d:Int):(m5 [a,b,c,d]).length<=36:=by have h:=Kb7 [a,b,c,d];simp only[jC,List.length_nil]at h;exact h
theorem cE4(ns:List Int)(b c:Nat)(hl:ns.length<=100)(hn:∀x∈ns, -9223372036854775808<=x/\x<=9223372036854775807)(W w:World)(R:List HP)(hS:St W (blk b (ns.map (Value.int .i64)) 3::R) w):
  Calls Tryz.prog 144 #[.S b ns.length c] w fun e w'=>∃v,e=.returned v/\St W (byR v (m5 ns)::R) w':=gi4 ns b c hl hn W w R hS
def bI4(h:Hd):List Int:=G9 h.who++m5 [h.has.x0,h.has.x1,h.has.x2,h.has.x3]
def di4(b:Bool):Int:=if b=true then 1 else 0
def bf4(o:Ord):List Int:=l9 o.id++G9 o.who++m5 [di4 o.buy,o.item,o.cnt,o.price]
def aV4(p:Ps)(L:List Ord)(n:Int):List Int:=l9 (hdL p).length++(hdL p).flatMap bI4++l9 L.length++L.flatMap bf4++l9 n
theorem Ek7(h:Hd)(hw:h.who.size<=16):(bI4 h).length<=70:=by have h1:=BO7 h.who hw;have h2:=Dc7 h.has.x0 h.has.x1 h.has.x2 h.has.x3;unfold bI4;rw[jA];omega
theorem El7(o:Ord)(hw:o.who.size<=16):(bf4 o).length<=70:=by have h1:=BO7 o.who hw;have h3:=Ao7 o.id;have h2:=Dc7 (di4 o.buy) o.item o.cnt o.price;unfold bf4;rw[jA,jA];omega
theorem BK7{α:Type}(f:α->List Int)(xs:List α)(h:∀x∈xs,(f x).length<=70):(xs.flatMap f).length<=70*xs.length:=by
 induction xs with
 | nil=>simp
 | cons x xs ih=>
  have h1:=h x (List.mem_cons_self ..);have h2:=ih fun y hy=>h y (List.mem_cons_of_mem x hy)
  rw[List.flatMap_cons,jA,jC];omega
def CtR{α:Type}(W:World)(F:List HP)(f:α->List Int)(base:List Int)(xs:List α)(v3 v4:Value)(w:World):Prop:=
 ∃k:Nat,v4=.I k/\k<=xs.length/\St W (byR v3 (base++(xs.take k).flatMap f)::F) w
theorem Bc7{α:Type}(f:α->List Int)(base:List Int)(xs:List α){k:Nat}(h:k<xs.length):base++(xs.take (k+1)).flatMap f=base++(xs.take k).flatMap f++f xs[k]:=by rw[List.take_succ_eq_append_getElem h,List.flatMap_append,jS];simp
theorem gj4(i:It)(hi:s9 i=true)(W w:World)(R:List HP)(hS:St W R w):
  Calls Tryz.prog 192 #[.agg i.cells.toArray] w fun e w'=>∃v,e=.returned v/\St W (byR v (m5 [i.x0,i.x1,i.x2,i.x3])::R) w':=by
 obtain⟨x0,x1,x2,x3⟩:=i;obtain⟨a0,a1,a2,a3⟩:=Ah7.1 hi;simp only at a0 a1 a2 a3
 have hn:∀x∈[x0,x1,x2,x3], -9223372036854775808<=x/\x<=9223372036854775807:=by
  intro x hx;simp only[List.mem_cons,List.not_mem_nil,or_false]at hx
  rcases hx with rfl|rfl|rfl|rfl
  all_goals exact⟨by omega,by omega⟩
 have Hn:=jH hn;clear hn hi;simp only[It.cells];go_enter Tryz.func192,Tryz.ntmps192;go_wp2_with(first|refine zbx hS ?_;clear hS;intro b w hS|refine zl1 hS ?_|refine zbs hS ?_;clear hS;intro bS w hS|go_at_call 144;refine(cE4 [x0,x1,x2,x3] bS 4 (by simp) Hn.out W _ _ hS).mono ?_;clear hS;rintro e w ⟨vn,rfl,hS⟩);go_ret;exact⟨vn,rfl,hS.s _⟩
theorem NZ7(xb xB:Nat)(ha la:Option Addr)(hc lc:Nat)(last:Int)(p:Ps)(L:List Ord)(n:Int){N:Nat}(hp:M6 p)(hw:PsW p N)(hN:N<=1000000)(hmay:∀x∈L,MayP x)(hl32:L.length<=32)(hn0:1<=n)(hn1:n<=1099511627777)(W w:World)(R:List HP)(hS:St W (blk xB [.slice la L.length lc,.I last] 244::j7 (.slice la L.length lc) L::blk xb [.slice ha (hdL p).length hc,.P xB,.I n] 246::hdR (.slice ha (hdL p).length hc) (hdL p)::R) w):
  Calls Tryz.prog 142 #[.P xb] w fun e w'=>∃v,e=.returned v/\St W (byR v (aV4 p L n)::blk xB [.slice la L.length lc,.I last] 244::j7 (.slice la L.length lc) L::blk xb [.slice ha (hdL p).length hc,.P xB,.I n] 246::hdR (.slice ha (hdL p).length hc) (hdL p)::R) w':=by
 have hlh:(hdL p).length<=1000000:=by rw[Cs7];exact Nat.le_trans hw.len hN
 have hhw:∀x∈hdL p,x.who.size<=16/\s9 x.has=true:=fun x hx=>by refine⟨?_,by rw[DD7 hx];exact hp _⟩;have hk:x.who∈(hdL p).map Hd.who:=List.mem_map_of_mem hx;rw[Gm7]at hk;obtain⟨y,hy,e⟩:=Ld7 hk;rw[<-e];exact Gi7 (hw.who y hy)
 have Hmay:=jH hmay;have Hhw:=jH hhw;clear hmay hw hp hhw;unfold aV4;go_enter Tryz.func142,Tryz.ntmps142;go_wp2_with(first|refine zl1 hS ?_|go_at_call 140;refine(cM4 _ ⟨by omega,by omega⟩ W _ _ hS).mono ?_;clear hS;rintro e w ⟨vn,rfl,hS⟩;(have hv:=hS.rowVal;obtain⟨na,nc,rfl⟩:=hv));generalize hhs:hdL p=hs at hS hlh Hhw;have Hhs:=jH hhs;clear hhs
 go_loopw [3,4] (fun v3 v4 wr=>CtR W (blk xB [.slice la L.length lc,.I last] 244::j7 (.slice la L.length lc) L::blk xb [.slice ha hs.length hc,.P xB,.I n] 246::hdR (.slice ha hs.length hc) hs::R) bI4 (l9 hs.length) hs v3 v4 wr) (fun _ v4 _=>hs.length-(intOf v4).toNat)
 case atStart=>exact⟨0,rfl,Nat.zero_le _,by simpa using hS⟩
 case round=>
  clear hS;obtain⟨k,rfl,hkl,hS⟩:=hrel;by_cases hkn:k=hs.length
  ·rw[hkn,List.take_length]at hS;have hd1:decide (k<hs.length)=false:=by simp;omega
   clear hkl hkn;generalize hacc:l9 hs.length++hs.flatMap bI4=acc at hS
   have hal:acc.length<=70000100:=by
    have h1:=BK7 bI4 hs fun x hx=>Ek7 x (Hhw.out x hx).1
    have h2:=Ao7 hs.length;rw[<-hacc,jA];omega
   have Hacc:=jH hacc;clear hacc;have hln:=Ao7 L.length;go_wp2_with(first|refine zl1 hS ?_|go_at_call 140;refine(cM4 _ ⟨by omega,by omega⟩ W _ _ hS).mono ?_;clear hS;rintro e w ⟨vn,rfl,hS⟩;(have hv:=hS.rowVal;obtain⟨na,nc,rfl⟩:=hv)|(with_reducible apply Ae7 hS);rfl;rfl;rfl;rfl;exact esS;exact rsS;rfl;decide;exact i6;exact St.src (by decide) hS;(focus(rw[AQ7,Nat.mul_one]));exact Be7 _;(focus(unfold maxLen;omega));(focus(omega));clear hS;intro v w hS;refine frS ?_);have h0:St W (row v 1 5 (acc.length+(l9 L.length).length) (u8s acc++u8s (l9 L.length))::_) w:=hS;rw[<-Az7]at h0;have hS:=(AJ7 (by rw[jA]) h0).s (byR v (acc++l9 L.length)::blk xB _ _::j7 _ L::blk xb _ _::hdR _ hs::R);clear h0
   go_loopw [3,5] (fun v3 v5 wr=>CtR W (blk xB [.slice la L.length lc,.I last] 244::j7 (.slice la L.length lc) L::blk xb [.slice ha hs.length hc,.P xB,.I n] 246::hdR (.slice ha hs.length hc) hs::R) bf4 (acc++l9 L.length) L v3 v5 wr) (fun _ v5 _=>L.length-(intOf v5).toNat)
   case atStart=>exact⟨0,rfl,Nat.zero_le _,by simpa using hS⟩
   case round=>
    clear hS;obtain⟨j,rfl,hjl,hS⟩:=hrel;by_cases hjn:j=L.length
    ·rw[hjn,List.take_length]at hS;have hd2:decide (j<L.length)=false:=by simp;omega
     clear hjl hjn;have hlo:=BK7 bf4 L fun x hx=>El7 x (Hmay.out x hx).who1
     generalize hd:acc++l9 L.length++L.flatMap bf4=d at hS;have hdl:d.length<=70010000:=by rw[<-hd,jA,jA];omega
     have Hd2:=jH hd;have hlq:=Ao7 n;clear hd;go_wp2_with(first|refine zl1 hS ?_|go_at_call 140;refine(cM4 _ ⟨by omega,by omega⟩ W _ _ hS).mono ?_;clear hS;rintro e w ⟨vn,rfl,hS⟩;(have hv:=hS.rowVal;obtain⟨na,nc,rfl⟩:=hv)|(with_reducible apply Ae7 hS);rfl;rfl;rfl;rfl;exact esS;exact rsS;rfl;decide;exact i6;exact St.src (by decide) hS;(focus(rw[AQ7,Nat.mul_one]));exact Be7 _;(focus(unfold maxLen;omega));(focus(omega));clear hS;intro v w hS;refine frS ?_);go_ret;refine⟨v,rfl,?_⟩;rw[Hhs.out,Hacc.out,Hd2.out];have h0:St W (row v 1 5 (d.length+(l9 n).length) (u8s d++u8s (l9 n))::_) w:=hS;rw[<-Az7]at h0;have h2:=AJ7 (by rw[jA]) h0;exact h2.s _
    ·have hj1:j<L.length:=by omega
     obtain⟨⟨g,rfl⟩,_,_⟩:=St.rowAddr hS.drop.drop (by omega);have hcells:∀{K K':List HP},Take K (j7 (.S g L.length lc) L) K'->i5 K g (j*6) (Ord.cells L[j]):=fun hu=>i5.elemM (enc:=Ord.cells) Ord.len hu hj1
     have hst:=Bc7 bf4 (acc++l9 L.length) L hj1;have hmx:=Hmay.out _ (jW hj1);have hlt:=BK7 bf4 (L.take j) fun x hx=>El7 x (Hmay.out x (List.mem_of_mem_take hx)).who1
     rw[jT]at hlt;generalize hd:acc++l9 L.length++(L.take j).flatMap bf4=d at hS hst;have hdl:d.length<=70010000:=by rw[<-hd,jA,jA];omega
     generalize L[j]=x at hcells hst hmx;obtain⟨oi,ou,oy,ot,oc,op⟩:=x;have i0:1<=oi:=hmx.id0;have i1:oi<=1099511627776:=hmx.id1;have w1:ou.size<=16:=hmx.who1;have t0:1<=ot:=hmx.item0;have t1:ot<=3:=hmx.item1;have c0:1<=oc:=hmx.cnt0;have c1:oc<=1048576:=hmx.cnt1;have p0:1<=op:=hmx.price0;have p1:op<=1024:=hmx.price1;have l1:=Ao7 oi;have l4:=BO7 ou w1;have Hst:=jH hst;clear hst hmx hd hlt hjn hjl;simp only[Ord.cells]at hcells
     cases oy with
     | false=>
      have hn:∀x∈[(0:Int),ot,oc,op], -9223372036854775808<=x/\x<=9223372036854775807:=by
       intro x hx;simp only[List.mem_cons,List.not_mem_nil,or_false]at hx
       rcases hx with rfl|rfl|rfl|rfl
       all_goals exact⟨by omega,by omega⟩
      have l5:=Dc7 0 ot oc op;have Hn:=jH hn;clear hn;go_wp2_with(first|refine zl1 hS ?_|refine zlN hS ?_ (hc:=by exact hcells (by exact i6))|(with_reducible apply Al7 hS);rfl;rfl;exact zsS;clear hS;intro b6 w hS;refine frS ?_|refine zsN hS ?_;clear hS;intro w hS|go_at_call 140;refine(cM4 _ ⟨by omega,by omega⟩ W _ _ hS).mono ?_;clear hS;rintro e w ⟨vn,rfl,hS⟩;(have hv:=hS.rowVal;obtain⟨na,nc,rfl⟩:=hv)|(with_reducible apply Ay7 hS);rfl;rfl;rfl;exact Tryz.underlying9;exact Tryz.underlying63;exact Tryz.underlying5;clear hS;intro g9 c9 w hS;refine frS ?_|go_at_call 141;refine(cr4 g9 c9 ou (by omega) W _ _ hS).mono ?_;clear hS;rintro e w ⟨vn,rfl,hS⟩;(have hv:=hS.rowVal;obtain⟨na,nc,rfl⟩:=hv)|refine zbs hS ?_;clear hS;intro bS w hS|go_at_call 144;refine(cE4 [0,ot,oc,op] bS 4 (by simp) Hn.out W _ _ hS).mono ?_;clear hS;rintro e w ⟨vn,rfl,hS⟩;(have hv:=hS.rowVal;obtain⟨na,nc,rfl⟩:=hv)|(with_reducible apply Ae7 hS);rfl;rfl;rfl;rfl;exact esS;exact rsS;rfl;decide;exact i6;exact St.src (by decide) hS;(focus(rw[AQ7,Nat.mul_one]));exact Be7 _;(focus(unfold maxLen;omega));(focus(omega));clear hS;intro v w hS;refine frS ?_);go_roundw
      case rel=>
       refine⟨j+1,rfl,hj1,?_⟩;rw[Hst.out];unfold bf4;simp only[di4,Bool.false_eq_true,if_true,if_false];have h0:St W (row v 1 5 (d.length+(l9 oi).length+(G9 ou).length+(m5 [0,ot,oc,op]).length) (u8s d++u8s (l9 oi)++u8s (G9 ou)++u8s (m5 [0,ot,oc,op]))::_) w:=hS;rw[<-Az7,<-Az7,<-Az7,jS d,jS d]at h0;have h2:=AJ7 (by simp only[jA];omega) h0;exact h2.s _
      case measure=>simp[intOf];omega
     | true=>
      have hn:∀x∈[(1:Int),ot,oc,op], -9223372036854775808<=x/\x<=9223372036854775807:=by
       intro x hx;simp only[List.mem_cons,List.not_mem_nil,or_false]at hx
       rcases hx with rfl|rfl|rfl|rfl
       all_goals exact⟨by omega,by omega⟩
      have l5:=Dc7 1 ot oc op;have Hn:=jH hn;clear hn;go_wp2_with(first|refine zl1 hS ?_|refine zlN hS ?_ (hc:=by exact hcells (by exact i6))|(with_reducible apply Al7 hS);rfl;rfl;exact zsS;clear hS;intro b6 w hS;refine frS ?_|refine zsN hS ?_;clear hS;intro w hS|go_at_call 140;refine(cM4 _ ⟨by omega,by omega⟩ W _ _ hS).mono ?_;clear hS;rintro e w ⟨vn,rfl,hS⟩;(have hv:=hS.rowVal;obtain⟨na,nc,rfl⟩:=hv)|(with_reducible apply Ay7 hS);rfl;rfl;rfl;exact Tryz.underlying9;exact Tryz.underlying63;exact Tryz.underlying5;clear hS;intro g9 c9 w hS;refine frS ?_|go_at_call 141;refine(cr4 g9 c9 ou (by omega) W _ _ hS).mono ?_;clear hS;rintro e w ⟨vn,rfl,hS⟩;(have hv:=hS.rowVal;obtain⟨na,nc,rfl⟩:=hv)|refine zbs hS ?_;clear hS;intro bS w hS|go_at_call 144;refine(cE4 [1,ot,oc,op] bS 4 (by simp) Hn.out W _ _ hS).mono ?_;clear hS;rintro e w ⟨vn,rfl,hS⟩;(have hv:=hS.rowVal;obtain⟨na,nc,rfl⟩:=hv)|(with_reducible apply Ae7 hS);rfl;rfl;rfl;rfl;exact esS;exact rsS;rfl;decide;exact i6;exact St.src (by decide) hS;(focus(rw[AQ7,Nat.mul_one]));exact Be7 _;(focus(unfold maxLen;omega));(focus(omega));clear hS;intro v w hS;refine frS ?_);go_roundw
      case rel=>
       refine⟨j+1,rfl,hj1,?_⟩;rw[Hst.out];unfold bf4;simp only[di4,Bool.false_eq_true,if_true,if_false];have h0:St W (row v 1 5 (d.length+(l9 oi).length+(G9 ou).length+(m5 [1,ot,oc,op]).length) (u8s d++u8s (l9 oi)++u8s (G9 ou)++u8s (m5 [1,ot,oc,op]))::_) w:=hS;rw[<-Az7,<-Az7,<-Az7,jS d,jS d]at h0;have h2:=AJ7 (by simp only[jA];omega) h0;exact h2.s _
      case measure=>simp[intOf];omega
  ·have hk1:k<hs.length:=by omega
   obtain⟨⟨g,rfl⟩,_,_⟩:=St.rowAddr hS.drop.drop.drop.drop (by omega);have hname:∀{K K':List HP},Take K (hdR (.S g hs.length hc) hs) K'->i8 K g (k*5) (.string hs[k].who):=fun hu=>i5.elemM (enc:=Hd.cells) Hd.len hu hk1 0 _ rfl
   have hitems:∀{K K':List HP},Take K (hdR (.S g hs.length hc) hs) K'->i5 K g (k*5+1) (hs[k].has.cells):=fun hu j v hj=>by have h1:=i5.elemM (enc:=Hd.cells) Hd.len hu hk1 (1+j) v (by rw[Nat.add_comm];exact hj);rwa [<-Nat.add_assoc]at h1
   have hst:=Bc7 bI4 (l9 hs.length) hs hk1;have hmx:=Hhw.out _ (jW hk1);have hlt:=BK7 bI4 (hs.take k) fun x hx=>Ek7 x (Hhw.out x (List.mem_of_mem_take hx)).1
   rw[jT]at hlt;have hlk:=Ao7 hs.length;generalize hd:l9 hs.length++(hs.take k).flatMap bI4=d at hS hst;have hdl:d.length<=70000100:=by rw[<-hd,jA];omega
   generalize hs[k]=x at hname hitems hst hmx;obtain⟨xw,⟨x0,x1,x2,x3⟩⟩:=x;obtain⟨w1,hit⟩:=hmx;simp only at w1 hname;have l4:=BO7 xw w1;have l5:=Dc7 x0 x1 x2 x3;have Hst:=jH hst;have Hit:=jH hit;clear hst hit hd hlt hkn hkl;simp only[It.cells]at hitems;go_wp2_with(first|refine zl1 hS ?_ (hc:=by exact hname (by exact i6))|refine zlN hS ?_ (hc:=by exact hitems (by exact i6))|refine zl1 hS ?_|(with_reducible apply Ay7 hS);rfl;rfl;rfl;exact Tryz.underlying9;exact Tryz.underlying63;exact Tryz.underlying5;clear hS;intro g9 c9 w hS;refine frS ?_|go_at_call 141;refine(cr4 g9 c9 xw (by omega) W _ _ hS).mono ?_;clear hS;rintro e w ⟨vn,rfl,hS⟩;(have hv:=hS.rowVal;obtain⟨na,nc,rfl⟩:=hv)|go_at_call 192;refine(gj4 ⟨x0,x1,x2,x3⟩ Hit.out W _ _ hS).mono ?_;clear hS;rintro e w ⟨vn,rfl,hS⟩;(have hv:=hS.rowVal;obtain⟨na,nc,rfl⟩:=hv)|(with_reducible apply Ae7 hS);rfl;rfl;rfl;rfl;exact esS;exact rsS;rfl;decide;exact i6;exact St.src (by decide) hS;(focus(rw[AQ7,Nat.mul_one]));exact Be7 _;(focus(unfold maxLen;omega));(focus(omega));clear hS;intro v w hS;refine frS ?_);go_roundw
   case rel=>
    refine⟨k+1,rfl,hk1,?_⟩;rw[Hst.out];unfold bI4;have h0:St W (row v 1 5 (d.length+(G9 xw).length+(m5 [x0,x1,x2,x3]).length) (u8s d++u8s (G9 xw)++u8s (m5 [x0,x1,x2,x3]))::_) w:=hS;rw[<-Az7,<-Az7,jS d]at h0;have h2:=AJ7 (by simp only[jA];omega) h0;exact h2.s _
   case measure=>simp[intOf];omega
def wrR(wb:Nat)(d:List Int):HP:=fun f=>∃v:Value,sats [blk wb [v] 119,byR v d] f
section
variable{W w:World}{wb:Nat}{d:List Int}{R:List HP}
theorem dt4(h:St W (wrR wb d::R) w):∃a c,St W (blk wb [.slice a d.length c] 119::byR (.slice a d.length c) d::R) w:=by obtain⟨v,h⟩:=St.ex h;have hS:=(St.split (St.split h).swap).swap.drop.swap;obtain⟨a,c,rfl⟩:=hS.drop.rowVal;exact⟨a,c,hS⟩
theorem cF4{v:Value}(h:St W (blk wb [v] 119::byR v d::R) w):St W (wrR wb d::R) w:=by refine St.mkEx v ?_;refine St.join ?_;refine St.swap (St.imp h.swap ?_);intro f hf;exact⟨fun _=>true,hf,trivial⟩
end
def WnR(W:World)(L:List HP)(wb:Nat)(d:List Int)(ns:List Int)(v:Value)(w:World):Prop:=
 ∃i:Nat,v=.I i/\i<=ns.length/\St W (wrR wb (d++(ns.take i).flatMap l9)::L) w
def WuR(W:World)(L:List HP)(wb:Nat)(t:List Int)(v:Value)(w:World):Prop:=
 ∃(f u:Nat) (d:List Int),v=.int .u64 u/\u<128^(f+1)/\u<=4611686018427387904/\d.length<=100000000+(8-f)/\f<=8/\d++bH4 f u=t/\St W (wrR wb d::L) w
theorem QS7(wb:Nat)(d:List Int)(ns:List Int)(g off c:Nat)(hd:d.length<=90000000)(hl:ns.length<=100)(hn:∀x∈ns, -9223372036854775808<=x/\x<=9223372036854775807)(W w:World)(R:List HP)(hcell:∀i, ∀hi:i<ns.length,i8 R g (off+i) (.I ns[i]))(hS:St W (wrR wb d::R) w):
  Calls Tryz.prog 65 #[.P wb,.slice (some ⟨g,off,none⟩) ns.length c] w fun e w'=>e=.returned (.tuple #[])/\St W (wrR wb (d++ns.flatMap l9)::R) w':=by
 have Hcell:=jH hcell;clear hcell;have Hn:=jH hn;clear hn;go_enter Tryz.func65,Tryz.ntmps65;go_wp2_with(first|go_big_skip)
 go_loopw [11] (fun v wr=>WnR W R wb d ns v wr) (fun v _=>ns.length-(intOf v).toNat)
 case atStart=>exact⟨0,rfl,Nat.zero_le _,by simpa using hS⟩
 case round=>
  clear hS;obtain⟨i,rfl,hil,hS⟩:=hrel;by_cases hin:i=ns.length
  ·subst hin;rw[List.take_length]at hS;go_wp2_with(first|go_big_skip);go_end0;exact⟨rfl,hS⟩
  ·have hi1:i<ns.length:=by omega
   have hx:=Hcell.out i hi1;have hr:=Hn.out _ (jW hi1);have hst:d++(ns.take (i+1)).flatMap l9=d++(ns.take i).flatMap l9++l9 ns[i]:=by rw[List.take_succ_eq_append_getElem hi1,List.flatMap_append,jS];simp
   have hle:=Kb7 (ns.take i);rw[jT]at hle;generalize hdd:d++(ns.take i).flatMap l9=dd at hS hst;have hdl:dd.length<=90000900:=by rw[<-hdd,jA];omega
   generalize ns[i]=x at hx hr hst;obtain⟨r1,r2⟩:=hr;have Hst:=jH hst;clear hst hin hil hdd hle;go_wp2_with(first|go_big_skip|refine zl1 hS ?_ (hc:=by exact i8.there hx))
   have eu:max 0 (min x 4611686018427387904)=((cq4 x:Nat):Int):=by
    unfold cq4
    repeat' split
    all_goals omega
   have hul:=NX7 x;have hnb:l9 x=bH4 8 (cq4 x):=rfl;rw[hnb]at Hst;have Eu:=jH eu;clear eu hnb;generalize cq4 x=u0 at Eu hul Hst
   go_loopw [6] (fun v wr=>WuR W R wb (dd++bH4 8 u0) v wr) (fun v _=>(intOf v).toNat)
   case atStart=>exact⟨8,u0,dd,by rw[Eu.out],HI7 hul,hul,by omega,by omega,rfl,hS⟩
   case round=>
    clear hS;obtain⟨f,u,d2,rfl,hu,hu2,hd2,hf,hE,hS⟩:=hrel;obtain⟨wa,wc,hS1⟩:=dt4 hS;clear hS;have hS:=hS1;clear hS1;by_cases h128:128<=u
    ·obtain⟨f,rfl⟩:∃f',f=f'+1:=by
      cases f with
      | zero=>simp at hu;omega
      | succ f=>exact⟨f,rfl⟩
     have hu3:u / 128<128^(f+1):=Nat.div_lt_of_lt_mul (by rw[Nat.pow_succ]at hu;omega);rw[bH4,if_pos h128]at hE;have Hu3:=jH hu3;have HE:=jH hE;clear hE hu hu3;go_wp2_with(first|go_big_skip|refine zl1 hS ?_|refine zbs hS ?_;clear hS;intro bS w hS|(with_reducible apply Ae7 hS);rfl;rfl;rfl;rfl;exact esS;exact rsS;rfl;decide;exact i6;exact Src.mk i5.whole;(focus(try rfl));rfl;(focus(unfold maxLen;omega));(focus(omega));clear hS;intro v w hS;(have hv:=hS.rowVal;obtain⟨va,vc,rfl⟩:=hv);refine frS ?_|refine zs1 hS ?_;clear hS;intro w hS);have hS1:=hS.s (row (.slice va (d2.length+1) vc) 1 _ _ _::blk wb _ _::R);have hb:=NY7 u;have h0:St W (row (.slice va (d2.length+1) vc) 1 5 (d2.length+1) (u8s d2++[Value.int .u8 (bits .or .u8 ((u:Int)%256) 128)])::_) w:=hS1;rw[hb,<-Cl7]at h0;have h2:=cF4 (AJ7 (by rw[jA,List.length_singleton]) h0).swap;go_roundw
     case rel=>exact⟨f,u / 128,d2++[((u%128+128:Nat):Int)],by rw[Int.natCast_ediv];rfl,Hu3.out,by omega,by rw[jA,List.length_singleton];omega,by omega,by rw[jS];exact HE.out,h2⟩
     case measure=>simp[intOf];omega
    ·have hu4:u<128:=by omega
     rw[Dt7 hu4]at hE;have HE:=jH hE;clear hE hu h128;go_wp2_with(first|go_big_skip|refine zl1 hS ?_|refine zbs hS ?_;clear hS;intro bS w hS|(with_reducible apply Ae7 hS);rfl;rfl;rfl;rfl;exact esS;exact rsS;rfl;decide;exact i6;exact Src.mk i5.whole;(focus(try rfl));rfl;(focus(unfold maxLen;omega));(focus(omega));clear hS;intro v w hS;(have hv:=hS.rowVal;obtain⟨va,vc,rfl⟩:=hv);refine frS ?_|refine zs1 hS ?_;clear hS;intro w hS);have hS1:=hS.s (row (.slice va (d2.length+1) vc) 1 _ _ _::blk wb _ _::R);have h0:St W (row (.slice va (d2.length+1) vc) 1 5 (d2.length+1) (u8s d2++[Value.int .u8 (u:Int)])::_) w:=hS1;rw[<-Cl7]at h0;have h2:=cF4 (AJ7 (by rw[jA,List.length_singleton]) h0).swap;rw[HE.out,<-Hst.out]at h2;go_roundw
     case rel=>exact⟨i+1,rfl,hi1,h2⟩
     case measure=>simp[intOf];omega
theorem Oa7(wb:Nat)(d:List Int)(ns:List Int)(b c:Nat)(hd:d.length<=90000000)(hl:ns.length<=100)(hn:∀x∈ns, -9223372036854775808<=x/\x<=9223372036854775807)(W w:World)(R:List HP)(hS:St W (wrR wb d::blk b (ns.map (Value.int .i64)) 3::R) w):
  Calls Tryz.prog 65 #[.P wb,.S b ns.length c] w fun e w'=>e=.returned (.tuple #[])/\St W (wrR wb (d++ns.flatMap l9)::blk b (ns.map (Value.int .i64)) 3::R) w':=
 QS7 wb d ns b 0 c hd hl hn W w _ (fun i hi=>i8.here (by rw[Nat.zero_add,List.getElem?_map,jG hi];rfl)) hS
end Go.Proofs.YtlmhakmoioogaaaGreat
end
section
namespace Go.Sl
open Go.RowKit
section
variable{P:Program}{ops:Array Oper}{Q:Exit->Act->World->Prop}{a:Act}{w:World}{rest:List Oper}{o:Oper}
theorem Rz7{t t2 e:TypeId}{x y:Operand}{a0:Addr}{n c:Nat}(ho:o.op=.binOp .eql t x y t2)(hg:Region.wanted o (yielded ops a.tmps)=true)(hx:a.eval x=.slice (some a0) n c)(hy:a.eval y=.slice none 0 0)(ht:P.underlying t=some (.slice e))
  (h:wpList P ops Q rest (a.put o.dst (.bool false)) w):wpList P ops Q (o::rest) a w:=by
 refine Ak7 hg (v:=.bool false) (w':=w) ?_ h;have h1:(binOp .eql t (.slice (some a0) n c) (.slice none 0 0)).run P w=.ok (.bool false) w:=Lib.run_eql_slice_nil w t e (some a0) n c 0 0 ht;unfold execOp;simp[ho,hx,hy,eqGuard,h1]
end
end Go.Sl
namespace Go.Proofs.YtlmhakmoioogaaaGreat
open Go.RowKit Go.Sl
theorem gk4(wb:Nat)(d:List Int)(s:ByteArray)(g c:Nat)(hd:d.length<=90001000)(hs:s.size<=1000000)(W w:World)(R:List HP)(hS:St W (wrR wb d::sbR g s::R) w):
  Calls Tryz.prog 132 #[.P wb,.S g s.size c] w fun e w'=>e=.returned (.tuple #[])/\St W (wrR wb (d++A8 s)::sbR g s::R) w':=by
 obtain⟨wa,wc,hS1⟩:=dt4 hS;clear hS;have hS:=hS1;clear hS1;go_enter Tryz.func132,Tryz.ntmps132;go_wp2_with(first|refine zl1 hS ?_|(with_reducible apply Ae7 hS);rfl;rfl;rfl;rfl;exact esS;exact rsS;rfl;decide;exact i6;exact Src.mk (i5.there (i5.there i5.sb));(focus(rw[jM,AK7,Nat.mul_one]));exact Be7 _;(focus(unfold maxLen;omega));(focus(omega));clear hS;intro v w hS;(have hv:=hS.rowVal;obtain⟨va,vc,rfl⟩:=hv);refine frS ?_|refine zs1 hS ?_;clear hS;intro w hS);go_end0;have hS1:=hS.s (row (.slice va (d.length+s.size) vc) 1 _ _ _::blk wb _ _::sbR g s::R);have h0:St W (row (.slice va (d.length+s.size) vc) 1 5 (d.length+s.size) (u8s d++u8s (A8 s))::_) w:=hS1;rw[<-Az7]at h0;exact⟨rfl,cF4 (AJ7 (by rw[jA,AK7]) h0).swap⟩
def WbR(W:World)(F:List Int->List HP)(d:List Int)(s:ByteArray)(v:Value)(w:World):Prop:=
 (v=.I 0/\St W (F d) w)\/(v=.I 1/\St W (F (d++G9 s)) w)
theorem Kc7(wb:Nat)(d:List Int)(s:ByteArray)(b g c c1:Nat)(hd:d.length<=90000000)(hs:s.size<=1000000)(W w:World)(R:List HP)(hS:St W (wrR wb d::blk b [.S g s.size c] 63::sbR g s::R) w):
  Calls Tryz.prog 66 #[.P wb,.S b 1 c1] w fun e w'=>e=.returned (.tuple #[])/\St W (wrR wb (d++G9 s)::blk b [.S g s.size c] 63::sbR g s::R) w':=by
 have hln:=Ao7 s.size;go_enter Tryz.func66,Tryz.ntmps66;go_wp2_with(fail)
 go_loopw [8] (fun v wr=>WbR W (fun q=>wrR wb q::blk b [.S g s.size c] 63::sbR g s::R) d s v wr) (fun v _=>1-(intOf v).toNat)
 case atStart=>exact .inl ⟨rfl,hS⟩
 case round=>
  clear hS
  rcases hrel with ⟨rfl,hS⟩|⟨rfl,hS⟩
  ·have hn:∀x∈[(s.size:Int)], -9223372036854775808<=x/\x<=9223372036854775807:=by
    intro x hx;rw[List.mem_singleton.1 hx];exact⟨by omega,by omega⟩
   have Hn:=jH hn;clear hn;have hdl:(d++[(s.size:Int)].flatMap l9).length<=90001000:=by rw[jA];simp;omega
   have e:d++[(s.size:Int)].flatMap l9++A8 s=d++G9 s:=by unfold G9;rw[jS];simp
   have Hdl:=jH hdl;have E:=jH e;clear hdl e;go_wp2_with(first|refine zl1 hS ?_|refine zbs hS ?_;clear hS;intro bS w hS|go_at_call 65;refine(Oa7 wb d [(s.size:Int)] bS 1 hd (by simp) Hn.out W _ _ (hS.s (wrR wb d::blk bS _ _::blk b _ _::sbR g s::R))).mono ?_;clear hS;rintro e w ⟨rfl,hS⟩|go_at_call 132;refine(gk4 wb _ s g c Hdl.out hs W _ _ (hS.s (wrR wb _::sbR g s::blk b _ _::R))).mono ?_;clear hS;rw[E.out];rintro e w ⟨rfl,hS⟩);go_roundw
   case rel=>exact .inr ⟨rfl,hS.s _⟩
   case measure=>simp[intOf]
  ·go_wp2_with(fail);go_end0;exact⟨rfl,hS⟩
theorem RA7(d:List Int)(g c:Nat)(hd:d.length<=100000000)(W w:World)(R:List HP)(hS:St W (byR (.S g d.length c) d::R) w):
  Calls Tryz.prog 138 #[.S g d.length c] w fun e w'=>∃v,e=.returned v/\St W (byR v d::byR (.S g d.length c) d::R) w':=by
 go_enter Tryz.func138,Tryz.ntmps138;go_wp2_with(first|(with_reducible apply Rz7);rfl;rfl;rfl;rfl;exact Tryz.underlying63;refine frS ?_|(with_reducible apply BC7 (n:=0) hS);rfl;rfl;(focus(simp only[fD,fI,fJ,Act.eval,fE,fF,fG,fH,fK];try rfl));exact esS;exact rsS;rfl;rfl;rfl;rfl;rfl;decide;clear hS;intro bv w hS;refine frS ?_|(with_reducible apply Ae7 hS);rfl;rfl;rfl;rfl;exact esS;exact rsS;rfl;decide;exact i6;exact(St.src (by decide) hS.drop).there;(focus(rw[AQ7,Nat.mul_one]));exact Be7 _;(focus(unfold maxLen;omega));(focus(omega));clear hS;intro v w hS;(have hv:=hS.rowVal;obtain⟨va,vc,rfl⟩:=hv);refine frS ?_);go_ret;refine⟨_,rfl,?_⟩;have h0:St W (row (.slice va (0+d.length) vc) 1 5 (0+d.length) (u8s ([]++d))::_) w:=hS;have h2:=AJ7 (by rw[jN,Nat.zero_add]) h0;rw[jN]at h2;exact h2
theorem ew4(wb:Nat)(d:List Int)(hd:d.length<=100000000)(h0:0<d.length)(W w:World)(R:List HP)(hS:St W (wrR wb d::R) w):
  Calls Tryz.prog 72 #[.P wb] w fun e w'=>∃v,e=.returned v/\St W (byR v d::wrR wb d::R) w':=by
 obtain⟨wa,wc,hS1⟩:=dt4 hS;clear hS;have hS:=hS1;clear hS1;obtain⟨⟨g,rfl⟩,_,_⟩:=St.rowAddr hS.drop (by omega);go_enter Tryz.func72,Tryz.ntmps72;go_wp2_with(first|refine zl1 hS ?_|go_at_call 138;refine(RA7 d g wc hd W _ _ hS.swap).mono ?_;clear hS;rintro e w ⟨v,rfl,hS⟩);go_ret;have hS1:=hS.s (blk wb _ _::byR (.S g d.length wc) d::byR v d::R);exact⟨v,rfl,(cF4 hS1).swap⟩
end Go.Proofs.YtlmhakmoioogaaaGreat
end
