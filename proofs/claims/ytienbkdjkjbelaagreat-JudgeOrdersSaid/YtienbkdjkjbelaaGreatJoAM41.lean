/-
  The document's vault as bytes.
-/
import Derived.Test.YtienbkdjkjbelaaGreatJoAM5
import Derived.Test.YtienbkdjkjbelaaGreatJoAM40
import Derived.Lib.SliceRun
set_option maxHeartbeats 16000000
set_option maxRecDepth 100000
set_option linter.unusedSimpArgs false
set_option linter.unusedVariables false
section
namespace Go.Proofs.YtienbkdjkjbelaaGreat
open Go.RowKit Go.Sl
def F9(s:ByteArray):List Int:=l6 s.size++A7 s
theorem Bv7(s:ByteArray)(h:s.size<=16):(F9 s).length<=25:=by have h1:=Ak7 s.size;unfold F9;rw[jA,AD7];omega
theorem bS4(g c:Nat)(s:ByteArray)(hs:s.size<=1000000)(W w:World)(R:List HP)(hS:St W (sbR g s::R) w):
  Calls Tryz.prog 52 #[.S g s.size c] w fun e w'=>∃v,e=.returned v/\St W (byR v (F9 s)::R) w':=fd4 g c s hs W w R hS
def l7(ns:List Int):List Int:=ns.flatMap l6
theorem CH7(a b c d:Int):(l7 [a,b,c,d]).length<=36:=by have h:=IT7 [a,b,c,d];simp only[jC,List.length_nil]at h;exact h
theorem cc4(ns:List Int)(b c:Nat)(hl:ns.length<=100)(hn:∀x∈ns, -9223372036854775808<=x/\x<=9223372036854775807)(W w:World)(R:List HP)(hS:St W (blk b (ns.map (Value.int .i64)) 3::R) w):
  Calls Tryz.prog 55 #[.S b ns.length c] w fun e w'=>∃v,e=.returned v/\St W (byR v (l7 ns)::R) w':=ga4 ns b c hl hn W w R hS
def bd4(h:Hd):List Int:=F9 h.who++l7 [h.has.x0,h.has.x1,h.has.x2,h.has.x3]
def cG4(b:Bool):Int:=if b=true then 1 else 0
def aE4(o:Ord):List Int:=l6 o.id++F9 o.who++l7 [cG4 o.buy,o.item,o.cnt,o.price]
def av4(p:Ps)(L:List Ord)(n:Int):List Int:=l6 (hdL p).length++(hdL p).flatMap bd4++l6 L.length++L.flatMap aE4++l6 n
theorem DO7(h:Hd)(hw:h.who.size<=16):(bd4 h).length<=70:=by have h1:=Bv7 h.who hw;have h2:=CH7 h.has.x0 h.has.x1 h.has.x2 h.has.x3;unfold bd4;rw[jA];omega
theorem DP7(o:Ord)(hw:o.who.size<=16):(aE4 o).length<=70:=by have h1:=Bv7 o.who hw;have h3:=Ak7 o.id;have h2:=CH7 (cG4 o.buy) o.item o.cnt o.price;unfold aE4;rw[jA,jA];omega
theorem Br7{α:Type}(f:α->List Int)(xs:List α)(h:∀x∈xs,(f x).length<=70):(xs.flatMap f).length<=70*xs.length:=by
 induction xs with
 | nil=>simp
 | cons x xs ih=>
  have h1:=h x (List.mem_cons_self ..);have h2:=ih fun y hy=>h y (List.mem_cons_of_mem x hy)
  rw[List.flatMap_cons,jA,jC];omega
def CtR{α:Type}(W:World)(F:List HP)(f:α->List Int)(base:List Int)(xs:List α)(v3 v4:Value)(w:World):Prop:=
 ∃k:Nat,v4=.I k/\k<=xs.length/\St W (byR v3 (base++(xs.take k).flatMap f)::F) w
theorem AW7{α:Type}(f:α->List Int)(base:List Int)(xs:List α){k:Nat}(h:k<xs.length):base++(xs.take (k+1)).flatMap f=base++(xs.take k).flatMap f++f xs[k]:=by rw[List.take_succ_eq_append_getElem h,List.flatMap_append,jS];simp
theorem gb4(i:It)(hi:w5 i=true)(W w:World)(R:List HP)(hS:St W R w):
  Calls Tryz.prog 94 #[.agg i.cells.toArray] w fun e w'=>∃v,e=.returned v/\St W (byR v (l7 [i.x0,i.x1,i.x2,i.x3])::R) w':=by
 obtain⟨x0,x1,x2,x3⟩:=i;obtain⟨a0,a1,a2,a3⟩:=Ah7.1 hi;simp only at a0 a1 a2 a3
 have hn:∀x∈[x0,x1,x2,x3], -9223372036854775808<=x/\x<=9223372036854775807:=by
  intro x hx;simp only[List.mem_cons,List.not_mem_nil,or_false]at hx
  rcases hx with rfl|rfl|rfl|rfl
  all_goals exact⟨by omega,by omega⟩
 have Hn:=jH hn;clear hn hi;simp only[It.cells];go_enter Tryz.func94,Tryz.ntmps94;go_wp2_with(first|refine zbx hS ?_;clear hS;intro b w hS|refine zl1 hS ?_|refine zbs hS ?_;clear hS;intro bS w hS|go_at_call 55;refine(cc4 [x0,x1,x2,x3] bS 4 (by simp) Hn.out W _ _ hS).mono ?_;clear hS;rintro e w ⟨vn,rfl,hS⟩);go_ret;exact⟨vn,rfl,hS.s _⟩
theorem MJ7(xb xB:Nat)(ha la:Option Addr)(hc lc:Nat)(last:Int)(p:Ps)(L:List Ord)(n:Int){N:Nat}(hp:K6 p)(hw:PsW p N)(hN:N<=1000000)(hmay:∀x∈L,MayP x)(hl32:L.length<=32)(hn0:1<=n)(hn1:n<=1099511627777)(W w:World)(R:List HP)(hS:St W (blk xB [.slice la L.length lc,.I last] 186::j7 (.slice la L.length lc) L::blk xb [.slice ha (hdL p).length hc,.P xB,.I n] 183::hdR (.slice ha (hdL p).length hc) (hdL p)::R) w):
  Calls Tryz.prog 53 #[.P xb] w fun e w'=>∃v,e=.returned v/\St W (byR v (av4 p L n)::blk xB [.slice la L.length lc,.I last] 186::j7 (.slice la L.length lc) L::blk xb [.slice ha (hdL p).length hc,.P xB,.I n] 183::hdR (.slice ha (hdL p).length hc) (hdL p)::R) w':=by
 have hlh:(hdL p).length<=1000000:=by rw[CD7];exact Nat.le_trans hw.len hN
 have hhw:∀x∈hdL p,x.who.size<=16/\w5 x.has=true:=fun x hx=>by refine⟨?_,by rw[CZ7 hx];exact hp _⟩;have hk:x.who∈(hdL p).map Hd.who:=List.mem_map_of_mem hx;rw[Fy7]at hk;obtain⟨y,hy,e⟩:=JK7 hk;rw[<-e];exact Fo7 (hw.who y hy)
 have Hmay:=jH hmay;have Hhw:=jH hhw;clear hmay hw hp hhw;unfold av4;go_enter Tryz.func53,Tryz.ntmps53;go_wp2_with(first|refine zl1 hS ?_|go_at_call 51;refine(ci4 _ ⟨by omega,by omega⟩ W _ _ hS).mono ?_;clear hS;rintro e w ⟨vn,rfl,hS⟩;(have hv:=hS.rowVal;obtain⟨na,nc,rfl⟩:=hv));generalize hhs:hdL p=hs at hS hlh Hhw;have Hhs:=jH hhs;clear hhs
 go_loopw [3,4] (fun v3 v4 wr=>CtR W (blk xB [.slice la L.length lc,.I last] 186::j7 (.slice la L.length lc) L::blk xb [.slice ha hs.length hc,.P xB,.I n] 183::hdR (.slice ha hs.length hc) hs::R) bd4 (l6 hs.length) hs v3 v4 wr) (fun _ v4 _=>hs.length-(intOf v4).toNat)
 case atStart=>exact⟨0,rfl,Nat.zero_le _,by simpa using hS⟩
 case round=>
  clear hS;obtain⟨k,rfl,hkl,hS⟩:=hrel;by_cases hkn:k=hs.length
  ·rw[hkn,List.take_length]at hS;have hd1:decide (k<hs.length)=false:=by simp;omega
   clear hkl hkn;generalize hacc:l6 hs.length++hs.flatMap bd4=acc at hS
   have hal:acc.length<=70000100:=by
    have h1:=Br7 bd4 hs fun x hx=>DO7 x (Hhw.out x hx).1
    have h2:=Ak7 hs.length;rw[<-hacc,jA];omega
   have Hacc:=jH hacc;clear hacc;have hln:=Ak7 L.length;go_wp2_with(first|refine zl1 hS ?_|go_at_call 51;refine(ci4 _ ⟨by omega,by omega⟩ W _ _ hS).mono ?_;clear hS;rintro e w ⟨vn,rfl,hS⟩;(have hv:=hS.rowVal;obtain⟨na,nc,rfl⟩:=hv)|(with_reducible apply Ae7 hS);rfl;rfl;rfl;rfl;exact esS;exact rsS;rfl;decide;exact i8;exact St.src (by decide) hS;(focus(rw[AM7,Nat.mul_one]));exact AX7 _;(focus(unfold maxLen;omega));(focus(omega));clear hS;intro v w hS;refine frS ?_);have h0:St W (row v 1 5 (acc.length+(l6 L.length).length) (u8s acc++u8s (l6 L.length))::_) w:=hS;rw[<-Av7]at h0;have hS:=(AC7 (by rw[jA]) h0).s (byR v (acc++l6 L.length)::blk xB _ _::j7 _ L::blk xb _ _::hdR _ hs::R);clear h0
   go_loopw [3,5] (fun v3 v5 wr=>CtR W (blk xB [.slice la L.length lc,.I last] 186::j7 (.slice la L.length lc) L::blk xb [.slice ha hs.length hc,.P xB,.I n] 183::hdR (.slice ha hs.length hc) hs::R) aE4 (acc++l6 L.length) L v3 v5 wr) (fun _ v5 _=>L.length-(intOf v5).toNat)
   case atStart=>exact⟨0,rfl,Nat.zero_le _,by simpa using hS⟩
   case round=>
    clear hS;obtain⟨j,rfl,hjl,hS⟩:=hrel;by_cases hjn:j=L.length
    ·rw[hjn,List.take_length]at hS;have hd2:decide (j<L.length)=false:=by simp;omega
     clear hjl hjn;have hlo:=Br7 aE4 L fun x hx=>DP7 x (Hmay.out x hx).who1
     generalize hd:acc++l6 L.length++L.flatMap aE4=d at hS;have hdl:d.length<=70010000:=by rw[<-hd,jA,jA];omega
     have Hd2:=jH hd;have hlq:=Ak7 n;clear hd;go_wp2_with(first|refine zl1 hS ?_|go_at_call 51;refine(ci4 _ ⟨by omega,by omega⟩ W _ _ hS).mono ?_;clear hS;rintro e w ⟨vn,rfl,hS⟩;(have hv:=hS.rowVal;obtain⟨na,nc,rfl⟩:=hv)|(with_reducible apply Ae7 hS);rfl;rfl;rfl;rfl;exact esS;exact rsS;rfl;decide;exact i8;exact St.src (by decide) hS;(focus(rw[AM7,Nat.mul_one]));exact AX7 _;(focus(unfold maxLen;omega));(focus(omega));clear hS;intro v w hS;refine frS ?_);go_ret;refine⟨v,rfl,?_⟩;rw[Hhs.out,Hacc.out,Hd2.out];have h0:St W (row v 1 5 (d.length+(l6 n).length) (u8s d++u8s (l6 n))::_) w:=hS;rw[<-Av7]at h0;have h2:=AC7 (by rw[jA]) h0;exact h2.s _
    ·have hj1:j<L.length:=by omega
     obtain⟨⟨g,rfl⟩,_,_⟩:=St.rowAddr hS.drop.drop (by omega);have hcells:∀{K K':List HP},Take K (j7 (.S g L.length lc) L) K'->i6 K g (j*6) (Ord.cells L[j]):=fun hu=>i6.elemM (enc:=Ord.cells) Ord.len hu hj1
     have hst:=AW7 aE4 (acc++l6 L.length) L hj1;have hmx:=Hmay.out _ (jW hj1);have hlt:=Br7 aE4 (L.take j) fun x hx=>DP7 x (Hmay.out x (List.mem_of_mem_take hx)).who1
     rw[jT]at hlt;generalize hd:acc++l6 L.length++(L.take j).flatMap aE4=d at hS hst;have hdl:d.length<=70010000:=by rw[<-hd,jA,jA];omega
     generalize L[j]=x at hcells hst hmx;obtain⟨oi,ou,oy,ot,oc,op⟩:=x;have i0:1<=oi:=hmx.id0;have i1:oi<=1099511627776:=hmx.id1;have w1:ou.size<=16:=hmx.who1;have t0:1<=ot:=hmx.item0;have t1:ot<=3:=hmx.item1;have c0:1<=oc:=hmx.cnt0;have c1:oc<=1048576:=hmx.cnt1;have p0:1<=op:=hmx.price0;have p1:op<=1024:=hmx.price1;have l1:=Ak7 oi;have l4:=Bv7 ou w1;have Hst:=jH hst;clear hst hmx hd hlt hjn hjl;simp only[Ord.cells]at hcells
     cases oy with
     | false=>
      have hn:∀x∈[(0:Int),ot,oc,op], -9223372036854775808<=x/\x<=9223372036854775807:=by
       intro x hx;simp only[List.mem_cons,List.not_mem_nil,or_false]at hx
       rcases hx with rfl|rfl|rfl|rfl
       all_goals exact⟨by omega,by omega⟩
      have l5:=CH7 0 ot oc op;have Hn:=jH hn;clear hn;go_wp2_with(first|refine zl1 hS ?_|refine zlN hS ?_ (hc:=by exact hcells (by exact i8))|(with_reducible apply An7 hS);rfl;rfl;exact zsS;clear hS;intro b6 w hS;refine frS ?_|refine zsN hS ?_;clear hS;intro w hS|go_at_call 51;refine(ci4 _ ⟨by omega,by omega⟩ W _ _ hS).mono ?_;clear hS;rintro e w ⟨vn,rfl,hS⟩;(have hv:=hS.rowVal;obtain⟨na,nc,rfl⟩:=hv)|(with_reducible apply Au7 hS);rfl;rfl;rfl;exact Tryz.underlying9;exact Tryz.underlying73;exact Tryz.underlying5;clear hS;intro g9 c9 w hS;refine frS ?_|go_at_call 52;refine(bS4 g9 c9 ou (by omega) W _ _ hS).mono ?_;clear hS;rintro e w ⟨vn,rfl,hS⟩;(have hv:=hS.rowVal;obtain⟨na,nc,rfl⟩:=hv)|refine zbs hS ?_;clear hS;intro bS w hS|go_at_call 55;refine(cc4 [0,ot,oc,op] bS 4 (by simp) Hn.out W _ _ hS).mono ?_;clear hS;rintro e w ⟨vn,rfl,hS⟩;(have hv:=hS.rowVal;obtain⟨na,nc,rfl⟩:=hv)|(with_reducible apply Ae7 hS);rfl;rfl;rfl;rfl;exact esS;exact rsS;rfl;decide;exact i8;exact St.src (by decide) hS;(focus(rw[AM7,Nat.mul_one]));exact AX7 _;(focus(unfold maxLen;omega));(focus(omega));clear hS;intro v w hS;refine frS ?_);go_roundw
      case rel=>
       refine⟨j+1,rfl,hj1,?_⟩;rw[Hst.out];unfold aE4;simp only[cG4,Bool.false_eq_true,if_true,if_false];have h0:St W (row v 1 5 (d.length+(l6 oi).length+(F9 ou).length+(l7 [0,ot,oc,op]).length) (u8s d++u8s (l6 oi)++u8s (F9 ou)++u8s (l7 [0,ot,oc,op]))::_) w:=hS;rw[<-Av7,<-Av7,<-Av7,jS d,jS d]at h0;have h2:=AC7 (by simp only[jA];omega) h0;exact h2.s _
      case measure=>simp[intOf];omega
     | true=>
      have hn:∀x∈[(1:Int),ot,oc,op], -9223372036854775808<=x/\x<=9223372036854775807:=by
       intro x hx;simp only[List.mem_cons,List.not_mem_nil,or_false]at hx
       rcases hx with rfl|rfl|rfl|rfl
       all_goals exact⟨by omega,by omega⟩
      have l5:=CH7 1 ot oc op;have Hn:=jH hn;clear hn;go_wp2_with(first|refine zl1 hS ?_|refine zlN hS ?_ (hc:=by exact hcells (by exact i8))|(with_reducible apply An7 hS);rfl;rfl;exact zsS;clear hS;intro b6 w hS;refine frS ?_|refine zsN hS ?_;clear hS;intro w hS|go_at_call 51;refine(ci4 _ ⟨by omega,by omega⟩ W _ _ hS).mono ?_;clear hS;rintro e w ⟨vn,rfl,hS⟩;(have hv:=hS.rowVal;obtain⟨na,nc,rfl⟩:=hv)|(with_reducible apply Au7 hS);rfl;rfl;rfl;exact Tryz.underlying9;exact Tryz.underlying73;exact Tryz.underlying5;clear hS;intro g9 c9 w hS;refine frS ?_|go_at_call 52;refine(bS4 g9 c9 ou (by omega) W _ _ hS).mono ?_;clear hS;rintro e w ⟨vn,rfl,hS⟩;(have hv:=hS.rowVal;obtain⟨na,nc,rfl⟩:=hv)|refine zbs hS ?_;clear hS;intro bS w hS|go_at_call 55;refine(cc4 [1,ot,oc,op] bS 4 (by simp) Hn.out W _ _ hS).mono ?_;clear hS;rintro e w ⟨vn,rfl,hS⟩;(have hv:=hS.rowVal;obtain⟨na,nc,rfl⟩:=hv)|(with_reducible apply Ae7 hS);rfl;rfl;rfl;rfl;exact esS;exact rsS;rfl;decide;exact i8;exact St.src (by decide) hS;(focus(rw[AM7,Nat.mul_one]));exact AX7 _;(focus(unfold maxLen;omega));(focus(omega));clear hS;intro v w hS;refine frS ?_);go_roundw
      case rel=>
       refine⟨j+1,rfl,hj1,?_⟩;rw[Hst.out];unfold aE4;simp only[cG4,Bool.false_eq_true,if_true,if_false];have h0:St W (row v 1 5 (d.length+(l6 oi).length+(F9 ou).length+(l7 [1,ot,oc,op]).length) (u8s d++u8s (l6 oi)++u8s (F9 ou)++u8s (l7 [1,ot,oc,op]))::_) w:=hS;rw[<-Av7,<-Av7,<-Av7,jS d,jS d]at h0;have h2:=AC7 (by simp only[jA];omega) h0;exact h2.s _
      case measure=>simp[intOf];omega
  ·have hk1:k<hs.length:=by omega
   obtain⟨⟨g,rfl⟩,_,_⟩:=St.rowAddr hS.drop.drop.drop.drop (by omega);have hname:∀{K K':List HP},Take K (hdR (.S g hs.length hc) hs) K'->i7 K g (k*5) (.string hs[k].who):=fun hu=>i6.elemM (enc:=Hd.cells) Hd.len hu hk1 0 _ rfl
   have hitems:∀{K K':List HP},Take K (hdR (.S g hs.length hc) hs) K'->i6 K g (k*5+1) (hs[k].has.cells):=fun hu j v hj=>by have h1:=i6.elemM (enc:=Hd.cells) Hd.len hu hk1 (1+j) v (by rw[Nat.add_comm];exact hj);rwa [<-Nat.add_assoc]at h1
   have hst:=AW7 bd4 (l6 hs.length) hs hk1;have hmx:=Hhw.out _ (jW hk1);have hlt:=Br7 bd4 (hs.take k) fun x hx=>DO7 x (Hhw.out x (List.mem_of_mem_take hx)).1
   rw[jT]at hlt;have hlk:=Ak7 hs.length;generalize hd:l6 hs.length++(hs.take k).flatMap bd4=d at hS hst;have hdl:d.length<=70000100:=by rw[<-hd,jA];omega
   generalize hs[k]=x at hname hitems hst hmx;obtain⟨xw,⟨x0,x1,x2,x3⟩⟩:=x;obtain⟨w1,hit⟩:=hmx;simp only at w1 hname;have l4:=Bv7 xw w1;have l5:=CH7 x0 x1 x2 x3;have Hst:=jH hst;have Hit:=jH hit;clear hst hit hd hlt hkn hkl;simp only[It.cells]at hitems;go_wp2_with(first|refine zl1 hS ?_ (hc:=by exact hname (by exact i8))|refine zlN hS ?_ (hc:=by exact hitems (by exact i8))|refine zl1 hS ?_|(with_reducible apply Au7 hS);rfl;rfl;rfl;exact Tryz.underlying9;exact Tryz.underlying73;exact Tryz.underlying5;clear hS;intro g9 c9 w hS;refine frS ?_|go_at_call 52;refine(bS4 g9 c9 xw (by omega) W _ _ hS).mono ?_;clear hS;rintro e w ⟨vn,rfl,hS⟩;(have hv:=hS.rowVal;obtain⟨na,nc,rfl⟩:=hv)|go_at_call 94;refine(gb4 ⟨x0,x1,x2,x3⟩ Hit.out W _ _ hS).mono ?_;clear hS;rintro e w ⟨vn,rfl,hS⟩;(have hv:=hS.rowVal;obtain⟨na,nc,rfl⟩:=hv)|(with_reducible apply Ae7 hS);rfl;rfl;rfl;rfl;exact esS;exact rsS;rfl;decide;exact i8;exact St.src (by decide) hS;(focus(rw[AM7,Nat.mul_one]));exact AX7 _;(focus(unfold maxLen;omega));(focus(omega));clear hS;intro v w hS;refine frS ?_);go_roundw
   case rel=>
    refine⟨k+1,rfl,hk1,?_⟩;rw[Hst.out];unfold bd4;have h0:St W (row v 1 5 (d.length+(F9 xw).length+(l7 [x0,x1,x2,x3]).length) (u8s d++u8s (F9 xw)++u8s (l7 [x0,x1,x2,x3]))::_) w:=hS;rw[<-Av7,<-Av7,jS d]at h0;have h2:=AC7 (by simp only[jA];omega) h0;exact h2.s _
   case measure=>simp[intOf];omega
def wrR(wb:Nat)(d:List Int):HP:=fun f=>∃v:Value,sats [blk wb [v] 105,byR v d] f
section
variable{W w:World}{wb:Nat}{d:List Int}{R:List HP}
theorem cR4(h:St W (wrR wb d::R) w):∃a c,St W (blk wb [.slice a d.length c] 105::byR (.slice a d.length c) d::R) w:=by obtain⟨v,h⟩:=St.ex h;have hS:=(St.split (St.split h).swap).swap.drop.swap;obtain⟨a,c,rfl⟩:=hS.drop.rowVal;exact⟨a,c,hS⟩
theorem cd4{v:Value}(h:St W (blk wb [v] 105::byR v d::R) w):St W (wrR wb d::R) w:=by refine St.mkEx v ?_;refine St.join ?_;refine St.swap (St.imp h.swap ?_);intro f hf;exact⟨fun _=>true,hf,trivial⟩
end
def WnR(W:World)(L:List HP)(wb:Nat)(d:List Int)(ns:List Int)(v:Value)(w:World):Prop:=
 ∃i:Nat,v=.I i/\i<=ns.length/\St W (wrR wb (d++(ns.take i).flatMap l6)::L) w
def WuR(W:World)(L:List HP)(wb:Nat)(t:List Int)(v:Value)(w:World):Prop:=
 ∃(f u:Nat) (d:List Int),v=.int .u64 u/\u<128^(f+1)/\u<=4611686018427387904/\d.length<=100000000+(8-f)/\f<=8/\d++bc4 f u=t/\St W (wrR wb d::L) w
theorem Pj7(wb:Nat)(d:List Int)(ns:List Int)(g off c:Nat)(hd:d.length<=90000000)(hl:ns.length<=100)(hn:∀x∈ns, -9223372036854775808<=x/\x<=9223372036854775807)(W w:World)(R:List HP)(hcell:∀i, ∀hi:i<ns.length,i7 R g (off+i) (.I ns[i]))(hS:St W (wrR wb d::R) w):
  Calls Tryz.prog 41 #[.P wb,.slice (some ⟨g,off,none⟩) ns.length c] w fun e w'=>e=.returned (.tuple #[])/\St W (wrR wb (d++ns.flatMap l6)::R) w':=by
 have Hcell:=jH hcell;clear hcell;have Hn:=jH hn;clear hn;go_enter Tryz.func41,Tryz.ntmps41;go_wp2_with(first|go_big_skip)
 go_loopw [11] (fun v wr=>WnR W R wb d ns v wr) (fun v _=>ns.length-(intOf v).toNat)
 case atStart=>exact⟨0,rfl,Nat.zero_le _,by simpa using hS⟩
 case round=>
  clear hS;obtain⟨i,rfl,hil,hS⟩:=hrel;by_cases hin:i=ns.length
  ·subst hin;rw[List.take_length]at hS;go_wp2_with(first|go_big_skip);go_end0;exact⟨rfl,hS⟩
  ·have hi1:i<ns.length:=by omega
   have hx:=Hcell.out i hi1;have hr:=Hn.out _ (jW hi1);have hst:d++(ns.take (i+1)).flatMap l6=d++(ns.take i).flatMap l6++l6 ns[i]:=by rw[List.take_succ_eq_append_getElem hi1,List.flatMap_append,jS];simp
   have hle:=IT7 (ns.take i);rw[jT]at hle;generalize hdd:d++(ns.take i).flatMap l6=dd at hS hst;have hdl:dd.length<=90000900:=by rw[<-hdd,jA];omega
   generalize ns[i]=x at hx hr hst;obtain⟨r1,r2⟩:=hr;have Hst:=jH hst;clear hst hin hil hdd hle;go_wp2_with(first|go_big_skip|refine zl1 hS ?_ (hc:=by exact i7.there hx))
   have eu:max 0 (min x 4611686018427387904)=((bR4 x:Nat):Int):=by
    unfold bR4
    repeat' split
    all_goals omega
   have hul:=MH7 x;have hnb:l6 x=bc4 8 (bR4 x):=rfl;rw[hnb]at Hst;have Eu:=jH eu;clear eu hnb;generalize bR4 x=u0 at Eu hul Hst
   go_loopw [6] (fun v wr=>WuR W R wb (dd++bc4 8 u0) v wr) (fun v _=>(intOf v).toNat)
   case atStart=>exact⟨8,u0,dd,by rw[Eu.out],GL7 hul,hul,by omega,by omega,rfl,hS⟩
   case round=>
    clear hS;obtain⟨f,u,d2,rfl,hu,hu2,hd2,hf,hE,hS⟩:=hrel;obtain⟨wa,wc,hS1⟩:=cR4 hS;clear hS;have hS:=hS1;clear hS1;by_cases h128:128<=u
    ·obtain⟨f,rfl⟩:∃f',f=f'+1:=by
      cases f with
      | zero=>simp at hu;omega
      | succ f=>exact⟨f,rfl⟩
     have hu3:u / 128<128^(f+1):=Nat.div_lt_of_lt_mul (by rw[Nat.pow_succ]at hu;omega);rw[bc4,if_pos h128]at hE;have Hu3:=jH hu3;have HE:=jH hE;clear hE hu hu3;go_wp2_with(first|go_big_skip|refine zl1 hS ?_|refine zbs hS ?_;clear hS;intro bS w hS|(with_reducible apply Ae7 hS);rfl;rfl;rfl;rfl;exact esS;exact rsS;rfl;decide;exact i8;exact Src.mk i6.whole;(focus(try rfl));rfl;(focus(unfold maxLen;omega));(focus(omega));clear hS;intro v w hS;(have hv:=hS.rowVal;obtain⟨va,vc,rfl⟩:=hv);refine frS ?_|refine zs1 hS ?_;clear hS;intro w hS);have hS1:=hS.s (row (.slice va (d2.length+1) vc) 1 _ _ _::blk wb _ _::R);have hb:=MI7 u;have h0:St W (row (.slice va (d2.length+1) vc) 1 5 (d2.length+1) (u8s d2++[Value.int .u8 (bits .or .u8 ((u:Int)%256) 128)])::_) w:=hS1;rw[hb,<-BX7]at h0;have h2:=cd4 (AC7 (by rw[jA,List.length_singleton]) h0).swap;go_roundw
     case rel=>exact⟨f,u / 128,d2++[((u%128+128:Nat):Int)],by rw[Int.natCast_ediv];rfl,Hu3.out,by omega,by rw[jA,List.length_singleton];omega,by omega,by rw[jS];exact HE.out,h2⟩
     case measure=>simp[intOf];omega
    ·have hu4:u<128:=by omega
     rw[CR7 hu4]at hE;have HE:=jH hE;clear hE hu h128;go_wp2_with(first|go_big_skip|refine zl1 hS ?_|refine zbs hS ?_;clear hS;intro bS w hS|(with_reducible apply Ae7 hS);rfl;rfl;rfl;rfl;exact esS;exact rsS;rfl;decide;exact i8;exact Src.mk i6.whole;(focus(try rfl));rfl;(focus(unfold maxLen;omega));(focus(omega));clear hS;intro v w hS;(have hv:=hS.rowVal;obtain⟨va,vc,rfl⟩:=hv);refine frS ?_|refine zs1 hS ?_;clear hS;intro w hS);have hS1:=hS.s (row (.slice va (d2.length+1) vc) 1 _ _ _::blk wb _ _::R);have h0:St W (row (.slice va (d2.length+1) vc) 1 5 (d2.length+1) (u8s d2++[Value.int .u8 (u:Int)])::_) w:=hS1;rw[<-BX7]at h0;have h2:=cd4 (AC7 (by rw[jA,List.length_singleton]) h0).swap;rw[HE.out,<-Hst.out]at h2;go_roundw
     case rel=>exact⟨i+1,rfl,hi1,h2⟩
     case measure=>simp[intOf];omega
theorem MK7(wb:Nat)(d:List Int)(ns:List Int)(b c:Nat)(hd:d.length<=90000000)(hl:ns.length<=100)(hn:∀x∈ns, -9223372036854775808<=x/\x<=9223372036854775807)(W w:World)(R:List HP)(hS:St W (wrR wb d::blk b (ns.map (Value.int .i64)) 3::R) w):
  Calls Tryz.prog 41 #[.P wb,.S b ns.length c] w fun e w'=>e=.returned (.tuple #[])/\St W (wrR wb (d++ns.flatMap l6)::blk b (ns.map (Value.int .i64)) 3::R) w':=
 Pj7 wb d ns b 0 c hd hl hn W w _ (fun i hi=>i7.here (by rw[Nat.zero_add,List.getElem?_map,jG hi];rfl)) hS
end Go.Proofs.YtienbkdjkjbelaaGreat
end
section
namespace Go.Sl
open Go.RowKit
section
variable{P:Program}{ops:Array Oper}{Q:Exit->Act->World->Prop}{a:Act}{w:World}{rest:List Oper}{o:Oper}
theorem Qc7{t t2 e:TypeId}{x y:Operand}{a0:Addr}{n c:Nat}(ho:o.op=.binOp .eql t x y t2)(hg:Region.wanted o (yielded ops a.tmps)=true)(hx:a.eval x=.slice (some a0) n c)(hy:a.eval y=.slice none 0 0)(ht:P.underlying t=some (.slice e))
  (h:wpList P ops Q rest (a.put o.dst (.bool false)) w):wpList P ops Q (o::rest) a w:=by
 refine Ao7 hg (v:=.bool false) (w':=w) ?_ h;have h1:(binOp .eql t (.slice (some a0) n c) (.slice none 0 0)).run P w=.ok (.bool false) w:=Lib.run_eql_slice_nil w t e (some a0) n c 0 0 ht;unfold execOp;simp[ho,hx,hy,eqGuard,h1]
end
end Go.Sl
namespace Go.Proofs.YtienbkdjkjbelaaGreat
open Go.RowKit Go.Sl
theorem gc4(wb:Nat)(d:List Int)(s:ByteArray)(g c:Nat)(hd:d.length<=90001000)(hs:s.size<=1000000)(W w:World)(R:List HP)(hS:St W (wrR wb d::sbR g s::R) w):
  Calls Tryz.prog 82 #[.P wb,.S g s.size c] w fun e w'=>e=.returned (.tuple #[])/\St W (wrR wb (d++A7 s)::sbR g s::R) w':=by
 obtain⟨wa,wc,hS1⟩:=cR4 hS;clear hS;have hS:=hS1;clear hS1;go_enter Tryz.func82,Tryz.ntmps82;go_wp2_with(first|refine zl1 hS ?_|(with_reducible apply Ae7 hS);rfl;rfl;rfl;rfl;exact esS;exact rsS;rfl;decide;exact i8;exact Src.mk (i6.there (i6.there i6.sb));(focus(rw[jM,AD7,Nat.mul_one]));exact AX7 _;(focus(unfold maxLen;omega));(focus(omega));clear hS;intro v w hS;(have hv:=hS.rowVal;obtain⟨va,vc,rfl⟩:=hv);refine frS ?_|refine zs1 hS ?_;clear hS;intro w hS);go_end0;have hS1:=hS.s (row (.slice va (d.length+s.size) vc) 1 _ _ _::blk wb _ _::sbR g s::R);have h0:St W (row (.slice va (d.length+s.size) vc) 1 5 (d.length+s.size) (u8s d++u8s (A7 s))::_) w:=hS1;rw[<-Av7]at h0;exact⟨rfl,cd4 (AC7 (by rw[jA,AD7]) h0).swap⟩
def WbR(W:World)(F:List Int->List HP)(d:List Int)(s:ByteArray)(v:Value)(w:World):Prop:=
 (v=.I 0/\St W (F d) w)\/(v=.I 1/\St W (F (d++F9 s)) w)
theorem IU7(wb:Nat)(d:List Int)(s:ByteArray)(b g c c1:Nat)(hd:d.length<=90000000)(hs:s.size<=1000000)(W w:World)(R:List HP)(hS:St W (wrR wb d::blk b [.S g s.size c] 73::sbR g s::R) w):
  Calls Tryz.prog 42 #[.P wb,.S b 1 c1] w fun e w'=>e=.returned (.tuple #[])/\St W (wrR wb (d++F9 s)::blk b [.S g s.size c] 73::sbR g s::R) w':=by
 have hln:=Ak7 s.size;go_enter Tryz.func42,Tryz.ntmps42;go_wp2_with(fail)
 go_loopw [8] (fun v wr=>WbR W (fun q=>wrR wb q::blk b [.S g s.size c] 73::sbR g s::R) d s v wr) (fun v _=>1-(intOf v).toNat)
 case atStart=>exact .inl ⟨rfl,hS⟩
 case round=>
  clear hS
  rcases hrel with ⟨rfl,hS⟩|⟨rfl,hS⟩
  ·have hn:∀x∈[(s.size:Int)], -9223372036854775808<=x/\x<=9223372036854775807:=by
    intro x hx;rw[List.mem_singleton.1 hx];exact⟨by omega,by omega⟩
   have Hn:=jH hn;clear hn;have hdl:(d++[(s.size:Int)].flatMap l6).length<=90001000:=by rw[jA];simp;omega
   have e:d++[(s.size:Int)].flatMap l6++A7 s=d++F9 s:=by unfold F9;rw[jS];simp
   have Hdl:=jH hdl;have E:=jH e;clear hdl e;go_wp2_with(first|refine zl1 hS ?_|refine zbs hS ?_;clear hS;intro bS w hS|go_at_call 41;refine(MK7 wb d [(s.size:Int)] bS 1 hd (by simp) Hn.out W _ _ (hS.s (wrR wb d::blk bS _ _::blk b _ _::sbR g s::R))).mono ?_;clear hS;rintro e w ⟨rfl,hS⟩|go_at_call 82;refine(gc4 wb _ s g c Hdl.out hs W _ _ (hS.s (wrR wb _::sbR g s::blk b _ _::R))).mono ?_;clear hS;rw[E.out];rintro e w ⟨rfl,hS⟩);go_roundw
   case rel=>exact .inr ⟨rfl,hS.s _⟩
   case measure=>simp[intOf]
  ·go_wp2_with(fail);go_end0;exact⟨rfl,hS⟩
theorem Qd7(d:List Int)(g c:Nat)(hd:d.length<=100000000)(W w:World)(R:List HP)(hS:St W (byR (.S g d.length c) d::R) w):
  Calls Tryz.prog 93 #[.S g d.length c] w fun e w'=>∃v,e=.returned v/\St W (byR v d::byR (.S g d.length c) d::R) w':=by
 go_enter Tryz.func93,Tryz.ntmps93;go_wp2_with(first|(with_reducible apply Qc7);rfl;rfl;rfl;rfl;exact Tryz.underlying73;refine frS ?_|(with_reducible apply Bk7 (n:=0) hS);rfl;rfl;(focus(simp only[fD,fI,fJ,Act.eval,fE,fF,fG,fH,fK];try rfl));exact esS;exact rsS;rfl;rfl;rfl;rfl;rfl;decide;clear hS;intro bv w hS;refine frS ?_|(with_reducible apply Ae7 hS);rfl;rfl;rfl;rfl;exact esS;exact rsS;rfl;decide;exact i8;exact(St.src (by decide) hS.drop).there;(focus(rw[AM7,Nat.mul_one]));exact AX7 _;(focus(unfold maxLen;omega));(focus(omega));clear hS;intro v w hS;(have hv:=hS.rowVal;obtain⟨va,vc,rfl⟩:=hv);refine frS ?_);go_ret;refine⟨_,rfl,?_⟩;have h0:St W (row (.slice va (0+d.length) vc) 1 5 (0+d.length) (u8s ([]++d))::_) w:=hS;have h2:=AC7 (by rw[jN,Nat.zero_add]) h0;rw[jN]at h2;exact h2
theorem ec4(wb:Nat)(d:List Int)(hd:d.length<=100000000)(h0:0<d.length)(W w:World)(R:List HP)(hS:St W (wrR wb d::R) w):
  Calls Tryz.prog 50 #[.P wb] w fun e w'=>∃v,e=.returned v/\St W (byR v d::wrR wb d::R) w':=by
 obtain⟨wa,wc,hS1⟩:=cR4 hS;clear hS;have hS:=hS1;clear hS1;obtain⟨⟨g,rfl⟩,_,_⟩:=St.rowAddr hS.drop (by omega);go_enter Tryz.func50,Tryz.ntmps50;go_wp2_with(first|refine zl1 hS ?_|go_at_call 93;refine(Qd7 d g wc hd W _ _ hS.swap).mono ?_;clear hS;rintro e w ⟨v,rfl,hS⟩);go_ret;have hS1:=hS.s (blk wb _ _::byR (.S g d.length wc) d::byR v d::R);exact⟨v,rfl,(cd4 hS1).swap⟩
end Go.Proofs.YtienbkdjkjbelaaGreat
end
