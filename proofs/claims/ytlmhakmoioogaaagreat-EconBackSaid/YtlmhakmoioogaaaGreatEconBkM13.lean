/-
  The program's Writer.
-/
import Derived.Test.YtlmhakmoioogaaaGreatEconBkM12
import Derived.Lib.SliceRun
import Derived.Laws.BytesString
import Derived.Laws.Shifts
set_option maxHeartbeats 16000000
set_option maxRecDepth 100000
set_option linter.unusedSimpArgs false
set_option linter.unusedVariables false
section
namespace Go.Proofs.YtlmhakmoioogaaaGreat
open Go.RowKit Go.Sl
def wrR(wb:Nat)(d:List Int):HP:=fun f=>∃v:Value,sats [blk wb [v] 119,byR v d] f
section
variable{W w:World}{wb:Nat}{d:List Int}{R:List HP}
theorem dw4(h:St W (wrR wb d::R) w):∃a c,St W (blk wb [.slice a d.length c] 119::byR (.slice a d.length c) d::R) w:=by obtain⟨v,h⟩:=St.ex h;have hS:=(St.split (St.split h).swap).swap.drop.swap;obtain⟨a,c,rfl⟩:=hS.drop.rowVal;exact⟨a,c,hS⟩
theorem cL4{v:Value}(h:St W (blk wb [v] 119::byR v d::R) w):St W (wrR wb d::R) w:=by refine St.mkEx v ?_;refine St.join ?_;refine St.swap (St.imp h.swap ?_);intro f hf;exact⟨fun _=>true,hf,trivial⟩
end
def WnR(W:World)(L:List HP)(wb:Nat)(d:List Int)(ns:List Int)(v:Value)(w:World):Prop:=
 ∃i:Nat,v=.I i/\i<=ns.length/\St W (wrR wb (d++(ns.take i).flatMap m6)::L) w
def WuR(W:World)(L:List HP)(wb:Nat)(t:List Int)(v:Value)(w:World):Prop:=
 ∃(f u:Nat) (d:List Int),v=.int .u64 u/\u<128^(f+1)/\u<=4611686018427387904/\d.length<=100000000+(8-f)/\f<=8/\d++aU4 f u=t/\St W (wrR wb d::L) w
theorem SO7(wb:Nat)(d:List Int)(ns:List Int)(g off c:Nat)(hd:d.length<=90000000)(hl:ns.length<=100)(hn:∀x∈ns, -9223372036854775808<=x/\x<=9223372036854775807)(W w:World)(R:List HP)(hcell:∀i, ∀hi:i<ns.length,i9 R g (off+i) (.I ns[i]))(hS:St W (wrR wb d::R) w):
  Calls Tryz.prog 65 #[.P wb,.slice (some ⟨g,off,none⟩) ns.length c] w fun e w'=>e=.returned (.tuple #[])/\St W (wrR wb (d++ns.flatMap m6)::R) w':=by
 have Hcell:=jH hcell;clear hcell;have Hn:=jH hn;clear hn;go_enter Tryz.func65,Tryz.ntmps65;go_wp2_with(first|go_big_skip)
 go_loopw [11] (fun v wr=>WnR W R wb d ns v wr) (fun v _=>ns.length-(intOf v).toNat)
 case atStart=>exact⟨0,rfl,Nat.zero_le _,by simpa using hS⟩
 case round=>
  clear hS;obtain⟨i,rfl,hil,hS⟩:=hrel;by_cases hin:i=ns.length
  ·subst hin;rw[List.take_length]at hS;go_wp2_with(first|go_big_skip);go_end0;exact⟨rfl,hS⟩
  ·have hi1:i<ns.length:=by omega
   have hx:=Hcell.out i hi1;have hr:=Hn.out _ (jW hi1);have hst:d++(ns.take (i+1)).flatMap m6=d++(ns.take i).flatMap m6++m6 ns[i]:=by rw[List.take_succ_eq_append_getElem hi1,List.flatMap_append,jS];simp
   have hle:=KF7 (ns.take i);rw[jT]at hle;generalize hdd:d++(ns.take i).flatMap m6=dd at hS hst;have hdl:dd.length<=90000900:=by rw[<-hdd,jA];omega
   generalize ns[i]=x at hx hr hst;obtain⟨r1,r2⟩:=hr;have Hst:=jH hst;clear hst hin hil hdd hle;go_wp2_with(first|go_big_skip|refine zl1 hS ?_ (hc:=by exact i9.there hx))
   have eu:max 0 (min x 4611686018427387904)=((bh4 x:Nat):Int):=by
    unfold bh4
    repeat' split
    all_goals omega
   have hul:=Ij7 x;have hnb:m6 x=aU4 8 (bh4 x):=rfl;rw[hnb]at Hst;have Eu:=jH eu;clear eu hnb;generalize bh4 x=u0 at Eu hul Hst
   go_loopw [6] (fun v wr=>WuR W R wb (dd++aU4 8 u0) v wr) (fun v _=>(intOf v).toNat)
   case atStart=>exact⟨8,u0,dd,by rw[Eu.out],Fm7 hul,hul,by omega,by omega,rfl,hS⟩
   case round=>
    clear hS;obtain⟨f,u,d2,rfl,hu,hu2,hd2,hf,hE,hS⟩:=hrel;obtain⟨wa,wc,hS1⟩:=dw4 hS;clear hS;have hS:=hS1;clear hS1;by_cases h128:128<=u
    ·obtain⟨f,rfl⟩:∃f',f=f'+1:=by
      cases f with
      | zero=>simp at hu;omega
      | succ f=>exact⟨f,rfl⟩
     have hu3:u / 128<128^(f+1):=Nat.div_lt_of_lt_mul (by rw[Nat.pow_succ]at hu;omega);rw[aU4,if_pos h128]at hE;have Hu3:=jH hu3;have HE:=jH hE;clear hE hu hu3;go_wp2_with(first|go_big_skip|refine zl1 hS ?_|refine zbs hS ?_;clear hS;intro bS w hS|(with_reducible apply Ae7 hS);rfl;rfl;rfl;rfl;exact esS;exact rsS;rfl;decide;exact j5;exact Src.mk i8.whole;(focus(try rfl));rfl;(focus(unfold maxLen;omega));(focus(omega));clear hS;intro v w hS;(have hv:=hS.rowVal;obtain⟨va,vc,rfl⟩:=hv);refine frS ?_|refine zs1 hS ?_;clear hS;intro w hS);have hS1:=hS.s (row (.slice va (d2.length+1) vc) 1 _ _ _::blk wb _ _::R);have hb:=OO7 u;have h0:St W (row (.slice va (d2.length+1) vc) 1 5 (d2.length+1) (u8s d2++[Value.int .u8 (bits .or .u8 ((u:Int)%256) 128)])::_) w:=hS1;rw[hb,<-Ct7]at h0;have h2:=cL4 (AN7 (by rw[jA,List.length_singleton]) h0).swap;go_roundw
     case rel=>exact⟨f,u / 128,d2++[((u%128+128:Nat):Int)],by rw[Int.natCast_ediv];rfl,Hu3.out,by omega,by rw[jA,List.length_singleton];omega,by omega,by rw[jS];exact HE.out,h2⟩
     case measure=>simp[intOf];omega
    ·have hu4:u<128:=by omega
     rw[BW7 hu4]at hE;have HE:=jH hE;clear hE hu h128;go_wp2_with(first|go_big_skip|refine zl1 hS ?_|refine zbs hS ?_;clear hS;intro bS w hS|(with_reducible apply Ae7 hS);rfl;rfl;rfl;rfl;exact esS;exact rsS;rfl;decide;exact j5;exact Src.mk i8.whole;(focus(try rfl));rfl;(focus(unfold maxLen;omega));(focus(omega));clear hS;intro v w hS;(have hv:=hS.rowVal;obtain⟨va,vc,rfl⟩:=hv);refine frS ?_|refine zs1 hS ?_;clear hS;intro w hS);have hS1:=hS.s (row (.slice va (d2.length+1) vc) 1 _ _ _::blk wb _ _::R);have h0:St W (row (.slice va (d2.length+1) vc) 1 5 (d2.length+1) (u8s d2++[Value.int .u8 (u:Int)])::_) w:=hS1;rw[<-Ct7]at h0;have h2:=cL4 (AN7 (by rw[jA,List.length_singleton]) h0).swap;rw[HE.out,<-Hst.out]at h2;go_roundw
     case rel=>exact⟨i+1,rfl,hi1,h2⟩
     case measure=>simp[intOf];omega
theorem OQ7(wb:Nat)(d:List Int)(ns:List Int)(b c:Nat)(hd:d.length<=90000000)(hl:ns.length<=100)(hn:∀x∈ns, -9223372036854775808<=x/\x<=9223372036854775807)(W w:World)(R:List HP)(hS:St W (wrR wb d::blk b (ns.map (Value.int .i64)) 3::R) w):
  Calls Tryz.prog 65 #[.P wb,.S b ns.length c] w fun e w'=>e=.returned (.tuple #[])/\St W (wrR wb (d++ns.flatMap m6)::blk b (ns.map (Value.int .i64)) 3::R) w':=
 SO7 wb d ns b 0 c hd hl hn W w _ (fun i hi=>i9.here (by rw[Nat.zero_add,List.getElem?_map,jG hi];rfl)) hS
end Go.Proofs.YtlmhakmoioogaaaGreat
end
section
namespace Go.Sl
open Go.RowKit
section
variable{P:Program}{ops:Array Oper}{Q:Exit->Act->World->Prop}{a:Act}{w:World}{rest:List Oper}{o:Oper}
theorem TA7{t t2 e:TypeId}{x y:Operand}{a0:Addr}{n c:Nat}(ho:o.op=.binOp .eql t x y t2)(hg:Region.wanted o (yielded ops a.tmps)=true)(hx:a.eval x=.slice (some a0) n c)(hy:a.eval y=.slice none 0 0)(ht:P.underlying t=some (.slice e))
  (h:wpList P ops Q rest (a.put o.dst (.bool false)) w):wpList P ops Q (o::rest) a w:=by
 refine Aj7 hg (v:=.bool false) (w':=w) ?_ h;have h1:(binOp .eql t (.slice (some a0) n c) (.slice none 0 0)).run P w=.ok (.bool false) w:=Lib.run_eql_slice_nil w t e (some a0) n c 0 0 ht;unfold execOp;simp[ho,hx,hy,eqGuard,h1]
end
end Go.Sl
namespace Go.Proofs.YtlmhakmoioogaaaGreat
open Go.RowKit Go.Sl
theorem gp4(wb:Nat)(d:List Int)(s:ByteArray)(g c:Nat)(hd:d.length<=90001000)(hs:s.size<=1000000)(W w:World)(R:List HP)(hS:St W (wrR wb d::sbR g s::R) w):
  Calls Tryz.prog 132 #[.P wb,.S g s.size c] w fun e w'=>e=.returned (.tuple #[])/\St W (wrR wb (d++D6 s)::sbR g s::R) w':=by
 obtain⟨wa,wc,hS1⟩:=dw4 hS;clear hS;have hS:=hS1;clear hS1;go_enter Tryz.func132,Tryz.ntmps132;go_wp2_with(first|refine zl1 hS ?_|(with_reducible apply Ae7 hS);rfl;rfl;rfl;rfl;exact esS;exact rsS;rfl;decide;exact j5;exact Src.mk (i8.there (i8.there i8.sb));(focus(rw[jM,Ay7,Nat.mul_one]));exact Be7 _;(focus(unfold maxLen;omega));(focus(omega));clear hS;intro v w hS;(have hv:=hS.rowVal;obtain⟨va,vc,rfl⟩:=hv);refine frS ?_|refine zs1 hS ?_;clear hS;intro w hS);go_end0;have hS1:=hS.s (row (.slice va (d.length+s.size) vc) 1 _ _ _::blk wb _ _::sbR g s::R);have h0:St W (row (.slice va (d.length+s.size) vc) 1 5 (d.length+s.size) (u8s d++u8s (D6 s))::_) w:=hS1;rw[<-AB7]at h0;exact⟨rfl,cL4 (AN7 (by rw[jA,Ay7]) h0).swap⟩
def WbR(W:World)(F:List Int->List HP)(d:List Int)(s:ByteArray)(v:Value)(w:World):Prop:=
 (v=.I 0/\St W (F d) w)\/(v=.I 1/\St W (F (d++C9 s)) w)
theorem KG7(wb:Nat)(d:List Int)(s:ByteArray)(b g c c1:Nat)(hd:d.length<=90000000)(hs:s.size<=1000000)(W w:World)(R:List HP)(hS:St W (wrR wb d::blk b [.S g s.size c] 63::sbR g s::R) w):
  Calls Tryz.prog 66 #[.P wb,.S b 1 c1] w fun e w'=>e=.returned (.tuple #[])/\St W (wrR wb (d++C9 s)::blk b [.S g s.size c] 63::sbR g s::R) w':=by
 have hln:=Ak7 s.size;go_enter Tryz.func66,Tryz.ntmps66;go_wp2_with(fail)
 go_loopw [8] (fun v wr=>WbR W (fun q=>wrR wb q::blk b [.S g s.size c] 63::sbR g s::R) d s v wr) (fun v _=>1-(intOf v).toNat)
 case atStart=>exact .inl ⟨rfl,hS⟩
 case round=>
  clear hS
  rcases hrel with ⟨rfl,hS⟩|⟨rfl,hS⟩
  ·have hn:∀x∈[(s.size:Int)], -9223372036854775808<=x/\x<=9223372036854775807:=by
    intro x hx;rw[List.mem_singleton.1 hx];exact⟨by omega,by omega⟩
   have Hn:=jH hn;clear hn;have hdl:(d++[(s.size:Int)].flatMap m6).length<=90001000:=by rw[jA];simp;omega
   have e:d++[(s.size:Int)].flatMap m6++D6 s=d++C9 s:=by unfold C9;rw[jS];simp
   have Hdl:=jH hdl;have E:=jH e;clear hdl e;go_wp2_with(first|refine zl1 hS ?_|refine zbs hS ?_;clear hS;intro bS w hS|go_at_call 65;refine(OQ7 wb d [(s.size:Int)] bS 1 hd (by simp) Hn.out W _ _ (hS.s (wrR wb d::blk bS _ _::blk b _ _::sbR g s::R))).mono ?_;clear hS;rintro e w ⟨rfl,hS⟩|go_at_call 132;refine(gp4 wb _ s g c Hdl.out hs W _ _ (hS.s (wrR wb _::sbR g s::blk b _ _::R))).mono ?_;clear hS;rw[E.out];rintro e w ⟨rfl,hS⟩);go_roundw
   case rel=>exact .inr ⟨rfl,hS.s _⟩
   case measure=>simp[intOf]
  ·go_wp2_with(fail);go_end0;exact⟨rfl,hS⟩
theorem TB7(d:List Int)(g c:Nat)(hd:d.length<=100000000)(W w:World)(R:List HP)(hS:St W (byR (.S g d.length c) d::R) w):
  Calls Tryz.prog 138 #[.S g d.length c] w fun e w'=>∃v,e=.returned v/\St W (byR v d::byR (.S g d.length c) d::R) w':=by
 go_enter Tryz.func138,Tryz.ntmps138;go_wp2_with(first|(with_reducible apply TA7);rfl;rfl;rfl;rfl;exact Tryz.underlying63;refine frS ?_|(with_reducible apply Bq7 (n:=0) hS);rfl;rfl;(focus(simp only[fD,fI,fJ,Act.eval,fE,fF,fG,fH,fK];try rfl));exact esS;exact rsS;rfl;rfl;rfl;rfl;rfl;decide;clear hS;intro bv w hS;refine frS ?_|(with_reducible apply Ae7 hS);rfl;rfl;rfl;rfl;exact esS;exact rsS;rfl;decide;exact j5;exact(St.src (by decide) hS.drop).there;(focus(rw[AS7,Nat.mul_one]));exact Be7 _;(focus(unfold maxLen;omega));(focus(omega));clear hS;intro v w hS;(have hv:=hS.rowVal;obtain⟨va,vc,rfl⟩:=hv);refine frS ?_);go_ret;refine⟨_,rfl,?_⟩;have h0:St W (row (.slice va (0+d.length) vc) 1 5 (0+d.length) (u8s ([]++d))::_) w:=hS;have h2:=AN7 (by rw[jN,Nat.zero_add]) h0;rw[jN]at h2;exact h2
theorem eJ4(wb:Nat)(d:List Int)(hd:d.length<=100000000)(h0:0<d.length)(W w:World)(R:List HP)(hS:St W (wrR wb d::R) w):
  Calls Tryz.prog 72 #[.P wb] w fun e w'=>∃v,e=.returned v/\St W (byR v d::wrR wb d::R) w':=by
 obtain⟨wa,wc,hS1⟩:=dw4 hS;clear hS;have hS:=hS1;clear hS1;obtain⟨⟨g,rfl⟩,hcap,hcn⟩:=St.rowAddr hS.drop (by omega);go_enter Tryz.func72,Tryz.ntmps72;go_wp2_with(first|refine zl1 hS ?_|go_at_call 138;refine(TB7 d g wc hd W _ _ hS.swap).mono ?_;clear hS;rintro e w ⟨v,rfl,hS⟩);go_ret;have hS1:=hS.s (blk wb _ _::byR (.S g d.length wc) d::byR v d::R);exact⟨v,rfl,(cL4 hS1).swap⟩
theorem eK4{W w:World}{wb:Nat}{L:List HP}(h:St W (blk wb [.slice none 0 0] 119::L) w):St W (wrR wb []::L) w:=by have h1:=(h.rowNil (k:=1) (T:=5)).swap;exact cL4 (d:=[]) h1
theorem Ex7(n:Int):0<(m6 n).length:=by unfold m6;rw[show(8:Nat)=7+1 from rfl,aU4];split <;> simp
theorem bq4(wb:Nat)(d:List Int)(x:Int)(b c:Nat)(hd:d.length<=90000000)(hx : -9223372036854775808<=x/\x<=9223372036854775807)(W w:World)(R:List HP)(hS:St W (wrR wb d::blk b [.I x] 3::R) w):
  Calls Tryz.prog 65 #[.P wb,.S b 1 c] w fun e w'=>e=.returned (.tuple #[])/\St W (wrR wb (d++m6 x)::blk b [.I x] 3::R) w':=by
 have h:=OQ7 wb d [x] b c hd (by simp) (fun y hy=>by rw[List.mem_singleton.1 hy];exact hx) W w R hS;simpa using h
theorem dx4(wb:Nat)(d:List Int)(x0 x1 x2 x3:Int)(g off c:Nat)(hd:d.length<=90000000)(hn:∀x∈[x0,x1,x2,x3], -9223372036854775808<=x/\x<=9223372036854775807)(W w:World)(R:List HP)(hc0:i9 R g off (.I x0))(hc1:i9 R g (off+1) (.I x1))(hc2:i9 R g (off+2) (.I x2))(hc3:i9 R g (off+3) (.I x3))(hS:St W (wrR wb d::R) w):
  Calls Tryz.prog 65 #[.P wb,.slice (some ⟨g,off,none⟩) 4 c] w fun e w'=>e=.returned (.tuple #[])/\St W (wrR wb (d++r7 [x0,x1,x2,x3])::R) w':=
 SO7 wb d [x0,x1,x2,x3] g off c hd (by simp) hn W w R (fun i hi=>by
  have hi4:i=0\/i=1\/i=2\/i=3:=by simp at hi;omega
  rcases hi4 with rfl|rfl|rfl|rfl
  ·exact hc0
  ·exact hc1
  ·exact hc2
  ·exact hc3) hS
def CwR{α:Type}(W:World)(F:List HP)(wb:Nat)(f:α->List Int)(base:List Int)(xs:List α)(v:Value)(w:World):Prop:=
 ∃k:Nat,v=.I k/\k<=xs.length/\St W (wrR wb (base++(xs.take k).flatMap f)::F) w
theorem dy4(vb mb bb:Nat)(p:Ps)(L:List Ord)(n:Int){N:Nat}(hp:N5 p)(hw:PsW p N)(hN:N<=1000000)(hn0:1<=n)(hn1:n<=1099511627777)(W w:World)(R:List HP)(hS:St W (B7 vb mb bb p L n R) w):
  Calls Tryz.prog 67 #[.P vb] w fun e w'=>∃v,e=.returned v/\St W (byR v (I5 p L n)::B7 vb mb bb p L n R) w':=by
 have hlh:(hdL p).length<=1000000:=by rw[Bl7];exact Nat.le_trans hw.len hN
 have hl32:=Cd7 hS.drop.drop;have hmay:∀x∈L,MayP x:=fun x hx=>(Bn7 hS.drop.drop x hx).1
 have hhw:∀x∈hdL p,x.who.size<=16/\x8 x.has=true:=fun x hx=>by refine⟨?_,by rw[CS7 hx];exact hp _⟩;have hk:x.who∈(hdL p).map Hd.who:=List.mem_map_of_mem hx;rw[DN7]at hk;obtain⟨y,hy,e⟩:=Hz7 hk;rw[<-e];exact Dh7 (hw.who y hy)
 have hN2:N<=1000000000:=by omega
 have Hmay:=jH hmay;have Hhw:=jH hhw;have Hw:=jH hw;clear hmay hw hp hhw;unfold I5;go_enter Tryz.func67,Tryz.ntmps67;go_wp2_with(first|go_at_call 124;refine(Dy7 vb mb bb p L n Hw.out hN2 W _ _ hS).mono ?_;clear hS;rintro e w ⟨sa,sc,oa,oc,rfl,hS⟩|(fail_if_success (have:=wb));(with_reducible apply Al7 hS);rfl;rfl;exact zsS;clear hS;intro wb w hS;refine frS ?_|refine zbs hS ?_;clear hS;intro bS w hS|go_at_call 65;refine(bq4 wb [] ((hdL p).length:Int) bS 1 (by simp) ⟨by omega,by omega⟩ W _ _ (eK4 (hS.s (blk wb _ _::blk bS _ _::blk vb _ _::d8 eS eP mb p::w7 bb L n::hdR (.slice sa (hdL p).length sc) (hdL p)::j8 (.slice oa L.length oc) L::R)))).mono ?_;clear hS;rw[jN];rintro e w ⟨rfl,hS⟩);have hS1:=hS.s (wrR wb _::blk vb _ _::d8 eS eP mb p::w7 bb L n::hdR (.slice sa (hdL p).length sc) (hdL p)::j8 (.slice oa L.length oc) L::R);clear hS;have hS:=hS1;clear hS1;generalize hhs:hdL p=hs at hS hlh Hhw;have Hhs:=jH hhs;clear hhs
 go_loopw [26] (fun v wr=>CwR W (B7 vb mb bb p L n (hdR (.slice sa hs.length sc) hs::j8 (.slice oa L.length oc) L::R)) wb T7 (m6 hs.length) hs v wr) (fun v _=>hs.length-(intOf v).toNat)
 case atStart=>exact⟨0,rfl,Nat.zero_le _,by simpa using hS⟩
 case round=>
  clear hS;obtain⟨k,rfl,hkl,hS⟩:=hrel;by_cases hkn:k=hs.length
  ·rw[hkn,List.take_length]at hS;have hd1:decide (k<hs.length)=false:=by simp;omega
   clear hkl hkn;have hlkk:=Ak7 hs.length;generalize hacc:m6 hs.length++hs.flatMap T7=acc at hS
   have hal:acc.length<=70000100:=by
    have h1:=Bz7 T7 hs fun x hx=>Ew7 x (Hhw.out x hx).1
    rw[<-hacc,jA];omega
   have Hacc:=jH hacc;clear hacc hlkk;have hln:=Ak7 L.length;go_wp2_with(first|refine zbs hS ?_;clear hS;intro bS w hS|go_at_call 65;refine(bq4 wb acc (L.length:Int) bS 1 (by omega) ⟨by omega,by omega⟩ W _ _ (hS.s (wrR wb acc::blk bS _ _::blk vb _ _::d8 eS eP mb p::w7 bb L n::hdR _ hs::j8 (.slice oa L.length oc) L::R))).mono ?_;clear hS;rintro e w ⟨rfl,hS⟩);have hS1:=hS.s (wrR wb _::blk vb _ _::d8 eS eP mb p::w7 bb L n::hdR (.slice sa hs.length sc) hs::j8 (.slice oa L.length oc) L::R);clear hS;have hS:=hS1;clear hS1
   go_loopw [45] (fun v wr=>CwR W (B7 vb mb bb p L n (hdR (.slice sa hs.length sc) hs::j8 (.slice oa L.length oc) L::R)) wb S5 (acc++m6 L.length) L v wr) (fun v _=>L.length-(intOf v).toNat)
   case atStart=>exact⟨0,rfl,Nat.zero_le _,by simpa using hS⟩
   case round=>
    clear hS;obtain⟨j,rfl,hjl,hS⟩:=hrel;by_cases hjn:j=L.length
    ·rw[hjn,List.take_length]at hS;have hd2:decide (j<L.length)=false:=by simp;omega
     clear hjl hjn;have hlo:=Bz7 S5 L fun x hx=>DB7 x (Hmay.out x hx).who1
     generalize hd:acc++m6 L.length++L.flatMap S5=d at hS;have hdl:d.length<=70010000:=by rw[<-hd,jA,jA];omega
     have Hd2:=jH hd;have hlq:=Ak7 n;have hlz:0<(d++m6 n).length:=by have:0<(m6 n).length:=Ex7 n;rw[jA];omega
     have hlz2:(d++m6 n).length<=100000000:=by rw[jA];omega
     have Hz:=jH hlz;have Hz2:=jH hlz2;clear hd hlz hlz2;go_wp2_with(first|refine zbs hS ?_;clear hS;intro bS w hS|go_at_call 65;refine(bq4 wb d n bS 1 (by omega) ⟨by omega,by omega⟩ W _ _ (hS.s (wrR wb d::blk bS _ _::blk vb _ _::d8 eS eP mb p::w7 bb L n::hdR _ hs::j8 (.slice oa L.length oc) L::R))).mono ?_;clear hS;rintro e w ⟨rfl,hS⟩|go_at_call 72;refine(eJ4 wb _ Hz2.out Hz.out W _ _ hS).mono ?_;clear hS;rintro e w ⟨vo,rfl,hS⟩);go_ret;refine⟨vo,rfl,?_⟩;rw[Hhs.out,Hacc.out,Hd2.out];exact hS.s _
    ·have hj1:j<L.length:=by omega
     obtain⟨⟨g,rfl⟩,hcap,hcn⟩:=St.rowAddr hS.drop.drop.drop.drop.drop (by omega);have hcells:∀{K K':List HP},Take K (j8 (.S g L.length oc) L) K'->i8 K g (j*6) (Ord.cells L[j]):=fun hu=>i8.elemM (enc:=Ord.cells) Ord.len hu hj1
     have hst:=Bj7 S5 (acc++m6 L.length) L hj1;have hmx:=Hmay.out _ (jW hj1);have hlt:=Bz7 S5 (L.take j) fun x hx=>DB7 x (Hmay.out x (List.mem_of_mem_take hx)).who1
     rw[jT]at hlt;generalize hd:acc++m6 L.length++(L.take j).flatMap S5=d at hS hst;have hdl:d.length<=70010000:=by rw[<-hd,jA,jA];omega
     generalize L[j]=x at hcells hst hmx;obtain⟨oi,ou,oy,ot,oc2,op⟩:=x;have i0:1<=oi:=hmx.id0;have i1:oi<=1099511627776:=hmx.id1;have w1:ou.size<=16:=hmx.who1;have t0:1<=ot:=hmx.item0;have t1:ot<=3:=hmx.item1;have c0:1<=oc2:=hmx.cnt0;have c1:oc2<=1048576:=hmx.cnt1;have p0:1<=op:=hmx.price0;have p1:op<=1024:=hmx.price1;have l1:=Ak7 oi;have l4:=BS7 ou w1;have Hst:=jH hst;clear hst hmx hd hlt hjn hjl;simp only[Ord.cells]at hcells;have hq1:(d++m6 oi).length<=90000000:=by rw[jA];omega
     have hq2:(d++m6 oi++C9 ou).length<=90000000:=by rw[jA,jA];omega
     have Hq1:=jH hq1;have Hq2:=jH hq2;clear hq1 hq2
     cases oy with
     | false=>
      have Hst2:=jH (show acc++m6 L.length++(L.take (j+1)).flatMap S5=d++m6 oi++C9 ou++r7 [0,ot,oc2,op]by rw[Hst.out];unfold S5;simp[bJ4,jS])
      have hn:∀x∈[(0:Int),ot,oc2,op], -9223372036854775808<=x/\x<=9223372036854775807:=by
       intro x hx;simp only[List.mem_cons,List.not_mem_nil,or_false]at hx
       rcases hx with rfl|rfl|rfl|rfl
       all_goals exact⟨by omega,by omega⟩
      have Hn:=jH hn;clear hn;go_wp2_with(first|refine zlN hS ?_ (hc:=by exact hcells (by exact j5))|(fail_if_success (have:=b8));((have:=wb);(with_reducible apply Al7 hS);rfl;rfl;exact zsS;clear hS;intro b8 w hS;refine frS ?_)|refine zsN hS ?_;clear hS;intro w hS|refine zl1 hS ?_|(with_reducible apply AA7 hS);rfl;rfl;rfl;exact Tryz.underlying9;exact Tryz.underlying63;exact Tryz.underlying5;clear hS;intro g9 c9 w hS;refine frS ?_|refine zbs hS ?_;clear hS;intro bS w hS|(fail_if_success (have:=mN1));go_at_call 65;refine(bq4 wb d oi bS 1 (by omega) ⟨by omega,by omega⟩ W _ _ (hS.s (wrR wb d::blk bS _ _::blk b8 _ _::blk vb _ _::d8 eS eP mb p::w7 bb L n::hdR _ hs::j8 _ L::R))).mono ?_;clear hS;rintro e w ⟨rfl,hS⟩;have mN1:Nat:=0|go_at_call 66;(have hS2:St W (blk bS [.S g9 ou.size c9] 63::_) _:=hS);refine(KG7 wb (d++m6 oi) ou bS g9 c9 1 Hq1.out (by omega) W _ _ (hS2.s (wrR wb _::blk bS _ _::sbR g9 ou::blk b8 _ _::blk vb _ _::d8 eS eP mb p::w7 bb L n::hdR _ hs::j8 _ L::R))).mono ?_;clear hS hS2;rintro e w ⟨rfl,hS⟩|(have:=mN1);go_at_call 65;(have hS2:St W (blk bS [.I 0,.I ot,.I oc2,.I op] 3::_) _:=hS);refine(dx4 wb (d++m6 oi++C9 ou) 0 ot oc2 op bS 0 4 Hq2.out Hn.out W _ (blk bS [.I 0,.I ot,.I oc2,.I op] 3::blk vb _ _::d8 eS eP mb p::w7 bb L n::hdR _ hs::j8 _ L::R) (i9.here rfl) (i9.here rfl) (i9.here rfl) (i9.here rfl) (hS2.s _)).mono ?_;clear hS hS2;rintro e w ⟨rfl,hS⟩);go_roundw
      case rel=>exact⟨j+1,rfl,hj1,by rw[Hst2.out];exact hS.s _⟩
      case measure=>simp[intOf];omega
     | true=>
      have Hst2:=jH (show acc++m6 L.length++(L.take (j+1)).flatMap S5=d++m6 oi++C9 ou++r7 [1,ot,oc2,op]by rw[Hst.out];unfold S5;simp[bJ4,jS])
      have hn:∀x∈[(1:Int),ot,oc2,op], -9223372036854775808<=x/\x<=9223372036854775807:=by
       intro x hx;simp only[List.mem_cons,List.not_mem_nil,or_false]at hx
       rcases hx with rfl|rfl|rfl|rfl
       all_goals exact⟨by omega,by omega⟩
      have Hn:=jH hn;clear hn;go_wp2_with(first|refine zlN hS ?_ (hc:=by exact hcells (by exact j5))|(fail_if_success (have:=b8));((have:=wb);(with_reducible apply Al7 hS);rfl;rfl;exact zsS;clear hS;intro b8 w hS;refine frS ?_)|refine zsN hS ?_;clear hS;intro w hS|refine zl1 hS ?_|(with_reducible apply AA7 hS);rfl;rfl;rfl;exact Tryz.underlying9;exact Tryz.underlying63;exact Tryz.underlying5;clear hS;intro g9 c9 w hS;refine frS ?_|refine zbs hS ?_;clear hS;intro bS w hS|(fail_if_success (have:=mN1));go_at_call 65;refine(bq4 wb d oi bS 1 (by omega) ⟨by omega,by omega⟩ W _ _ (hS.s (wrR wb d::blk bS _ _::blk b8 _ _::blk vb _ _::d8 eS eP mb p::w7 bb L n::hdR _ hs::j8 _ L::R))).mono ?_;clear hS;rintro e w ⟨rfl,hS⟩;have mN1:Nat:=0|go_at_call 66;(have hS2:St W (blk bS [.S g9 ou.size c9] 63::_) _:=hS);refine(KG7 wb (d++m6 oi) ou bS g9 c9 1 Hq1.out (by omega) W _ _ (hS2.s (wrR wb _::blk bS _ _::sbR g9 ou::blk b8 _ _::blk vb _ _::d8 eS eP mb p::w7 bb L n::hdR _ hs::j8 _ L::R))).mono ?_;clear hS hS2;rintro e w ⟨rfl,hS⟩|(have:=mN1);go_at_call 65;(have hS2:St W (blk bS [.I 1,.I ot,.I oc2,.I op] 3::_) _:=hS);refine(dx4 wb (d++m6 oi++C9 ou) 1 ot oc2 op bS 0 4 Hq2.out Hn.out W _ (blk bS [.I 1,.I ot,.I oc2,.I op] 3::blk vb _ _::d8 eS eP mb p::w7 bb L n::hdR _ hs::j8 _ L::R) (i9.here rfl) (i9.here rfl) (i9.here rfl) (i9.here rfl) (hS2.s _)).mono ?_;clear hS hS2;rintro e w ⟨rfl,hS⟩);go_roundw
      case rel=>exact⟨j+1,rfl,hj1,by rw[Hst2.out];exact hS.s _⟩
      case measure=>simp[intOf];omega
  ·have hk1:k<hs.length:=by omega
   obtain⟨⟨g,rfl⟩,hcap,hcn⟩:=St.rowAddr hS.drop.drop.drop.drop (by omega);have hcells:∀{K K':List HP},Take K (hdR (.S g hs.length sc) hs) K'->i8 K g (k*5) (Hd.cells hs[k]):=fun hu=>i8.elemM (enc:=Hd.cells) Hd.len hu hk1
   have hst:=Bj7 T7 (m6 hs.length) hs hk1;have hmx:=Hhw.out _ (jW hk1);have hlt:=Bz7 T7 (hs.take k) fun x hx=>Ew7 x (Hhw.out x (List.mem_of_mem_take hx)).1
   rw[jT]at hlt;have hlk:=Ak7 hs.length;generalize hd:m6 hs.length++(hs.take k).flatMap T7=d at hS hst;have hdl:d.length<=70000100:=by rw[<-hd,jA];omega
   generalize hs[k]=x at hcells hst hmx;obtain⟨xw,⟨x0,x1,x2,x3⟩⟩:=x;obtain⟨w1,hit⟩:=hmx;simp only at w1;obtain⟨a0,a1,a2,a3⟩:=Af7.1 hit;simp only at a0 a1 a2 a3
   have hn:∀x∈[x0,x1,x2,x3], -9223372036854775808<=x/\x<=9223372036854775807:=by
    intro x hx;simp only[List.mem_cons,List.not_mem_nil,or_false]at hx
    rcases hx with rfl|rfl|rfl|rfl
    all_goals exact⟨by omega,by omega⟩
   have l4:=BS7 xw w1;have hdl2:(d++C9 xw).length<=90000000:=by rw[jA];omega
   have Hdl2:=jH hdl2;have Hn:=jH hn;have Hst:=jH (show m6 hs.length++(hs.take (k+1)).flatMap T7=d++C9 xw++r7 [x0,x1,x2,x3]by rw[hst,jS];rfl);clear hst hit hd hlt hkn hkl hdl2 hn;simp only[Hd.cells,It.cells]at hcells;go_wp2_with(first|refine zlN hS ?_ (hc:=by exact hcells (by exact j5))|(fail_if_success (have:=b8));((have:=wb);(with_reducible apply Al7 hS);rfl;rfl;exact zsS;clear hS;intro b8 w hS;refine frS ?_)|refine zsN hS ?_;clear hS;intro w hS|refine zl1 hS ?_|(with_reducible apply AA7 hS);rfl;rfl;rfl;exact Tryz.underlying9;exact Tryz.underlying63;exact Tryz.underlying5;clear hS;intro g9 c9 w hS;refine frS ?_|(with_reducible apply fj4 hS);rfl;rfl;(focus(simp only[fD,fI,fJ,Act.eval,fE,fF,fG,fH,fK];try rfl));exact esS;exact rsS;rfl;rfl;rfl;rfl;clear hS;intro bT w hS;refine frS ?_|go_at_call 66;refine(KG7 wb d xw bT g9 c9 1 (by omega) (by omega) W _ _ (hS.s (wrR wb d::blk bT _ _::sbR g9 xw::blk b8 _ _::blk vb _ _::d8 eS eP mb p::w7 bb L n::hdR _ hs::j8 _ L::R))).mono ?_;clear hS;rintro e w ⟨rfl,hS⟩|go_at_call 65;refine(dx4 wb (d++C9 xw) x0 x1 x2 x3 b8 1 4 Hdl2.out Hn.out W _ (blk b8 [.string xw,.I x0,.I x1,.I x2,.I x3] 189::blk vb _ _::d8 eS eP mb p::w7 bb L n::hdR _ hs::j8 _ L::R) (i9.here rfl) (i9.here rfl) (i9.here rfl) (i9.here rfl) (hS.s _)).mono ?_;clear hS;rintro e w ⟨rfl,hS⟩);go_roundw
   case rel=>exact⟨k+1,rfl,hk1,by rw[Hst.out];exact hS.s _⟩
   case measure=>simp[intOf];omega
end Go.Proofs.YtlmhakmoioogaaaGreat
end
section
namespace Go.Sl
open Go.RowKit
structure Same(L L':List HP):Prop where
 to:∀{f:ad4},sats L f->sats L' f
 back:∀{f:ad4},sats L' f->sats L f
theorem Same.refl{L:List HP}:Same L L:=⟨fun h=>h,fun h=>h⟩
theorem Same.of{A:HP}{L R R':List HP}(h:Take L A R)(h2:Same R R'):Same L (A::R'):=
 ⟨fun hs=>AO7 (fun _ x=>x) (fun _ x=>h2.to x) (h.sats hs),fun hs=>h.back (AO7 (fun _ x=>x) (fun _ x=>h2.back x) hs)⟩
theorem Same.st{W w:World}{L L':List HP}(h:Same L L')(hS:St W L w):St W L' w:=⟨hS.os,hS.tape,hS.output,h.to hS.sat⟩
theorem Same.ts{W w:World}{L L':List HP}{X:HP}(h:Same L L')(hS:St W (X::L') w):St W (X::L) w:=⟨hS.os,hS.tape,hS.output,AO7 (fun _ x=>x) (fun _ x=>h.back x) hS.sat⟩
def E7(ns:List Int):ByteArray:=ns.foldl (fun r n=>r.push (UInt8.ofNat n.toNat)) ByteArray.empty
section
variable{P:Program}{W:World}{ops:Array Oper}{t:List Nat}{toks:List Tok}{fresh:Nat->Bool}{pin:Nat->Option Value}{Qf:Act->Prop}{nd:Nat->Value}{i:Nat}{l:List Oper}{a:Act}{o:Oper}
theorem UT7{ty t2:TypeId}{x y:Operand}{xs ys:Array Value}{r:Bool}(hf:fresh i=false)(hn:ay4 toks i=true)(ho:o.op=.binOp .eql ty x y t2)(hg:Region.wanted o (yielded ops a.tmps)=true)(hx:a.eval x=.agg xs)(hy:a.eval y=.agg ys)(hm:P.eqGuardType P.depth ty=false)(hr:∀w:World,(Op.equalIn 10000 ty (.agg xs) (.agg ys)).run P w=.ok r w)
  (h:t8 P W ops t toks fresh pin Qf nd (i+1) l (a.put o.dst (.bool r))):t8 P W ops t toks fresh pin Qf nd i (o::l) a:=
 Ft7 hf hn hg (fun F w _=>by unfold execOp;simp[ho,hx,hy,run_eqGuard_agg w .eql ty x y xs ys hm,run_eql_struct,hr]) h
theorem GE7{src dst e:TypeId}{x:Operand}{v0:Value}{ns:List Int}(hf:fresh i=false)(hn:ay4 toks i=true)(ho:o.op=.convert src dst x)(hg:Region.wanted o (yielded ops a.tmps)=true)(hx:a.eval x=v0)
  (hs:P.underlying src=some (.slice e)) (he:P.underlying e=some (.int .u8)) (hd:P.underlying dst=some .string) (hp:0<ns.length) (hr:∀F, ∃R,Take (kpL toks t i nd++F) (row v0 1 e ns.length (ns.map (Value.int .u8))) R)
  (h:t8 P W ops t toks fresh pin Qf nd (i+1) l (a.put o.dst (.string (E7 ns)))):t8 P W ops t toks fresh pin Qf nd i (o::l) a:=
 Ft7 hf hn hg (fun F w hS=>by obtain⟨R,hu⟩:=hr F;have hS1:=hS.take hu;obtain⟨b,c,rfl⟩:=hS1.rowVal;obtain⟨⟨g,rfl⟩,_,_⟩:=St.rowAddr hS1 hp;have h1:=run_loadCells_list (P:=P) w ⟨g,0,none⟩ (ns.map (Value.int .u8)) (fun j v hj=>by rw[Addr.add_lit,Nat.zero_add];exact i9.row hp hj W w hS1);rw[jM]at h1;have h2:=run_bytesToString (P:=P) w ⟨g,0,none⟩ ns.length c ns h1;unfold execOp;simp[ho,hx,run_convert_bytes_string w src dst e (jP g) ns.length c hs he hd,h2,E7]) h
end
end Go.Sl
namespace Go.Proofs.YtlmhakmoioogaaaGreat
open Go.RowKit Go.Sl
section
variable{W w:World}{vb mb bb xb xB:Nat}{p:Ps}{L:List Ord}{n:Int}{N:Nat}{L1 R3:List HP}
end
def ByB(s:List Int):Prop:=∀c∈s,0<=c/\c<=255
theorem Il7{s:List Int}(h:ByB s)(n:Nat):ByB (s.drop n):=fun c hc=>h c (List.mem_of_mem_drop hc)
theorem Im7{s:List Int}(h:ByB s)(n:Nat):ByB (s.take n):=fun c hc=>h c (List.mem_of_mem_take hc)
theorem TC7{s t:List Int}(h:ByB (s++t)):ByB s/\ByB t:=⟨fun c hc=>h c (List.mem_append_left _ hc),fun c hc=>h c (List.mem_append_right _ hc)⟩
def aN4:Nat->Bool->List Int->Option (Nat×List Int)
 | _,_,[]=>none
 | f,z,c::s=>if c<128 then(if z=false/\c=0 then none else some (c.toNat,s))else
  match f with
  | 0=>none
  | f+1=>
   match aN4 f false s with
   | none=>none
   | some (v,r)=>some ((c-128).toNat+128*v,r)
theorem Rg7(f:Nat)(z:Bool):aN4 f z []=none:=by unfold aN4;rfl
theorem HB7{f:Nat}{z:Bool}{c:Int}{s:List Int}(h:c<128):aN4 f z (c::s)=if z=false/\c=0 then none else some (c.toNat,s):=by unfold aN4;rw[if_pos h]
theorem OR7{z:Bool}{c:Int}{s:List Int}(h:¬c<128):aN4 0 z (c::s)=none:=by unfold aN4;rw[if_neg h]
theorem Rh7{f:Nat}{z:Bool}{c:Int}{s:List Int}(h:¬c<128):aN4 (f+1) z (c::s)=match aN4 f false s with
  | none=>none
  | some (v,r)=>some ((c-128).toNat+128*v,r):=by
 rw[aN4,if_neg h]
def cz4(s:List Int):Option (Nat×List Int):=
 match aN4 8 true s with
 | none=>none
 | some (u,r)=>if u<=4611686018427387904 then some (u,r)else none
theorem LU7:∀(f u:Nat) (z:Bool) (r:List Int),u<128^(f+1)->(z=true\/u≠0)->aN4 f z (aU4 f u++r)=some (u,r)
 | 0,u,z,r,hu,hz=>by
  show aN4 0 z ((u:Int)::r)=_
  have h1:(u:Int)<128:=by simp at hu;omega
  have h2:¬(z=false/\(u:Int)=0):=by
   rintro⟨h3,h4⟩
   rcases hz with h5|h5
   ·rw[h3]at h5;cases h5
   ·omega
  unfold aN4;rw[if_pos h1,if_neg h2];simp
 | f+1,u,z,r,hu,hz=>by
  rw[aU4];by_cases h:128<=u
  ·rw[if_pos h,jK];have hu3:u / 128<128^(f+1):=Nat.div_lt_of_lt_mul (by rw[Nat.pow_succ]at hu;omega);have ih:=LU7 f (u / 128) false r hu3 (.inr (by omega));unfold aN4;rw[if_neg (by omega)];dsimp only;rw[ih];simp only[Option.some.injEq,Prod.mk.injEq,and_true];omega
  ·rw[if_neg h];have h1:(u:Int)<128:=by omega
   have h2:¬(z=false/\(u:Int)=0):=by
    rintro⟨h3,h4⟩
    rcases hz with h5|h5
    ·rw[h3]at h5;cases h5
    ·omega
   show aN4 (f+1) z ((u:Int)::r)=_
   unfold aN4;rw[if_pos h1,if_neg h2];simp
theorem Ri7(n:Int)(r:List Int):cz4 (m6 n++r)=some (bh4 n,r):=by have h:=Ij7 n;unfold cz4 m6;rw[LU7 8 (bh4 n) true r (Fm7 h) (.inl rfl)];exact if_pos h
theorem LV7:∀(s:List Int) (f:Nat) (z:Bool) (u:Nat) (r:List Int),ByB s->aN4 f z s=some (u,r)->s=aU4 f u++r/\u<128^(f+1)/\(z=false->u≠0)
 | [],f,z,u,r,_,h=>by
  unfold aN4 at h
  cases h
 | c::s,f,z,u,r,hb,h=>by
  have hc:=hb c (List.mem_cons_self ..);unfold aN4 at h;by_cases h1:c<128
  ·rw[if_pos h1]at h;by_cases h2:z=false/\c=0
   ·rw[if_pos h2]at h;cases h
   ·rw[if_neg h2]at h;simp only[Option.some.injEq,Prod.mk.injEq]at h;obtain⟨rfl,rfl⟩:=h;have h3:((c.toNat:Nat):Int)=c:=by omega
    have h4:c.toNat<128:=by omega
    refine⟨?_,?_,?_⟩
    ·rw[BW7 h4,h3];rfl
    ·have h5:0<128^f:=Nat.pow_pos (by decide);rw[Nat.pow_succ];omega
    ·intro hz h5;exact h2 ⟨hz,by omega⟩
  ·rw[if_neg h1]at h
   cases f with
   | zero=>cases h
   | succ f=>
    simp only at h
    cases hd:aN4 f false s with
    | none=>rw[hd]at h;cases h
    | some x=>
     obtain⟨v,r2⟩:=x;rw[hd]at h;simp only[Option.some.injEq,Prod.mk.injEq]at h;obtain⟨rfl,rfl⟩:=h;obtain⟨i1,i2,i3⟩:=LV7 s f false v r2 (fun x hx=>hb x (List.mem_cons_of_mem _ hx)) hd;have hv:=i3 rfl;have h6:(c-128).toNat<128:=by omega
     refine⟨?_,?_,?_⟩
     ·rw[aU4,if_pos (by omega)];have e1:((c-128).toNat+128*v) / 128=v:=by omega
      have e2:((((c-128).toNat+128*v)%128+128:Nat):Int)=c:=by omega
      rw[e1,e2,jK,<-i1]
     ·rw[Nat.pow_succ];omega
     ·omega
theorem Rj7{s r:List Int}{u:Nat}(hb:ByB s)(h:cz4 s=some (u,r)):s=m6 u++r/\u<=4611686018427387904:=by
 unfold cz4 at h
 cases hd:aN4 8 true s with
 | none=>rw[hd]at h;cases h
 | some x=>
  obtain⟨v,r2⟩:=x;rw[hd]at h;simp only at h;by_cases hv:v<=4611686018427387904
  ·rw[if_pos hv]at h;simp only[Option.some.injEq,Prod.mk.injEq]at h;obtain⟨rfl,rfl⟩:=h;obtain⟨i1,i2,i3⟩:=LV7 s 8 true v r2 hb hd;refine⟨?_,hv⟩
   have e:bh4 (v:Int)=v:=by
    unfold bh4;split
    ·omega
    ·split
     ·simp
     ·omega
   unfold m6;rw[e];exact i1
  ·rw[if_neg hv]at h;cases h
theorem Rk7{n:Int}(h0:0<=n)(h1:n<=4611686018427387904):((bh4 n:Nat):Int)=n:=by
 unfold bh4
 repeat' split
 all_goals omega
abbrev RS:=Option (List Int)
def j7:RS->Int×RS
 | none=>(0,none)
 | some l=>
  match cz4 l with
  | none=>(0,none)
  | some (u,r)=>((u:Int),some r)
def aW4(n:Int):RS->List Int×RS
 | none=>([],none)
 | some l=>if 0<=n/\n<=l.length then(l.take n.toNat,some (l.drop n.toNat))else([],none)
def m8(s:RS):List Int×RS:=aW4 (j7 s).1 (j7 s).2
def I6:Nat->RS->List Int×RS
 | 0,s=>([],s)
 | k+1,s=>((j7 s).1::(I6 k (j7 s).2).1,(I6 k (j7 s).2).2)
def BS(s:RS):Prop:=∀l,s=some l->ByB l
theorem CM7{l r:List Int}{n:Int}(hb:ByB l)(h:j7 (some l)=(n,some r)):l=m6 n++r/\0<=n/\n<=4611686018427387904/\ByB r:=by
 unfold j7 at h;simp only at h
 cases hd:cz4 l with
 | none=>rw[hd]at h;cases h
 | some x=>
  obtain⟨u,r2⟩:=x;rw[hd]at h;simp only[Prod.mk.injEq,Option.some.injEq]at h;obtain⟨rfl,rfl⟩:=h;obtain⟨h1,h2⟩:=Rj7 hb hd;refine⟨h1,by omega,by omega,?_⟩;rw[h1]at hb;exact(TC7 hb).2
theorem Nd7:j7 none=(0,none):=rfl
theorem HC7(n:Int):aW4 n none=([],none):=rfl
theorem Aq7{n:Int}(h0:0<=n)(h1:n<=4611686018427387904)(r:List Int):j7 (some (m6 n++r))=(n,some r):=by unfold j7;simp only;rw[Ri7];simp only[Rk7 h0 h1]
theorem Jt7:∀(l:List Int) (b:ByteArray),(l.foldl (fun r n=>r.push (UInt8.ofNat n.toNat)) b).data.toList=b.data.toList++l.map fun n=>UInt8.ofNat n.toNat
 | [],b=>by simp
 | n::l,b=>by rw[List.foldl_cons,Jt7 l];simp[ByteArray.push]
theorem GF7(l:List Int):(E7 l).data.toList=l.map fun n=>UInt8.ofNat n.toNat:=by unfold E7;rw[Jt7];rfl
theorem Ey7(l:List Int):(E7 l).size=l.length:=by have h:=congrArg List.length (GF7 l);rw[jM]at h;exact h
theorem BI7{l:List Int}(h:ByB l):D6 (E7 l)=l:=by
 unfold D6;rw[GF7,List.map_map];refine(List.map_congr_left fun n hn=>?_).trans (List.map_id _);have:=h n hn;show(((UInt8.ofNat n.toNat).toNat:Nat):Int)=n
 simp;omega
theorem Ez7(u:ByteArray):E7 (D6 u)=u:=by
 refine Ep7 ?_;rw[GF7];unfold D6;rw[List.map_map];refine(List.map_congr_left fun n hn=>?_).trans (List.map_id _);show UInt8.ofNat (((n.toNat:Nat):Int)).toNat=n
 simp
theorem DC7(u:ByteArray):ByB (D6 u):=by intro c hc;unfold D6 at hc;obtain⟨b,_,rfl⟩:=List.mem_map.1 hc;have:=b.toNat_lt;omega
theorem Fy7{l r x:List Int}(hb:ByB l)(h:m8 (some l)=(x,some r)):l=C9 (E7 x)++r/\ByB x/\ByB r:=by
 unfold m8 at h
 cases hn:j7 (some l)with
 | mk n s=>
  rw[hn]at h;simp only at h
  cases s with
  | none=>rw[HC7]at h;cases h
  | some l2=>
   obtain⟨h1,h2,h3,h4⟩:=CM7 hb hn;unfold aW4 at h;simp only at h;by_cases hc:0<=n/\n<=l2.length
   ·rw[if_pos hc]at h;simp only[Prod.mk.injEq,Option.some.injEq]at h;obtain⟨rfl,rfl⟩:=h;refine⟨?_,Im7 h4 _,Il7 h4 _⟩;unfold C9;rw[Ey7,BI7 (Im7 h4 _),jT,jS,List.take_append_drop];have e:((min n.toNat l2.length:Nat):Int)=n:=by omega
    rw[e];exact h1
   ·rw[if_neg hc]at h;cases h
theorem Bf7(u:ByteArray)(h:u.size<=1000000)(r:List Int):m8 (some (C9 u++r))=(D6 u,some r):=by
 unfold m8 C9;rw[jS,Aq7 (by omega) (by omega)];unfold aW4;simp only;rw[if_pos ⟨by omega,by rw[jA,Ay7];omega⟩];have e:((u.size:Int)).toNat=(D6 u).length:=by rw[Ay7];omega
 rw[e,List.take_left,List.drop_left]
end Go.Proofs.YtlmhakmoioogaaaGreat
end
section
namespace Go.Sl
open Go.RowKit
section
variable{P:Program}{ops:Array Oper}{Q:Exit->Act->World->Prop}{a:Act}{w:World}{W:World}{L R:List HP}{rest:List Oper}{o:Oper}
theorem FE7(t ty e:TypeId)(i:TypeInfo)(ht:P.underlying t=some (.slice e))(hi:P.info? e=some i)(b:Option Addr)(n cap:Nat)(hn:n<=cap)(p:Addr)(c:Nat):
  (Builtin.append_ #[t,t] ty #[.slice b n cap,.slice (some p) 0 c]).run P w=.ok (.slice b n cap) w:=by
 cases b with
 | none=>simp[Builtin.append_,run_underlying ht,sizeOf,typeInfo,hi,Builtin.lenOf,hn,Builtin.firstCells,loadCells,loadCellsFrom]
 | some q=>simp[Builtin.append_,run_underlying ht,sizeOf,typeInfo,hi,Builtin.lenOf,hn,Builtin.firstCells,loadCells,loadCellsFrom,storeCells]
theorem Ne7{s x:Operand}{t e:TypeId}{z:Value}{k k2 bytes:Nat}{v:Value}{n c:Nat}{p:Addr}{cs:List Value}(hS:St W L w)(ho:o.op=.call { callee:=.builtin .append,args:=#[s,x],argTypes:=#[t,t] })
  (hg:Region.wanted o (yielded ops a.tmps)=true) (hs:a.eval s=v) (hx:a.eval x=.slice (some p) 0 c) (ht:C7 P t=some e) (hi:F9 P e=some (some z,k2,bytes)) (hu:Take L (row v k e n cs) R)
  (h:wpList P ops Q rest (a.put o.dst v) w):wpList P ops Q (o::rest) a w:=by
 have ht':=Bv7 ht;unfold F9 at hi;obtain⟨i,hi',hi2⟩:=Option.map_eq_some_iff.1 hi
 obtain⟨b,n',cap,hv,hn⟩:∃b n' cap,v=.slice b n' cap/\n'<=cap:=by
  rcases(hS.take hu).rowOpen with ⟨hv,_⟩|⟨g,cap,junk,hv,hn,_⟩
  ·exact⟨_,_,_,hv,Nat.le_refl _⟩
  ·exact⟨_,_,_,hv,hn⟩
 have h1:=FE7 (P:=P) (w:=w) t o.type e i ht' hi' b n' cap hn p c;refine Aj7 hg (v:=v) (w':=w) ?_ h;rw[<-hv]at h1;unfold execOp;simp only[ho,resolve,invoke,builtin,Sem.run_bind,Sem.run_pure,Result.andThen_ok,List.map_toArray,List.map_cons,List.map_nil,hs,hx,h1]
theorem KH7{t t2 e:TypeId}{x y:Operand}{a0:Option Addr}{n c:Nat}(ho:o.op=.binOp .eql t x y t2)(hg:Region.wanted o (yielded ops a.tmps)=true)(hx:a.eval x=.slice a0 n c)(hy:a.eval y=.slice none 0 0)(ht:P.underlying t=some (.slice e))
  (h:wpList P ops Q rest (a.put o.dst (.bool a0.isNone)) w):wpList P ops Q (o::rest) a w:=by
 refine Aj7 hg (v:=.bool a0.isNone) (w':=w) ?_ h;have h1:(binOp .eql t (.slice a0 n c) (.slice none 0 0)).run P w=.ok (.bool a0.isNone) w:=Lib.run_eql_slice_nil w t e a0 n c 0 0 ht;unfold execOp;simp[ho,hx,hy,eqGuard,h1]
end
end Go.Sl
namespace Go.Proofs.YtlmhakmoioogaaaGreat
open Go.RowKit Go.Sl
def Dat(D:HP)(g off:Nat)(l:List Int):Prop:=∀K K',Take K D K'->i8 K g off (u8s l)
theorem Dat.drop{D:HP}{g off:Nat}{l:List Int}(h:Dat D g off l)(n:Nat):Dat D g (off+n) (l.drop n):=fun K K' ht j v hj=>by unfold u8s at hj;rw[List.map_drop,List.getElem?_drop]at hj;rw[Nat.add_assoc];exact h K K' ht (n+j) v hj
theorem Dat.take{D:HP}{g off:Nat}{l:List Int}(h:Dat D g off l)(n:Nat):Dat D g off (l.take n):=fun K K' ht j v hj=>by
 unfold u8s at hj;rw[List.map_take,List.getElem?_take]at hj;split at hj
 ·exact h K K' ht j v hj
 ·cases hj
theorem Dat.old{V:World}{g off:Nat}{l:List Int}(h:∀(j:Nat) (v:Value),(u8s l)[j]? = some v->V.cell? ⟨g,off+j,none⟩=some v):Dat (Old V) g off l:=fun K K' ht j v hj W w hS=>(hS.take ht).oldCell .head (h j v hj)
theorem Dat.row{g c:Nat}{l:List Int}(h:0<l.length):Dat (byR (.S g l.length c) l) g 0 l:=fun K K' ht j v hj W w hS=>by rw[Nat.zero_add];exact i9.row h hj W w (hS.take ht)
def rdV(D:HP)(v:Value)(e:Bool):RS->Prop
 | none=>v=.slice none 0 0/\e=true
 | some l=>e=false/\∃a c,v=.slice a l.length c/\l.length<=c/\c<=9223372036854775807/\((l=[]/\a=none/\c=0)\/(l=[]/\∃p,a=some p)\/∃g off,a=some ⟨g,off,none⟩/\Dat D g off l)
def rdR(T:TypeId)(D:HP)(rb:Nat)(s:RS):HP:=fun f=>∃v e,rdV D v e s/\blk rb [v,.bool e] T f
section
variable{W w:World}{T:TypeId}{D:HP}{rb:Nat}{s:RS}{R:List HP}
theorem bW4(h:St W (rdR T D rb s::R) w):∃v e,rdV D v e s/\St W (blk rb [v,.bool e] T::R) w:=by obtain⟨v,h⟩:=St.ex h;obtain⟨e,h⟩:=St.ex h;obtain⟨h1,h⟩:=St.and h;exact⟨v,e,h1,h⟩
theorem dz4{v:Value}{e:Bool}{l:List Int}(h:rdV D v e (some l)):∃a c,e=false/\v=.slice a l.length c/\RowKit.Hid (rdV D (.slice a l.length c) false (some l)):=by obtain⟨rfl,a,c,rfl,h⟩:=h;exact⟨a,c,rfl,rfl,jH ⟨rfl,a,c,rfl,h⟩⟩
theorem L9{v:Value}{e:Bool}(h1:rdV D v e s)(h:St W (blk rb [v,.bool e] T::R) w):St W (rdR T D rb s::R) w:=St.mkEx v (St.mkEx e (St.mkAnd h1 h))
end
theorem AF7{P:Program}{ops:Array Oper}{Q:Exit->Act->World->Prop}{a:Act}{w:World}{W:World}{L R:List HP}{rest:List Oper}{o:Oper}{src dst e:TypeId}{x:Operand}{v0:Value}{ns:List Int}(hS:St W L w)(ho:o.op=.convert src dst x)(hg:Region.wanted o (yielded ops a.tmps)=true)(hx:a.eval x=v0)
  (hs:P.underlying src=some (.slice e)) (he:P.underlying e=some (.int .u8)) (hd:P.underlying dst=some .string) (hu:Take L (row v0 1 e ns.length (ns.map (Value.int .u8))) R)
  (h:wpList P ops Q rest (a.put o.dst (.string (E7 ns))) w):wpList P ops Q (o::rest) a w:=by
 refine Aj7 hg (v:=.string (E7 ns)) (w':=w) ?_ h;rcases(hS.take hu).rowOpen with ⟨rfl,h0,_,_⟩|⟨g,cap,junk,rfl,_,_,_,_,hS'⟩
 ·have hn:ns=[]:=List.eq_nil_of_length_eq_zero h0;subst hn;unfold execOp;simp[ho,hx,run_convert_bytes_string w src dst e none 0 0 hs he hd,Conv.bytesToString,E7,Sem.run_pure]
 ·have h1:=run_loadCells_list (P:=P) w ⟨g,0,none⟩ (ns.map (Value.int .u8)) (fun j v hj=>by
   rw[Addr.add_lit,Nat.zero_add];exact hS'.cell .head (by rw[List.getElem?_append_left (List.getElem?_eq_some_iff.1 hj).1];exact hj))
  rw[jM]at h1;have h2:=run_bytesToString (P:=P) w ⟨g,0,none⟩ ns.length cap ns h1;unfold execOp;simp[ho,hx,run_convert_bytes_string w src dst e (jP g) ns.length cap hs he hd,h2,E7]
theorem UU7{u v k:Nat}(hu:u<2^k):u ||| v*2^k=u+v*2^k:=by rw[Nat.or_comm,Nat.mul_comm v,Nat.add_comm];exact(Nat.two_pow_add_eq_or_of_lt hu v).symm
abbrev rdG:=rdR 211
theorem cj4(D:HP)(rb:Nat)(s:RS)(W w:World)(R:List HP)(hS:St W (rdG D rb s::R) w):
  Calls Tryz.prog 197 #[.P rb] w fun e w'=>e=.returned (.tuple #[])/\St W (rdG D rb none::R) w':=by
 obtain⟨v0,e0,hv,hS1⟩:=bW4 hS;clear hS;have hS:=hS1;clear hS1;go_enter Tryz.func197,Tryz.ntmps197;go_wp2_with(first|refine zs1 hS ?_;clear hS;intro w hS);go_end0;exact⟨rfl,L9 ⟨rfl,rfl⟩ hS⟩
theorem LW7(D:HP)(rb:Nat)(s:RS)(W w:World)(R:List HP)(hS:St W (rdG D rb s::R) w):
  Calls Tryz.prog 157 #[.P rb] w fun e w'=>e=.returned (.bool s.isSome)/\St W (rdG D rb s::R) w':=by
 obtain⟨v0,e0,hv,hS1⟩:=bW4 hS;clear hS;have hS:=hS1;clear hS1
 cases s with
 | none=>
  obtain⟨rfl,rfl⟩:=hv;go_enter Tryz.func157,Tryz.ntmps157;go_wp2_with(first|refine zl1 hS ?_);go_ret;exact⟨rfl,L9 ⟨rfl,rfl⟩ hS⟩
 | some l=>
  obtain⟨rfl,hv⟩:=hv;go_enter Tryz.func157,Tryz.ntmps157;go_wp2_with(first|refine zl1 hS ?_);go_ret;exact⟨rfl,L9 ⟨rfl,hv⟩ hS⟩
def cV4(s:RS):Bool:=match s with
 | some []=>true
 | _=>false
theorem TD7(D:HP)(rb:Nat)(s:RS)(W w:World)(R:List HP)(hS:St W (rdG D rb s::R) w):
  Calls Tryz.prog 92 #[.P rb] w fun e w'=>e=.returned (.bool (cV4 s))/\St W (rdG D rb s::R) w':=by
 cases s with
 | none=>
  go_enter Tryz.func92,Tryz.ntmps92;go_wp2_with(first|go_at_call 157;refine(LW7 D rb none W _ _ hS).mono ?_;clear hS;rintro e w ⟨rfl,hS⟩);go_ret;exact⟨rfl,hS⟩
 | some l=>
  cases l with
  | nil=>
   go_enter Tryz.func92,Tryz.ntmps92;go_wp2_with(first|refine zl1 hS ?_|go_at_call 157;refine(LW7 D rb (some []) W _ _ hS).mono ?_;clear hS;rintro e w ⟨rfl,hS1⟩;obtain⟨v0,e0,hv,hS⟩:=bW4 hS1;clear hS1;obtain⟨a0,c0,rfl,rfl,Hv⟩:=dz4 hv;clear hv);go_ret;exact⟨rfl,L9 Hv.out hS⟩
  | cons x t=>
   have h0:decide (((x::t).length:Int)=0)=false:=by simp;omega
   go_enter Tryz.func92,Tryz.ntmps92;go_wp2_with(first|refine zl1 hS ?_|go_at_call 157;refine(LW7 D rb (some (x::t)) W _ _ hS).mono ?_;clear hS;rintro e w ⟨rfl,hS1⟩;obtain⟨v0,e0,hv,hS⟩:=bW4 hS1;clear hS1;obtain⟨a0,c0,rfl,rfl,Hv⟩:=dz4 hv;clear hv);go_ret;refine⟨?_,L9 Hv.out hS⟩;simp[cV4]
   try omega
def At(D:HP)(a:Option Addr)(c:Nat)(l:List Int):Prop:=(l=[]/\a=none/\c=0)\/(l=[]/\∃p,a=some p)\/∃g off,a=some ⟨g,off,none⟩/\Dat D g off l
theorem Fn7(D:HP)(a:Option Addr)(c:Nat)(l:List Int)(h:At D a c l)(hl:l.length<=100000000)(W w:World)(R R':List HP)(ht:Take R D R')(hS:St W R w):
  Calls Tryz.prog 138 #[.slice a l.length c] w fun e w'=>∃v,e=.returned v/\St W (byR v l::R) w':=by
 rcases h with ⟨rfl,rfl,rfl⟩|⟨rfl,p,rfl⟩|⟨g,off,rfl,hD⟩
 ·go_enter Tryz.func138,Tryz.ntmps138;go_wp2_with(first|(with_reducible apply KH7);rfl;rfl;rfl;rfl;exact Tryz.underlying63;simp only[Option.isNone_some,Option.isNone_none];refine frS ?_);go_ret;exact⟨_,rfl,hS.rowNil⟩
 ·go_enter Tryz.func138,Tryz.ntmps138;go_wp2_with(first|(with_reducible apply KH7);rfl;rfl;rfl;rfl;exact Tryz.underlying63;simp only[Option.isNone_some,Option.isNone_none];refine frS ?_|(with_reducible apply Bq7 (n:=0) hS);rfl;rfl;(focus(simp only[fD,fI,fJ,Act.eval,fE,fF,fG,fH,fK];try rfl));exact esS;exact rsS;rfl;rfl;rfl;rfl;rfl;decide;clear hS;intro bv w hS;refine frS ?_|(with_reducible apply Ne7 hS);rfl;rfl;rfl;rfl;exact esS;exact rsS;exact j5;refine frS ?_);go_ret;exact⟨_,rfl,hS⟩
 ·have hsrc:Src R (.slice (some ⟨g,off,none⟩) l.length c) l.length (u8s l):=Src.mk (hD _ _ ht);go_enter Tryz.func138,Tryz.ntmps138;go_wp2_with(first|(with_reducible apply KH7);rfl;rfl;rfl;rfl;exact Tryz.underlying63;simp only[Option.isNone_some,Option.isNone_none];refine frS ?_|(with_reducible apply Bq7 (n:=0) hS);rfl;rfl;(focus(simp only[fD,fI,fJ,Act.eval,fE,fF,fG,fH,fK];try rfl));exact esS;exact rsS;rfl;rfl;rfl;rfl;rfl;decide;clear hS;intro bv w hS;refine frS ?_|(with_reducible apply Ae7 hS);rfl;rfl;rfl;rfl;exact esS;exact rsS;rfl;decide;exact j5;exact hsrc.there;(focus(rw[AS7,Nat.mul_one]));exact Be7 _;(focus(unfold maxLen;omega));(focus(omega));clear hS;intro v w hS;(have hv:=hS.rowVal;obtain⟨va,vc,rfl⟩:=hv);refine frS ?_);go_ret;refine⟨_,rfl,?_⟩;have h0:St W (row (.slice va (0+l.length) vc) 1 5 (0+l.length) (u8s ([]++l))::_) w:=hS;have h2:=AN7 (by rw[jN,Nat.zero_add]) h0;rw[jN]at h2;exact h2
theorem OS7(D:HP)(a:Option Addr)(c:Nat){n:Nat}(l:List Int)(h:At D a c l)(hl:l.length<=100000000)(hn:l.length=n)(W w:World)(R R':List HP)(ht:Take R D R')(hS:St W R w):
  Calls Tryz.prog 138 #[.slice a n c] w fun e w'=>∃v,e=.returned v/\St W (byR v l::R) w':=hn▸Fn7 D a c l h hl W w R R' ht hS
theorem LX7{W w:World}{v:Value}{l:List Int}{R:List HP}(h:St W (byR v l::R) w):∃a c,v=.slice a l.length c/\rdV (byR (.slice a l.length c) l) (.slice a l.length c) false (some l):=by
 rcases h.rowOpen with ⟨rfl,h0,_,_⟩|⟨g,cap,junk,rfl,hn,hm,_,_,_⟩
 ·have hl:l=[]:=List.eq_nil_of_length_eq_zero h0;subst hl;exact⟨none,0,rfl,rfl,none,0,rfl,Nat.le_refl _,by decide,.inl ⟨rfl,rfl,rfl⟩⟩
 ·refine⟨_,_,rfl,rfl,_,_,rfl,hn,by unfold maxLen at hm;omega,?_⟩;by_cases h0:0<l.length
  ·exact .inr (.inr ⟨g,0,rfl,Dat.row h0⟩)
  ·exact .inr (.inl ⟨List.eq_nil_of_length_eq_zero (by omega),_,rfl⟩)
theorem Ju7{D:HP}{a:Option Addr}{c:Nat}{l:List Int}(h:rdV D (.slice a l.length c) false (some l)):At D a c l:=by
 obtain⟨_,a2,c2,e,_,_,h⟩:=h
 cases e
 exact h
theorem OT7{D:HP}{a:Option Addr}{c:Nat}{l:List Int}(h:rdV D (.slice a l.length c) false (some l)):l.length<=c/\c<=9223372036854775807:=by
 obtain⟨_,a2,c2,e,h1,h2,_⟩:=h
 cases e
 exact⟨h1,h2⟩
theorem OU7(D:HP)(a:Option Addr)(c:Nat)(l:List Int)(h:At D a c l)(hl:l.length<=100000000)(W w:World)(R R':List HP)(ht:Take R D R')(hS:St W R w):
  Calls Tryz.prog 86 #[.slice a l.length c] w fun e w'=>∃v rb,e=.returned (.P rb)/\St W (rdG (byR v l) rb (some l)::byR v l::R) w':=by
 go_enter Tryz.func86,Tryz.ntmps86;go_wp2_with(first|go_at_call 138;refine(Fn7 D a c l h hl W _ _ _ ht hS).mono ?_;clear hS;rintro e w ⟨v,rfl,hS⟩;(have hv:=hS.rowVal;obtain⟨va,vc,rfl⟩:=hv)|refine zbx hS ?_;clear hS;intro b w hS);go_ret;obtain⟨a1,c1,e1,hv⟩:=LX7 hS.drop
 cases e1
 exact⟨_,_,rfl,L9 hv hS⟩
theorem gq4{n:Int}{l:List Int}(h:¬(0<=n/\n<=l.length)):aW4 n (some l)=([],none):=if_neg h
theorem hr4{m:Nat}{l:List Int}(h:m<=l.length):aW4 (m:Int) (some l)=(l.take m,some (l.drop m)):=by unfold aW4;simp only;rw[if_pos ⟨by omega,by omega⟩];simp
theorem UV7(D:HP)(rb:Nat)(s:RS)(n:Int)(hn : -9223372036854775808<=n/\n<=9223372036854775807)(hl:∀l,s=some l->l.length<=100000000)(W w:World)(R R':List HP)(ht:Take R D R')(hS:St W (rdG D rb s::R) w):
  Calls Tryz.prog 195 #[.P rb,.I n] w fun e w'=>∃v,e=.returned v/\St W (byR v (aW4 n s).1::rdG D rb (aW4 n s).2::R) w':=by
 cases s with
 | none=>
  rw[HC7];obtain⟨v0,e0,hv,hS1⟩:=bW4 hS;clear hS hl;obtain⟨rfl,rfl⟩:=hv;have hS:=hS1;clear hS1;by_cases hlo:n<0
  ·go_enter Tryz.func195,Tryz.ntmps195;go_wp2_with(first|go_at_call 197;refine(cj4 D rb none W _ _ (L9 ⟨rfl,rfl⟩ hS)).mono ?_;clear hS;rintro e w ⟨rfl,hS⟩);go_ret;exact⟨_,rfl,hS.rowNil⟩
  ·by_cases hhi:0<n
   ·go_enter Tryz.func195,Tryz.ntmps195;go_wp2_with(first|refine zl1 hS ?_|go_at_call 197;refine(cj4 D rb none W _ _ (L9 ⟨rfl,rfl⟩ hS)).mono ?_;clear hS;rintro e w ⟨rfl,hS⟩);go_ret;exact⟨_,rfl,hS.rowNil⟩
   ·obtain rfl:n=0:=by omega
    clear hlo hhi hn;go_enter Tryz.func195,Tryz.ntmps195;go_wp2_with(first|refine zl1 hS ?_|go_at_call 138;refine(Fn7 D none 0 [] (.inl ⟨rfl,rfl,rfl⟩) (by simp) W _ _ _ ht.tail hS).mono ?_;clear hS;rintro e w ⟨v,rfl,hS⟩;(have hv:=hS.rowVal;obtain⟨va,vc,rfl⟩:=hv)|refine zs1 hS ?_;clear hS;intro w hS);go_ret;exact⟨_,rfl,St.swap (L9 ⟨rfl,rfl⟩ hS.swap)⟩
 | some l=>
  have hll:=hl l rfl;clear hl;obtain⟨v0,e0,hv,hS1⟩:=bW4 hS;clear hS;have hS:=hS1;clear hS1;obtain⟨a0,c0,rfl,rfl,Hv⟩:=dz4 hv;clear hv;by_cases hlo:n<0
  ·rw[gq4 (by omega)];go_enter Tryz.func195,Tryz.ntmps195;go_wp2_with(first|go_at_call 197;refine(cj4 D rb (some l) W _ _ (L9 Hv.out hS)).mono ?_;clear hS;rintro e w ⟨rfl,hS⟩);go_ret;exact⟨_,rfl,hS.rowNil⟩
  ·obtain⟨m,rfl⟩:∃m:Nat,n=m:=⟨n.toNat,by omega⟩
   by_cases hhi:m<=l.length
   ·rw[hr4 hhi];have hsl:=Ju7 Hv.out;obtain⟨hcl,hcm⟩:=OT7 Hv.out;have hmc:m<=c0:=by omega
    have hd:decide ((l.length:Int)<(m:Int))=false:=by simp;omega
    rcases hsl with ⟨rfl,rfl,rfl⟩|⟨rfl,p,rfl⟩|⟨g,off,rfl,hD⟩
    ·obtain rfl:m=0:=by simpa using hhi
     go_enter Tryz.func195,Tryz.ntmps195;go_wp2_with(first|refine zl1 hS ?_|go_at_call 138;refine(Fn7 D none 0 [] (.inl ⟨rfl,rfl,rfl⟩) (by simp) W _ _ _ ht.tail hS).mono ?_;clear hS;rintro e w ⟨v,rfl,hS⟩;(have hv:=hS.rowVal;obtain⟨va,vc,rfl⟩:=hv)|refine zs1 hS ?_;clear hS;intro w hS);go_ret;exact⟨_,rfl,St.swap (L9 Hv.out hS.swap)⟩
    ·obtain rfl:m=0:=by simpa using hhi
     by_cases hc0:c0=0
     ·subst hc0;go_enter Tryz.func195,Tryz.ntmps195;go_wp2_with(first|refine zl1 hS ?_|go_at_call 138;refine(Fn7 D (some p) _ [] (.inr (.inl ⟨rfl,p,rfl⟩)) (by simp) W _ _ _ ht.tail hS).mono ?_;clear hS;rintro e w ⟨v,rfl,hS⟩;(have hv:=hS.rowVal;obtain⟨va,vc,rfl⟩:=hv)|refine zs1 hS ?_;clear hS;intro w hS);go_ret;exact⟨_,rfl,St.swap (L9 Hv.out hS.swap)⟩
     ·go_enter Tryz.func195,Tryz.ntmps195;go_wp2_with(first|refine zl1 hS ?_|go_at_call 138;refine(Fn7 D (some p) _ [] (.inr (.inl ⟨rfl,p,rfl⟩)) (by simp) W _ _ _ ht.tail hS).mono ?_;clear hS;rintro e w ⟨v,rfl,hS⟩;(have hv:=hS.rowVal;obtain⟨va,vc,rfl⟩:=hv)|refine zs1 hS ?_;clear hS;intro w hS);go_ret;refine⟨_,rfl,St.swap (L9 (v:=.slice (some _) 0 c0) ⟨rfl,_,c0,rfl,Nat.zero_le _,hcm,.inr (.inl ⟨rfl,_,rfl⟩)⟩ hS.swap)⟩
    ·have hD1:=hD.take m;have hlm:(l.take m).length=m:=by rw[jT];omega
     have hld:(l.drop m).length=l.length-m:=List.length_drop ..;by_cases hc0:c0=m
     ·go_enter Tryz.func195,Tryz.ntmps195;go_wp2_with(first|refine zl1 hS ?_|go_at_call 138;refine(OS7 D (some ⟨g,off,none⟩) _ (l.take m) (.inr (.inr ⟨g,off,rfl,hD1⟩)) (by omega) hlm W _ _ _ ht.tail hS).mono ?_;clear hS;rintro e w ⟨v,rfl,hS⟩;(have hv:=hS.rowVal;obtain⟨va,vc,rfl⟩:=hv);rw[hlm]at hS|refine zs1 hS ?_;clear hS;intro w hS);go_ret;refine⟨_,rfl,St.swap (L9 ?_ hS.swap)⟩;refine⟨rfl,_,_,by rw[hld],by rw[hld];omega,by omega,.inr (.inl ⟨List.eq_nil_of_length_eq_zero (by rw[hld];omega),_,rfl⟩)⟩
     ·go_enter Tryz.func195,Tryz.ntmps195;go_wp2_with(first|refine zl1 hS ?_|go_at_call 138;refine(OS7 D (some ⟨g,off,none⟩) _ (l.take m) (.inr (.inr ⟨g,off,rfl,hD1⟩)) (by omega) hlm W _ _ _ ht.tail hS).mono ?_;clear hS;rintro e w ⟨v,rfl,hS⟩;(have hv:=hS.rowVal;obtain⟨va,vc,rfl⟩:=hv);rw[hlm]at hS|refine zs1 hS ?_;clear hS;intro w hS);go_ret;refine⟨_,rfl,St.swap (L9 ?_ hS.swap)⟩;refine⟨rfl,_,_,by rw[hld],by rw[hld];omega,by omega,.inr (.inr ⟨_,_,rfl,hD.drop m⟩)⟩
   ·rw[gq4 (by omega)];have hd:decide ((l.length:Int)<(m:Int))=true:=by simp;omega
    go_enter Tryz.func195,Tryz.ntmps195;go_wp2_with(first|refine zl1 hS ?_|go_at_call 197;refine(cj4 D rb (some l) W _ _ (L9 Hv.out hS)).mono ?_;clear hS;rintro e w ⟨rfl,hS⟩);go_ret;exact⟨_,rfl,hS.rowNil⟩
def bd4(k u:Nat)(s:List Int):Option (Nat×List Int):=
 if k=9 then none else
 match aN4 (8-k) (decide (k=0)) s with
 | none=>none
 | some (v,r)=>if u+v*2^(7*k)<=4611686018427387904 then some (u+v*2^(7*k),r)else none
theorem TE7(s:List Int):cz4 s=bd4 0 0 s:=by
 unfold cz4 bd4;rw[if_neg (by decide)]
 show _=match aN4 8 true s with
  | none=>none
  | some (v,r)=>if 0+v*2^0<=4611686018427387904 then some (0+v*2^0,r)else none
 cases aN4 8 true s with
 | none=>rfl
 | some x=>
  obtain⟨v,r⟩:=x;simp
theorem OV7(u:Nat)(s:List Int):bd4 9 u s=none:=rfl
theorem OW7(k u:Nat):bd4 k u []=none:=by unfold bd4;rw[Rg7];split <;> rfl
theorem Nf7{k u:Nat}{s:List Int}(hk:0<k):bd4 k u (0::s)=none:=by
 unfold bd4;split
 ·rfl
 ·rw[HB7 (by decide),if_pos ⟨by simp;omega,rfl⟩]
theorem Ng7{k u x:Nat}{s:List Int}(hk:k<=8)(hx:x<128)(hz:k=0\/x≠0):bd4 k u ((x:Int)::s)=if u+x*2^(7*k)<=4611686018427387904 then some (u+x*2^(7*k),s)else none:=by
 unfold bd4;rw[if_neg (by omega),HB7 (by omega),if_neg]
 ·simp
 ·rintro⟨h1,h2⟩
  rcases hz with h3|h3
  ·rw[h3]at h1;cases h1
  ·omega
theorem Nh7{k u x:Nat}{s:List Int}(hk:k<=8)(hx:128<=x)(hx2:x<=255):bd4 k u ((x:Int)::s)=bd4 (k+1) (u+x%128*2^(7*k)) s:=by
 have e0:(((x:Int)-128).toNat)=x%128:=by omega
 by_cases h8:k=8
 ·subst h8;rw[OV7];unfold bd4;rw[if_neg (by omega),OR7 (by omega)]
 ·unfold bd4;rw[if_neg (by omega),if_neg (by omega)];obtain⟨f,hf⟩:∃f,8-k=f+1:=⟨8-k-1,by omega⟩
  have hf2:8-(k+1)=f:=by omega
  have hz:decide (k+1=0)=false:=by simp
  rw[hf,hf2,hz,Rh7 (by omega)]
  cases aN4 f false s with
  | none=>rfl
  | some y=>
   obtain⟨v,r⟩:=y;dsimp only
   have e1:u+((x:Int)-128).toNat*2^(7*k)+128*v*2^(7*k)=u+x%128*2^(7*k)+v*2^(7*(k+1)):=by
    have e2:7*(k+1)=7*k+7:=by omega
    rw[e0,e2,Nat.pow_add];have:128*v*2^(7*k)=v*(2^(7*k)*2^7):=by rw[Nat.mul_comm 128 v,Nat.mul_assoc,Nat.mul_comm 128]
    omega
   have e3:u+(((x:Int)-128).toNat+128*v)*2^(7*k)=u+x%128*2^(7*k)+v*2^(7*(k+1)):=by rw[Nat.add_mul,<-Nat.add_assoc];exact e1
   rw[e3]
theorem TF7:∀v:Fin 256,bits .and .u8 ((v.val:Nat):Int) 127=((v.val%128:Nat):Int):=by decide +kernel
theorem Rl7{x:Nat}(h:x<=255):bits .and .u8 (x:Int) 127=((x%128:Nat):Int):=TF7 ⟨x,by omega⟩
theorem hs4{k:Nat}(hk:k<=9):2^(7*k)<=9223372036854775808:=by have:2^(7*k)<=2^63:=Nat.pow_le_pow_right (by decide) (by omega);exact this
theorem TG7{u x k:Nat}(hk:k<=9)(hu:u<2^(7*k))(hx:x%128*2^(7*k)<18446744073709551616):
  bits .or .u64 (u:Int) ((x%128*2^(7*k):Nat):Int)=((u+x%128*2^(7*k):Nat):Int):=by
 have h1:=hs4 hk;rw[bits_or_u64_nat u _ (by omega) hx,UU7 hu]
theorem TH7{u x k:Nat}(hu:u<2^(7*k)):u+x%128*2^(7*k)<2^(7*(k+1)):=by
 have h1:2^(7*(k+1))=128*2^(7*k):=by rw[show 7*(k+1)=7*k+7 from by omega,Nat.pow_add,Nat.mul_comm]
 have h2:x%128*2^(7*k)<=127*2^(7*k):=Nat.mul_le_mul_right _ (by omega);omega
def NgR(W:World)(L:List HP)(l:List Int)(v3 v13:Value)(w:World):Prop:=
 ∃(k u:Nat),v3=.int .u64 u/\v13=.I k/\k<=l.length/\k<=9/\u<2^(7*k)/\cz4 l=bd4 k u (l.drop k)/\St W L w
theorem FS7{l:List Int}(h:cz4 l=none):j7 (some l)=(0,none):=by unfold j7;simp only;rw[h]
theorem Rm7{l r:List Int}{u:Nat}(h:cz4 l=some (u,r)):j7 (some l)=((u:Int),some r):=by unfold j7;simp only;rw[h]
theorem OX7{u x k:Nat}(hk:k<=8)(hu:u<2^(7*k))(hx:x<=255):
  bits .or .u64 (u:Int) (IntKind.u64.wrap (IntKind.u64.wrap (bits .and .u8 (x:Int) 127)*2^(7*k)))=((u+x%128*2^(7*k):Nat):Int):=by
 have h1:2^(7*k)<=72057594037927936:=by have:2^(7*k)<=2^56:=Nat.pow_le_pow_right (by decide) (by omega);exact this
 have h2:x%128*2^(7*k)<=127*72057594037927936:=Nat.mul_le_mul (by omega) h1
 have e:IntKind.u64.wrap (IntKind.u64.wrap (bits .and .u8 (x:Int) 127)*2^(7*k))=((x%128*2^(7*k):Nat):Int):=by
  rw[Rl7 hx,IntKind.wrap_u64,IntKind.wrap_u64];have e1:(((x%128:Nat):Int)%18446744073709551616)=((x%128:Nat):Int):=by omega
  rw[e1];have e2:((x%128:Nat):Int)*2^(7*k)=((x%128*2^(7*k):Nat):Int):=by push_cast;rfl
  rw[e2];omega
 rw[e];exact TG7 (by omega) hu (by omega)
theorem LY7{D:HP}{g off c m:Nat}{l:List Int}(hD:Dat D g off l)(hm:m<=l.length)(hc:l.length<=c)(hM:c<=9223372036854775807):
  rdV D (.slice (if c=m then some ⟨g,off,none⟩else some ⟨g,off+m,none⟩) (l.length-m) (c-m)) false (some (l.drop m)):=by
 have hld:(l.drop m).length=l.length-m:=List.length_drop ..;refine⟨rfl,_,_,by rw[hld],by rw[hld];omega,by omega,?_⟩;by_cases h:c=m
 ·exact .inr (.inl ⟨List.eq_nil_of_length_eq_zero (by rw[hld];omega),_,if_pos h⟩)
 ·exact .inr (.inr ⟨g,off+m,if_neg h,hD.drop m⟩)
theorem ej4(D:HP)(rb:Nat)(s:RS)(hb:BS s)(hl:∀l,s=some l->l.length<=100000000)(W w:World)(R R':List HP)(ht:Take R D R')(hS:St W (rdG D rb s::R) w):
  Calls Tryz.prog 154 #[.P rb] w fun e w'=>e=.returned (.I (j7 s).1)/\St W (rdG D rb (j7 s).2::R) w':=by
 cases s with
 | none=>
  rw[Nd7];obtain⟨v0,e0,hv,hS1⟩:=bW4 hS;clear hS hl hb;obtain⟨rfl,rfl⟩:=hv;have hS:=hS1;clear hS1;go_enter Tryz.func154,Tryz.ntmps154;go_wp2_with(first|refine zl1 hS ?_)
  go_loopw [13] (fun v13 wr=>v13=.I 0/\St W (blk rb [.slice none 0 0,.bool true] 211::R) wr) (fun _ _=>0)
  case atStart=>exact⟨rfl,hS⟩
  case round=>
   clear hS;obtain⟨rfl,hS⟩:=hrel;go_wp2_with(first|go_at_call 197;refine(cj4 D rb none W _ _ (L9 ⟨rfl,rfl⟩ hS)).mono ?_;clear hS;rintro e w ⟨rfl,hS⟩);go_ret;exact⟨rfl,hS⟩
 | some l=>
  have hll:=hl l rfl;have hbl:=hb l rfl;clear hl hb;obtain⟨v0,e0,hv,hS1⟩:=bW4 hS;clear hS;have hS:=hS1;clear hS1;obtain⟨a0,c0,rfl,rfl,Hv⟩:=dz4 hv;clear hv;have Hb:=jH hbl;clear hbl;go_enter Tryz.func154,Tryz.ntmps154;go_wp2_with(first|refine zl1 hS ?_)
  go_loopw [3,13] (fun v3 v13 wr=>NgR W (blk rb [.slice a0 l.length c0,.bool false] 211::R) l v3 v13 wr) (fun _ v13 _=>l.length-(intOf v13).toNat)
  case atStart=>exact⟨0,0,rfl,rfl,Nat.zero_le _,by decide,by decide,TE7 l,hS⟩
  case round=>
   clear hS;obtain⟨k,u,rfl,rfl,hkl,hk9,hu,hnum,hS⟩:=hrel;by_cases hin:k=l.length
   ·have hn:j7 (some l)=(0,none):=FS7 (by rw[hnum,hin,List.drop_length,OW7]);have Hn:=jH hn;clear hn hnum hu;go_wp2_with(first|go_at_call 197;refine(cj4 D rb (some l) W _ _ (L9 Hv.out hS)).mono ?_;clear hS;rintro e w ⟨rfl,hS⟩);go_ret;exact⟨by rw[Hn.out];rfl,by rw[Hn.out];exact hS⟩
   ·have hk1:k<l.length:=by omega
    have hat:=Ju7 Hv.out;have hcap:=OT7 Hv.out
    rcases hat with ⟨rfl,_,_⟩|⟨rfl,_⟩|⟨g,off,rfl,hD⟩
    ·simp at hk1
    ·simp at hk1
    ·have hx:=Hb.out l[k] (jW hk1);have hdr:l.drop k=l[k]::l.drop (k+1):=List.drop_eq_getElem_cons hk1;have hxc:(u8s l)[k]? = some (.int .u8 l[k]):=by unfold u8s;rw[List.getElem?_map,jG hk1];rfl
     rw[hdr]at hnum;clear hdr;generalize l[k]=c at hx hxc hnum;obtain⟨x,rfl⟩:∃x:Nat,c=x:=⟨c.toNat,by omega⟩
     have hx255:x<=255:=by omega
     clear hx hin hkl;by_cases h9:k=9
     ·rw[h9,OV7]at hnum;have Hn:=jH (FS7 hnum);have hd9:decide (9<=(k:Int))=true:=by simp;omega
      clear hnum hu h9;go_wp2_with(first|refine zl1 hS ?_ (hc:=by exact hD _ _ ht.tail k _ hxc)|go_at_call 197;refine(cj4 D rb (some l) W _ _ (L9 Hv.out hS)).mono ?_;clear hS;rintro e w ⟨rfl,hS⟩);go_ret;exact⟨by rw[Hn.out];rfl,by rw[Hn.out];exact hS⟩
     ·have hk8:k<=8:=by omega
      have hd9:decide (9<=(k:Int))=false:=by simp;omega
      clear h9 hk9;by_cases hz:0<k/\x=0
      ·obtain⟨hk0,hx0⟩:=hz;rw[hx0]at hnum;have Hn:=jH (FS7 (hnum.trans (Nf7 hk0)));have hd0:decide (0<(k:Int))=true:=by simp;omega
       have hdx:((x:Int)==0)=true:=by simp;omega
       clear hnum hu hx0;go_wp2_with(first|refine zl1 hS ?_ (hc:=by exact hD _ _ ht.tail k _ hxc)|go_at_call 197;refine(cj4 D rb (some l) W _ _ (L9 Hv.out hS)).mono ?_;clear hS;rintro e w ⟨rfl,hS⟩);go_ret;exact⟨by rw[Hn.out];rfl,by rw[Hn.out];exact hS⟩
      ·by_cases hx128:x<128
       ·rw[Ng7 hk8 hx128 (by omega)]at hnum;have hd1:decide ((x:Int)<128)=true:=by simp;omega
        have hor:=OX7 hk8 hu hx255;have hx2:x%128=x:=Nat.mod_eq_of_lt hx128;rw[hx2]at hor;clear hx2 hu;generalize u+x*2^(7*k)=u1 at hor hnum;by_cases hbig:u1<=4611686018427387904
        ·rw[if_pos hbig]at hnum;have Hn:=jH (Rm7 hnum);have hd2:decide (4611686018427387904<((u1:Nat):Int))=false:=by simp;omega
         clear hnum;by_cases hk0:0<k
         ·have hd0:decide (0<(k:Int))=true:=by simp;omega
          have hdx:((x:Int)==0)=false:=by simp;omega
          go_wp2_with(first|refine zl1 hS ?_ (hc:=by exact hD _ _ ht.tail k _ hxc)|refine zl1 hS ?_|refine zs1 hS ?_;clear hS;intro w hS)
          all_goals go_ret
          all_goals exact⟨by rw[Hn.out];rfl,by rw[Hn.out];exact L9 (LY7 hD (by omega) hcap.1 hcap.2) hS⟩
         ·have hd0:decide (0<(k:Int))=false:=by simp;omega
          go_wp2_with(first|refine zl1 hS ?_ (hc:=by exact hD _ _ ht.tail k _ hxc)|refine zl1 hS ?_|refine zs1 hS ?_;clear hS;intro w hS)
          all_goals go_ret
          all_goals exact⟨by rw[Hn.out];rfl,by rw[Hn.out];exact L9 (LY7 hD (by omega) hcap.1 hcap.2) hS⟩
        ·rw[if_neg hbig]at hnum;have Hn:=jH (FS7 hnum);have hd2:decide (4611686018427387904<((u1:Nat):Int))=true:=by simp;omega
         clear hnum;by_cases hk0:0<k
         ·have hd0:decide (0<(k:Int))=true:=by simp;omega
          have hdx:((x:Int)==0)=false:=by simp;omega
          go_wp2_with(first|refine zl1 hS ?_ (hc:=by exact hD _ _ ht.tail k _ hxc)|go_at_call 197;refine(cj4 D rb (some l) W _ _ (L9 Hv.out hS)).mono ?_;clear hS;rintro e w ⟨rfl,hS⟩);go_ret;exact⟨by rw[Hn.out];rfl,by rw[Hn.out];exact hS⟩
         ·have hd0:decide (0<(k:Int))=false:=by simp;omega
          go_wp2_with(first|refine zl1 hS ?_ (hc:=by exact hD _ _ ht.tail k _ hxc)|go_at_call 197;refine(cj4 D rb (some l) W _ _ (L9 Hv.out hS)).mono ?_;clear hS;rintro e w ⟨rfl,hS⟩);go_ret;exact⟨by rw[Hn.out];rfl,by rw[Hn.out];exact hS⟩
       ·rw[Nh7 hk8 (by omega) hx255]at hnum;have hd1:decide ((x:Int)<128)=false:=by simp;omega
        have hor:=OX7 hk8 hu hx255;have hlt:=TH7 (x:=x) hu;clear hu;generalize u+x%128*2^(7*k)=u1 at hor hnum hlt;have Hq:=jH hnum;clear hnum;by_cases hk0:0<k
        ·have hd0:decide (0<(k:Int))=true:=by simp;omega
         have hdx:((x:Int)==0)=false:=by simp;omega
         go_wp2_with(first|refine zl1 hS ?_ (hc:=by exact hD _ _ ht.tail k _ hxc));go_roundw
         case rel=>exact⟨k+1,u1,rfl,rfl,by omega,by omega,hlt,Hq.out,hS⟩
         case measure=>simp[intOf];omega
        ·have hd0:decide (0<(k:Int))=false:=by simp;omega
         go_wp2_with(first|refine zl1 hS ?_ (hc:=by exact hD _ _ ht.tail k _ hxc));go_roundw
         case rel=>exact⟨k+1,u1,rfl,rfl,by omega,by omega,hlt,Hq.out,hS⟩
         case measure=>simp[intOf];omega
end Go.Proofs.YtlmhakmoioogaaaGreat
end
