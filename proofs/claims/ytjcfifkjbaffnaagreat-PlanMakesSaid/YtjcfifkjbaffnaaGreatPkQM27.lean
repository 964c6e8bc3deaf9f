/-
  The document's planner.
-/
import Derived.Test.YtjcfifkjbaffnaaGreatPkQM5
import Derived.Test.YtjcfifkjbaffnaaGreatPkQM26
set_option maxHeartbeats 16000000
set_option maxRecDepth 100000
set_option linter.unusedSimpArgs false
set_option linter.unusedVariables false
section
namespace Go.Proofs.YtjcfifkjbaffnaaGreat
open Go.RowKit Go.Sl
theorem Hq7{hs:List Int}(hp:hs.Pairwise fun a b=>a<b){i:Nat}(hi:i<hs.length):∀x∈hs.take i,x<hs[i]:=by intro x hx;obtain⟨j,hj,rfl⟩:=List.getElem_of_mem hx;rw[jT]at hj;rw[List.getElem_take];exact List.pairwise_iff_getElem.1 hp j i (by omega) hi (by omega)
theorem It7(ld:Int->Int)(a:Int):B6 ld [a] a:=⟨by simp,fun h hh=>by obtain rfl:=List.mem_singleton.1 hh;exact .inr ⟨rfl,Int.le_refl _⟩⟩
theorem Hr7(ld:Int->Int)(a:Int):s5 ld [a] a:=⟨by simp,fun h hh=>by obtain rfl:=List.mem_singleton.1 hh;exact .inr ⟨rfl,Int.le_refl _⟩⟩
def EnR(W:World)(R:List HP)(ld:Int->Int)(hs:List Int)(v4 v5 v6:Value)(w:World):Prop:=
 ∃(i:Nat) (a b:Int),v4=.I a/\v5=.I b/\v6=.I i/\1<=i/\i<=hs.length/\B6 ld (hs.take i) a/\s5 ld (hs.take i) b/\St W R w
theorem Iu7{D:De}{nm:List Bool}{out:List Cg}{to:List Int}{mvs:Int}{l:List Ro}{zs:List Zo}{hs:List Int}{V:World}(hz:d6 Zo.cells 9 V D.zv zs)(hzl:zs.length<=60)(hh:d6 hC 1 V D.hv hs)(h1:1<=hs.length)(hhl:hs.length<=60)(hp:hs.Pairwise fun a b=>a<b)(hl:d6 Ro.cells 3 V D.lv l)(hll:l.length<=60)(hto:to.length=zs.length)(W w:World)(R:List HP)(hS:St W (dsP D nm out to mvs::Old V::R) w):
  Calls Tryz.prog 54 #[.pointer (some ⟨D.pb,0,none⟩)] w fun e w'=>∃a b,B6 (fun h=>ldT l zs to h zs.length) hs a/\s5 (fun h=>ldT l zs to h zs.length) hs b/\e=.returned (.tuple #[.I a,.I b])/\St W (dsP D nm out to mvs::Old V::R) w':=by
 obtain⟨nv,ov,tv,hS1⟩:=i6 hS;clear hS;have hS:=hS1;clear hS1;have Hz:=jH hz;have Hl:=jH hl;have Hsh:=jH (fun w=>g8 (D:=D) (nm:=nm) (out:=out) (to:=to) (mvs:=mvs) (W:=W) (w:=w) (R:=Old V::R) (nv:=nv) (ov:=ov) (tv:=tv));unfold dsB at hS Hsh;clear hz hl;obtain⟨pb,ver,nxt,zv,hv,lv⟩:=D;simp only at hS hh Hz Hl Hsh ⊢;obtain⟨ha,hc,rfl,h63,hact⟩:=hh;have Hat:=jH hact;have Hp:=jH hp;clear hact hp;obtain⟨hb,hoff,rfl,hall0⟩:=Hat.out 0 (by omega);have hy0:V.cell? ⟨hb,hoff,none⟩=some (.I (hs[0]'(by omega))):=by simpa using hall0 0 _ rfl
 have ht1:hs.take 1=[hs[0]'(by omega)]:=by rw[List.take_succ_eq_append_getElem (by omega)];simp
 have hm1:=It7 (fun h=>ldT l zs to h zs.length) (hs[0]'(by omega));have hm2:=Hr7 (fun h=>ldT l zs to h zs.length) (hs[0]'(by omega));rw[<-ht1]at hm1 hm2;generalize hs[0]'(by omega)=h0 at hy0 hm1 hm2;obtain⟨ld,hld⟩:∃ld,ld=fun h=>ldT l zs to h zs.length:=⟨_,rfl⟩
 have Hld:=jH hld;rw[<-hld]at hm1 hm2 ⊢;clear hld;have Hm1:=jH hm1;have Hm2:=jH hm2;clear hall0 hm1 hm2 ht1;go_enter Tryz.func54,Tryz.ntmps54;go_wp2_with(first|go_big_skip);refine Aa7 (by kernel_rfl) (by kernel_rfl) hS ?_
 repeat(first|go_big_quiet_skip|refine zq1 ?_|refine zq1 ?_ (v:=.I h0) (hc:=by exact a8.old (by exact b8) hy0)|refine zqn ?_|refine qR ?_)
 clear hS;intro w hS;go_wp2_with(first|go_big_skip);have hm1:=Hm1.out;have hm2:=Hm2.out;have hS1:=Hsh.out _ hS;clear hS Hsh Hm1 Hm2
 go_loopw [4,5,6] (fun v4 v5 v6 wr=>EnR W (dsP ⟨pb,ver,nxt,zv,.slice (some ⟨hb,hoff,none⟩) hs.length hc,lv⟩ nm out to mvs::Old V::R) ld hs v4 v5 v6 wr) (fun _ _ v6 _=>hs.length-(intOf v6).toNat)
 case atStart=>exact⟨1,_,_,rfl,rfl,rfl,Nat.le_refl _,h1,hm1,hm2,hS1⟩
 case round=>
  clear hS1 hm1 hm2;obtain⟨i,ma,mb,rfl,rfl,rfl,hi1,hi,hma,hmb,hS0⟩:=hrel;obtain⟨nv,ov,tv,hS1⟩:=i6 hS0;clear hS0;have hS:=hS1;clear hS1;have Hsh:=jH (fun w=>g8 (D:=⟨pb,ver,nxt,zv,.slice (some ⟨hb,hoff,none⟩) hs.length hc,lv⟩) (nm:=nm) (out:=out) (to:=to) (mvs:=mvs) (W:=W) (w:=w) (R:=Old V::R) (nv:=nv) (ov:=ov) (tv:=tv));unfold dsB at hS Hsh;simp only at hS Hsh;by_cases hil:i<hs.length
  ·have d1:decide (i<hs.length)=true:=decide_eq_true hil;obtain⟨hb2,hoff2,ea,hall⟩:=Hat.out i hil
   cases ea
   have hx0:V.cell? ⟨hb,hoff+i,none⟩=some (.I hs[i]):=by have h9:=hall 0 _ rfl;rwa [Nat.mul_one,Nat.add_zero]at h9
   have hna:=Fy7 (h:=hs[i]) hma (Hq7 Hp.out hil);have hnb:=EA7 (h:=hs[i]) hmb (Hq7 Hp.out hil);rw[show hs.take i++[hs[i]]=hs.take (i+1)from(List.take_succ_eq_append_getElem hil).symm]at hna hnb;generalize hs[i]=x at hx0 hna hnb;obtain⟨lx,hlx⟩:∃y,ld x=y:=⟨_,rfl⟩
   obtain⟨la,hla⟩:∃y,ld ma=y:=⟨_,rfl⟩
   obtain⟨lb,hlb⟩:∃y,ld mb=y:=⟨_,rfl⟩
   rw[hlx,hla]at hna;rw[hlx,hlb]at hnb;have Hlx:=jH (show ldT l zs to x zs.length=lx from by rw[<-hlx,Hld.out]);have Hla:=jH (show ldT l zs to ma zs.length=la from by rw[<-hla,Hld.out]);have Hlb:=jH (show ldT l zs to mb zs.length=lb from by rw[<-hlb,Hld.out]);have hi60:i<=60:=by omega
   clear hlx hla hlb hall hma hmb hi;by_cases c1:la<lx
   ·have e1:decide (la<lx)=true:=decide_eq_true c1;rw[if_pos c1]at hna;have Hna:=jH hna;by_cases c2:lx<lb
    ·have e2:decide (lx<lb)=true:=decide_eq_true c2;rw[if_pos c2]at hnb;have Hnb:=jH hnb;clear hna hnb c1 c2
     go_wp2_with(first|go_big_skip|refine zl1 hS ?_ (v:=.I x) (hc:=by exact a8.old (by exact b8) hx0)|refine zl1 hS ?_|(fail_if_success (have:=g1));((go_at_call 56);refine(Ag7 (D:=⟨pb,ver,nxt,zv,.slice (some ⟨hb,hoff,none⟩) hs.length hc,lv⟩) Hz.out hzl Hl.out hll hto x Hlx.out W _ _ (Hsh.out _ hS)).mono ?_;clear hS;rintro e w ⟨rfl,hS1⟩;obtain⟨nv,ov,tv,hS⟩:=i6 hS1;clear hS1;unfold dsB at hS;simp only at hS;(have Hsh:=jH (fun w=>g8 (D:=⟨pb,ver,nxt,zv,.slice (some ⟨hb,hoff,none⟩) hs.length hc,lv⟩) (nm:=nm) (out:=out) (to:=to) (mvs:=mvs) (W:=W) (w:=w) (R:=Old V::R) (nv:=nv) (ov:=ov) (tv:=tv)));unfold dsB at Hsh;simp only at Hsh);have g1:Nat:=0|(have:=g1);(fail_if_success (have:=g2));((go_at_call 56);refine(Ag7 (D:=⟨pb,ver,nxt,zv,.slice (some ⟨hb,hoff,none⟩) hs.length hc,lv⟩) Hz.out hzl Hl.out hll hto ma Hla.out W _ _ (Hsh.out _ hS)).mono ?_;clear hS;rintro e w ⟨rfl,hS1⟩;obtain⟨nv,ov,tv,hS⟩:=i6 hS1;clear hS1;unfold dsB at hS;simp only at hS;(have Hsh:=jH (fun w=>g8 (D:=⟨pb,ver,nxt,zv,.slice (some ⟨hb,hoff,none⟩) hs.length hc,lv⟩) (nm:=nm) (out:=out) (to:=to) (mvs:=mvs) (W:=W) (w:=w) (R:=Old V::R) (nv:=nv) (ov:=ov) (tv:=tv)));unfold dsB at Hsh;simp only at Hsh);have g2:Nat:=0|(have:=g2);(fail_if_success (have:=g3));((go_at_call 56);refine(Ag7 (D:=⟨pb,ver,nxt,zv,.slice (some ⟨hb,hoff,none⟩) hs.length hc,lv⟩) Hz.out hzl Hl.out hll hto x Hlx.out W _ _ (Hsh.out _ hS)).mono ?_;clear hS;rintro e w ⟨rfl,hS1⟩;obtain⟨nv,ov,tv,hS⟩:=i6 hS1;clear hS1;unfold dsB at hS;simp only at hS;(have Hsh:=jH (fun w=>g8 (D:=⟨pb,ver,nxt,zv,.slice (some ⟨hb,hoff,none⟩) hs.length hc,lv⟩) (nm:=nm) (out:=out) (to:=to) (mvs:=mvs) (W:=W) (w:=w) (R:=Old V::R) (nv:=nv) (ov:=ov) (tv:=tv)));unfold dsB at Hsh;simp only at Hsh);have g3:Nat:=0|(have:=g3);(fail_if_success (have:=g4));((go_at_call 56);refine(Ag7 (D:=⟨pb,ver,nxt,zv,.slice (some ⟨hb,hoff,none⟩) hs.length hc,lv⟩) Hz.out hzl Hl.out hll hto mb Hlb.out W _ _ (Hsh.out _ hS)).mono ?_;clear hS;rintro e w ⟨rfl,hS1⟩;obtain⟨nv,ov,tv,hS⟩:=i6 hS1;clear hS1;unfold dsB at hS;simp only at hS;(have Hsh:=jH (fun w=>g8 (D:=⟨pb,ver,nxt,zv,.slice (some ⟨hb,hoff,none⟩) hs.length hc,lv⟩) (nm:=nm) (out:=out) (to:=to) (mvs:=mvs) (W:=W) (w:=w) (R:=Old V::R) (nv:=nv) (ov:=ov) (tv:=tv)));unfold dsB at Hsh;simp only at Hsh);have g4:Nat:=0)
     go_roundw
     case rel=>exact⟨i+1,x,x,rfl,rfl,rfl,by omega,hil,Hna.out,Hnb.out,Hsh.out _ hS⟩
     case measure=>simp[intOf];omega
    ·have e2:decide (lx<lb)=false:=decide_eq_false c2;rw[if_neg c2]at hnb;have Hnb:=jH hnb;clear hna hnb c1 c2
     go_wp2_with(first|go_big_skip|refine zl1 hS ?_ (v:=.I x) (hc:=by exact a8.old (by exact b8) hx0)|refine zl1 hS ?_|(fail_if_success (have:=g1));((go_at_call 56);refine(Ag7 (D:=⟨pb,ver,nxt,zv,.slice (some ⟨hb,hoff,none⟩) hs.length hc,lv⟩) Hz.out hzl Hl.out hll hto x Hlx.out W _ _ (Hsh.out _ hS)).mono ?_;clear hS;rintro e w ⟨rfl,hS1⟩;obtain⟨nv,ov,tv,hS⟩:=i6 hS1;clear hS1;unfold dsB at hS;simp only at hS;(have Hsh:=jH (fun w=>g8 (D:=⟨pb,ver,nxt,zv,.slice (some ⟨hb,hoff,none⟩) hs.length hc,lv⟩) (nm:=nm) (out:=out) (to:=to) (mvs:=mvs) (W:=W) (w:=w) (R:=Old V::R) (nv:=nv) (ov:=ov) (tv:=tv)));unfold dsB at Hsh;simp only at Hsh);have g1:Nat:=0|(have:=g1);(fail_if_success (have:=g2));((go_at_call 56);refine(Ag7 (D:=⟨pb,ver,nxt,zv,.slice (some ⟨hb,hoff,none⟩) hs.length hc,lv⟩) Hz.out hzl Hl.out hll hto ma Hla.out W _ _ (Hsh.out _ hS)).mono ?_;clear hS;rintro e w ⟨rfl,hS1⟩;obtain⟨nv,ov,tv,hS⟩:=i6 hS1;clear hS1;unfold dsB at hS;simp only at hS;(have Hsh:=jH (fun w=>g8 (D:=⟨pb,ver,nxt,zv,.slice (some ⟨hb,hoff,none⟩) hs.length hc,lv⟩) (nm:=nm) (out:=out) (to:=to) (mvs:=mvs) (W:=W) (w:=w) (R:=Old V::R) (nv:=nv) (ov:=ov) (tv:=tv)));unfold dsB at Hsh;simp only at Hsh);have g2:Nat:=0|(have:=g2);(fail_if_success (have:=g3));((go_at_call 56);refine(Ag7 (D:=⟨pb,ver,nxt,zv,.slice (some ⟨hb,hoff,none⟩) hs.length hc,lv⟩) Hz.out hzl Hl.out hll hto x Hlx.out W _ _ (Hsh.out _ hS)).mono ?_;clear hS;rintro e w ⟨rfl,hS1⟩;obtain⟨nv,ov,tv,hS⟩:=i6 hS1;clear hS1;unfold dsB at hS;simp only at hS;(have Hsh:=jH (fun w=>g8 (D:=⟨pb,ver,nxt,zv,.slice (some ⟨hb,hoff,none⟩) hs.length hc,lv⟩) (nm:=nm) (out:=out) (to:=to) (mvs:=mvs) (W:=W) (w:=w) (R:=Old V::R) (nv:=nv) (ov:=ov) (tv:=tv)));unfold dsB at Hsh;simp only at Hsh);have g3:Nat:=0|(have:=g3);(fail_if_success (have:=g4));((go_at_call 56);refine(Ag7 (D:=⟨pb,ver,nxt,zv,.slice (some ⟨hb,hoff,none⟩) hs.length hc,lv⟩) Hz.out hzl Hl.out hll hto mb Hlb.out W _ _ (Hsh.out _ hS)).mono ?_;clear hS;rintro e w ⟨rfl,hS1⟩;obtain⟨nv,ov,tv,hS⟩:=i6 hS1;clear hS1;unfold dsB at hS;simp only at hS;(have Hsh:=jH (fun w=>g8 (D:=⟨pb,ver,nxt,zv,.slice (some ⟨hb,hoff,none⟩) hs.length hc,lv⟩) (nm:=nm) (out:=out) (to:=to) (mvs:=mvs) (W:=W) (w:=w) (R:=Old V::R) (nv:=nv) (ov:=ov) (tv:=tv)));unfold dsB at Hsh;simp only at Hsh);have g4:Nat:=0)
     go_roundw
     case rel=>exact⟨i+1,x,mb,rfl,rfl,rfl,by omega,hil,Hna.out,Hnb.out,Hsh.out _ hS⟩
     case measure=>simp[intOf];omega
   ·have e1:decide (la<lx)=false:=decide_eq_false c1;rw[if_neg c1]at hna;have Hna:=jH hna;by_cases c2:lx<lb
    ·have e2:decide (lx<lb)=true:=decide_eq_true c2;rw[if_pos c2]at hnb;have Hnb:=jH hnb;clear hna hnb c1 c2
     go_wp2_with(first|go_big_skip|refine zl1 hS ?_ (v:=.I x) (hc:=by exact a8.old (by exact b8) hx0)|refine zl1 hS ?_|(fail_if_success (have:=g1));((go_at_call 56);refine(Ag7 (D:=⟨pb,ver,nxt,zv,.slice (some ⟨hb,hoff,none⟩) hs.length hc,lv⟩) Hz.out hzl Hl.out hll hto x Hlx.out W _ _ (Hsh.out _ hS)).mono ?_;clear hS;rintro e w ⟨rfl,hS1⟩;obtain⟨nv,ov,tv,hS⟩:=i6 hS1;clear hS1;unfold dsB at hS;simp only at hS;(have Hsh:=jH (fun w=>g8 (D:=⟨pb,ver,nxt,zv,.slice (some ⟨hb,hoff,none⟩) hs.length hc,lv⟩) (nm:=nm) (out:=out) (to:=to) (mvs:=mvs) (W:=W) (w:=w) (R:=Old V::R) (nv:=nv) (ov:=ov) (tv:=tv)));unfold dsB at Hsh;simp only at Hsh);have g1:Nat:=0|(have:=g1);(fail_if_success (have:=g2));((go_at_call 56);refine(Ag7 (D:=⟨pb,ver,nxt,zv,.slice (some ⟨hb,hoff,none⟩) hs.length hc,lv⟩) Hz.out hzl Hl.out hll hto ma Hla.out W _ _ (Hsh.out _ hS)).mono ?_;clear hS;rintro e w ⟨rfl,hS1⟩;obtain⟨nv,ov,tv,hS⟩:=i6 hS1;clear hS1;unfold dsB at hS;simp only at hS;(have Hsh:=jH (fun w=>g8 (D:=⟨pb,ver,nxt,zv,.slice (some ⟨hb,hoff,none⟩) hs.length hc,lv⟩) (nm:=nm) (out:=out) (to:=to) (mvs:=mvs) (W:=W) (w:=w) (R:=Old V::R) (nv:=nv) (ov:=ov) (tv:=tv)));unfold dsB at Hsh;simp only at Hsh);have g2:Nat:=0|(have:=g2);(fail_if_success (have:=g3));((go_at_call 56);refine(Ag7 (D:=⟨pb,ver,nxt,zv,.slice (some ⟨hb,hoff,none⟩) hs.length hc,lv⟩) Hz.out hzl Hl.out hll hto x Hlx.out W _ _ (Hsh.out _ hS)).mono ?_;clear hS;rintro e w ⟨rfl,hS1⟩;obtain⟨nv,ov,tv,hS⟩:=i6 hS1;clear hS1;unfold dsB at hS;simp only at hS;(have Hsh:=jH (fun w=>g8 (D:=⟨pb,ver,nxt,zv,.slice (some ⟨hb,hoff,none⟩) hs.length hc,lv⟩) (nm:=nm) (out:=out) (to:=to) (mvs:=mvs) (W:=W) (w:=w) (R:=Old V::R) (nv:=nv) (ov:=ov) (tv:=tv)));unfold dsB at Hsh;simp only at Hsh);have g3:Nat:=0|(have:=g3);(fail_if_success (have:=g4));((go_at_call 56);refine(Ag7 (D:=⟨pb,ver,nxt,zv,.slice (some ⟨hb,hoff,none⟩) hs.length hc,lv⟩) Hz.out hzl Hl.out hll hto mb Hlb.out W _ _ (Hsh.out _ hS)).mono ?_;clear hS;rintro e w ⟨rfl,hS1⟩;obtain⟨nv,ov,tv,hS⟩:=i6 hS1;clear hS1;unfold dsB at hS;simp only at hS;(have Hsh:=jH (fun w=>g8 (D:=⟨pb,ver,nxt,zv,.slice (some ⟨hb,hoff,none⟩) hs.length hc,lv⟩) (nm:=nm) (out:=out) (to:=to) (mvs:=mvs) (W:=W) (w:=w) (R:=Old V::R) (nv:=nv) (ov:=ov) (tv:=tv)));unfold dsB at Hsh;simp only at Hsh);have g4:Nat:=0)
     go_roundw
     case rel=>exact⟨i+1,ma,x,rfl,rfl,rfl,by omega,hil,Hna.out,Hnb.out,Hsh.out _ hS⟩
     case measure=>simp[intOf];omega
    ·have e2:decide (lx<lb)=false:=decide_eq_false c2;rw[if_neg c2]at hnb;have Hnb:=jH hnb;clear hna hnb c1 c2
     go_wp2_with(first|go_big_skip|refine zl1 hS ?_ (v:=.I x) (hc:=by exact a8.old (by exact b8) hx0)|refine zl1 hS ?_|(fail_if_success (have:=g1));((go_at_call 56);refine(Ag7 (D:=⟨pb,ver,nxt,zv,.slice (some ⟨hb,hoff,none⟩) hs.length hc,lv⟩) Hz.out hzl Hl.out hll hto x Hlx.out W _ _ (Hsh.out _ hS)).mono ?_;clear hS;rintro e w ⟨rfl,hS1⟩;obtain⟨nv,ov,tv,hS⟩:=i6 hS1;clear hS1;unfold dsB at hS;simp only at hS;(have Hsh:=jH (fun w=>g8 (D:=⟨pb,ver,nxt,zv,.slice (some ⟨hb,hoff,none⟩) hs.length hc,lv⟩) (nm:=nm) (out:=out) (to:=to) (mvs:=mvs) (W:=W) (w:=w) (R:=Old V::R) (nv:=nv) (ov:=ov) (tv:=tv)));unfold dsB at Hsh;simp only at Hsh);have g1:Nat:=0|(have:=g1);(fail_if_success (have:=g2));((go_at_call 56);refine(Ag7 (D:=⟨pb,ver,nxt,zv,.slice (some ⟨hb,hoff,none⟩) hs.length hc,lv⟩) Hz.out hzl Hl.out hll hto ma Hla.out W _ _ (Hsh.out _ hS)).mono ?_;clear hS;rintro e w ⟨rfl,hS1⟩;obtain⟨nv,ov,tv,hS⟩:=i6 hS1;clear hS1;unfold dsB at hS;simp only at hS;(have Hsh:=jH (fun w=>g8 (D:=⟨pb,ver,nxt,zv,.slice (some ⟨hb,hoff,none⟩) hs.length hc,lv⟩) (nm:=nm) (out:=out) (to:=to) (mvs:=mvs) (W:=W) (w:=w) (R:=Old V::R) (nv:=nv) (ov:=ov) (tv:=tv)));unfold dsB at Hsh;simp only at Hsh);have g2:Nat:=0|(have:=g2);(fail_if_success (have:=g3));((go_at_call 56);refine(Ag7 (D:=⟨pb,ver,nxt,zv,.slice (some ⟨hb,hoff,none⟩) hs.length hc,lv⟩) Hz.out hzl Hl.out hll hto x Hlx.out W _ _ (Hsh.out _ hS)).mono ?_;clear hS;rintro e w ⟨rfl,hS1⟩;obtain⟨nv,ov,tv,hS⟩:=i6 hS1;clear hS1;unfold dsB at hS;simp only at hS;(have Hsh:=jH (fun w=>g8 (D:=⟨pb,ver,nxt,zv,.slice (some ⟨hb,hoff,none⟩) hs.length hc,lv⟩) (nm:=nm) (out:=out) (to:=to) (mvs:=mvs) (W:=W) (w:=w) (R:=Old V::R) (nv:=nv) (ov:=ov) (tv:=tv)));unfold dsB at Hsh;simp only at Hsh);have g3:Nat:=0|(have:=g3);(fail_if_success (have:=g4));((go_at_call 56);refine(Ag7 (D:=⟨pb,ver,nxt,zv,.slice (some ⟨hb,hoff,none⟩) hs.length hc,lv⟩) Hz.out hzl Hl.out hll hto mb Hlb.out W _ _ (Hsh.out _ hS)).mono ?_;clear hS;rintro e w ⟨rfl,hS1⟩;obtain⟨nv,ov,tv,hS⟩:=i6 hS1;clear hS1;unfold dsB at hS;simp only at hS;(have Hsh:=jH (fun w=>g8 (D:=⟨pb,ver,nxt,zv,.slice (some ⟨hb,hoff,none⟩) hs.length hc,lv⟩) (nm:=nm) (out:=out) (to:=to) (mvs:=mvs) (W:=W) (w:=w) (R:=Old V::R) (nv:=nv) (ov:=ov) (tv:=tv)));unfold dsB at Hsh;simp only at Hsh);have g4:Nat:=0)
     go_roundw
     case rel=>exact⟨i+1,ma,mb,rfl,rfl,rfl,by omega,hil,Hna.out,Hnb.out,Hsh.out _ hS⟩
     case measure=>simp[intOf];omega
  ·have d1:decide (i<hs.length)=false:=decide_eq_false hil;have hie:i=hs.length:=by omega
   rw[hie,List.take_length]at hma hmb;have Hma:=jH hma;have Hmb:=jH hmb;clear hma hmb hi hie;go_wp2_with(first|go_big_skip|refine zl1 hS ?_);go_ret2;exact⟨ma,mb,Hma.out,Hmb.out,rfl,Hsh.out _ hS⟩
def co4(f t k:ByteArray)(r:Bool):Value:=if r=true then .tuple #[.agg #[.string f,.string k],.agg #[.string k,.string t],.bool true]else .tuple #[.agg #[.string bN,.string bN],.agg #[.string bN,.string bN],.bool false]
theorem Hs7{f t k:ByteArray}{r:Bool}(hr:B5 f t k=r)(W w:World)(R:List HP)(hS:St W R w):
  Calls Tryz.prog 51 #[.agg #[.string f,.string t],.string k] w fun e w'=>e=.returned (co4 f t k r)/\St W R w':=by
 go_enter Tryz.func51,Tryz.ntmps51;unfold B5 at hr
 cases h1:aa4 f t k with
 | false=>
  rw[h1]at hr;obtain rfl:false=r:=hr;have H1:=jH h1;clear h1;go_wp2_with(first|go_big_skip|refine zbx hS ?_;clear hS;intro bO w hS|(fail_if_success (have:=mA1));(refine zal hS ?_;clear hS;have mA1:Nat:=0;intro bA w hS)|(have:=mA1);refine zal hS ?_;clear hS;intro bB w hS|refine zlN hS ?_|refine zl1 hS ?_|go_at_call 76;refine(BO7 H1.out W _ _ hS).mono ?_;clear hS;rintro e w ⟨rfl,hS⟩|refine zsN hS ?_;clear hS;intro w hS);apply Au7;rfl;rfl;rfl;rfl;rfl;exact hS;decide +kernel;exact s9;kernel_rfl;decide +kernel;exact s9;kernel_rfl;exact⟨rfl,hS.s _⟩
 | true=>
  rw[h1]at hr;have hb:Op.bytesLess k.toList f.toList=false:=by unfold aa4 at h1;simp only[jB,Bool.not_eq_true']at h1;exact h1.2.2.2.1
  have hlt:ltU f k=(!ltU k f&&!(k.toList==f.toList)):=Du7 f k;have H1:=jH h1;rw[hlt,show ltU k f=false from hb]at hr;clear h1 hlt
  cases he:k.toList==f.toList with
  | true=>
   rw[he]at hr;obtain rfl:false=r:=hr;go_wp2_with(first|go_big_skip|refine zbx hS ?_;clear hS;intro bO w hS|(fail_if_success (have:=mA1));(refine zal hS ?_;clear hS;have mA1:Nat:=0;intro bA w hS)|(have:=mA1);refine zal hS ?_;clear hS;intro bB w hS|refine zlN hS ?_|refine zl1 hS ?_|go_at_call 76;refine(BO7 H1.out W _ _ hS).mono ?_;clear hS;rintro e w ⟨rfl,hS⟩|refine zsN hS ?_;clear hS;intro w hS);apply Au7;rfl;rfl;rfl;rfl;rfl;exact hS;decide +kernel;exact s9;kernel_rfl;decide +kernel;exact s9;kernel_rfl;exact⟨rfl,hS.s _⟩
  | false=>
   rw[he]at hr;obtain rfl:true=r:=hr;go_wp2_with(first|go_big_skip|refine zbx hS ?_;clear hS;intro bO w hS|(fail_if_success (have:=mA1));(refine zal hS ?_;clear hS;have mA1:Nat:=0;intro bA w hS)|(have:=mA1);refine zal hS ?_;clear hS;intro bB w hS|refine zlN hS ?_|refine zl1 hS ?_|go_at_call 76;refine(BO7 H1.out W _ _ hS).mono ?_;clear hS;rintro e w ⟨rfl,hS⟩);have hS1:=hS.s (blk bA [.string ⟨#[]⟩,.string ⟨#[]⟩] 53::blk bB [.string ⟨#[]⟩,.string ⟨#[]⟩] 53::blk bO [.string f,.string t] 53::R);clear hS
   refine rf2 [0,1,0,7,0,0,32,112,15,511,1023] (fun i=>false) [⟨some 8,none,fun nd=>blk bA [.string f,.string k] 53⟩,⟨some 9,none,fun nd=>blk bB [.string k,.string t] 53⟩]
    [some 8,some 9,none] hS1 ?_
   intro nd
   repeat(first|refine zc1 ?_|refine zcN ?_|refine zcn ?_|refine zca ?_|refine zct ?_|refine zcs ?_|refine cR ?_)
   refine AC7 ?_;clear hS1;intro w hS0;have hS1:St W [blk bA [.string f,.string k] 53,blk bB [.string k,.string t] 53,blk bO [.string f,.string t] 53,sats R] w:=hS0;have hS:=hS1.unpack [_,_,_];clear hS0 hS1;simp only[jK,jN]at hS;go_wp2_with(first|go_big_skip);apply Au7;rfl;rfl;rfl;rfl;rfl;exact hS;decide +kernel;exact s9;kernel_rfl;decide +kernel;exact s9;kernel_rfl;exact⟨rfl,hS.s _⟩
def nmD(zs:List Zo)(nm:List Int):List Bool:=zs.map fun z=>decide (z.id∈nm)
theorem Ak7(zs:List Zo)(nm:List Int):(nmD zs nm).length=zs.length:=by simp[nmD]
theorem Jy7{zs:List Zo}(nm:List Int){i:Nat}(h:i<zs.length):(nmD zs nm).getD i false=decide (zs[i].id∈nm):=by simp[nmD,List.getD,h]
theorem Dz7{zs:List Zo}(hn:(zs.map (·.id)).Nodup)(nm:List Int){i:Nat}(h:i<zs.length):(nmD zs nm).set i true=nmD zs (zs[i].id::nm):=by
 refine List.ext_getElem (by simp[nmD]) fun j hj _=>?_
 rw[List.length_set,Ak7]at hj;rw[List.getElem_set];by_cases hij:i=j
 ·subst hij;rw[if_pos rfl];simp[nmD]
 ·rw[if_neg hij]
  have hne:zs[j].id≠zs[i].id:=by
   have h1:=List.pairwise_iff_getElem.1 (List.nodup_iff_pairwise_ne.1 hn)
   rcases Nat.lt_or_gt_of_ne hij with h2|h2
   ·have:=h1 i j (by rw[jM];exact h) (by rw[jM];exact hj) h2;simpa using fun e=>this (by simpa using e.symm)
   ·have:=h1 j i (by rw[jM];exact hj) (by rw[jM];exact h) h2;simpa using this
  simp[nmD,hne]
def toD(zs:List Zo)(s:Pn):List Int:=zs.map (atZ s)
theorem Ao7(zs:List Zo)(s:Pn):(toD zs s).length=zs.length:=by simp[toD]
theorem Jz7{zs:List Zo}(hn:(zs.map (·.id)).Nodup)(s:Pn)(b:Int){i:Nat}(h:i<zs.length):(toD zs s).set i b=toD zs (J6 s zs[i] b):=by
 refine List.ext_getElem (by simp[toD]) fun j hj _=>?_
 rw[List.length_set,Ao7]at hj;rw[List.getElem_set];simp only[toD,List.getElem_map];have e:∀y:Zo,atZ (J6 s zs[i] b) y=if zs[i].id=y.id then b else atZ s y:=fun y=>by unfold atZ J6;simp only;rw[BD7];split <;> rfl
 rw[e];by_cases hij:i=j
 ·subst hij;rw[if_pos rfl,if_pos rfl]
 ·rw[if_neg hij,if_neg];have h1:=List.pairwise_iff_getElem.1 (List.nodup_iff_pairwise_ne.1 hn)
  rcases Nat.lt_or_gt_of_ne hij with h2|h2
  ·have:=h1 i j (by rw[jM];exact h) (by rw[jM];exact hj) h2;simpa using this
  ·have:=h1 j i (by rw[jM];exact hj) (by rw[jM];exact h) h2;simpa using fun e=>this (by simpa using e.symm)
abbrev dsS(D:De)(zs:List Zo)(s:Pn)(mvs:Int):HP:=dsP D (nmD zs s.nm) s.out (toD zs s) mvs
theorem aK4{zs:List Zo}{s:Pn}{i:Nat}(h:i<zs.length):(decide (zs[i].pend=0)&&!((nmD zs s.nm).getD i false))=s7 s zs[i]:=by rw[Jy7 _ h];rfl
end Go.Proofs.YtjcfifkjbaffnaaGreat
end
