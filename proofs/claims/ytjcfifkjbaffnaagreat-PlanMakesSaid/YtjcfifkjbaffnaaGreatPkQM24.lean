/-
  The document's way.
-/
import Derived.Test.YtjcfifkjbaffnaaGreatPkQM5
import Derived.Test.YtjcfifkjbaffnaaGreatPkQM23
set_option maxHeartbeats 16000000
set_option maxRecDepth 100000
set_option linter.unusedSimpArgs false
set_option linter.unusedVariables false
section
namespace Go.Proofs.YtjcfifkjbaffnaaGreat
open Go.RowKit Go.Sl
def SxR(W:World)(R:List HP)(zs:List Zo)(i:Nat)(n:Int)(v:Value)(w:World):Prop:=
 ∃j:Nat,v=.I j/\j<=zs.length/\(∀k (h:k<zs.length),k<j->k≠i->zs[k].pend=1->zs[k].new≠n)/\St W R w
theorem Aj7{zs:List Zo}{v:Value}{V:World}{ver nxt:Int}(hv:d6 Zo.cells 9 V v zs)(hl:zs.length<=16){i:Nat}(hi:i<zs.length)(W w:World)(R:List HP)(hS:St W (Old V::R) w):
  Calls Tryz.prog 73 #[.agg #[.I ver,.I nxt,v],.I i] w fun e w'=>∃r,(r=true↔aE4 nxt zs zs[i]/\∀k (h:k<zs.length),k≠i->zs[k].pend=1->zs[k].new≠zs[i].new)/\e=.returned (.bool r)/\St W (Old V::R) w':=by
 have Hv:=jH hv;obtain⟨a,cap,rfl,h63,hact⟩:=hv;have Hat:=jH hact;clear hact;obtain⟨pb,poff,rfl,hall⟩:=Hat.out i hi;obtain⟨z,hz⟩:∃z,z=zs[i]:=⟨_,rfl⟩
 rw[<-hz]at hall ⊢;clear hz;obtain⟨z0,z1,z2,z3,z4,z5,z6,z7,z8⟩:=z;simp only[Zo.cells]at hall;unfold aE4;simp only;go_enter Tryz.func73,Tryz.ntmps73;obtain⟨F,hF⟩:∃F,m5 zs z8=F:=⟨_,rfl⟩
 rw[hF];have HF:=jH hF;clear hF;have hi16:i<=16:=by omega
 by_cases c0:B5 z1 z2 z7=true
 case neg=>
  have Hc:=jH (show B5 z1 z2 z7=false by simpa using c0);have Hno:=jH (show ¬((B5 z1 z2 z7=true/\z6=0/\1<=z8/\z8<nxt/\F<0)/\∀k (h:k<zs.length),k≠i->zs[k].pend=1->zs[k].new≠z8)from fun h=>c0 h.1.1);clear c0;go_wp2_with(first|go_big_skip|refine zbx hS ?_;clear hS;intro b1 w hS|refine zlN hS ?_ (vs:=[.I z0,.string z1,.string z2,.I z3,.I z4,.I z5,.I z6,.string z7,.I z8]) (hc:=by exact a7.old (by exact b8) hall)|refine zlN hS ?_ (vs:=[.string z1,.string z2]) (hc:=by first|exact a7.here rfl|exact a7.there (a7.here rfl))|(fail_if_success (have:=mA5));(refine zal hS ?_;clear hS;have mA5:Nat:=0;intro b5 w hS)|(have:=mA5);(fail_if_success (have:=mA6));(refine zal hS ?_;clear hS;have mA6:Nat:=0;intro bA w hS)|(have:=mA6);refine zal hS ?_;clear hS;intro bB w hS|refine zsN hS ?_;clear hS;intro w hS|refine zl1 hS ?_|go_at_call 51;refine(Bq7 Hc.out W _ _ hS).mono ?_;clear hS;rintro e w ⟨f1,t1,f2,t2,rfl,hS⟩|go_at_call 72;refine(Ad7 Hv.out z8 HF.out W _ _ _ (by(focus((repeat(first|exact .head|apply Take.tail));done))) hS).mono ?_;clear hS;rintro e w ⟨rfl,hS⟩);go_ret;exact⟨false,⟨fun h=>(by cases h),fun h=>absurd h Hno.out⟩,rfl,hS.s _⟩
 have Hc:=jH c0;by_cases c1:z6=0
 case neg=>
  have e1:(z6 != 0)=true:=by simpa using c1
  have Hno:=jH (show ¬((B5 z1 z2 z7=true/\z6=0/\1<=z8/\z8<nxt/\F<0)/\∀k (h:k<zs.length),k≠i->zs[k].pend=1->zs[k].new≠z8)from fun h=>c1 h.1.2.1);clear c0 c1;go_wp2_with(first|go_big_skip|refine zbx hS ?_;clear hS;intro b1 w hS|refine zlN hS ?_ (vs:=[.I z0,.string z1,.string z2,.I z3,.I z4,.I z5,.I z6,.string z7,.I z8]) (hc:=by exact a7.old (by exact b8) hall)|refine zlN hS ?_ (vs:=[.string z1,.string z2]) (hc:=by first|exact a7.here rfl|exact a7.there (a7.here rfl))|(fail_if_success (have:=mA5));(refine zal hS ?_;clear hS;have mA5:Nat:=0;intro b5 w hS)|(have:=mA5);(fail_if_success (have:=mA6));(refine zal hS ?_;clear hS;have mA6:Nat:=0;intro bA w hS)|(have:=mA6);refine zal hS ?_;clear hS;intro bB w hS|refine zsN hS ?_;clear hS;intro w hS|refine zl1 hS ?_|go_at_call 51;refine(Bq7 Hc.out W _ _ hS).mono ?_;clear hS;rintro e w ⟨f1,t1,f2,t2,rfl,hS⟩|go_at_call 72;refine(Ad7 Hv.out z8 HF.out W _ _ _ (by(focus((repeat(first|exact .head|apply Take.tail));done))) hS).mono ?_;clear hS;rintro e w ⟨rfl,hS⟩);go_ret;exact⟨false,⟨fun h=>(by cases h),fun h=>absurd h Hno.out⟩,rfl,hS.s _⟩
 have e1:(z6 != 0)=false:=by simpa using c1
 by_cases c2:z8<1
 ·have e2:decide (z8<1)=true:=decide_eq_true c2;have Hno:=jH (show ¬((B5 z1 z2 z7=true/\z6=0/\1<=z8/\z8<nxt/\F<0)/\∀k (h:k<zs.length),k≠i->zs[k].pend=1->zs[k].new≠z8)from fun h=>by have h9:=h.1.2.2.1;omega);clear c0 c1 c2;go_wp2_with(first|go_big_skip|refine zbx hS ?_;clear hS;intro b1 w hS|refine zlN hS ?_ (vs:=[.I z0,.string z1,.string z2,.I z3,.I z4,.I z5,.I z6,.string z7,.I z8]) (hc:=by exact a7.old (by exact b8) hall)|refine zlN hS ?_ (vs:=[.string z1,.string z2]) (hc:=by first|exact a7.here rfl|exact a7.there (a7.here rfl))|(fail_if_success (have:=mA5));(refine zal hS ?_;clear hS;have mA5:Nat:=0;intro b5 w hS)|(have:=mA5);(fail_if_success (have:=mA6));(refine zal hS ?_;clear hS;have mA6:Nat:=0;intro bA w hS)|(have:=mA6);refine zal hS ?_;clear hS;intro bB w hS|refine zsN hS ?_;clear hS;intro w hS|refine zl1 hS ?_|go_at_call 51;refine(Bq7 Hc.out W _ _ hS).mono ?_;clear hS;rintro e w ⟨f1,t1,f2,t2,rfl,hS⟩|go_at_call 72;refine(Ad7 Hv.out z8 HF.out W _ _ _ (by(focus((repeat(first|exact .head|apply Take.tail));done))) hS).mono ?_;clear hS;rintro e w ⟨rfl,hS⟩);go_ret;exact⟨false,⟨fun h=>(by cases h),fun h=>absurd h Hno.out⟩,rfl,hS.s _⟩
 have e2:decide (z8<1)=false:=decide_eq_false c2;by_cases c3:nxt<=z8
 ·have e3:decide (nxt<=z8)=true:=decide_eq_true c3;have Hno:=jH (show ¬((B5 z1 z2 z7=true/\z6=0/\1<=z8/\z8<nxt/\F<0)/\∀k (h:k<zs.length),k≠i->zs[k].pend=1->zs[k].new≠z8)from fun h=>by have h9:=h.1.2.2.2.1;omega);clear c0 c1 c2 c3;go_wp2_with(first|go_big_skip|refine zbx hS ?_;clear hS;intro b1 w hS|refine zlN hS ?_ (vs:=[.I z0,.string z1,.string z2,.I z3,.I z4,.I z5,.I z6,.string z7,.I z8]) (hc:=by exact a7.old (by exact b8) hall)|refine zlN hS ?_ (vs:=[.string z1,.string z2]) (hc:=by first|exact a7.here rfl|exact a7.there (a7.here rfl))|(fail_if_success (have:=mA5));(refine zal hS ?_;clear hS;have mA5:Nat:=0;intro b5 w hS)|(have:=mA5);(fail_if_success (have:=mA6));(refine zal hS ?_;clear hS;have mA6:Nat:=0;intro bA w hS)|(have:=mA6);refine zal hS ?_;clear hS;intro bB w hS|refine zsN hS ?_;clear hS;intro w hS|refine zl1 hS ?_|go_at_call 51;refine(Bq7 Hc.out W _ _ hS).mono ?_;clear hS;rintro e w ⟨f1,t1,f2,t2,rfl,hS⟩|go_at_call 72;refine(Ad7 Hv.out z8 HF.out W _ _ _ (by(focus((repeat(first|exact .head|apply Take.tail));done))) hS).mono ?_;clear hS;rintro e w ⟨rfl,hS⟩);go_ret;exact⟨false,⟨fun h=>(by cases h),fun h=>absurd h Hno.out⟩,rfl,hS.s _⟩
 have e3:decide (nxt<=z8)=false:=decide_eq_false c3;by_cases c4:0<=F
 ·have e4:decide (0<=F)=true:=decide_eq_true c4;have Hno:=jH (show ¬((B5 z1 z2 z7=true/\z6=0/\1<=z8/\z8<nxt/\F<0)/\∀k (h:k<zs.length),k≠i->zs[k].pend=1->zs[k].new≠z8)from fun h=>by have h9:=h.1.2.2.2.2;omega);clear c0 c1 c2 c3 c4;go_wp2_with(first|go_big_skip|refine zbx hS ?_;clear hS;intro b1 w hS|refine zlN hS ?_ (vs:=[.I z0,.string z1,.string z2,.I z3,.I z4,.I z5,.I z6,.string z7,.I z8]) (hc:=by exact a7.old (by exact b8) hall)|refine zlN hS ?_ (vs:=[.string z1,.string z2]) (hc:=by first|exact a7.here rfl|exact a7.there (a7.here rfl))|(fail_if_success (have:=mA5));(refine zal hS ?_;clear hS;have mA5:Nat:=0;intro b5 w hS)|(have:=mA5);(fail_if_success (have:=mA6));(refine zal hS ?_;clear hS;have mA6:Nat:=0;intro bA w hS)|(have:=mA6);refine zal hS ?_;clear hS;intro bB w hS|refine zsN hS ?_;clear hS;intro w hS|refine zl1 hS ?_|go_at_call 51;refine(Bq7 Hc.out W _ _ hS).mono ?_;clear hS;rintro e w ⟨f1,t1,f2,t2,rfl,hS⟩|go_at_call 72;refine(Ad7 Hv.out z8 HF.out W _ _ _ (by(focus((repeat(first|exact .head|apply Take.tail));done))) hS).mono ?_;clear hS;rintro e w ⟨rfl,hS⟩);go_ret;exact⟨false,⟨fun h=>(by cases h),fun h=>absurd h Hno.out⟩,rfl,hS.s _⟩
 have e4:decide (0<=F)=false:=decide_eq_false c4;have Hsp:=jH (show(B5 z1 z2 z7=true/\z6=0/\1<=z8/\z8<nxt/\F<0)from⟨c0,c1,by omega,by omega,by omega⟩);clear c0 c1 c2 c3 c4;go_wp2_with(first|go_big_skip|refine zbx hS ?_;clear hS;intro b1 w hS|refine zlN hS ?_ (vs:=[.I z0,.string z1,.string z2,.I z3,.I z4,.I z5,.I z6,.string z7,.I z8]) (hc:=by exact a7.old (by exact b8) hall)|refine zlN hS ?_ (vs:=[.string z1,.string z2]) (hc:=by first|exact a7.here rfl|exact a7.there (a7.here rfl))|(fail_if_success (have:=mA5));(refine zal hS ?_;clear hS;have mA5:Nat:=0;intro b5 w hS)|(have:=mA5);(fail_if_success (have:=mA6));(refine zal hS ?_;clear hS;have mA6:Nat:=0;intro bA w hS)|(have:=mA6);refine zal hS ?_;clear hS;intro bB w hS|refine zsN hS ?_;clear hS;intro w hS|refine zl1 hS ?_|go_at_call 51;refine(Bq7 Hc.out W _ _ hS).mono ?_;clear hS;rintro e w ⟨f1,t1,f2,t2,rfl,hS⟩|go_at_call 72;refine(Ad7 Hv.out z8 HF.out W _ _ _ (by(focus((repeat(first|exact .head|apply Take.tail));done))) hS).mono ?_;clear hS;rintro e w ⟨rfl,hS⟩);have hS1:=hS.s (blk b5 _ _::blk b1 _ _::Old V::R);clear hS
 go_loopw [9] (fun v wr=>SxR W (blk b5 [.I z0,.string z1,.string z2,.I z3,.I z4,.I z5,.I z6,.string z7,.I z8] 55::blk b1 [.I ver,.I nxt,.slice (some ⟨pb,poff,none⟩) zs.length cap] 24::Old V::R) zs i z8 v wr) (fun v _=>zs.length-(intOf v).toNat)
 case atStart=>exact⟨0,rfl,Nat.zero_le _,fun k _ h=>absurd h (Nat.not_lt_zero _),hS1⟩
 case round=>
  clear hS1;obtain⟨j,rfl,hj,hok,hS⟩:=hrel;by_cases hjl:j<zs.length
  ·have d1:decide (j<zs.length)=true:=decide_eq_true hjl;obtain⟨pb2,poff2,ea,hally⟩:=Hat.out j hjl
   cases ea
   obtain⟨y,hy⟩:∃y,y=zs[j]:=⟨_,rfl⟩
   rw[<-hy]at hally
   have hnx:(j≠i->y.pend=1->y.new≠z8)->∀k (h:k<zs.length),k<j+1->k≠i->zs[k].pend=1->zs[k].new≠z8:=fun h k hk hlt=>by
    rcases Nat.lt_or_ge k j with h1|h1
    ·exact hok k hk h1
    ·obtain rfl:k=j:=by omega
     rw[<-hy];exact h
   have hbad:j≠i->y.pend=1->y.new=z8->¬∀k (h:k<zs.length),k≠i->zs[k].pend=1->zs[k].new≠z8:=fun a b c h=>h j hjl a (by rw[<-hy];exact b) (by rw[<-hy];exact c)
   clear hy hok hj;obtain⟨y0,y1,y2,y3,y4,y5,y6,y7,y8⟩:=y;simp only[Zo.cells]at hally;simp only at hnx hbad;have hy5:V.cell? ⟨pb,poff+j*9+5,none⟩=some (.I y5):=hally 5 _ rfl;have hy8:V.cell? ⟨pb,poff+j*9+8,none⟩=some (.I y8):=hally 8 _ rfl;clear hally;by_cases c5:j=i
   ·have e5:((j:Int) != (i:Int))=false:=by rw[c5];simp
    have Hnx:=jH (hnx fun h=>absurd c5 h);clear hnx hbad c5;go_wp2_with(first|go_big_skip|refine zl1 hS ?_);refine Aa7 (by kernel_rfl) (by kernel_rfl) hS ?_
    repeat(first|go_big_quiet_skip|refine zq1 ?_|refine zq1 ?_ (v:=.I y5) (hc:=by exact a8.old (by exact b8) hy5)|refine zq1 ?_ (v:=.I y8) (hc:=by exact a8.old (by exact b8) hy8)|refine qR ?_)
    clear hS;intro w hS;go_wp2_with(first|go_big_skip);go_roundw
    case rel=>exact⟨j+1,rfl,hjl,Hnx.out,hS⟩
    case measure=>simp[intOf];omega
   have e5:((j:Int) != (i:Int))=true:=by simp;omega
   by_cases c6:y5=1
   case neg=>
    have e6:(y5==1)=false:=by simpa using c6
    have Hnx:=jH (hnx fun _ h=>absurd h c6);clear hnx hbad c5 c6;go_wp2_with(first|go_big_skip|refine zl1 hS ?_);refine Aa7 (by kernel_rfl) (by kernel_rfl) hS ?_
    repeat(first|go_big_quiet_skip|refine zq1 ?_|refine zq1 ?_ (v:=.I y5) (hc:=by exact a8.old (by exact b8) hy5)|refine zq1 ?_ (v:=.I y8) (hc:=by exact a8.old (by exact b8) hy8)|refine qR ?_)
    clear hS;intro w hS;go_wp2_with(first|go_big_skip);go_roundw
    case rel=>exact⟨j+1,rfl,hjl,Hnx.out,hS⟩
    case measure=>simp[intOf];omega
   have e6:(y5==1)=true:=by simpa using c6
   by_cases c7:y8=z8
   case neg=>
    have e7:(y8==z8)=false:=by simpa using c7
    have Hnx:=jH (hnx fun _ _=>c7);clear hnx hbad c5 c6 c7;go_wp2_with(first|go_big_skip|refine zl1 hS ?_);refine Aa7 (by kernel_rfl) (by kernel_rfl) hS ?_
    repeat(first|go_big_quiet_skip|refine zq1 ?_|refine zq1 ?_ (v:=.I y5) (hc:=by exact a8.old (by exact b8) hy5)|refine zq1 ?_ (v:=.I y8) (hc:=by exact a8.old (by exact b8) hy8)|refine qR ?_)
    clear hS;intro w hS;go_wp2_with(first|go_big_skip);go_roundw
    case rel=>exact⟨j+1,rfl,hjl,Hnx.out,hS⟩
    case measure=>simp[intOf];omega
   have e7:(y8==z8)=true:=by simpa using c7
   have Hno:=jH (show ¬((B5 z1 z2 z7=true/\z6=0/\1<=z8/\z8<nxt/\F<0)/\∀k (h:k<zs.length),k≠i->zs[k].pend=1->zs[k].new≠z8)from fun h=>hbad c5 c6 c7 h.2);clear hnx hbad c5 c6 c7;go_wp2_with(first|go_big_skip|refine zl1 hS ?_);refine Aa7 (by kernel_rfl) (by kernel_rfl) hS ?_
   repeat(first|go_big_quiet_skip|refine zq1 ?_|refine zq1 ?_ (v:=.I y5) (hc:=by exact a8.old (by exact b8) hy5)|refine zq1 ?_ (v:=.I y8) (hc:=by exact a8.old (by exact b8) hy8)|refine qR ?_)
   clear hS;intro w hS;go_wp2_with(first|go_big_skip);go_ret;exact⟨false,⟨fun h=>(by cases h),fun h=>absurd h Hno.out⟩,rfl,hS.s _⟩
  ·have d1:decide (j<zs.length)=false:=decide_eq_false hjl;have Hye:=jH (show(B5 z1 z2 z7=true/\z6=0/\1<=z8/\z8<nxt/\F<0)/\∀k (h:k<zs.length),k≠i->zs[k].pend=1->zs[k].new≠z8 from⟨Hsp.out,fun k hk=>hok k hk (by omega)⟩);clear hok hj;go_wp2_with(first|go_big_skip|refine zl1 hS ?_);go_ret;exact⟨true,⟨fun _=>Hye.out,fun _=>rfl⟩,rfl,hS.s _⟩
end Go.Proofs.YtjcfifkjbaffnaaGreat
end
