/-
  What one economy says to all events, the program's and the document's.
-/
import Derived.Test.YtienbkdjkjbelaaGreatJuRM5
import Derived.Test.YtienbkdjkjbelaaGreatJuRM44
set_option maxHeartbeats 16000000
set_option maxRecDepth 100000
set_option linter.unusedSimpArgs false
set_option linter.unusedVariables false
section
namespace Go.Proofs.YtienbkdjkjbelaaGreat
open Go.RowKit Go.Sl
theorem Rpl.len6(r:Rpl):r.cells.length=6:=rfl
def ba4(v:Value)(l:List Rpl):HP:=row v 6 36 l.length (l.flatMap Rpl.cells)
theorem EP7{evs:List Evn}{xs:List Opn}(hx:evs.map (·.op)=xs){i:Nat}(h:i<evs.length):∃h2:i<xs.length,evs[i].op=xs[i]:=by subst hx;exact⟨by rw[jM];exact h,by simp⟩
theorem C9.evn{V:World}{v:Value}{evs:List Evn}(h:C9 Evn.cells 14 V v evs):∃a cap,v=.slice a evs.length cap/\∀i (h:i<evs.length), ∃b off,a=some ⟨b,off,none⟩/\∀(j:Nat) (v:Value),evs[i].cells[j]? = some v->V.cell? ⟨b,off+i*14+j,none⟩=some v:=by obtain⟨a,cap,hv,h63,hc⟩:=h;exact⟨a,cap,hv,hc⟩
theorem Ne7{V:World}{b off:Nat}{e:Evn}(h:∀(j:Nat) (v:Value),e.cells[j]? = some v->V.cell? ⟨b,off+j,none⟩=some v):∀(j:Nat) (v:Value),e.op.cells[j]? = some v->V.cell? ⟨b,off+2+j,none⟩=some v:=fun j v hj=>by have:=h (j+2) v (by rw[Evn.cells,List.getElem?_cons_succ,List.getElem?_cons_succ];exact hj);rwa [show off+(j+2)=off+2+j by omega]at this
def fV4(W:World)(L:List HP)(eb:Nat)(xs:List Opn)(v1 v2:Value)(w:World):Prop:=
 ∃i:Nat,v2=.I i/\i<=xs.length/\St W (ba4 v1 (l9 (xs.take i) ec0)::ecP eb (A8 (xs.take i) ec0)::L) w
theorem HM7{evs:List Evn}{xs:List Opn}(hx:evs.map (·.op)=xs)(hlen:xs.length<=150)(v:Value)(V:World)(hv:C9 Evn.cells 14 V v evs)(W w:World)(Lr:List HP)(hS:St W (Old V::Lr) w):
  Calls Tryz.prog 21 #[v] w fun e w'=>∃vr eb,e=.returned (.tuple #[vr,.P eb])/\St W (ba4 vr (l9 xs ec0)::ecP eb (A8 xs ec0)::Old V::Lr) w':=by
 obtain⟨a,cap,rfl,hact⟩:=hv.evn;have hl0:evs.length=xs.length:=by rw[<-hx,jM]
 have Ha:=jH hact;have Hx:=jH hx;rw[hl0];have Hl:=jH hl0;clear hact hv hx hl0;go_enter Tryz.func21,Tryz.ntmps21;go_wp2_with(first|go_big_skip|go_at_call 26;refine(GP7 W _ _ hS).mono ?_;clear hS;rintro e w ⟨eb,rfl,hS⟩);have hS0:=hS.rowNil (k:=6) (T:=36);clear hS;have hS:=hS0;clear hS0
 go_loopw [2,14] (fun v1 v2 wr=>fV4 W (Old V::Lr) eb xs v1 v2 wr) (fun _ v2 _=>xs.length-(intOf v2).toNat)
 case atStart=>exact⟨0,rfl,Nat.zero_le _,hS⟩
 case round=>
  clear hS;obtain⟨i,rfl,hi,hS⟩:=hrel;by_cases hil:i<xs.length
  ·have hd1:decide (i<xs.length)=true:=decide_eq_true hil;obtain⟨pb,poff,rfl,hall⟩:=Ha.out i (by rw[Hl.out];exact hil);obtain⟨_,hop⟩:=EP7 Hx.out (i:=i) (by rw[Hl.out];exact hil);have hok:EOk (A8 (xs.take i) ec0) i:=(DM7 xs i hi).ok.ok;have hstep:=FT7 hil ec0;have hrun:=FQ7 hil ec0;have hal:(l9 (xs.take i) ec0).length=i:=by rw[AE7,jT];omega
   generalize l9 (xs.take i) ec0=acc at hS hstep hal;generalize A8 (xs.take i) ec0=e1 at hS hok hstep hrun;rw[<-hop]at hstep hrun;clear hop;generalize evs[i]'(by rw[Hl.out];exact hil)=x at hall hstep hrun;obtain⟨zn,ix,kd,cl,sq,ak,aw,tk,tw,it,ct,pr,bu,id⟩:=x;simp only[Evn.cells,Opn.cells]at hall;obtain⟨⟨⟨r0,r1,⟨r2,r3,r4,r5⟩⟩,rb,e2⟩,h1⟩:∃z,p8 e1 ⟨kd,cl,sq,ak,aw,tk,tw,it,ct,pr,bu,id⟩=z:=⟨_,rfl⟩
   rw[h1]at hstep hrun;have H1:=jH h1;have Hstep:=jH hstep;have Hrun:=jH hrun;have Hok:=jH hok;have hal1:acc.length<=i:=by omega
   have hi9:i<=150:=by omega
   clear hstep hrun hal hi h1 hok;obtain⟨na,nc,rfl⟩:=hS.rowVal;go_wp2_with(first|go_big_skip|refine zlN hS ?_ (vs:=[.I zn,.I ix,.I kd,.I cl,.I sq,.string ak,.string aw,.string tk,.string tw,.I it,.I ct,.I pr,.bool bu,.I id]) (hc:=by exact d8.old (by exact bC4) hall)|(fail_if_success (have:=gA));(refine zal hS ?_;clear hS;have gA:Nat:=0;intro bA w hS)|(have:=gA);refine zal hS ?_;clear hS;intro bB w hS|refine zsN hS ?_;clear hS;intro w hS|go_at_call 27;(have hS9:=hS.s (ecP eb e1::blk bA [.I zn,.I ix,.I kd,.I cl,.I sq,.string ak,.string aw,.string tk,.string tw,.I it,.I ct,.I pr,.bool bu,.I id] 76::ba4 (.slice na acc.length nc) acc::Old V::Lr));clear hS;refine Calls.mono (EO7 Hok.out (by omega) H1.out W _ _ hS9) ?_;clear hS9;rintro ex w ⟨_,rfl,hS⟩|refine zlN hS ?_ (vs:=[.I kd,.I cl,.I sq,.string ak,.string aw,.string tk,.string tw,.I it,.I ct,.I pr,.bool bu,.I id]) (hc:=by exact d8.here rfl)|refine zlN hS ?_|refine zl1 hS ?_|refine zbs hS ?_;clear hS;intro bS w hS|refine zap hS ?_ (h63:=by unfold maxLen;omega) (hb:=by omega);clear hS;intro va w hS);go_roundw
   case rel=>
    refine⟨i+1,rfl,hil,?_⟩;rw[Hstep.out,Hrun.out];have h0:=hS.s (row va 6 36 (acc.length+1) (acc.flatMap Rpl.cells++_)::ecP eb e2::Old V::Lr);have h1:=bz4 (y:=(⟨r0,r1,⟨r2,r3,r4,r5⟩⟩:Rpl)) h0 rfl;exact h1
   case measure=>simp[intOf];omega
  ·have hd1:decide (i<xs.length)=false:=decide_eq_false hil;have hi2:i=xs.length:=by omega
   rw[hi2,List.take_length]at hS;clear hi hil hi2;go_wp2_with(first|go_big_skip);go_ret2;exact⟨_,_,rfl,hS⟩
def fW4(W:World)(L:List HP)(xb:Nat)(xs:List Opn)(v1 v2:Value)(w:World):Prop:=
 ∃i:Nat,v2=.I i/\i<=xs.length/\St W (ba4 v1 (l9 (xs.take i) ec0)::aG4 xb (bk4 (xs.take i) ec0)::L) w
theorem Hh7{evs:List Evn}{xs:List Opn}(hx:evs.map (·.op)=xs)(hlen:xs.length<=150)(v:Value)(V:World)(hv:C9 Evn.cells 14 V v evs)(W w:World)(Lr:List HP)(hS:St W (Old V::Lr) w):
  Calls Tryz.prog 12 #[v] w fun e w'=>∃vr xb,e=.returned (.tuple #[vr,.P xb])/\St W (ba4 vr (l9 xs ec0)::aG4 xb (bk4 xs ec0)::Old V::Lr) w':=by
 obtain⟨a,cap,rfl,hact⟩:=hv.evn;have hl0:evs.length=xs.length:=by rw[<-hx,jM]
 have Ha:=jH hact;have Hx:=jH hx;rw[hl0];have Hl:=jH hl0;clear hact hv hx hl0;go_enter Tryz.func12,Tryz.ntmps12;go_wp2_with(first|go_big_skip|refine zbx hS ?_;clear hS;intro xb w hS);have hS0:=(fe4 (hS.s (xeB xb (.slice none 0 0) (.slice none 0 0) (.slice none 0 0) (.slice none 0 0)::Old V::Lr))).rowNil (k:=6) (T:=36);clear hS;have hS:=hS0;clear hS0
 go_loopw [5,6] (fun v1 v2 wr=>fW4 W (Old V::Lr) xb xs v1 v2 wr) (fun _ v2 _=>xs.length-(intOf v2).toNat)
 case atStart=>exact⟨0,rfl,Nat.zero_le _,hS⟩
 case round=>
  clear hS;obtain⟨i,rfl,hi,hS⟩:=hrel;by_cases hil:i<xs.length
  ·have hd1:decide (i<xs.length)=true:=decide_eq_true hil;obtain⟨pb,poff,rfl,hall⟩:=Ha.out i (by rw[Hl.out];exact hil);obtain⟨_,hop0⟩:=EP7 Hx.out (i:=i) (by rw[Hl.out];exact hil);have hj:=DM7 xs i hi;have hsm:=hj.same xs[i];have hok:=fun k=>hj.dok (by omega) k
   have hstep:=FT7 hil ec0;have hrun:=HJ7 hil ec0;have hal:(l9 (xs.take i) ec0).length=i:=by rw[AE7,jT];omega
   clear hj;generalize l9 (xs.take i) ec0=acc at hS hstep hal;rw[<-hsm.1]at hstep;clear hsm;generalize bk4 (xs.take i) ec0=d1 at hS hok hstep hrun;rw[<-hop0]at hstep hrun;clear hop0;have hop:=Ne7 hall;clear hall;generalize evs[i]'(by rw[Hl.out];exact hil)=x at hop hstep hrun;obtain⟨zn,ix,kd,cl,sq,ak,aw,tk,tw,it,ct,pr,bu,id⟩:=x;simp only[Opn.cells]at hop;obtain⟨⟨⟨r0,r1,⟨r2,r3,r4,r5⟩⟩,rb,d2⟩,h1⟩:∃z,I8 d1 ⟨kd,cl,sq,ak,aw,tk,tw,it,ct,pr,bu,id⟩=z:=⟨_,rfl⟩
   rw[h1]at hstep hrun;have H1:=jH h1;have Hstep:=jH hstep;have Hrun:=jH hrun;have Hok:=jH (hok ak);have hal1:acc.length<=i:=by omega
   have hi9:i<=150:=by omega
   clear hstep hrun hal hi h1 hok;obtain⟨na,nc,rfl⟩:=hS.rowVal;go_wp2_with(first|go_big_skip|refine zlN hS ?_ (vs:=[.I kd,.I cl,.I sq,.string ak,.string aw,.string tk,.string tw,.I it,.I ct,.I pr,.bool bu,.I id]) (hc:=by exact d8.old (by exact bC4) hop)|go_at_call 25;refine(EN7 (by omega) Hok.out H1.out W _ _ (hS.s (aG4 xb d1::ba4 (.slice na acc.length nc) acc::Old V::Lr))).mono ?_;clear hS;rintro ex w ⟨rfl,hS⟩|refine zal hS ?_;clear hS;intro bB w hS|refine zsN hS ?_;clear hS;intro w hS|refine zlN hS ?_|refine zl1 hS ?_|refine zbs hS ?_;clear hS;intro bS w hS|refine zap hS ?_ (h63:=by unfold maxLen;omega) (hb:=by omega);clear hS;intro va w hS);go_roundw
   case rel=>
    refine⟨i+1,rfl,hil,?_⟩;rw[Hstep.out,Hrun.out];have h0:=hS.s (row va 6 36 (acc.length+1) (acc.flatMap Rpl.cells++_)::aG4 xb d2::Old V::Lr);have h1:=bz4 (y:=(⟨r0,r1,⟨r2,r3,r4,r5⟩⟩:Rpl)) h0 rfl;exact h1
   case measure=>simp[intOf];omega
  ·have hd1:decide (i<xs.length)=false:=decide_eq_false hil;have hi2:i=xs.length:=by omega
   rw[hi2,List.take_length]at hS;clear hi hil hi2;go_wp2_with(first|go_big_skip);go_ret2;exact⟨_,_,rfl,hS⟩
def ei4(xs:List Opn)(i:Nat):Prop:=∀j (h:j<xs.length),j<i->ar4 xs j h=true
theorem Lj7{xs:List Opn}{i:Nat}(h:ei4 xs i)(hi:i<xs.length)(h1:ar4 xs i hi=true):ei4 xs (i+1):=fun j hj hl=>by
 by_cases e:j=i
 ·subst e;exact h1
 ·exact h j hj (by omega)
def TwR(W:World)(L:List HP)(F:Nat->HP)(xs:List Opn)(v:Value)(w:World):Prop:=
 ∃i:Nat,v=.I i/\i<=xs.length/\ei4 xs i/\St W (F i::L) w
theorem HN7{evs:List Evn}{xs:List Opn}(hx:evs.map (·.op)=xs)(hlen:xs.length<=150)(v:Value)(V:World)(hv:C9 Evn.cells 14 V v evs)(W w:World)(Lr:List HP)(hS:St W (Old V::Lr) w):
  Calls Tryz.prog 14 #[v] w fun e w'=>∃n:Int,e=.returned (.I n)/\TwI xs n/\St W (Old V::Lr) w':=by
 obtain⟨a,cap,rfl,hact⟩:=hv.evn;have hl0:evs.length=xs.length:=by rw[<-hx,jM]
 have Ha:=jH hact;have Hx:=jH hx;rw[hl0];have Hl:=jH hl0;clear hact hv hx hl0;go_enter Tryz.func14,Tryz.ntmps14;go_wp2_with(first|go_big_skip|go_at_call 26;refine(GP7 W _ _ hS).mono ?_;clear hS;rintro e w ⟨eb,rfl,hS⟩)
 go_loopw [11] (fun v1 wr=>TwR W (Old V::Lr) (fun i=>ecP eb (A8 (xs.take i) ec0)) xs v1 wr) (fun v1 _=>xs.length-(intOf v1).toNat)
 case atStart=>exact⟨0,rfl,Nat.zero_le _,fun _ _ h=>absurd h (Nat.not_lt_zero _),hS⟩
 case round=>
  clear hS;obtain⟨i,rfl,hi,hD,hS⟩:=hrel;by_cases hil:i<xs.length
  ·have hd1:decide (i<xs.length)=true:=decide_eq_true hil;obtain⟨pb,poff,rfl,hall⟩:=Ha.out i (by rw[Hl.out];exact hil);obtain⟨_,hop⟩:=EP7 Hx.out (i:=i) (by rw[Hl.out];exact hil);have hok:EOk (A8 (xs.take i) ec0) i:=(DM7 xs i hi).ok.ok;have hrun:=FQ7 hil ec0;have hdn:ar4 xs i hil=(p8 (A8 (xs.take i) ec0) xs[i]).2.1:=rfl;simp only at hS;generalize A8 (xs.take i) ec0=e1 at hS hok hrun hdn;rw[<-hop]at hrun hdn;clear hop;generalize evs[i]'(by rw[Hl.out];exact hil)=x at hall hrun hdn;obtain⟨zn,ix,kd,cl,sq,ak,aw,tk,tw,it,ct,pr,bu,id⟩:=x;simp only[Evn.cells,Opn.cells]at hall;obtain⟨⟨⟨r0,r1,⟨r2,r3,r4,r5⟩⟩,rb,e2⟩,h1⟩:∃z,p8 e1 ⟨kd,cl,sq,ak,aw,tk,tw,it,ct,pr,bu,id⟩=z:=⟨_,rfl⟩
   rw[h1]at hrun hdn;have H1:=jH h1;have Hrun:=jH hrun;have Hdn:=jH hdn;have Hok:=jH hok;have HD:=jH hD;clear hrun hdn hi h1 hok hD
   cases rb with
   | true=>
    go_wp2_with(first|go_big_skip|refine zlN hS ?_ (vs:=[.I zn,.I ix,.I kd,.I cl,.I sq,.string ak,.string aw,.string tk,.string tw,.I it,.I ct,.I pr,.bool bu,.I id]) (hc:=by exact d8.old (by exact bC4) hall)|(fail_if_success (have:=gA));(refine zal hS ?_;clear hS;have gA:Nat:=0;intro bA w hS)|(have:=gA);refine zal hS ?_;clear hS;intro bB w hS|refine zsN hS ?_;clear hS;intro w hS|go_at_call 27;(have hS9:=hS.s (ecP eb e1::blk bA [.I zn,.I ix,.I kd,.I cl,.I sq,.string ak,.string aw,.string tk,.string tw,.I it,.I ct,.I pr,.bool bu,.I id] 76::Old V::Lr));clear hS;refine Calls.mono (EO7 Hok.out (by omega) H1.out W _ _ hS9) ?_;clear hS9;rintro ex w ⟨_,rfl,hS⟩|refine zlN hS ?_ (vs:=[.I kd,.I cl,.I sq,.string ak,.string aw,.string tk,.string tw,.I it,.I ct,.I pr,.bool bu,.I id]) (hc:=by exact d8.here rfl)|refine zlN hS ?_|refine zl1 hS ?_);go_roundw
    case rel=>
     refine⟨i+1,rfl,hil,Lj7 HD.out hil Hdn.out,?_⟩;show St W (ecP eb (A8 (xs.take (i+1)) ec0)::Old V::Lr) w
     rw[Hrun.out];exact hS.s _
    case measure=>simp[intOf];omega
   | false=>
    go_wp2_with(first|go_big_skip|refine zlN hS ?_ (vs:=[.I zn,.I ix,.I kd,.I cl,.I sq,.string ak,.string aw,.string tk,.string tw,.I it,.I ct,.I pr,.bool bu,.I id]) (hc:=by exact d8.old (by exact bC4) hall)|(fail_if_success (have:=gA));(refine zal hS ?_;clear hS;have gA:Nat:=0;intro bA w hS)|(have:=gA);refine zal hS ?_;clear hS;intro bB w hS|refine zsN hS ?_;clear hS;intro w hS|go_at_call 27;(have hS9:=hS.s (ecP eb e1::blk bA [.I zn,.I ix,.I kd,.I cl,.I sq,.string ak,.string aw,.string tk,.string tw,.I it,.I ct,.I pr,.bool bu,.I id] 76::Old V::Lr));clear hS;refine Calls.mono (EO7 Hok.out (by omega) H1.out W _ _ hS9) ?_;clear hS9;rintro ex w ⟨_,rfl,hS⟩|refine zlN hS ?_ (vs:=[.I kd,.I cl,.I sq,.string ak,.string aw,.string tk,.string tw,.I it,.I ct,.I pr,.bool bu,.I id]) (hc:=by exact d8.here rfl)|refine zlN hS ?_|refine zl1 hS ?_);go_ret;exact⟨_,rfl,.inr ⟨i,rfl,hil,Hdn.out,fun j hj=>HD.out j (by omega) hj⟩,hS.s _⟩
  ·have hd1:decide (i<xs.length)=false:=decide_eq_false hil;have HD:=jH hD;clear hD;have hi2:xs.length<=i:=by omega
   clear hi hil;go_wp2_with(first|go_big_skip);go_ret;exact⟨_,rfl,.inl ⟨rfl,fun j hj=>HD.out j hj (by omega)⟩,hS.drop⟩
theorem HO7{evs:List Evn}{xs:List Opn}(hx:evs.map (·.op)=xs)(hlen:xs.length<=150)(v:Value)(V:World)(hv:C9 Evn.cells 14 V v evs)(W w:World)(Lr:List HP)(hS:St W (Old V::Lr) w):
  Calls Tryz.prog 13 #[v] w fun e w'=>∃n:Int,e=.returned (.I n)/\TwI xs n/\St W (Old V::Lr) w':=by
 obtain⟨a,cap,rfl,hact⟩:=hv.evn;have hl0:evs.length=xs.length:=by rw[<-hx,jM]
 have Ha:=jH hact;have Hx:=jH hx;rw[hl0];have Hl:=jH hl0;clear hact hv hx hl0;go_enter Tryz.func13,Tryz.ntmps13;go_wp2_with(first|go_big_skip|refine zbx hS ?_;clear hS;intro xb w hS);have hS0:=fe4 (hS.s (xeB xb (.slice none 0 0) (.slice none 0 0) (.slice none 0 0) (.slice none 0 0)::Old V::Lr));clear hS;have hS:=hS0;clear hS0
 go_loopw [4] (fun v1 wr=>TwR W (Old V::Lr) (fun i=>aG4 xb (bk4 (xs.take i) ec0)) xs v1 wr) (fun v1 _=>xs.length-(intOf v1).toNat)
 case atStart=>exact⟨0,rfl,Nat.zero_le _,fun _ _ h=>absurd h (Nat.not_lt_zero _),hS⟩
 case round=>
  clear hS;obtain⟨i,rfl,hi,hD,hS⟩:=hrel;by_cases hil:i<xs.length
  ·have hd1:decide (i<xs.length)=true:=decide_eq_true hil;obtain⟨pb,poff,rfl,hall⟩:=Ha.out i (by rw[Hl.out];exact hil);obtain⟨_,hop0⟩:=EP7 Hx.out (i:=i) (by rw[Hl.out];exact hil);have hj:=DM7 xs i hi;have hsm:=hj.same xs[i];have hok:=fun k=>hj.dok (by omega) k
   have hrun:=HJ7 hil ec0;have hdn:ar4 xs i hil=(p8 (A8 (xs.take i) ec0) xs[i]).2.1:=rfl;clear hj;rw[<-hsm.2]at hdn;clear hsm;simp only at hS;generalize bk4 (xs.take i) ec0=d1 at hS hok hrun hdn;rw[<-hop0]at hrun hdn;clear hop0;have hop:=Ne7 hall;clear hall;generalize evs[i]'(by rw[Hl.out];exact hil)=x at hop hrun hdn;obtain⟨zn,ix,kd,cl,sq,ak,aw,tk,tw,it,ct,pr,bu,id⟩:=x;simp only[Opn.cells]at hop;obtain⟨⟨⟨r0,r1,⟨r2,r3,r4,r5⟩⟩,rb,d2⟩,h1⟩:∃z,I8 d1 ⟨kd,cl,sq,ak,aw,tk,tw,it,ct,pr,bu,id⟩=z:=⟨_,rfl⟩
   rw[h1]at hrun hdn;have H1:=jH h1;have Hrun:=jH hrun;have Hdn:=jH hdn;have Hok:=jH (hok ak);have HD:=jH hD;have hi9:i<=150:=by omega
   clear hrun hdn hi h1 hok hD
   cases rb with
   | true=>
    go_wp2_with(first|go_big_skip|refine zlN hS ?_ (vs:=[.I kd,.I cl,.I sq,.string ak,.string aw,.string tk,.string tw,.I it,.I ct,.I pr,.bool bu,.I id]) (hc:=by exact d8.old (by exact bC4) hop)|go_at_call 25;refine(EN7 (by omega) Hok.out H1.out W _ _ (hS.s (aG4 xb d1::Old V::Lr))).mono ?_;clear hS;rintro ex w ⟨rfl,hS⟩|(have:=gA);refine zal hS ?_;clear hS;intro bB w hS|refine zsN hS ?_;clear hS;intro w hS|refine zlN hS ?_|refine zl1 hS ?_|refine zal hS ?_;clear hS;intro bB w hS);go_roundw
    case rel=>
     refine⟨i+1,rfl,hil,Lj7 HD.out hil Hdn.out,?_⟩;show St W (aG4 xb (bk4 (xs.take (i+1)) ec0)::Old V::Lr) w
     rw[Hrun.out];exact hS.s _
    case measure=>simp[intOf];omega
   | false=>
    go_wp2_with(first|go_big_skip|refine zlN hS ?_ (vs:=[.I kd,.I cl,.I sq,.string ak,.string aw,.string tk,.string tw,.I it,.I ct,.I pr,.bool bu,.I id]) (hc:=by exact d8.old (by exact bC4) hop)|go_at_call 25;refine(EN7 (by omega) Hok.out H1.out W _ _ (hS.s (aG4 xb d1::Old V::Lr))).mono ?_;clear hS;rintro ex w ⟨rfl,hS⟩|refine zsN hS ?_;clear hS;intro w hS|refine zlN hS ?_|refine zl1 hS ?_|refine zal hS ?_;clear hS;intro bB w hS);go_ret;exact⟨_,rfl,.inr ⟨i,rfl,hil,Hdn.out,fun j hj=>HD.out j (by omega) hj⟩,hS.s _⟩
  ·have hd1:decide (i<xs.length)=false:=decide_eq_false hil;have HD:=jH hD;clear hD;have hi2:xs.length<=i:=by omega
   clear hi hil;go_wp2_with(first|go_big_skip);go_ret;exact⟨_,rfl,.inl ⟨rfl,fun j hj=>HD.out j hj (by omega)⟩,hS.drop⟩
end Go.Proofs.YtienbkdjkjbelaaGreat
end
