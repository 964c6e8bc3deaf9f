/-
  The first event that was known, of the program and of the document.
-/
import Derived.Test.YtienbkdjkjbelaaGreatJuA2M5
import Derived.Test.YtienbkdjkjbelaaGreatJuA2M39
import Derived.Test.YtienbkdjkjbelaaGreatJuA2M40
set_option maxHeartbeats 16000000
set_option maxRecDepth 100000
set_option linter.unusedSimpArgs false
set_option linter.unusedVariables false
section
namespace Go.Proofs.YtienbkdjkjbelaaGreat
open Go.RowKit Go.Sl
def eo4(xs:List Opn)(i:Nat):Prop:=∀j (h:j<xs.length),j<i->at4 xs j h=true
theorem LD7{xs:List Opn}{i:Nat}(h:eo4 xs i)(hi:i<xs.length)(h1:at4 xs i hi=true):eo4 xs (i+1):=fun j hj hl=>by
 by_cases e:j=i
 ·subst e;exact h1
 ·exact h j hj (by omega)
def TwR(W:World)(L:List HP)(F:Nat->HP)(xs:List Opn)(v:Value)(w:World):Prop:=
 ∃i:Nat,v=.I i/\i<=xs.length/\eo4 xs i/\St W (F i::L) w
theorem Ib7{evs:List Evn}{xs:List Opn}(hx:evs.map (·.op)=xs)(hlen:xs.length<=150)(v:Value)(V:World)(hv:w5 Evn.cells 14 V v evs)(W w:World)(Lr:List HP)(hS:St W (Old V::Lr) w):
  Calls Tryz.prog 14 #[v] w fun e w'=>∃n:Int,e=.returned (.I n)/\TwI xs n/\St W (Old V::Lr) w':=by
 obtain⟨a,cap,rfl,hact⟩:=hv.evn;have hl0:evs.length=xs.length:=by rw[<-hx,jM]
 have Ha:=jH hact;have Hx:=jH hx;rw[hl0];have Hl:=jH hl0;clear hact hv hx hl0;go_enter Tryz.func14,Tryz.ntmps14;go_wp2_with(first|go_big_skip|go_at_call 26;refine(GX7 W _ _ hS).mono ?_;clear hS;rintro e w ⟨eb,rfl,hS⟩)
 go_loopw [11] (fun v1 wr=>TwR W (Old V::Lr) (fun i=>ecP eb (A5 (xs.take i) ec0)) xs v1 wr) (fun v1 _=>xs.length-(intOf v1).toNat)
 case atStart=>exact⟨0,rfl,Nat.zero_le _,fun _ _ h=>absurd h (Nat.not_lt_zero _),hS⟩
 case round=>
  clear hS;obtain⟨i,rfl,hi,hD,hS⟩:=hrel;by_cases hil:i<xs.length
  ·have hd1:decide (i<xs.length)=true:=decide_eq_true hil;obtain⟨pb,poff,rfl,hall⟩:=Ha.out i (by rw[Hl.out];exact hil);obtain⟨_,hop⟩:=DM7 Hx.out (i:=i) (by rw[Hl.out];exact hil);have hok:EOk (A5 (xs.take i) ec0) i:=(ET7 xs i hi).ok.ok;have hrun:=FX7 hil ec0;have hdn:at4 xs i hil=(m7 (A5 (xs.take i) ec0) xs[i]).2.1:=rfl;simp only at hS;generalize A5 (xs.take i) ec0=e1 at hS hok hrun hdn;rw[<-hop]at hrun hdn;clear hop;generalize evs[i]'(by rw[Hl.out];exact hil)=x at hall hrun hdn;obtain⟨zn,ix,kd,cl,sq,ak,aw,tk,tw,it,ct,pr,bu,id⟩:=x;simp only[Evn.cells,Opn.cells]at hall;obtain⟨⟨⟨r0,r1,⟨r2,r3,r4,r5⟩⟩,rb,e2⟩,h1⟩:∃z,m7 e1 ⟨kd,cl,sq,ak,aw,tk,tw,it,ct,pr,bu,id⟩=z:=⟨_,rfl⟩
   rw[h1]at hrun hdn;have H1:=jH h1;have Hrun:=jH hrun;have Hdn:=jH hdn;have Hok:=jH hok;have HD:=jH hD;clear hrun hdn hi h1 hok hD
   cases rb with
   | true=>
    go_wp2_with(first|go_big_skip|refine zlN hS ?_ (vs:=[.I zn,.I ix,.I kd,.I cl,.I sq,.string ak,.string aw,.string tk,.string tw,.I it,.I ct,.I pr,.bool bu,.I id]) (hc:=by exact d8.old (by exact ab4) hall)|(fail_if_success (have:=gA));(refine zal hS ?_;clear hS;have gA:Nat:=0;intro bA w hS)|(have:=gA);refine zal hS ?_;clear hS;intro bB w hS|refine zsN hS ?_;clear hS;intro w hS|go_at_call 27;(have hS9:=hS.s (ecP eb e1::blk bA [.I zn,.I ix,.I kd,.I cl,.I sq,.string ak,.string aw,.string tk,.string tw,.I it,.I ct,.I pr,.bool bu,.I id] 76::Old V::Lr));clear hS;refine Calls.mono (ES7 Hok.out (by omega) H1.out W _ _ hS9) ?_;clear hS9;rintro ex w ⟨_,rfl,hS⟩|refine zlN hS ?_ (vs:=[.I kd,.I cl,.I sq,.string ak,.string aw,.string tk,.string tw,.I it,.I ct,.I pr,.bool bu,.I id]) (hc:=by exact d8.here rfl)|refine zlN hS ?_|refine zl1 hS ?_);go_roundw
    case rel=>
     refine⟨i+1,rfl,hil,LD7 HD.out hil Hdn.out,?_⟩;show St W (ecP eb (A5 (xs.take (i+1)) ec0)::Old V::Lr) w
     rw[Hrun.out];exact hS.s _
    case measure=>simp[intOf];omega
   | false=>
    go_wp2_with(first|go_big_skip|refine zlN hS ?_ (vs:=[.I zn,.I ix,.I kd,.I cl,.I sq,.string ak,.string aw,.string tk,.string tw,.I it,.I ct,.I pr,.bool bu,.I id]) (hc:=by exact d8.old (by exact ab4) hall)|(fail_if_success (have:=gA));(refine zal hS ?_;clear hS;have gA:Nat:=0;intro bA w hS)|(have:=gA);refine zal hS ?_;clear hS;intro bB w hS|refine zsN hS ?_;clear hS;intro w hS|go_at_call 27;(have hS9:=hS.s (ecP eb e1::blk bA [.I zn,.I ix,.I kd,.I cl,.I sq,.string ak,.string aw,.string tk,.string tw,.I it,.I ct,.I pr,.bool bu,.I id] 76::Old V::Lr));clear hS;refine Calls.mono (ES7 Hok.out (by omega) H1.out W _ _ hS9) ?_;clear hS9;rintro ex w ⟨_,rfl,hS⟩|refine zlN hS ?_ (vs:=[.I kd,.I cl,.I sq,.string ak,.string aw,.string tk,.string tw,.I it,.I ct,.I pr,.bool bu,.I id]) (hc:=by exact d8.here rfl)|refine zlN hS ?_|refine zl1 hS ?_);go_ret;exact⟨_,rfl,.inr ⟨i,rfl,hil,Hdn.out,fun j hj=>HD.out j (by omega) hj⟩,hS.s _⟩
  ·have hd1:decide (i<xs.length)=false:=decide_eq_false hil;have HD:=jH hD;clear hD;have hi2:xs.length<=i:=by omega
   clear hi hil;go_wp2_with(first|go_big_skip);go_ret;exact⟨_,rfl,.inl ⟨rfl,fun j hj=>HD.out j hj (by omega)⟩,hS.drop⟩
theorem Ic7{evs:List Evn}{xs:List Opn}(hx:evs.map (·.op)=xs)(hlen:xs.length<=150)(v:Value)(V:World)(hv:w5 Evn.cells 14 V v evs)(W w:World)(Lr:List HP)(hS:St W (Old V::Lr) w):
  Calls Tryz.prog 13 #[v] w fun e w'=>∃n:Int,e=.returned (.I n)/\TwI xs n/\St W (Old V::Lr) w':=by
 obtain⟨a,cap,rfl,hact⟩:=hv.evn;have hl0:evs.length=xs.length:=by rw[<-hx,jM]
 have Ha:=jH hact;have Hx:=jH hx;rw[hl0];have Hl:=jH hl0;clear hact hv hx hl0;go_enter Tryz.func13,Tryz.ntmps13;go_wp2_with(first|go_big_skip|refine zbx hS ?_;clear hS;intro xb w hS);have hS0:=fj4 (hS.s (xeB xb (.slice none 0 0) (.slice none 0 0) (.slice none 0 0) (.slice none 0 0)::Old V::Lr));clear hS;have hS:=hS0;clear hS0
 go_loopw [4] (fun v1 wr=>TwR W (Old V::Lr) (fun i=>aK4 xb (bn4 (xs.take i) ec0)) xs v1 wr) (fun v1 _=>xs.length-(intOf v1).toNat)
 case atStart=>exact⟨0,rfl,Nat.zero_le _,fun _ _ h=>absurd h (Nat.not_lt_zero _),hS⟩
 case round=>
  clear hS;obtain⟨i,rfl,hi,hD,hS⟩:=hrel;by_cases hil:i<xs.length
  ·have hd1:decide (i<xs.length)=true:=decide_eq_true hil;obtain⟨pb,poff,rfl,hall⟩:=Ha.out i (by rw[Hl.out];exact hil);obtain⟨_,hop0⟩:=DM7 Hx.out (i:=i) (by rw[Hl.out];exact hil);have hj:=ET7 xs i hi;have hsm:=hj.same xs[i];have hok:=fun k=>hj.dok (by omega) k
   have hrun:=HU7 hil ec0;have hdn:at4 xs i hil=(m7 (A5 (xs.take i) ec0) xs[i]).2.1:=rfl;clear hj;rw[<-hsm.2]at hdn;clear hsm;simp only at hS;generalize bn4 (xs.take i) ec0=d1 at hS hok hrun hdn;rw[<-hop0]at hrun hdn;clear hop0;have hop:=Lv7 hall;clear hall;generalize evs[i]'(by rw[Hl.out];exact hil)=x at hop hrun hdn;obtain⟨zn,ix,kd,cl,sq,ak,aw,tk,tw,it,ct,pr,bu,id⟩:=x;simp only[Opn.cells]at hop;obtain⟨⟨⟨r0,r1,⟨r2,r3,r4,r5⟩⟩,rb,d2⟩,h1⟩:∃z,I8 d1 ⟨kd,cl,sq,ak,aw,tk,tw,it,ct,pr,bu,id⟩=z:=⟨_,rfl⟩
   rw[h1]at hrun hdn;have H1:=jH h1;have Hrun:=jH hrun;have Hdn:=jH hdn;have Hok:=jH (hok ak);have HD:=jH hD;have hi9:i<=150:=by omega
   clear hrun hdn hi h1 hok hD
   cases rb with
   | true=>
    go_wp2_with(first|go_big_skip|refine zlN hS ?_ (vs:=[.I kd,.I cl,.I sq,.string ak,.string aw,.string tk,.string tw,.I it,.I ct,.I pr,.bool bu,.I id]) (hc:=by exact d8.old (by exact ab4) hop)|go_at_call 25;refine(ER7 (by omega) Hok.out H1.out W _ _ (hS.s (aK4 xb d1::Old V::Lr))).mono ?_;clear hS;rintro ex w ⟨rfl,hS⟩|(have:=gA);refine zal hS ?_;clear hS;intro bB w hS|refine zsN hS ?_;clear hS;intro w hS|refine zlN hS ?_|refine zl1 hS ?_|refine zal hS ?_;clear hS;intro bB w hS);go_roundw
    case rel=>
     refine⟨i+1,rfl,hil,LD7 HD.out hil Hdn.out,?_⟩;show St W (aK4 xb (bn4 (xs.take (i+1)) ec0)::Old V::Lr) w
     rw[Hrun.out];exact hS.s _
    case measure=>simp[intOf];omega
   | false=>
    go_wp2_with(first|go_big_skip|refine zlN hS ?_ (vs:=[.I kd,.I cl,.I sq,.string ak,.string aw,.string tk,.string tw,.I it,.I ct,.I pr,.bool bu,.I id]) (hc:=by exact d8.old (by exact ab4) hop)|go_at_call 25;refine(ER7 (by omega) Hok.out H1.out W _ _ (hS.s (aK4 xb d1::Old V::Lr))).mono ?_;clear hS;rintro ex w ⟨rfl,hS⟩|refine zsN hS ?_;clear hS;intro w hS|refine zlN hS ?_|refine zl1 hS ?_|refine zal hS ?_;clear hS;intro bB w hS);go_ret;exact⟨_,rfl,.inr ⟨i,rfl,hil,Hdn.out,fun j hj=>HD.out j (by omega) hj⟩,hS.s _⟩
  ·have hd1:decide (i<xs.length)=false:=decide_eq_false hil;have HD:=jH hD;clear hD;have hi2:xs.length<=i:=by omega
   clear hi hil;go_wp2_with(first|go_big_skip);go_ret;exact⟨_,rfl,.inl ⟨rfl,fun j hj=>HD.out j hj (by omega)⟩,hS.drop⟩
theorem EW7{a0 a1 a2 a7 a8 a9 a11 b0 b1 b2 b7 b8 b9 b11:Int}{a3 a4 a5 a6 b3 b4 b5 b6:ByteArray}{a10 b10:Bool}{b:Bool}(h:Opn.eqB ⟨a0,a1,a2,a3,a4,a5,a6,a7,a8,a9,a10,a11⟩ ⟨b0,b1,b2,b3,b4,b5,b6,b7,b8,b9,b10,b11⟩=b)(w:World):
  (Op.equalIn 10000 31 (oV a0 a1 a2 a3 a4 a5 a6 a7 a8 a9 a10 a11) (oV b0 b1 b2 b3 b4 b5 b6 b7 b8 b9 b10 b11)).run Tryz.prog w=.ok b w:=h▸dn4 ⟨a0,a1,a2,a3,a4,a5,a6,a7,a8,a9,a10,a11⟩ ⟨b0,b1,b2,b3,b4,b5,b6,b7,b8,b9,b10,b11⟩ w
theorem LE7{xs:List Opn}{y:Ans}{j:Nat}(hj:j<xs.length)(he:xs[j]=y.op)(hn:∀i (h:i<xs.length),i<j->xs[i]≠y.op):okA xs (k8 xs ec0) y=((m7 (A5 (xs.take j) ec0) xs[j]).1).eqB y.rep:=by unfold okA;rw[HW7 j (by rw[jG hj,he]) (fun i hi=>by rw[jG (by omega)];exact fun e=>hn i (by omega) hi (Option.some.inj e)) (As7 _ _).symm,Ca7 xs hj]
theorem Nh7{xs:List Opn}{y:Ans}(hn:∀i (h:i<xs.length),xs[i]≠y.op):okA xs (k8 xs ec0) y=false:=by unfold okA;rw[Hk7 (As7 _ _).symm fun x hx=>by obtain⟨i,hi,rfl⟩:=List.getElem_of_mem hx;exact hn i hi]
theorem LF7(o q:Opn)(b:Bool)(h:decide (o=q)=b):o.eqB q=b:=by rw[Lm7,h]
def dp4(xs:List Opn)(o:Opn)(j:Nat):Prop:=∀i (h:i<xs.length),i<j->xs[i]≠o
theorem Oo7{xs:List Opn}{o:Opn}{j:Nat}(h:dp4 xs o j)(hj:j<xs.length)(hn:xs[j]≠o):dp4 xs o (j+1):=fun i hi hl=>by
 by_cases e:i=j
 ·subst e;exact hn
 ·exact h i hi (by omega)
def W3R(W:World)(L:List HP)(xs:List Opn)(o:Opn)(v1 v2:Value)(w:World):Prop:=
 ∃j:Nat,v1=.bool false/\v2=.I j/\j<=xs.length/\dp4 xs o j/\St W L w
theorem Id7{evs:List Evn}{xs:List Opn}(hx:evs.map (·.op)=xs)(hlen:xs.length<=150)(v u:Value)(V:World)(hv:w5 Evn.cells 14 V v evs){xss:List (List Ans)}(hu:aa4 Ans.cells 18 V u xss)(htot:xss.flatten.length<=1000000)(W w:World)(Lr:List HP)(hS:St W (Old V::Lr) w):
  Calls Tryz.prog 10 #[v,u] w fun e w'=>e=.returned (.I (C9 (okA xs (k8 xs ec0)) xss.flatten 0))/\St W (Old V::Lr) w':=by
 have Hv:=jH hv;obtain⟨a,cap,rfl,hact⟩:=hv.evn;have hl0:evs.length=xs.length:=by rw[<-hx,jM]
 have Ha:=jH hact;have Hx:=jH hx;rw[hl0]at Hv ⊢;have Hl:=jH hl0;obtain⟨ps,rfl,⟨ua,ucap,rfl,hu63,huc⟩,hpu⟩:=hu;have Huc:=jH huc;have Hpu:=jH hpu;have hpl:(ps.map (·.2)).length=ps.length:=jM ..;have Hpl:=jH hpl;have hfnd:∀(y:Ans) (j:Nat) (hj:j<xs.length),xs[j]=y.op->dp4 xs y.op j->okA xs (k8 xs ec0) y=((m7 (A5 (xs.take j) ec0) xs[j]).1).eqB y.rep:=fun y j hj he hn=>LE7 hj he hn
 have hnon:∀y:Ans,dp4 xs y.op xs.length->okA xs (k8 xs ec0) y=false:=fun y hn=>Nh7 fun i h=>hn i h h
 obtain⟨ok,hokE⟩:∃ok,okA xs (k8 xs ec0)=ok:=⟨_,rfl⟩
 simp only[hokE]at hfnd hnon;have HokE:=jH hokE;have Hfnd:=jH hfnd;have Hnon:=jH hnon;clear hact hv hx hl0 huc hpu hpl hfnd hnon hokE;go_enter Tryz.func10,Tryz.ntmps10;go_wp2_with(first|go_big_skip|go_at_call 12;refine(DW7 Hx.out hlen _ V Hv.out W _ _ hS).mono ?_;clear hS;rintro e w ⟨vr,eb,rfl,hS⟩;obtain⟨na,nc,rfl⟩:=hS.rowVal;simp only[As7]at hS ⊢)
 go_loopw [7,8] (fun v1 v2 wr=>WoR W (aA4 (.slice na xs.length nc) (k8 xs ec0)::Old V::Lr) ok (ps.map (·.2)) v1 v2 wr) (fun _ v2 _=>ps.length-(intOf v2).toNat)
 case atStart=>exact⟨0,0,rfl,rfl,Nat.zero_le _,⟨rfl,fun a ha=>(by cases ha)⟩,hS.s _⟩
 case round=>
  clear hS;obtain⟨k,c,rfl,rfl,hk,hto,hS⟩:=hrel;by_cases hkl:k<ps.length
  ·have hd2:decide (k<ps.length)=true:=decide_eq_true hkl;obtain⟨ub,uoff,rfl,hcell⟩:=Huc.out k hkl;have hc0:=hcell 0 _ rfl;obtain⟨la,lcap,hlv,hl63,hlc⟩:=Hpu.out ps[k] (jW hkl);have hpk:(ps.map (·.2))[k]? = some ps[k].2:=by rw[List.getElem?_map,jG hkl];rfl
   generalize ps[k].2=l at hlv hlc hpk hl63;have hle:=Lz7 hto hpk;have hnext:=Ly7 hto hpk;have hstop:=fun m=>Hq7 (m:=m) hto hpk
   rw[hlv]at hc0
   have hc1:V.cell? ⟨ub,uoff+k,none⟩=some (.slice la l.length lcap):=by
    have e:uoff+k*1+0=uoff+k:=by omega
    rw[e]at hc0;exact hc0
   have Hlc:=jH hlc;have Hnext:=jH hnext;have Hstop:=jH hstop;clear hpk hlv hcell hc0 hlc hnext hstop hto hk;have hbig:c+l.length<=1000000:=by omega
   clear hle;go_wp2_with(first|go_big_skip)
   go_loopw [7,9] (fun v1 v2 wr=>WiR W (aA4 (.slice na xs.length nc) (k8 xs ec0)::Old V::Lr) ok l c v1 v2 wr) (fun _ v2 _=>l.length-(intOf v2).toNat)
   case atStart=>exact⟨0,rfl,rfl,Nat.zero_le _,fun a ha=>(by cases ha),hS⟩
   case round=>
    clear hS;obtain⟨m,rfl,rfl,hm,hal,hS⟩:=hrel;by_cases hml:m<l.length
    ·have hd3:decide (m<l.length)=true:=decide_eq_true hml;obtain⟨lb,loff,rfl,hall⟩:=Hlc.out m hml;have hsn:=Lx7 hml hal;have hst:=Hstop.out m hml hal;have hoky:=fun j hj=>Hfnd.out l[m] j hj
     have hokn:=Hnon.out l[m];generalize l[m]=y at hall hsn hst hoky hokn;obtain⟨⟨yk,yc,yq,ya,yw,yt,yu,yi,yn,yp,yb,yd⟩,⟨q0,q1,⟨q2,q3,q4,q5⟩⟩⟩:=y;simp only[Ans.cells,Opn.cells,Rpl.cells,It.cells,jK,jN]at hall;dsimp only at hoky hokn;have Hsn:=jH hsn;have Hst:=jH hst;have Hok:=jH hoky;have Hokn:=jH hokn;clear hsn hst hm hal hoky hokn;go_wp2_with(first|go_big_skip|refine zl1 hS ?_ (hc:=by exact i6.old (by exact ab4) hc1)|refine zlN hS ?_ (vs:=[.I yk,.I yc,.I yq,.string ya,.string yw,.string yt,.string yu,.I yi,.I yn,.I yp,.bool yb,.I yd,.I q0,.I q1,.I q2,.I q3,.I q4,.I q5]) (hc:=by exact d8.old (by exact ab4) hall)|refine zal hS ?_;clear hS;intro bA w hS|refine zsN hS ?_;clear hS;intro w hS)
     go_loopw [11,12] (fun v1 v2 wr=>W3R W (blk bA [.I yk,.I yc,.I yq,.string ya,.string yw,.string yt,.string yu,.I yi,.I yn,.I yp,.bool yb,.I yd,.I q0,.I q1,.I q2,.I q3,.I q4,.I q5] 39::aA4 (.slice na xs.length nc) (k8 xs ec0)::Old V::Lr) xs (⟨yk,yc,yq,ya,yw,yt,yu,yi,yn,yp,yb,yd⟩:Opn) v1 v2 wr) (fun _ v2 _=>xs.length-(intOf v2).toNat)
     case atStart=>exact⟨0,rfl,rfl,Nat.zero_le _,fun _ _ h=>absurd h (Nat.not_lt_zero _),hS.s _⟩
     case round=>
      clear hS;obtain⟨j,rfl,rfl,hj,hno,hS⟩:=hrel;by_cases hjl:j<xs.length
      ·have hd4:decide (j<xs.length)=true:=decide_eq_true hjl;obtain⟨pb,poff,rfl,hev⟩:=Ha.out j (by rw[Hl.out];exact hjl);obtain⟨_,hop0⟩:=DM7 Hx.out (i:=j) (by rw[Hl.out];exact hjl);have hop:=Lv7 hev;rw[hop0]at hop;clear hop0 hev;have hokj:=Hok.out j hjl;have hnn:=Oo7 hno hjl;have hrl:j<(k8 xs ec0).length:=by rw[As7];exact hjl
       have hre:(k8 xs ec0)[j]=(m7 (A5 (xs.take j) ec0) xs[j]).1:=by have hrp:=Ca7 xs hjl ec0;rw[jG hrl]at hrp;exact Option.some.inj hrp
       obtain⟨⟨g,rfl⟩,_,_⟩:(∃g,na=some ⟨g,0,none⟩)/\nc<=9223372036854775807/\xs.length<=nc:=by have h8:St W (row (.slice na xs.length nc) 6 36 (k8 xs ec0).length ((k8 xs ec0).flatMap Rpl.cells)::_) _:=hS.drop;rw[As7]at h8;exact St.rowAddr h8 (by omega)
       have hrep0:∀{K K':List HP},Take K (aA4 (.S g xs.length nc) (k8 xs ec0)) K'->d8 K g (j*6) (k8 xs ec0)[j].cells:=fun hu=>by have e9:xs.length=(k8 xs ec0).length:=(As7 _ _).symm;rw[e9]at hu;exact d8.elemM Rpl.len6 hu hrl
       have hrep:∀{K K':List HP},Take K (aA4 (.S g xs.length nc) (k8 xs ec0)) K'->d8 K g (j*6) (m7 (A5 (xs.take j) ec0) xs[j]).1.cells:=fun hu=>by rw[<-hre];exact hrep0 hu
       clear hre hrl hrep0;generalize (m7 (A5 (xs.take j) ec0) xs[j]).1=r at hokj hrep;by_cases he:xs[j]=(⟨yk,yc,yq,ya,yw,yt,yu,yi,yn,yp,yb,yd⟩:Opn)
       ·have hz:=hokj he hno;rw[he]at hop;simp only[Opn.cells]at hop;have he1:=jH (LF7 (⟨yk,yc,yq,ya,yw,yt,yu,yi,yn,yp,yb,yd⟩:Opn) (⟨yk,yc,yq,ya,yw,yt,yu,yi,yn,yp,yb,yd⟩:Opn) true (by simp));obtain⟨r0,r1,⟨r2,r3,r4,r5⟩⟩:=r;simp only[Rpl.cells,It.cells]at hrep;have He:=he1;clear hokj hnn he he1 hno hj
        cases hb:Rpl.eqB ⟨r0,r1,⟨r2,r3,r4,r5⟩⟩ ⟨q0,q1,⟨q2,q3,q4,q5⟩⟩with
        | true=>
         rw[hb]at hz;have Hz:=jH hz;have Hr:=jH hb;clear hz hb;go_wp2_with(first|go_big_skip);refine Aa7 (by kernel_rfl) (by kernel_rfl) hS ?_
         repeat(first|go_big_quiet_skip|refine zqN ?_ (vs:=[.I yk,.I yc,.I yq,.string ya,.string yw,.string yt,.string yu,.I yi,.I yn,.I yp,.bool yb,.I yd]) (hc:=by first|exact d8.old (by exact ab4) hop|exact d8.here rfl)|(apply EH7);rfl;rfl;rfl;rfl;kernel_rfl;exact EW7 He.out;refine frS ?_|refine qR ?_)
         clear hS;intro w hS;go_wp2_with(first|go_big_skip);refine Aa7 (by kernel_rfl) (by kernel_rfl) hS ?_
         repeat(first|go_big_quiet_skip|refine zqN ?_ (vs:=[.I r0,.I r1,.I r2,.I r3,.I r4,.I r5]) (hc:=by exact hrep (by exact i7))|refine zqN ?_ (vs:=[.I q0,.I q1,.I q2,.I q3,.I q4,.I q5]) (hc:=by exact d8.here rfl)|(apply EH7);rfl;rfl;rfl;rfl;kernel_rfl;exact Eh7 Hr.out;refine frS ?_|refine qR ?_)
         clear hS;intro w hS;go_wp2_with(first|go_big_skip);go_roundw
         case rel=>exact⟨m+1,by go_num,rfl,hml,Hsn.out Hz.out,hS.s _⟩
         case measure=>simp[intOf];omega
        | false=>
         rw[hb]at hz;have Hz:=jH hz;have Hr:=jH hb;clear hz hb;go_wp2_with(first|go_big_skip);refine Aa7 (by kernel_rfl) (by kernel_rfl) hS ?_
         repeat(first|go_big_quiet_skip|refine zqN ?_ (vs:=[.I yk,.I yc,.I yq,.string ya,.string yw,.string yt,.string yu,.I yi,.I yn,.I yp,.bool yb,.I yd]) (hc:=by first|exact d8.old (by exact ab4) hop|exact d8.here rfl)|(apply EH7);rfl;rfl;rfl;rfl;kernel_rfl;exact EW7 He.out;refine frS ?_|refine qR ?_)
         clear hS;intro w hS;go_wp2_with(first|go_big_skip);refine Aa7 (by kernel_rfl) (by kernel_rfl) hS ?_
         repeat(first|go_big_quiet_skip|refine zqN ?_ (vs:=[.I r0,.I r1,.I r2,.I r3,.I r4,.I r5]) (hc:=by exact hrep (by exact i7))|refine zqN ?_ (vs:=[.I q0,.I q1,.I q2,.I q3,.I q4,.I q5]) (hc:=by exact d8.here rfl)|(apply EH7);rfl;rfl;rfl;rfl;kernel_rfl;exact Eh7 Hr.out;refine frS ?_|refine qR ?_)
         clear hS;intro w hS;go_wp2_with(first|go_big_skip);go_ret;exact⟨cT4 (by rw[HokE.out];exact(Hst.out Hz.out).symm),hS.s _⟩
       ·have hn2:=hnn he;have he1:xs[j].eqB (⟨yk,yc,yq,ya,yw,yt,yu,yi,yn,yp,yb,yd⟩:Opn)=false:=LF7 _ _ _ (decide_eq_false he);generalize xs[j]=x at hop he1;obtain⟨kd,cl,sq,ak,aw,tk,tw,it,ct,pr,bu,id⟩:=x;simp only[Opn.cells]at hop;have He:=jH he1;have Hn2:=jH hn2;clear hokj hnn he he1 hno hj hn2 hrep;go_wp2_with(first|go_big_skip);refine Aa7 (by kernel_rfl) (by kernel_rfl) hS ?_
        repeat(first|go_big_quiet_skip|refine zqN ?_ (vs:=[.I kd,.I cl,.I sq,.string ak,.string aw,.string tk,.string tw,.I it,.I ct,.I pr,.bool bu,.I id]) (hc:=by exact d8.old (by exact ab4) hop)|refine zqN ?_ (vs:=[.I yk,.I yc,.I yq,.string ya,.string yw,.string yt,.string yu,.I yi,.I yn,.I yp,.bool yb,.I yd]) (hc:=by exact d8.here rfl)|(apply EH7);rfl;rfl;rfl;rfl;kernel_rfl;exact EW7 He.out;refine frS ?_|refine qR ?_)
        clear hS;intro w hS;go_wp2_with(first|go_big_skip);go_roundw
        case rel=>exact⟨j+1,rfl,rfl,hjl,Hn2.out,hS⟩
        case measure=>simp[intOf];omega
      ·have hd4:decide (j<xs.length)=false:=decide_eq_false hjl;have hj2:j=xs.length:=by omega
       rw[hj2]at hno;have Hz:=jH (Hokn.out hno);clear hno hj hjl hj2;go_wp2_with(first|go_big_skip);go_ret;exact⟨cT4 (by rw[HokE.out];exact(Hst.out Hz.out).symm),hS.s _⟩
    ·have hd3:decide (m<l.length)=false:=decide_eq_false hml;have hm2:m=l.length:=by omega
     rw[hm2]at hal;have Hal:=jH hal;rw[hm2];clear hm hml hm2 hal;go_wp2_with(first|go_big_skip|refine zl1 hS ?_ (hc:=by exact i6.old (by exact ab4) hc1));go_roundw
     case rel=>exact⟨k+1,c+l.length,rfl,rfl,by rw[Hpl.out];exact hkl,Hnext.out Hal.out,hS⟩
     case measure=>simp[intOf];omega
  ·have hd2:decide (k<ps.length)=false:=decide_eq_false hkl;have hk2:k=(ps.map (·.2)).length:=by have h9:=Hpl.out;omega
   rw[hk2]at hto;have He:=jH (IQ7 hto);clear hto hk hk2 hkl;go_wp2_with(first|go_big_skip);go_ret;exact⟨cT4 (by rw[HokE.out];exact He.out.symm),hS.drop⟩
section
variable{W w:World}{L R:List HP}{T:TypeId}{v u:Value}{evs:List Evn}{xs:List Opn}
theorem Hr7(ht:Take L (evR T v evs) R)(hS:St W L w):w5 Evn.cells 14 w v evs:=St.sliceV Evn.len (hS.take ht)
theorem LG7(hlen:xs.length<=150)(hv:w5 Opn.cells 12 w v xs)(hS:St W L w):
  Calls Tryz.prog 8 #[v] w fun e w'=>∃va vb,e=.returned (.tuple #[va,vb])/\St W (evR 76 va (C5 xs)::evR 77 vb (C5 xs)::L) w':=by
 refine(Hp7 xs hlen v w hv w w [] (St.start w)).mono ?_;rintro e w' ⟨va,vb,rfl,h⟩;exact⟨va,vb,rfl,St.rebase (A:=[_,_]) hS h⟩
theorem LH7(hx:evs.map (·.op)=xs)(hlen:xs.length<=150)(ht:Take L (evR T v evs) R)(hS:St W L w):
  Calls Tryz.prog 12 #[v] w fun e w'=>∃vr xb,e=.returned (.tuple #[vr,.P xb])/\St W (aA4 vr (k8 xs ec0)::aK4 xb (bn4 xs ec0)::L) w':=by
 refine(DW7 hx hlen v w (Hr7 ht hS) w w [] (St.start w)).mono ?_;rintro e w' ⟨va,vb,rfl,h⟩;exact⟨va,vb,rfl,St.rebase (A:=[_,_]) hS h⟩
theorem EX7(hx:evs.map (·.op)=xs)(hlen:xs.length<=150)(ht:Take L (evR T v evs) R)(hS:St W L w):
  Calls Tryz.prog 14 #[v] w fun e w'=>∃n:Int,e=.returned (.I n)/\TwI xs n/\St W L w':=by
 refine(Ib7 hx hlen v w (Hr7 ht hS) w w [] (St.start w)).mono ?_;rintro e w' ⟨n,rfl,hn,h⟩;exact⟨n,rfl,hn,St.rebase (A:=[]) hS h⟩
theorem LI7(hx:evs.map (·.op)=xs)(hlen:xs.length<=150)(ht:Take L (evR T v evs) R)(hS:St W L w):
  Calls Tryz.prog 13 #[v] w fun e w'=>∃n:Int,e=.returned (.I n)/\TwI xs n/\St W L w':=by
 refine(Ic7 hx hlen v w (Hr7 ht hS) w w [] (St.start w)).mono ?_;rintro e w' ⟨n,rfl,hn,h⟩;exact⟨n,rfl,hn,St.rebase (A:=[]) hS h⟩
theorem BT7(hx:evs.map (·.op)=xs)(hlen:xs.length<=150)(ht:Take L (evR T v evs) R){xss:List (List Ans)}(hu:aa4 Ans.cells 18 w u xss)(htot:xss.flatten.length<=1000000){n:Int}(hn:C9 (okA xs (k8 xs ec0)) xss.flatten 0=n)(hS:St W L w):
  Calls Tryz.prog 9 #[v,u] w fun e w'=>e=.returned (.I n)/\St W L w':=by
 refine(HZ7 hx hlen v u w (Hr7 ht hS) hu htot w w [] (St.start w)).mono ?_;rintro e w' ⟨rfl,h⟩;exact⟨by rw[hn],St.rebase (A:=[]) hS h⟩
theorem LJ7(hx:evs.map (·.op)=xs)(hlen:xs.length<=150)(ht:Take L (evR T v evs) R){xss:List (List Ans)}(hu:aa4 Ans.cells 18 w u xss)(htot:xss.flatten.length<=1000000){n:Int}(hn:C9 (okA xs (k8 xs ec0)) xss.flatten 0=n)(hS:St W L w):
  Calls Tryz.prog 10 #[v,u] w fun e w'=>e=.returned (.I n)/\St W L w':=by
 refine(Id7 hx hlen v u w (Hr7 ht hS) hu htot w w [] (St.start w)).mono ?_;rintro e w' ⟨rfl,h⟩;exact⟨by rw[hn],St.rebase (A:=[]) hS h⟩
theorem St.sliceB{α:Type}{enc:α->List Value}{k b n:Nat}{xs:List α}{l:List Value}(henc:∀x,(enc x).length=k)(ht:Take L (blk b l T) R)(hl:l=xs.flatMap enc)(hn:n=xs.length)(h63:n<=9223372036854775807)(hS:St W L w):w5 enc k w (.S b n n) xs:=by
 subst hn hl;refine⟨some ⟨b,0,none⟩,xs.length,rfl,h63,fun i hi=>⟨b,0,rfl,fun j u hj=>?_⟩⟩;have hjk:j<k:=by have:=(List.getElem?_eq_some_iff.1 hj).1;rwa [henc]at this
 rw[Nat.zero_add];have h2:=Bk7 henc xs [] i hi j hjk;rw[List.append_nil]at h2;exact(hS.take ht).cell .head (by rw[h2];exact hj)
end
abbrev knA:Ans:=⟨knO,rp0⟩
abbrev knB:Ans:=⟨knO,⟨6,0,it0⟩⟩
theorem LK7:k8 [knO] ec0=[rp0]:=by rw[k8,k8,Nr7]
theorem Ny7:okA [knO] (k8 [knO] ec0) knA=true:=by rw[LK7];unfold okA;rw[bz4,if_pos rfl];rfl
theorem OU7:okA [knO] (k8 [knO] ec0) knB=false:=by rw[LK7];unfold okA;rw[bz4,if_pos rfl];rfl
theorem fo4:C9 (okA [knO] (k8 [knO] ec0)) ([[knA]]:List (List Ans)).flatten 0 = -1:=by
 show C9 _ [knA] 0 = -1
 rw[C9,if_pos Ny7];rfl
theorem fp4:C9 (okA [knO] (k8 [knO] ec0)) ([[knA],[knB]]:List (List Ans)).flatten 0=1:=by
 show C9 _ [knA,knB] 0=1
 rw[C9,if_pos Ny7,C9,if_neg (by rw[OU7];exact Bool.false_ne_true)];rfl
theorem fq4:TwI [knO] (-1):=.inl ⟨rfl,fun i h=>by
 have:i=0:=by simpa using h
 subst this;show(m7 (A5 ([knO].take 0) ec0) knO).2.1=true
 rw[List.take_zero];show(m7 ec0 knO).2.1=true
 rw[Nr7]⟩
theorem JB7(W w:World)(R:List HP)(hS:St W R w):
  Calls Tryz.prog 24 #[] w fun e w'=>e=.returned (oV 1 1 1 kA kX kN kN 0 5 0 false 0)/\St W R w':=by
 go_enter Tryz.func24,Tryz.ntmps24;go_wp2_with(first|go_big_skip|refine zal hS ?_;clear hS;intro b w hS|refine zsN hS ?_;clear hS;intro w hS);apply Am7;rfl;rfl;rfl;exact hS;decide +kernel;(exact m8);kernel_rfl;exact⟨rfl,hS.drop⟩
theorem Cb7(W w:World)(R:List HP)(hS:St W R w):
  Calls Tryz.prog 11 #[] w fun e w'=>e=.returned (.bool true)/\St W R w':=by
 go_enter Tryz.func11,Tryz.ntmps11;go_wp2_with(first|go_big_skip|go_at_call 24;refine(JB7 W _ _ hS).mono ?_;clear hS;rintro e w ⟨rfl,hS⟩|go_at_call 8;refine(LG7 (xs:=[knO]) (by decide) (St.sliceB Opn.len (xs:=[knO]) .head (by rfl) (by rfl) (by decide) hS) hS).mono ?_;clear hS;rintro e w ⟨va,vb,rfl,hS⟩|(fail_if_success (have:=gW));go_at_call 9;refine(BT7 (AF7 [knO]) (by decide) (T:=76) (evs:=C5 [knO]) (by exact i7) (xss:=[[knA]]) ⟨[(.S b2 1 1,[knA])],rfl,St.sliceB (fun _=>rfl) .head (by rfl) (by rfl) (by decide) hS,fun p hp=>by(obtain rfl:=List.mem_singleton.1 hp;exact St.sliceB (b:=b2) Ans.len (xs:=[knA]) (by exact i7) (by rfl) (by rfl) (by decide) hS)⟩ (by decide) fo4 hS).mono ?_;clear hS;have gW:Nat:=0;rintro e w ⟨rfl,hS⟩|(have:=gW);go_at_call 9;refine(BT7 (AF7 [knO]) (by decide) (T:=76) (evs:=C5 [knO]) (by exact i7) (xss:=[[knA],[knB]]) ⟨[(.S b2 1 1,[knA]),(.S b3 1 1,[knB])],rfl,St.sliceB (fun _=>rfl) .head (by rfl) (by rfl) (by decide) hS,fun p hp=>by(rcases List.mem_cons.1 hp with rfl|hp;exact St.sliceB (b:=b2) Ans.len (xs:=[knA]) (by exact i7) (by rfl) (by rfl) (by decide) hS;obtain rfl:=List.mem_singleton.1 hp;exact St.sliceB (b:=b3) Ans.len (xs:=[knB]) (by exact i7) (by rfl) (by rfl) (by decide) hS)⟩ (by decide) fp4 hS).mono ?_;clear hS;rintro e w ⟨rfl,hS⟩|go_at_call 14;refine(EX7 (AF7 [knO]) (by decide) (T:=76) (evs:=C5 [knO]) (by exact i7) hS).mono ?_;clear hS;rintro e w ⟨n9,rfl,hn9,hS⟩;obtain rfl:=Gb7 hn9 fq4;clear hn9|(fail_if_success (have:=g1));(refine zbs hS ?_;clear hS;have g1:Nat:=0;intro b1 w hS)|(have:=g1);(fail_if_success (have:=g2));(refine zbs hS ?_;clear hS;have g2:Nat:=0;intro b2 w hS)|(have:=g2);(fail_if_success (have:=g3));(refine zbs hS ?_;clear hS;have g3:Nat:=0;intro b3 w hS)|(have:=g3);(fail_if_success (have:=g4));(refine zbs hS ?_;clear hS;have g4:Nat:=0;intro b4 w hS)|(have:=g4);refine zbs hS ?_;clear hS;intro b5 w hS);go_ret
 exact⟨rfl,hS.s _⟩
def bJ4{α:Type}(f:α->HP)(l:List α):HP:=sats (l.map f)
section
variable{α:Type}{f:α->HP}{l l':List α}{x:α}{W w:World}{L:List HP}
theorem ep4(f:α->HP)(h:St W L w):St W (bJ4 f []::L) w:=St.shutS [] h
theorem dB4(h:St W (f x::bJ4 f l::L) w):St W (bJ4 f (l++[x])::L) w:=by
 have h2:St W (sats (f x::l.map f)::L) w:=St.join h;refine h2.imp fun _ hf=>?_
 unfold bJ4;rw[List.map_append];exact AQ7 (List.perm_append_singleton _ _).symm hf
theorem dC4(hx:x∈l)(h:St W (bJ4 f l::L) w):∃l',l.Perm (x::l')/\St W (f x::bJ4 f l'::L) w:=by
 obtain⟨s,t,rfl⟩:=List.append_of_mem hx;have h2:St W (sats (f x::(s++t).map f)::L) w:=h.imp fun _=>AQ7 ((List.perm_middle (a:=x) (l₁:=s) (l₂:=t)).map f)
 exact⟨s++t,List.perm_middle,St.split h2⟩
end
def bX4(T:TypeId)(p:Value×List Ans):HP:=row p.1 18 T p.2.length (p.2.flatMap Ans.cells)
theorem Op7{T T2:TypeId}{v:Value}{qs:List (Value×List Ans)}{W w:World}{L:List HP}(h:St W (row v 1 T qs.length (qs.flatMap fun q=>[q.1])::bJ4 (bX4 T2) qs::L) w):aa4 Ans.cells 18 w v (qs.map (·.2)):=
 ⟨qs,rfl,St.sliceV (enc:=fun q:Value×List Ans=>[q.1]) (fun _=>rfl) h,fun p hp=>by obtain⟨l',_,h2⟩:=dC4 hp h.drop;exact St.sliceV Ans.len h2⟩
theorem IR7{xs:List Opn}{v:Value}{W w:World}{L:List HP}(hv:w5 Opn.cells 12 w v xs)(hS:St W L w):
  Calls Tryz.prog 7 #[v] w fun e w'=>∃h:Bool,(h=false->xs.length<=150)/\e=.returned (.bool h)/\St W L w':=by
 refine(Ej7 hv w w [] (St.start w)).mono ?_;rintro e w' ⟨h,h1,rfl,h2⟩;exact⟨h,h1,rfl,St.rebase (A:=[]) hS h2⟩
end Go.Proofs.YtienbkdjkjbelaaGreat
end
