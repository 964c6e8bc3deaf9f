/-
  The document's way.
-/
import Derived.Test.YtjcfifkjbaffnaaPbQM5
import Derived.Test.YtjcfifkjbaffnaaPbQM6
import Derived.Test.YtjcfifkjbaffnaaPbQM22
import Derived.Test.YtjcfifkjbaffnaaPbQM25
import Derived.SizedLaws
set_option maxHeartbeats 16000000
set_option maxRecDepth 100000
set_option linter.unusedSimpArgs false
set_option linter.unusedVariables false
section
namespace Go.Proofs.Ytjcfifkjbaffnaa
open Go.RowKit Go.Sl
def MxR(W:World)(R:List HP)(zs:List Zo)(nxt:Int)(v3 v4:Value)(w:World):Prop:=
 ∃i:Nat,v4=.I i/\i<=zs.length/\(∀k (h:k<zs.length),k<i->F9 zs nxt zs[k] k)/\St W (row v3 2 30 i ((zs.take i).flatMap spC)::R) w
theorem HI7{zs:List Zo}{v:Value}{V:World}{ver nxt:Int}(hv:d6 Zo.cells 9 V v zs)(hl:zs.length<=60)(W w:World)(R:List HP)(hS:St W (Old V::R) w):
  Calls Try.prog 10 #[.agg #[.I ver,.I nxt,v]] w fun e w'=>∃r,(r=true↔n5 ⟨ver,nxt,zs⟩)/\e=.returned (.bool r)/\St W (Old V::R) w':=by
 have Hv:=jH hv;obtain⟨a,cap,rfl,h63,hact⟩:=hv;have Hat:=jH hact;clear hact;go_enter Try.func10,Try.ntmps10;by_cases c1:ver<1
 ·have e1:decide (ver<1)=true:=decide_eq_true c1;have Hno:=jH (show ¬n5 ⟨ver,nxt,zs⟩from fun h=>by have h9:=h.1;simp only at h9;omega);clear c1;go_wp2_with(first|go_big_skip|refine zbx hS ?_;clear hS;intro b1 w hS|refine zl1 hS ?_);go_ret;exact⟨false,⟨fun h=>(by cases h),fun h=>absurd h Hno.out⟩,rfl,hS.s _⟩
 have e1:decide (ver<1)=false:=decide_eq_false c1;by_cases c2:1099511627776<ver
 ·have e2:decide (1099511627776<ver)=true:=decide_eq_true c2;have Hno:=jH (show ¬n5 ⟨ver,nxt,zs⟩from fun h=>by have h9:=h.2.1;simp only at h9;omega);clear c1 c2;go_wp2_with(first|go_big_skip|refine zbx hS ?_;clear hS;intro b1 w hS|refine zl1 hS ?_);go_ret;exact⟨false,⟨fun h=>(by cases h),fun h=>absurd h Hno.out⟩,rfl,hS.s _⟩
 have e2:decide (1099511627776<ver)=false:=decide_eq_false c2;by_cases c3:nxt<1
 ·have e3:decide (nxt<1)=true:=decide_eq_true c3;have Hno:=jH (show ¬n5 ⟨ver,nxt,zs⟩from fun h=>by have h9:=h.2.2.1;simp only at h9;omega);clear c1 c2 c3;go_wp2_with(first|go_big_skip|refine zbx hS ?_;clear hS;intro b1 w hS|refine zl1 hS ?_);go_ret;exact⟨false,⟨fun h=>(by cases h),fun h=>absurd h Hno.out⟩,rfl,hS.s _⟩
 have e3:decide (nxt<1)=false:=decide_eq_false c3;by_cases c4:1099511627776<nxt
 ·have e4:decide (1099511627776<nxt)=true:=decide_eq_true c4;have Hno:=jH (show ¬n5 ⟨ver,nxt,zs⟩from fun h=>by have h9:=h.2.2.2.1;simp only at h9;omega);clear c1 c2 c3 c4;go_wp2_with(first|go_big_skip|refine zbx hS ?_;clear hS;intro b1 w hS|refine zl1 hS ?_);go_ret;exact⟨false,⟨fun h=>(by cases h),fun h=>absurd h Hno.out⟩,rfl,hS.s _⟩
 have e4:decide (1099511627776<nxt)=false:=decide_eq_false c4;by_cases c5:16<zs.length
 ·have e5:decide ((16:Int)<(zs.length:Int))=true:=by simp;omega
  have Hno:=jH (show ¬n5 ⟨ver,nxt,zs⟩from fun h=>by have h9:=h.2.2.2.2.1;simp only at h9;omega);clear c1 c2 c3 c4 c5;go_wp2_with(first|go_big_skip|refine zbx hS ?_;clear hS;intro b1 w hS|refine zl1 hS ?_);go_ret;exact⟨false,⟨fun h=>(by cases h),fun h=>absurd h Hno.out⟩,rfl,hS.s _⟩
 have e5:decide ((16:Int)<(zs.length:Int))=false:=by simp;omega
 have hl16:zs.length<=16:=by omega
 have Hhd:=jH (show(∀i (h:i<zs.length),F9 zs nxt zs[i] i)->B7 zs ⟨#[]⟩ true=true->n5 ⟨ver,nxt,zs⟩from fun h h2=>⟨by show 1<=ver;omega,by show ver<=1099511627776;omega,by show 1<=nxt;omega,by show nxt<=1099511627776;omega,hl16,h,h2⟩);clear c1 c2 c3 c4 c5;go_wp2_with(first|go_big_skip|refine zbx hS ?_;clear hS;intro b1 w hS|refine zl1 hS ?_);have hS1:=(hS.s (blk b1 _ _::Old V::R)).rowNil (k:=2) (T:=30);clear hS
 go_loopw [3,4] (fun v3 v4 wr=>MxR W (blk b1 [.I ver,.I nxt,.slice a zs.length cap] 26::Old V::R) zs nxt v3 v4 wr) (fun _ v4 _=>zs.length-(intOf v4).toNat)
 case atStart=>exact⟨0,rfl,Nat.zero_le _,fun k _ h=>absurd h (Nat.not_lt_zero _),hS1⟩
 case round=>
  clear hS1;obtain⟨i,rfl,hi,hok,hS⟩:=hrel;obtain⟨va,vc,rfl⟩:=hS.rowVal;by_cases hil:i<zs.length
  ·have d1:decide (i<zs.length)=true:=decide_eq_true hil;have hst:(zs.take (i+1)).flatMap spC=(zs.take i).flatMap spC++spC zs[i]:=by rw[List.take_succ_eq_append_getElem hil,List.flatMap_append];simp
   obtain⟨pb,poff,rfl,hall⟩:=Hat.out i hil
   have hnx:F9 zs nxt zs[i] i->∀k (h:k<zs.length),k<i+1->F9 zs nxt zs[k] k:=fun h k hk hlt=>by
    rcases Nat.lt_or_ge k i with h1|h1
    ·exact hok k hk h1
    ·obtain rfl:k=i:=by omega
     exact h
   obtain⟨D,hD⟩:∃D,D=F9 zs nxt zs[i] i:=⟨_,rfl⟩
   have HD:=jH hD;have hbad:n5 ⟨ver,nxt,zs⟩->F9 zs nxt zs[i] i:=fun h=>h.2.2.2.2.2.1 i hil
   rw[<-hD]at hnx hbad;have Hnx:=jH hnx;have Hbad:=jH hbad;clear hD hnx hbad hok hi;generalize hz:zs[i]=z at hst hall;have Hz:=jH hz;clear hz;obtain⟨z0,z1,z2,z3,z4,z5,z6,z7,z8⟩:=z;simp only[Zo.cells]at hall
   have hsp0:∀j u,[Value.string z1,Value.string z2][j]? = some u->V.cell? ⟨pb,poff+i*9+1+j,none⟩=some u:=fun j u hj=>by
    match j,hj with
    | 0,hj=>exact hall 1 u hj
    | 1,hj=>exact hall 2 u hj
    | j+2,hj=>simp at hj
   have Hst:=jH hst;clear hst hall;go_wp2_with(first|go_big_skip|refine zlN hS ?_ (vs:=[.string z1,.string z2]) (hc:=by exact a7.old (by exact b8) hsp0)|refine zlN hS ?_|refine zl1 hS ?_|(go_at_call 21;refine(GL7 (ver:=ver) (nxt:=nxt) Hv.out hl16 hil W _ _ (hS.s (Old V::row (.slice va i vc) 2 30 i ((zs.take i).flatMap spC)::blk b1 _ _::R))).mono ?_;clear hS;rintro e w ⟨q,hq,rfl,hS⟩;(have Hq:=jH hq;clear hq);cases q)|refine zbs hS ?_;clear hS;intro bS w hS|(with_reducible apply Aq7 hS);rfl;rfl;rfl;rfl;exact esS;exact rsS;rfl;decide;exact d9;exact Src.mk a7.whole;(focus(try rfl));rfl;(focus(unfold maxLen;omega));(focus(omega));clear hS;intro v w hS;refine frS ?_)
   ·go_ret;exact⟨false,⟨fun h=>(by cases h),fun h=>absurd (Hq.out.2 (HD.out▸Hbad.out h)) Bool.false_ne_true⟩,rfl,hS.s _⟩
   ·have hS1:=hS.s (row v 2 30 (i+1) _::blk b1 _ _::Old V::R);clear hS;go_roundw
    case rel=>exact⟨i+1,rfl,hil,Hnx.out (by rw[HD.out];exact Hq.out.1 (by simp)),by rw[Hst.out];exact hS1⟩
    case measure=>simp[intOf];omega
  ·have d1:decide (i<zs.length)=false:=decide_eq_false hil;have Hok:=jH hok;clear hok;obtain rfl:i=zs.length:=by omega
   rw[List.take_length]at hS;obtain⟨r,hr⟩:∃r,B7 zs ⟨#[]⟩ true=r:=⟨_,rfl⟩
   have Hr:=jH hr;clear hr hi;go_wp2_with(first|go_big_skip|refine zl1 hS ?_|go_at_call 22;refine(HH7 Hr.out hl W _ _ (hS.s (row (.slice va zs.length vc) 2 30 zs.length (zs.flatMap spC)::Old V::R))).mono ?_;clear hS;rintro e w ⟨rfl,hS⟩);go_ret;exact⟨r,⟨fun h=>Hhd.out (fun k hk=>Hok.out k hk hk) (Hr.out.trans h),fun h=>Hr.out.symm.trans h.2.2.2.2.2.2⟩,rfl,hS.s _⟩
def HvR(W:World)(R:List HP)(n:Nat)(P:Nat->Prop)(v:Value)(w:World):Prop:=
 ∃i:Nat,v=.I i/\i<=n/\(∀j,j<i->P j)/\St W R w
theorem Ch7{ver nxt:Int}{zs:List Zo}{v:Value}{V:World}(hv:d6 Zo.cells 9 V v zs)(W w:World)(Lr:List HP)(hS:St W (Old V::Lr) w):
  Calls Try.prog 20 #[.agg #[.I ver,.I nxt,v]] w fun e w'=>(e=.returned (.bool true)/\St W (Old V::Lr) w')\/(e=.returned (.bool false)/\(zs.length<=60/\∀z∈zs,smZ z)/\St W (Old V::Lr) w'):=by
 obtain⟨a,cap,rfl,h63,hact⟩:=hv;have Hat:=jH hact;clear hact;go_enter Try.func20,Try.ntmps20;by_cases h60:60<zs.length
 ·have d0:((60:Nat):Int)<(zs.length:Int):=by omega
  go_wp2_with(first|go_big_skip|refine zbx hS ?_;clear hS;intro b1 w hS|refine zl1 hS ?_);go_ret;exact .inl ⟨rfl,hS.drop⟩
 have d0:decide ((60:Int)<(zs.length:Int))=false:=by simp;omega
 go_wp2_with(first|go_big_skip|refine zbx hS ?_;clear hS;intro b1 w hS|refine zl1 hS ?_)
 go_loopw [3] (fun v wr=>HvR W (blk b1 [.I ver,.I nxt,.slice a zs.length cap] 26::Old V::Lr) zs.length (fun j=>∀h:j<zs.length,smZ zs[j]) v wr) (fun v _=>zs.length-(intOf v).toNat)
 case atStart=>exact⟨0,rfl,by omega,fun j h=>absurd h (Nat.not_lt_zero _),hS⟩
 case round=>
  clear hS;obtain⟨i,rfl,hi,hsm,hS⟩:=hrel;have Hsm:=jH hsm;clear hsm;by_cases hil:i<zs.length
  case neg=>
   have d1:decide (i<zs.length)=false:=decide_eq_false hil;go_wp2_with(first|go_big_skip|refine zl1 hS ?_);go_ret;exact .inr ⟨rfl,⟨by omega,fun z hz=>by obtain⟨j,hj,rfl⟩:=List.getElem_of_mem hz;exact Hsm.out j (by omega) hj⟩,hS.drop⟩
  have hd1:decide (i<zs.length)=true:=decide_eq_true hil;clear hi;obtain⟨pb,poff,rfl,hall⟩:=Hat.out i hil;obtain⟨x,hx⟩:∃x,x=zs[i]:=⟨_,rfl⟩
  rw[<-hx]at hall;obtain⟨z0,z1,z2,z3,z4,z5,z6,z7,z8⟩:=x;simp only[Zo.cells]at hall;have Hx:=jH hx;clear hx;by_cases h1:60<z1.size
  ·have d1:(60:Int)<(z1.size:Int):=by omega
   go_wp2_with(first|go_big_skip|refine zlN hS ?_ (vs:=[.I z0,.string z1,.string z2,.I z3,.I z4,.I z5,.I z6,.string z7,.I z8]) (hc:=by exact a7.old (by exact b8) hall)|refine zl1 hS ?_|refine zal hS ?_;clear hS;intro bA w hS|refine zsN hS ?_;clear hS;intro w hS);go_ret;exact .inl ⟨rfl,hS.s _⟩
  have d1:decide ((60:Int)<(z1.size:Int))=false:=by simp;omega
  by_cases h2:60<z2.size
  ·have d2:(60:Int)<(z2.size:Int):=by omega
   go_wp2_with(first|go_big_skip|refine zlN hS ?_ (vs:=[.I z0,.string z1,.string z2,.I z3,.I z4,.I z5,.I z6,.string z7,.I z8]) (hc:=by exact a7.old (by exact b8) hall)|refine zl1 hS ?_|refine zal hS ?_;clear hS;intro bA w hS|refine zsN hS ?_;clear hS;intro w hS);go_ret;exact .inl ⟨rfl,hS.s _⟩
  have d2:decide ((60:Int)<(z2.size:Int))=false:=by simp;omega
  by_cases h3:60<z7.size
  ·have d3:(60:Int)<(z7.size:Int):=by omega
   go_wp2_with(first|go_big_skip|refine zlN hS ?_ (vs:=[.I z0,.string z1,.string z2,.I z3,.I z4,.I z5,.I z6,.string z7,.I z8]) (hc:=by exact a7.old (by exact b8) hall)|refine zl1 hS ?_|refine zal hS ?_;clear hS;intro bA w hS|refine zsN hS ?_;clear hS;intro w hS);go_ret;exact .inl ⟨rfl,hS.s _⟩
  have d3:decide ((60:Int)<(z7.size:Int))=false:=by simp;omega
  go_wp2_with(first|go_big_skip|refine zlN hS ?_ (vs:=[.I z0,.string z1,.string z2,.I z3,.I z4,.I z5,.I z6,.string z7,.I z8]) (hc:=by exact a7.old (by exact b8) hall)|refine zl1 hS ?_|refine zal hS ?_;clear hS;intro bA w hS|refine zsN hS ?_;clear hS;intro w hS);go_roundw
  case rel=>
   refine⟨i+1,rfl,hil,fun j hj hjl=>?_,hS.s _⟩;by_cases hji:j<i
   ·exact Hsm.out j hji hjl
   ·obtain rfl:j=i:=by omega
    rw[<-Hx.out];exact⟨by show z1.size<=60;omega,by show z2.size<=60;omega,by show z7.size<=60;omega⟩
  case measure=>simp[intOf];try omega
theorem GM7{ver nxt:Int}{zs:List Zo}{hs:List Int}{l:List Ro}{v hv rv:Value}{V:World}(hzv:d6 Zo.cells 9 V v zs)(hhv:d6 hC 1 V hv hs)(hrv:d6 Ro.cells 3 V rv l)(W w:World)(Lr:List HP)(hS:St W (Old V::Lr) w):
  Calls Try.prog 9 #[.agg #[.I ver,.I nxt,v],hv,rv] w fun e w'=>(e=.returned (.bool true)/\St W (Old V::Lr) w')\/(e=.returned (.bool false)/\(zs.length<=60/\(∀z∈zs,smZ z)/\hs.length<=20/\l.length<=60)/\St W (Old V::Lr) w'):=by
 have hz9:=hzv;obtain⟨va,vc,rfl,_,_⟩:=hz9;obtain⟨ha,hc,rfl,hh63,_⟩:=hhv;obtain⟨ra,rc,rfl,hr63,hact⟩:=hrv;have Hat:=jH hact;have Hv:=jH hzv;clear hact hzv;go_enter Try.func9,Try.ntmps9;by_cases h20:20<hs.length
 ·have d1:decide ((20:Int)<(hs.length:Int))=true:=by simp;omega
  go_wp2_with(first|go_big_skip|refine zbx hS ?_;clear hS;intro b1 w hS|refine zlN hS ?_|go_at_call 20;refine(Ch7 Hv.out W _ _ (hS.s (Old V::blk b1 _ _::Lr))).mono ?_;clear hS;rintro e w (⟨rfl,hS⟩|⟨rfl,hh9,hS⟩) <;> (try(have Hh9:=jH hh9;clear hh9)))
  all_goals
   go_ret;exact .inl ⟨rfl,hS.s _⟩
 have d1:decide ((20:Int)<(hs.length:Int))=false:=by simp;omega
 by_cases h60:60<l.length
 ·have d2:decide ((60:Int)<(l.length:Int))=true:=by simp;omega
  go_wp2_with(first|go_big_skip|refine zbx hS ?_;clear hS;intro b1 w hS|refine zlN hS ?_|go_at_call 20;refine(Ch7 Hv.out W _ _ (hS.s (Old V::blk b1 _ _::Lr))).mono ?_;clear hS;rintro e w (⟨rfl,hS⟩|⟨rfl,hh9,hS⟩) <;> (try(have Hh9:=jH hh9;clear hh9)))
  all_goals
   go_ret;exact .inl ⟨rfl,hS.s _⟩
 have d2:decide ((60:Int)<(l.length:Int))=false:=by simp;omega
 go_wp2_with(first|go_big_skip|refine zbx hS ?_;clear hS;intro b1 w hS|refine zlN hS ?_|go_at_call 20;refine(Ch7 Hv.out W _ _ (hS.s (Old V::blk b1 _ _::Lr))).mono ?_;clear hS;rintro e w (⟨rfl,hS⟩|⟨rfl,hh9,hS⟩) <;> (try(have Hh9:=jH hh9;clear hh9)))
 ·go_ret;exact .inl ⟨rfl,hS.s _⟩
 have hS1:=hS.s (Old V::Lr);clear hS
 go_loopw [7] (fun v wr=>HvR W (Old V::Lr) l.length (fun _=>True) v wr) (fun v _=>l.length-(intOf v).toNat)
 case atStart=>exact⟨0,rfl,by omega,fun _ _=>trivial,hS1⟩
 case round=>
  clear hS1;obtain⟨i,rfl,hi,_,hS⟩:=hrel;by_cases hil:i<l.length
  case neg=>
   have d3:decide (i<l.length)=false:=decide_eq_false hil;go_wp2_with(first|go_big_skip);go_ret;exact .inr ⟨rfl,⟨Hh9.out.1,Hh9.out.2,by omega,by omega⟩,hS⟩
  have hd3:decide (i<l.length)=true:=decide_eq_true hil;clear hi;obtain⟨pb,poff,rfl,hall⟩:=Hat.out i hil;generalize l[i]=x at hall;obtain⟨x0,x1,x2⟩:=x;simp only[Ro.cells]at hall;have hc2:V.cell? ⟨pb,poff+i*3+2,none⟩=some (.string x2):=hall 2 _ rfl;by_cases h3:60<x2.size
  ·have d4:decide ((60:Int)<(x2.size:Int))=true:=by simp;omega
   go_wp2_with(first|go_big_skip|refine zl1 hS ?_ (v:=.string x2) (hc:=by exact a8.old (by exact b8) hc2));go_ret;exact .inl ⟨rfl,hS⟩
  have d4:decide ((60:Int)<(x2.size:Int))=false:=by simp;omega
  go_wp2_with(first|go_big_skip|refine zl1 hS ?_ (v:=.string x2) (hc:=by exact a8.old (by exact b8) hc2));go_roundw
  case rel=>exact⟨i+1,rfl,hil,fun _ _=>trivial,hS⟩
  case measure=>simp[intOf];try omega
def BzR(W:World)(R:List HP)(n:Nat)(v:Value)(w:World):Prop:=
 ∃i:Nat,v=.I i/\i<=n/\St W R w
def BkR(W:World)(R:List HP)(zs:List Zo)(n:Int)(v11 v12:Value)(w:World):Prop:=
 ∃(k:Nat) (ok:Bool),v11=.bool ok/\v12=.I k/\k<=zs.length/\(ok=true↔∃j, ∃h:j<zs.length,j<k/\zs[j].id=n/\zs[j].pend=0)/\St W R w
theorem busyL_at{zs:List Zo}{hs:List Int}{l:List Ro}{v hv rv:Value}{V:World}{ver nxt hot cold:Int}(hzv:d6 Zo.cells 9 V v zs)(hhv:d6 hC 1 V hv hs)(hrv:d6 Ro.cells 3 V rv l)(hrg:∀z∈zs,rgZ z)(h1:rgI ver)(h2:rgI nxt)(W w:World)(R:List HP)(hS:St W (Old V::R) w):
  Calls Try.prog 4 #[.agg #[.I ver,.I nxt,v],hv,rv,.agg #[.I hot,.I cold]] w fun e w'=>e=.returned (.bool true)/\St W (Old V::R) w':=by
 have hz9:=hzv;obtain⟨va,vc,rfl,_,hact⟩:=hz9;have hh9:=hhv;obtain⟨ha,hc,rfl,_,_⟩:=hh9;have hr9:=hrv;obtain⟨ra,rc,rfl,_,_⟩:=hr9;have Hat:=jH hact;have Hv:=jH hzv;have Hh:=jH hhv;have Hr:=jH hrv;have Hrg:=jH hrg;clear hact hzv hhv hrv hrg;go_enter Try.func4,Try.ntmps4;go_wp2_with(first|go_big_skip|(fail_if_success (have:=mB1));(refine zbx hS ?_;clear hS;have mB1:Nat:=0;intro b1 w hS)|(have:=mB1);refine zbx hS ?_;clear hS;intro b2 w hS|refine zlN hS ?_|go_at_call 9;refine(GM7 Hv.out Hh.out Hr.out W _ _ (hS.s (Old V::blk b1 _ _::blk b2 _ _::R))).mono ?_;clear hS;rintro e w (⟨rfl,hS⟩|⟨rfl,hh9,hS⟩) <;> (try(have Hh9:=jH hh9;clear hh9))|go_at_call 8;refine(GJ7 Hv.out Hh.out Hr.out (fun z hz=>⟨Hh9.out.2.1 z hz,Hrg.out z hz⟩) Hh9.out.1 h1 h2 (Nat.le_trans Hh9.out.2.2.1 (by decide)) Hh9.out.2.2.2 W _ _ hS).mono ?_;clear hS;rintro e w ⟨u,out,rfl,hmk,hS⟩;(have hpb:=FR7 hmk;have Hpb:=jH hpb;clear hmk hpb);(have hv9:=hS.rowVal;obtain⟨ua,uc,rfl⟩:=hv9)|(go_at_call 10;refine(HI7 Hv.out Hh9.out.1 W _ _ (hS.s (Old V::row (.slice ua out.length uc) 5 42 out.length (out.flatMap Cg.cells)::blk b1 _ _::blk b2 _ _::R))).mono ?_;clear hS;rintro e w ⟨q,hq,rfl,hS⟩;(have Hq:=jH hq;clear hq);cases q <;> (try(have e0:out=[]:=Hpb.out.1 (fun h=>absurd (Hq.out.2 h.1) Bool.false_ne_true);subst e0)))|(go_at_call 11;refine(Fw7 Hh.out (Nat.le_trans Hh9.out.2.2.1 (by decide)) W _ _ hS).mono ?_;clear hS;rintro e w ⟨q2,hq2,rfl,hS⟩;(have Hq2:=jH hq2;clear hq2);cases q2 <;> (try(have e0:out=[]:=Hpb.out.1 (fun h=>absurd (Hq2.out.2 h.2) Bool.false_ne_true);subst e0)))|go_at_call 7;refine(EX7 W _ _ hS).mono ?_;clear hS;rintro e w ⟨rfl,hS⟩)
 ·go_ret;exact⟨rfl,hS.s _⟩
 ·go_ret;exact⟨rfl,hS.s _⟩
 ·go_ret;exact⟨rfl,hS.s _⟩
 have hS1:=hS.s (row (.slice ua out.length uc) 5 42 out.length (out.flatMap Cg.cells)::blk b1 _ _::Old V::R);clear hS;have Hmem:=jH Hpb.out.2.1;have Hnd:=jH (List.pairwise_iff_getElem.1 (List.nodup_iff_pairwise_ne.1 Hpb.out.2.2))
 go_loopw [10] (fun v10 wr=>BzR W (row (.slice ua out.length uc) 5 42 out.length (out.flatMap Cg.cells)::blk b1 [.I ver,.I nxt,.slice va zs.length vc] 26::Old V::R) out.length v10 wr) (fun v10 _=>out.length-(intOf v10).toNat)
 case atStart=>exact⟨0,rfl,Nat.zero_le _,hS1⟩
 case round=>
  clear hS1;obtain⟨i,rfl,hi,hS⟩:=hrel;by_cases hil:i<out.length
  case neg=>
   have d1:decide (i<out.length)=false:=decide_eq_false hil;go_wp2_with(first|go_big_skip|go_at_call 7;refine(EX7 W _ _ hS).mono ?_;clear hS;rintro e w ⟨rfl,hS⟩);go_ret;exact⟨rfl,hS.s _⟩
  have d1:decide (i<out.length)=true:=decide_eq_true hil;obtain⟨⟨g,rfl⟩,uc9,un9⟩:=St.rowAddr hS (by omega);have hcx:∀{K K':List HP},Take K (row (.S g out.length uc) 5 42 out.length (out.flatMap Cg.cells)) K'->∀k (h:k<out.length),a7 K g (k*5) (Cg.cells out[k]):=fun{K K'} hu k h=>a7.elemM (enc:=Cg.cells) Cg.len hu h
  have hci:∀{K K':List HP},Take K (row (.S g out.length uc) 5 42 out.length (out.flatMap Cg.cells)) K'->a8 K g (i*5+1) (.I out[i].zone):=fun{K K'} hu W w hS=>hcx hu i hil 1 _ rfl W w hS
  have hmi:=Hmem.out out[i] (jW hil);have hnd:∀k (h:k<i),(out[k]'(by omega)).zone≠out[i].zone:=fun k h=>by have h9:=Hnd.out k i (by rw[jM];omega) (by rw[jM];omega) h;simpa using h9
  obtain⟨cz,hcz⟩:∃cz,cz=out[i].zone:=⟨_,rfl⟩
  rw[<-hcz]at hci hmi hnd;have Hmi:=jH hmi;have Hnd2:=jH hnd;clear hcz hmi hnd hi;go_wp2_with(first|go_big_skip)
  go_loopw [11,12] (fun v11 v12 wr=>BkR W (row (.S g out.length uc) 5 42 out.length (out.flatMap Cg.cells)::blk b1 [.I ver,.I nxt,.slice va zs.length vc] 26::Old V::R) zs cz v11 v12 wr) (fun _ v12 _=>zs.length-(intOf v12).toNat)
  case atStart=>exact⟨0,false,rfl,rfl,Nat.zero_le _,⟨fun h=>(by cases h),fun⟨j,_,h,_⟩=>absurd h (Nat.not_lt_zero _)⟩,hS⟩
  case round=>
   clear hS;obtain⟨k,ok,rfl,rfl,hk,hok,hS⟩:=hrel;by_cases hkl:k<zs.length
   ·have d2:decide (k<zs.length)=true:=decide_eq_true hkl;obtain⟨zb,zoff,rfl,hall⟩:=Hat.out k hkl;obtain⟨z,hz⟩:∃z,z=zs[k]:=⟨_,rfl⟩
    rw[<-hz]at hall
    have hnx:(∃j, ∃h:j<zs.length,j<k+1/\zs[j].id=cz/\zs[j].pend=0)↔(ok=true\/(z.id=cz/\z.pend=0)):=by
     rw[hok];constructor
     ·rintro⟨j,hj,hlt,h⟩
      rcases Nat.lt_or_ge j k with h1|h1
      ·exact .inl ⟨j,hj,h1,h⟩
      ·obtain rfl:j=k:=by omega
       exact .inr (by rw[hz];exact h)
     ·rintro(⟨j,hj,hlt,h⟩|h)
      ·exact⟨j,hj,by omega,h⟩
      ·exact⟨k,hkl,by omega,by rw[<-hz];exact h⟩
    clear hz hok hk;obtain⟨z0,z1,z2,z3,z4,z5,z6,z7,z8⟩:=z;simp only[Zo.cells]at hall;simp only at hnx;have hy0:V.cell? ⟨zb,zoff+k*9,none⟩=some (.I z0):=hall 0 _ rfl;have hy5:V.cell? ⟨zb,zoff+k*9+5,none⟩=some (.I z5):=hall 5 _ rfl;clear hall
    cases ok with
    | true=>
     have Hnx:=jH (hnx.2 (.inl rfl));clear hnx;go_wp2_with(first|go_big_skip|refine zl1 hS ?_);refine Aa7 (by kernel_rfl) (by kernel_rfl) hS ?_
     repeat(first|go_big_quiet_skip|refine zq1 ?_ (v:=.I z0) (hc:=by exact a8.old (by exact b8) hy0)|refine zq1 ?_ (v:=.I z5) (hc:=by exact a8.old (by exact b8) hy5)|refine zq1 ?_ (v:=.I cz) (hc:=by exact hci (by exact d9))|refine zq1 ?_|refine qR ?_)
     clear hS;intro w hS;go_wp2_with(first|go_big_skip);go_roundw
     case rel=>exact⟨k+1,true,rfl,rfl,hkl,⟨fun _=>Hnx.out,fun _=>rfl⟩,hS⟩
     case measure=>simp[intOf];omega
    | false=>
     by_cases c1:z0=cz
     case neg=>
      have e1:(z0==cz)=false:=by simpa using c1
      have Hnx:=jH (show ¬_ from fun h=>by rcases hnx.1 h with h|h;cases h;exact c1 h.1);clear hnx c1;go_wp2_with(first|go_big_skip|refine zl1 hS ?_);refine Aa7 (by kernel_rfl) (by kernel_rfl) hS ?_
      repeat(first|go_big_quiet_skip|refine zq1 ?_ (v:=.I z0) (hc:=by exact a8.old (by exact b8) hy0)|refine zq1 ?_ (v:=.I z5) (hc:=by exact a8.old (by exact b8) hy5)|refine zq1 ?_ (v:=.I cz) (hc:=by exact hci (by exact d9))|refine zq1 ?_|refine qR ?_)
      clear hS;intro w hS;go_wp2_with(first|go_big_skip);go_roundw
      case rel=>exact⟨k+1,false,rfl,rfl,hkl,⟨fun h=>(by cases h),fun h=>absurd h Hnx.out⟩,hS⟩
      case measure=>simp[intOf];omega
     have e1:(z0==cz)=true:=by simpa using c1
     by_cases c2:z5=0
     case neg=>
      have e2:(z5==0)=false:=by simpa using c2
      have Hnx:=jH (show ¬_ from fun h=>by rcases hnx.1 h with h|h;cases h;exact c2 h.2);clear hnx c1 c2;go_wp2_with(first|go_big_skip|refine zl1 hS ?_);refine Aa7 (by kernel_rfl) (by kernel_rfl) hS ?_
      repeat(first|go_big_quiet_skip|refine zq1 ?_ (v:=.I z0) (hc:=by exact a8.old (by exact b8) hy0)|refine zq1 ?_ (v:=.I z5) (hc:=by exact a8.old (by exact b8) hy5)|refine zq1 ?_ (v:=.I cz) (hc:=by exact hci (by exact d9))|refine zq1 ?_|refine qR ?_)
      clear hS;intro w hS;go_wp2_with(first|go_big_skip);go_roundw
      case rel=>exact⟨k+1,false,rfl,rfl,hkl,⟨fun h=>(by cases h),fun h=>absurd h Hnx.out⟩,hS⟩
      case measure=>simp[intOf];omega
     have e2:(z5==0)=true:=by simpa using c2
     have Hnx:=jH (hnx.2 (.inr ⟨c1,c2⟩));clear hnx c1 c2;go_wp2_with(first|go_big_skip|refine zl1 hS ?_);refine Aa7 (by kernel_rfl) (by kernel_rfl) hS ?_
     repeat(first|go_big_quiet_skip|refine zq1 ?_ (v:=.I z0) (hc:=by exact a8.old (by exact b8) hy0)|refine zq1 ?_ (v:=.I z5) (hc:=by exact a8.old (by exact b8) hy5)|refine zq1 ?_ (v:=.I cz) (hc:=by exact hci (by exact d9))|refine zq1 ?_|refine qR ?_)
     clear hS;intro w hS;go_wp2_with(first|go_big_skip);go_roundw
     case rel=>exact⟨k+1,true,rfl,rfl,hkl,⟨fun _=>Hnx.out,fun _=>rfl⟩,hS⟩
     case measure=>simp[intOf];omega
   ·have d2:decide (k<zs.length)=false:=decide_eq_false hkl;obtain rfl:ok=true:=hok.2 (by obtain⟨z,hz,h⟩:=Hmi.out;obtain⟨j,hj,rfl⟩:=List.getElem_of_mem hz;exact⟨j,hj,by omega,h⟩);clear hok hk;go_wp2_with(first|go_big_skip|refine zl1 hS ?_)
    go_loopw [13] (fun v13 wr=>BzR W (row (.S g out.length uc) 5 42 out.length (out.flatMap Cg.cells)::blk b1 [.I ver,.I nxt,.slice va zs.length vc] 26::Old V::R) i v13 wr) (fun v13 _=>i-(intOf v13).toNat)
    case atStart=>exact⟨0,rfl,Nat.zero_le _,hS⟩
    case round=>
     clear hS;obtain⟨m,rfl,hm,hS⟩:=hrel;by_cases hmi:m<i
     ·have d3:decide (m<i)=true:=decide_eq_true hmi;have hcm:∀{K K':List HP},Take K (row (.S g out.length uc) 5 42 out.length (out.flatMap Cg.cells)) K'->a8 K g (m*5+1) (.I (out[m]'(by omega)).zone):=fun{K K'} hu W w hS=>hcx hu m (by omega) 1 _ rfl W w hS
      have hne:=Hnd2.out m hmi;generalize (out[m]'(by omega:m<out.length)).zone=mz at hcm hne;have e3:(mz==cz)=false:=by simpa using hne
      have hml:m<out.length:=by omega
      clear hne hm;go_wp2_with(first|go_big_skip);refine Aa7 (by kernel_rfl) (by kernel_rfl) hS ?_
      repeat(first|go_big_quiet_skip|refine zq1 ?_ (v:=.I mz) (hc:=by exact hcm (by exact d9))|refine zq1 ?_ (v:=.I cz) (hc:=by exact hci (by exact d9))|refine qR ?_)
      clear hS;intro w hS;go_wp2_with(first|go_big_skip);go_roundw
      case rel=>exact⟨m+1,rfl,hmi,hS⟩
      case measure=>simp[intOf];omega
     ·have d3:decide (m<i)=false:=decide_eq_false hmi;clear hm;go_wp2_with(first|go_big_skip);go_roundw
      case rel=>exact⟨i+1,rfl,hil,hS⟩
      case measure=>simp[intOf];omega
end Go.Proofs.Ytjcfifkjbaffnaa
end
section
namespace Go.Proofs.Ytjcfifkjbaffnaa
open Go.Joins Go.ChangeShapes Go.WideShapes Go.RowKit Go.Deep Go.Sl
theorem K6{n:Int}(h:(Lit.int .i64 n).wf=true):rgI n:=by have e1:IntKind.i64.min = -9223372036854775808:=rfl;have e2:IntKind.i64.max=9223372036854775807:=rfl;unfold rgI;simp only[Lit.wf,jB,decide_eq_true_eq,e1,e2]at h;exact h
section
variable{H:Type}{enc:TypeId×Value->H}{w:World}{base:Nat}{spare:Nat->Bool}{held:Bool}
theorem Ef7{n:Nat}{cs:List Value}{y:DataW H×List MemPlace}(h:DataW.trod enc Try.prog w base spare held n 30 cs=some y):∃k u:ByteArray,cs=[.string k,.string u]:=by
 obtain⟨xs,n',rfl,hx,hlen,hxl,hg⟩:=DataW.trod_struct Try.underlying30 h;have hlen':cs.length=2:=hlen.trans (by kernel_rfl)
 match cs,hlen' with
 | [c0,c1],_=>
  match xs,hxl with
  | [y0,y1],_=>
   have g0:=hg 0 _ rfl;have g1:=hg 1 _ rfl;obtain⟨k,e0,_⟩:=DataW.trod_string Try.underlying9 (show DataW.trod enc Try.prog w base spare held n' 9 [c0]=some y0 from g0);obtain⟨u,e1,_⟩:=DataW.trod_string Try.underlying9 (show DataW.trod enc Try.prog w base spare held n' 9 [c1]=some y1 from g1);simp only[List.cons.injEq,and_true]at e0 e1;subst e0 e1;exact⟨k,u,rfl⟩
theorem Eg7{n:Nat}{cs:List Value}{y:DataW H×List MemPlace}(h:DataW.trod enc Try.prog w base spare held n 32 cs=some y):∃z:{z:Zo // rgZ z},cs=z.1.cells:=by
 obtain⟨xs,n',rfl,hx,hlen,hxl,hg⟩:=DataW.trod_struct Try.underlying32 h;have hlen':cs.length=9:=hlen.trans (by kernel_rfl)
 match cs,hlen' with
 | [c0,c1,c2,c3,c4,c5,c6,c7,c8],_=>
  match xs,hxl with
  | [y0,y1,y2,y3,y4,y5,y6,y7],_=>
   have g0:=hg 0 _ rfl;have g1:=hg 1 _ rfl;have g2:=hg 2 _ rfl;have g3:=hg 3 _ rfl;have g4:=hg 4 _ rfl;have g5:=hg 5 _ rfl;have g6:=hg 6 _ rfl;have g7:=hg 7 _ rfl;obtain⟨z0,e0,_,w0⟩:=DataW.trod_int Try.underlying3 (show DataW.trod enc Try.prog w base spare held n' 3 [c0]=some y0 from g0);obtain⟨ak,au,e1⟩:=Ef7 (show DataW.trod enc Try.prog w base spare held n' 30 [c1,c2]=some y1 from g1);obtain⟨z2,e2,_,w2⟩:=DataW.trod_int Try.underlying3 (show DataW.trod enc Try.prog w base spare held n' 3 [c3]=some y2 from g2);obtain⟨z3,e3,_,w3⟩:=DataW.trod_int Try.underlying3 (show DataW.trod enc Try.prog w base spare held n' 3 [c4]=some y3 from g3);obtain⟨z4,e4,_,w4⟩:=DataW.trod_int Try.underlying3 (show DataW.trod enc Try.prog w base spare held n' 3 [c5]=some y4 from g4);obtain⟨z5,e5,_,w5⟩:=DataW.trod_int Try.underlying3 (show DataW.trod enc Try.prog w base spare held n' 3 [c6]=some y5 from g5);obtain⟨z6,e6,_⟩:=DataW.trod_string Try.underlying9 (show DataW.trod enc Try.prog w base spare held n' 9 [c7]=some y6 from g6);obtain⟨z7,e7,_,w7⟩:=DataW.trod_int Try.underlying3 (show DataW.trod enc Try.prog w base spare held n' 3 [c8]=some y7 from g7);simp only[List.cons.injEq,and_true]at e0 e1 e2 e3 e4 e5 e6 e7;obtain⟨e1,e1'⟩:=e1;subst e0 e1 e1' e2 e3 e4 e5 e6 e7;exact⟨⟨⟨z0,ak,au,z2,z3,z4,z5,z6,z7⟩,K6 w0,K6 w2,K6 w3,K6 w4,K6 w5,K6 w7⟩,rfl⟩
theorem Fy7{P:Zo->Prop}{w:World}{v:Value}{xs:List {z:Zo // P z}}(h:d6 (fun z:{z:Zo // P z}=>z.1.cells) 9 w v xs):d6 Zo.cells 9 w v (xs.map (·.1)):=by obtain⟨a,cap,e,h1,h2⟩:=h;refine⟨a,cap,by rw[jM];exact e,by rw[jM];exact h1,fun i hi=>?_⟩;rw[jM]at hi;obtain⟨b,off,ea,hc⟩:=h2 i hi;exact⟨b,off,ea,fun j u hj=>hc j u (by simpa using hj)⟩
theorem Fz7{n:Nat}{cs:List Value}{y:DataW H×List MemPlace}(h:DataW.trod enc Try.prog w base spare held n 35 cs=some y):∃z:Ro,cs=z.cells:=by
 obtain⟨xs,n',rfl,hx,hlen,hxl,hg⟩:=DataW.trod_struct Try.underlying35 h;have hlen':cs.length=3:=hlen.trans (by kernel_rfl)
 match cs,hlen' with
 | [c0,c1,c2],_=>
  match xs,hxl with
  | [y0,y1,y2],_=>
   have g0:=hg 0 _ rfl;have g1:=hg 1 _ rfl;have g2:=hg 2 _ rfl;obtain⟨z0,e0,_⟩:=DataW.trod_int Try.underlying3 (show DataW.trod enc Try.prog w base spare held n' 3 [c0]=some y0 from g0);obtain⟨z1,e1,_⟩:=DataW.trod_int Try.underlying3 (show DataW.trod enc Try.prog w base spare held n' 3 [c1]=some y1 from g1);obtain⟨z2,e2,_⟩:=DataW.trod_string Try.underlying9 (show DataW.trod enc Try.prog w base spare held n' 9 [c2]=some y2 from g2);simp only[List.cons.injEq,and_true]at e0 e1 e2;subst e0 e1 e2;exact⟨⟨z0,z1,z2⟩,rfl⟩
theorem open_rowsP{r:Reach}{b0:Nat}{v:Value}{d:DataW H}{p:List MemPlace}(hv:Value.okWide Try.prog w r b0 27 v)(h:DataW.Trod enc Try.prog w base spare held 27 v d p):∃xs,d6 Ro.cells 3 w v xs:=
 BT7 Ro.cells ro0 Ro.len (by decide) Try.underlying27 (by kernel_rfl) (fun n cs y _ h => Fz7 h) hv h
theorem open_intsP{r:Reach}{b0:Nat}{v:Value}{d:DataW H}{p:List MemPlace}(hv:Value.okWide Try.prog w r b0 22 v)(h:DataW.Trod enc Try.prog w base spare held 22 v d p):∃xs,d6 hC 1 w v xs:=
 BT7 hC 0 EP7 (by decide) Try.underlying22 (by kernel_rfl) (fun n cs y _ h => by obtain⟨k,e,_⟩:=DataW.trod_int Try.underlying3 h;exact⟨k,e⟩) hv h
theorem rg0:rgZ ⟨0,⟨#[]⟩,⟨#[]⟩,0,0,0,0,⟨#[]⟩,0⟩:=by unfold rgZ rgI;simp
end
section
variable{H:Type}{enc:TypeId×Value->H}{P:Program}{w:World}{base:Nat}{spare:Nat->Bool}{held:Bool}
theorem Ci7{e:TypeId}:∀{ds:List (DataW H)} {i:Nat} (h:i<ds.length) {n:Nat},n∈ds[i].weights P e->n∈DataW.weightsAll P e ds
 | d::ds,0,_,n,hn=>by rw[DataW.weightsAll];exact List.mem_append_left _ hn
 | d::ds,i+1,h,n,hn=>by rw[DataW.weightsAll];exact List.mem_append_right _ (Ci7 (i:=i) (Nat.lt_of_succ_lt_succ h) hn)
theorem Eh7{α:Type}{t e:TypeId}{k fuel:Nat}{cs:List Value}{y:DataW H×List MemPlace}(en:α->List Value)(x0:α)(Q:α->DataW H->Prop)(hk:∀x,(en x).length=k)(h0:0<k)(ht:P.underlying t=some (.slice e))(hC:P.cellsOf e=k)
  (hE:∀(n:Nat) (cs:List Value) (y:DataW H×List MemPlace),cs.length=k->DataW.trod enc P w base spare held n e cs=some y->∃x,cs=en x/\Q x y.1)
  (hf:DataW.trod enc P w base spare held fuel t cs=some y):∃v xs,cs=[v]/\d6 en k w v xs/\((∀n∈y.1.weights P t,n<=reachBytes)->xs.length*P.bytesOf e<=reachBytes)/\∀x∈xs, ∃d,Q x d/\((∀n∈y.1.weights P t,n<=reachBytes)->∀n∈d.weights P e,n<=reachBytes):=by
 rcases open_slice ht hf with ⟨rfl,hx⟩|⟨a,len,cap,m,n,D,Pl,rfl,hb,hl,hm,hmm,hx,hi⟩
 ·exact⟨_,[],rfl,⟨none,0,rfl,by simp,fun i hi=>absurd hi (Nat.not_lt_zero _)⟩,fun _=>by simp,fun x hx=>(by cases hx)⟩
 ·have hlm:len<=m:=by rw[hmm];split <;> omega
  have hex:∀i, ∃x:α,i<len->Q x (D i)/\∀j u,(en x)[j]? = some u->w.cell? ((a.add (i*k)).add j)=some u:=fun i=>by
   by_cases hil:i<len
   ·obtain⟨cs',hc,ht'⟩:=hi i (by omega);rw[hC]at hc;obtain⟨_,hcl,hat⟩:=World.cells?_some hc;obtain⟨x,rfl,hq⟩:=hE n cs' _ hcl ht';refine⟨x,fun _=>⟨hq,fun j u hj=>?_⟩⟩;have hjk:j<k:=by have:=(List.getElem?_eq_some_iff.1 hj).1;rwa [hk]at this
    rw[hat j hjk];exact hj
   ·exact⟨x0,fun h=>absurd h hil⟩
  obtain⟨f,hf'⟩:=Classical.axiomOfChoice hex;have hll:((List.range len).map f).length=len:=by simp
  have hy:y.1=.slice ((List.range len).map D) ((List.range (m-len)).map fun j=>D (len+j)):=by rw[hx]
  have hwt:y.1.weights P t=(((List.range len).map D).length+((List.range (m-len)).map fun j=>D (len+j)).length)*P.bytesOf e::(DataW.weightsAll P e ((List.range len).map D)++DataW.weightsAll P e ((List.range (m-len)).map fun j=>D (len+j))):=by rw[hy];simp[DataW.weights,ht]
  refine⟨_,(List.range len).map f,rfl,⟨some a,cap,by rw[hll],by rw[hll];unfold maxLen at hm;omega,fun i hi2=>?_⟩,fun hB=>?_,fun x hx=>?_⟩
  ·rw[hll]at hi2;have hspot:a.spot=none:=by have hc:=(hf' 0 (by omega)).2;have h1:(en (f 0))[0]? = some ((en (f 0))[0]'(by rw[hk];exact h0)):=jG _;have:=World.cell?_spot (hc 0 _ h1);simpa[Addr.add]using this
   obtain⟨b,off,spot⟩:=a;simp only at hspot;subst hspot;refine⟨b,off,rfl,fun j u hj=>?_⟩;have e1:((List.range len).map f)[i]=f i:=by simp
   rw[e1]at hj;have:=(hf' i hi2).2 j u hj;rwa [Addr.add_lit,Addr.add_lit]at this
  ·rw[hwt]at hB;have:=hB _ (List.mem_cons_self ..);rw[hll];refine Nat.le_trans (Nat.mul_le_mul_right _ ?_) this;simp
  ·obtain⟨i,hi,rfl⟩:=List.mem_map.1 hx;have hil:=List.mem_range.1 hi;refine⟨D i,(hf' i hil).1,fun hB n hn=>?_⟩;rw[hwt]at hB;refine hB n (List.mem_cons_of_mem _ (List.mem_append_left _ (Ci7 (i:=i) (by simpa using hil) ?_)));simpa using hn
end
section
variable{H:Type}{enc:TypeId×Value->H}{w:World}{base:Nat}{spare:Nat->Bool}{held:Bool}
theorem open_mapP{r:Reach}{b0:Nat}{v:Value}{d:DataW H}{p:List MemPlace}
  (hv:Value.okWide Try.prog w r b0 26 v) (h:DataW.Trod enc Try.prog w base spare held 26 v d p):∃(ver nxt:Int) (zv:Value) (zs:List Zo),v=.agg #[.I ver,.I nxt,zv]/\d6 Zo.cells 9 w zv zs/\(∀z∈zs,rgZ z)/\rgI ver/\rgI nxt:=by
 obtain⟨cs,rfl,_⟩:=okWide_struct Try.underlying26 hv;obtain⟨l⟩:=cs;obtain⟨n,hf⟩:=h;obtain⟨xs,n',rfl,hx,hlen,hxl,hg⟩:=DataW.trod_struct Try.underlying26 hf;have hlen':l.length=3:=hlen.trans (by kernel_rfl)
 match l,hlen' with
 | [c0,c1,c2],_=>
  match xs,hxl with
  | [y0,y1,y2],_=>
   have g0:=hg 0 _ rfl;have g1:=hg 1 _ rfl;have g2:=hg 2 _ rfl;obtain⟨k,e0,_,w0⟩:=DataW.trod_int Try.underlying3 (show DataW.trod enc Try.prog w base spare held n' 3 [c0]=some y0 from g0);obtain⟨u,e1,_,w1⟩:=DataW.trod_int Try.underlying3 (show DataW.trod enc Try.prog w base spare held n' 3 [c1]=some y1 from g1);obtain⟨zv,zs,e2,hz,_⟩:=Eh7 (fun z:{z:Zo // rgZ z}=>z.1.cells) ⟨⟨0,⟨#[]⟩,⟨#[]⟩,0,0,0,0,⟨#[]⟩,0⟩,rg0⟩ (fun _ _=>True) (fun z=>Zo.len z.1) (by decide) Try.underlying24 (by kernel_rfl) (fun n cs y _ h=>by obtain⟨a,e⟩:=Eg7 h;exact⟨a,e,trivial⟩) (show DataW.trod enc Try.prog w base spare held n' 24 [c2]=some y2 from g2);simp only[List.cons.injEq,and_true]at e0 e1 e2;subst e0 e1 e2;exact⟨k,u,c2,zs.map (·.1),rfl,Fy7 hz,fun z hz=>by obtain⟨y,_,rfl⟩:=List.mem_map.1 hz;exact y.2,K6 w0,K6 w1⟩
theorem open_limP{r:Reach}{b0:Nat}{v:Value}{d:DataW H}{p:List MemPlace}(hv:Value.okWide Try.prog w r b0 40 v)(h:DataW.Trod enc Try.prog w base spare held 40 v d p):∃x y:Int,v=.agg #[.I x,.I y]:=by
 obtain⟨cs,rfl,_⟩:=okWide_struct Try.underlying40 hv;obtain⟨l⟩:=cs;obtain⟨n,hf⟩:=h;obtain⟨xs,n',rfl,hx,hlen,hxl,hg⟩:=DataW.trod_struct Try.underlying40 hf;have hlen':l.length=2:=hlen.trans (by kernel_rfl)
 match l,hlen' with
 | [c0,c1],_=>
  match xs,hxl with
  | [y0,y1],_=>
   have g0:=hg 0 _ rfl;have g1:=hg 1 _ rfl;obtain⟨k,e0,_⟩:=DataW.trod_int Try.underlying3 (show DataW.trod enc Try.prog w base spare held n' 3 [c0]=some y0 from g0);obtain⟨u,e1,_⟩:=DataW.trod_int Try.underlying3 (show DataW.trod enc Try.prog w base spare held n' 3 [c1]=some y1 from g1);simp only[List.cons.injEq,and_true]at e0 e1;subst e0 e1;exact⟨k,u,rfl⟩
end
end Go.Proofs.Ytjcfifkjbaffnaa
end
