/-
  The document's way.
-/
import Derived.Test.YtjcfifkjbaffnaaGreatPkQM5
import Derived.Test.YtjcfifkjbaffnaaGreatPkQM22
set_option maxHeartbeats 16000000
set_option maxRecDepth 100000
set_option linter.unusedSimpArgs false
set_option linter.unusedVariables false
section
namespace Go.Proofs.YtjcfifkjbaffnaaGreat
open Go.RowKit Go.Sl
theorem FU7{hs:List Int}{v:Value}{V:World}(hv:d6 hC 1 V v hs)(hl:hs.length<=1000)(W w:World)(R:List HP)(hS:St W (Old V::R) w):
  Calls Tryz.prog 21 #[v] w fun e w'=>∃r,(r=true↔n9 hs)/\e=.returned (.bool r)/\St W (Old V::R) w':=by
 obtain⟨a,cap,rfl,h63,hact⟩:=hv;have Hat:=jH hact;clear hact;go_enter Tryz.func21,Tryz.ntmps21;go_wp2_with(first|go_big_skip)
 go_loopw [3] (fun v wr=>HoR W (Old V::R) hs v wr) (fun v _=>hs.length-(intOf v).toNat)
 case atStart=>exact⟨0,rfl,Nat.zero_le _,fun j _ h=>absurd h (Nat.not_lt_zero _),hS⟩
 case round=>
  clear hS;obtain⟨i,rfl,hi,hok,hS⟩:=hrel;by_cases hil:i<hs.length
  ·have d1:decide (i<hs.length)=true:=decide_eq_true hil
   have hnx:m9 hs i hil->∀j (h:j<hs.length),j<i+1->m9 hs j h:=fun h j hj hlt=>by
    rcases Nat.lt_or_ge j i with h1|h1
    ·exact hok j hj h1
    ·obtain rfl:j=i:=by omega
     exact h
   have hbad:¬m9 hs i hil->¬∀j (h:j<hs.length),m9 hs j h:=fun h1 h2=>h1 (h2 i hil)
   obtain⟨pb,poff,rfl,hall⟩:=Hat.out i hil;have hx0:V.cell? ⟨pb,poff+i,none⟩=some (.I hs[i]):=by have:=hall 0 _ rfl;rwa [Nat.mul_one,Nat.add_zero]at this
   have hi1000:i<=1000:=by omega
   by_cases h0:i=0
   ·have d0:decide (0<i)=false:=decide_eq_false (by omega);have hat:(8<=hs[i]/\hs[i]<14)->m9 hs i hil:=fun h=>⟨h.1,h.2,fun hj=>absurd hj (by omega)⟩
    have hno:¬(8<=hs[i]/\hs[i]<14)->¬m9 hs i hil:=fun h h2=>h ⟨h2.1,h2.2.1⟩
    obtain⟨x,hx⟩:∃x,x=hs[i]:=⟨_,rfl⟩
    rw[<-hx]at hx0 hat hno;clear hall hok hx h0 hi;by_cases c1:8<=x
    case neg=>
     have e1:decide (x<8)=true:=by simp;omega
     have Hno:=jH (hbad (hno fun h=>c1 h.1));clear hbad hno hat hnx c1;go_wp2_with(first|go_big_skip);refine Aa7 (by kernel_rfl) (by kernel_rfl) hS ?_
     repeat(first|go_big_quiet_skip|refine zq1 ?_ (v:=.I x) (hc:=by exact a8.old (by exact b8) hx0)|refine zq1 ?_ (v:=.I y) (hc:=by exact a8.old (by exact b8) hy0)|refine qR ?_)
     clear hS;intro w hS;go_wp2_with(first|go_big_skip);go_ret;exact⟨false,⟨fun h=>(by cases h),fun h=>absurd ((Ay7 _).1 h).2 Hno.out⟩,rfl,hS⟩
    have e1:decide (x<8)=false:=by simp;omega
    by_cases c2:x<14
    case neg=>
     have e2:decide (14<=x)=true:=by simp;omega
     have Hno:=jH (hbad (hno fun h=>c2 h.2));clear hbad hno hat hnx c1 c2;go_wp2_with(first|go_big_skip);refine Aa7 (by kernel_rfl) (by kernel_rfl) hS ?_
     repeat(first|go_big_quiet_skip|refine zq1 ?_ (v:=.I x) (hc:=by exact a8.old (by exact b8) hx0)|refine zq1 ?_ (v:=.I y) (hc:=by exact a8.old (by exact b8) hy0)|refine qR ?_)
     clear hS;intro w hS;go_wp2_with(first|go_big_skip);go_ret;exact⟨false,⟨fun h=>(by cases h),fun h=>absurd ((Ay7 _).1 h).2 Hno.out⟩,rfl,hS⟩
    have e2:decide (14<=x)=false:=by simp;omega
    have Hnx:=jH (hnx (hat ⟨c1,c2⟩));clear hbad hno hat hnx c1 c2;go_wp2_with(first|go_big_skip);refine Aa7 (by kernel_rfl) (by kernel_rfl) hS ?_
    repeat(first|go_big_quiet_skip|refine zq1 ?_ (v:=.I x) (hc:=by exact a8.old (by exact b8) hx0)|refine zq1 ?_ (v:=.I y) (hc:=by exact a8.old (by exact b8) hy0)|refine qR ?_)
    clear hS;intro w hS;go_wp2_with(first|go_big_skip);go_roundw
    case rel=>exact⟨i+1,rfl,hil,Hnx.out,hS⟩
    case measure=>simp[intOf];omega
   ·have d0:decide (0<i)=true:=decide_eq_true (by omega);obtain⟨m,rfl⟩:∃m,i=m+1:=⟨i-1,by omega⟩
    have hml:m<hs.length:=by omega
    have hat:(8<=hs[m+1]/\hs[m+1]<14)->hs[m]<hs[m+1]->m9 hs (m+1) hil:=fun h h2=>⟨h.1,h.2,fun _=>h2⟩
    have hno:¬(8<=hs[m+1]/\hs[m+1]<14/\hs[m]<hs[m+1])->¬m9 hs (m+1) hil:=fun h h2=>h ⟨h2.1,h2.2.1,h2.2.2 (by omega)⟩
    obtain⟨pb2,poff2,ea,hally⟩:=Hat.out m hml
    cases ea
    have hy0:V.cell? ⟨pb,poff+m,none⟩=some (.I hs[m]):=by have:=hally 0 _ rfl;rwa [Nat.mul_one,Nat.add_zero]at this
    obtain⟨x,hx⟩:∃x,x=hs[m+1]:=⟨_,rfl⟩
    obtain⟨y,hy⟩:∃y,y=hs[m]:=⟨_,rfl⟩
    rw[<-hx]at hx0 hat hno;rw[<-hy]at hy0 hat hno;have hm1:((m+1:Nat):Int)-1=(m:Int):=by omega
    clear hall hally hok hx hy h0 hi;by_cases c1:8<=x
    case neg=>
     have e1:decide (x<8)=true:=by simp;omega
     have Hno:=jH (hbad (hno fun h=>c1 h.1));clear hbad hno hat hnx c1;go_wp2_with(first|go_big_skip);refine Aa7 (by kernel_rfl) (by kernel_rfl) hS ?_
     repeat(first|go_big_quiet_skip|refine zq1 ?_ (v:=.I x) (hc:=by exact a8.old (by exact b8) hx0)|refine zq1 ?_ (v:=.I y) (hc:=by exact a8.old (by exact b8) hy0)|refine qR ?_)
     clear hS;intro w hS;go_wp2_with(first|go_big_skip);go_ret;exact⟨false,⟨fun h=>(by cases h),fun h=>absurd ((Ay7 _).1 h).2 Hno.out⟩,rfl,hS⟩
    have e1:decide (x<8)=false:=by simp;omega
    by_cases c2:x<14
    case neg=>
     have e2:decide (14<=x)=true:=by simp;omega
     have Hno:=jH (hbad (hno fun h=>c2 h.2.1));clear hbad hno hat hnx c1 c2;go_wp2_with(first|go_big_skip);refine Aa7 (by kernel_rfl) (by kernel_rfl) hS ?_
     repeat(first|go_big_quiet_skip|refine zq1 ?_ (v:=.I x) (hc:=by exact a8.old (by exact b8) hx0)|refine zq1 ?_ (v:=.I y) (hc:=by exact a8.old (by exact b8) hy0)|refine qR ?_)
     clear hS;intro w hS;go_wp2_with(first|go_big_skip);go_ret;exact⟨false,⟨fun h=>(by cases h),fun h=>absurd ((Ay7 _).1 h).2 Hno.out⟩,rfl,hS⟩
    have e2:decide (14<=x)=false:=by simp;omega
    by_cases c3:y<x
    case neg=>
     have e3:decide (x<=y)=true:=by simp;omega
     have Hno:=jH (hbad (hno fun h=>c3 h.2.2));clear hbad hno hat hnx c1 c2 c3;go_wp2_with(first|go_big_skip);refine Aa7 (by kernel_rfl) (by kernel_rfl) hS ?_
     repeat(first|go_big_quiet_skip|refine zq1 ?_ (v:=.I x) (hc:=by exact a8.old (by exact b8) hx0)|refine zq1 ?_ (v:=.I y) (hc:=by exact a8.old (by exact b8) hy0)|refine qR ?_)
     clear hS;intro w hS;go_wp2_with(first|go_big_skip);go_ret;exact⟨false,⟨fun h=>(by cases h),fun h=>absurd ((Ay7 _).1 h).2 Hno.out⟩,rfl,hS⟩
    have e3:decide (x<=y)=false:=by simp;omega
    have Hnx:=jH (hnx (hat ⟨c1,c2⟩ c3));clear hbad hno hat hnx c1 c2 c3;go_wp2_with(first|go_big_skip);refine Aa7 (by kernel_rfl) (by kernel_rfl) hS ?_
    repeat(first|go_big_quiet_skip|refine zq1 ?_ (v:=.I x) (hc:=by exact a8.old (by exact b8) hx0)|refine zq1 ?_ (v:=.I y) (hc:=by exact a8.old (by exact b8) hy0)|refine qR ?_)
    clear hS;intro w hS;go_wp2_with(first|go_big_skip);go_roundw
    case rel=>exact⟨m+1+1,rfl,hil,Hnx.out,hS⟩
    case measure=>simp[intOf];omega
  ·have d1:decide (i<hs.length)=false:=decide_eq_false hil;have hall:∀j (h:j<hs.length),m9 hs j h:=fun j h=>hok j h (by omega)
   clear hok hi;by_cases c1:1<=hs.length
   case neg=>
    have e1:decide ((1:Int)<=(hs.length:Int))=false:=by simp;omega
    have Hno:=jH (show ¬n9 hs from fun h=>c1 h.1);clear hall c1;go_wp2_with(first|go_big_skip);go_ret;exact⟨false,⟨fun h=>(by cases h),fun h=>absurd h Hno.out⟩,rfl,hS⟩
   have e1:decide ((1:Int)<=(hs.length:Int))=true:=by simp;omega
   by_cases c2:hs.length<=6
   case neg=>
    have e2:decide ((hs.length:Int)<=6)=false:=by simp;omega
    have Hno:=jH (show ¬n9 hs from fun h=>c2 h.2.1);clear hall c1 c2;go_wp2_with(first|go_big_skip);go_ret;exact⟨false,⟨fun h=>(by cases h),fun h=>absurd h Hno.out⟩,rfl,hS⟩
   have e2:decide ((hs.length:Int)<=6)=true:=by simp;omega
   have Hyes:=jH ((Ay7 hs).2 ⟨⟨c1,c2⟩,hall⟩);clear hall c1 c2;go_wp2_with(first|go_big_skip);go_ret;exact⟨true,⟨fun _=>Hyes.out,fun _=>rfl⟩,rfl,hS⟩
theorem Bq7{f t k:ByteArray}{r:Bool}(hr:B5 f t k=r)(W w:World)(R:List HP)(hS:St W R w):
  Calls Tryz.prog 51 #[.agg #[.string f,.string t],.string k] w fun e w'=>∃f1 t1 f2 t2,e=.returned (.tuple #[.agg #[.string f1,.string t1],.agg #[.string f2,.string t2],.bool r])/\St W R w':=by
 go_enter Tryz.func51,Tryz.ntmps51;unfold B5 at hr
 cases h1:aa4 f t k with
 | false=>
  rw[h1]at hr;obtain rfl:false=r:=hr;have H1:=jH h1;clear h1;go_wp2_with(first|go_big_skip|refine zbx hS ?_;clear hS;intro bO w hS|(fail_if_success (have:=mA1));(refine zal hS ?_;clear hS;have mA1:Nat:=0;intro bA w hS)|(have:=mA1);refine zal hS ?_;clear hS;intro bB w hS|refine zlN hS ?_|refine zl1 hS ?_|go_at_call 76;refine(BO7 H1.out W _ _ hS).mono ?_;clear hS;rintro e w ⟨rfl,hS⟩|refine zsN hS ?_;clear hS;intro w hS);apply Au7;rfl;rfl;rfl;rfl;rfl;exact hS;decide +kernel;exact s9;kernel_rfl;decide +kernel;exact s9;kernel_rfl;exact⟨_,_,_,_,rfl,hS.s _⟩
 | true=>
  rw[h1]at hr;have hb:Op.bytesLess k.toList f.toList=false:=by unfold aa4 at h1;simp only[jB,Bool.not_eq_true']at h1;exact h1.2.2.2.1
  have hlt:ltU f k=(!ltU k f&&!(k.toList==f.toList)):=Du7 f k;have H1:=jH h1;rw[hlt,show ltU k f=false from hb]at hr;clear h1 hlt
  cases he:k.toList==f.toList with
  | true=>
   rw[he]at hr;obtain rfl:false=r:=hr;go_wp2_with(first|go_big_skip|refine zbx hS ?_;clear hS;intro bO w hS|(fail_if_success (have:=mA1));(refine zal hS ?_;clear hS;have mA1:Nat:=0;intro bA w hS)|(have:=mA1);refine zal hS ?_;clear hS;intro bB w hS|refine zlN hS ?_|refine zl1 hS ?_|go_at_call 76;refine(BO7 H1.out W _ _ hS).mono ?_;clear hS;rintro e w ⟨rfl,hS⟩|refine zsN hS ?_;clear hS;intro w hS);apply Au7;rfl;rfl;rfl;rfl;rfl;exact hS;decide +kernel;exact s9;kernel_rfl;decide +kernel;exact s9;kernel_rfl;exact⟨_,_,_,_,rfl,hS.s _⟩
  | false=>
   rw[he]at hr;obtain rfl:true=r:=hr;go_wp2_with(first|go_big_skip|refine zbx hS ?_;clear hS;intro bO w hS|(fail_if_success (have:=mA1));(refine zal hS ?_;clear hS;have mA1:Nat:=0;intro bA w hS)|(have:=mA1);refine zal hS ?_;clear hS;intro bB w hS|refine zlN hS ?_|refine zl1 hS ?_|go_at_call 76;refine(BO7 H1.out W _ _ hS).mono ?_;clear hS;rintro e w ⟨rfl,hS⟩);have hS1:=hS.s (blk bA [.string ⟨#[]⟩,.string ⟨#[]⟩] 53::blk bB [.string ⟨#[]⟩,.string ⟨#[]⟩] 53::blk bO [.string f,.string t] 53::R);clear hS
   refine rf2 [0,1,0,7,0,0,32,112,15,511,1023] (fun i=>false) [⟨some 8,none,fun nd=>blk bA [.string f,.string k] 53⟩,⟨some 9,none,fun nd=>blk bB [.string k,.string t] 53⟩]
    [some 8,some 9,none] hS1 ?_
   intro nd
   repeat(first|refine zc1 ?_|refine zcN ?_|refine zcn ?_|refine zca ?_|refine zct ?_|refine zcs ?_|refine cR ?_)
   refine AC7 ?_;clear hS1;intro w hS0;have hS1:St W [blk bA [.string f,.string k] 53,blk bB [.string k,.string t] 53,blk bO [.string f,.string t] 53,sats R] w:=hS0;have hS:=hS1.unpack [_,_,_];clear hS0 hS1;simp only[jK,jN]at hS;go_wp2_with(first|go_big_skip);apply Au7;rfl;rfl;rfl;rfl;rfl;exact hS;decide +kernel;exact s9;kernel_rfl;decide +kernel;exact s9;kernel_rfl;exact⟨_,_,_,_,rfl,hS.s _⟩
def FnR(W:World)(R:List HP)(zs:List Zo)(n:Int)(v:Value)(w:World):Prop:=
 ∃i:Nat,v=.I i/\i<=zs.length/\(∀j (h:j<zs.length),j<i->zs[j].id≠n)/\St W R w
theorem EJ7{zs:List Zo}{n:Int}{i:Nat}(hi:i<zs.length)(he:zs[i].id=n)(hn:∀j (h:j<zs.length),j<i->zs[j].id≠n):m5 zs n=i:=by
 rcases Aw7 zs n with ⟨_,h2⟩|⟨k,hk,h1,h2,h3⟩
 ·exact absurd he (h2 _ (jW hi))
 ·rcases Nat.lt_trichotomy k i with h|rfl|h
  ·exact absurd h2 (hn k hk h)
  ·exact h1
  ·exact absurd he (h3 i h)
theorem FV7{zs:List Zo}{n:Int}(hn:∀j (h:j<zs.length),zs[j].id≠n):m5 zs n = -1:=by
 rcases Aw7 zs n with ⟨h1,_⟩|⟨k,hk,_,h2,_⟩
 ·exact h1
 ·exact absurd h2 (hn k hk)
theorem Ad7{zs:List Zo}{v:Value}{V:World}(hv:d6 Zo.cells 9 V v zs)(n:Int){k:Int}(hk:m5 zs n=k)(W w:World)(R R':List HP)(ht:Take R (Old V) R')(hS:St W R w):
  Calls Tryz.prog 72 #[v,.I n] w fun e w'=>e=.returned (.I k)/\St W R w':=by
 subst hk
 suffices h:∀R' w,St W (Old V::R') w->Calls Tryz.prog 72 #[v,.I n] w fun e w'=>e=.returned (.I (m5 zs n))/\St W (Old V::R') w' by refine(h _ _ (hS.take ht)).mono ?_;rintro e w' ⟨rfl,h2⟩;exact⟨rfl,h2.back ht⟩
 clear hS ht;intro R w hS;obtain⟨a,cap,rfl,h63,hact⟩:=hv;have Hat:=jH hact;clear hact;go_enter Tryz.func72,Tryz.ntmps72;go_wp2_with(first|go_big_skip)
 go_loopw [5] (fun v wr=>FnR W (Old V::R) zs n v wr) (fun v _=>zs.length-(intOf v).toNat)
 case atStart=>exact⟨0,rfl,Nat.zero_le _,fun j _ h=>absurd h (Nat.not_lt_zero _),hS⟩
 case round=>
  clear hS;obtain⟨i,rfl,hi,hok,hS⟩:=hrel;by_cases hil:i<zs.length
  ·have d1:decide (i<zs.length)=true:=decide_eq_true hil;obtain⟨pb,poff,rfl,hall⟩:=Hat.out i hil;have hc0:V.cell? ⟨pb,poff+i*9,none⟩=some (.I zs[i].id):=hall 0 _ rfl;have hfi:=fun h=>EJ7 (n:=n) hil h hok
   have hnx:zs[i].id≠n->∀j (h:j<zs.length),j<i+1->zs[j].id≠n:=fun h j hj hlt=>by
    rcases Nat.lt_or_ge j i with h1|h1
    ·exact hok j hj h1
    ·obtain rfl:j=i:=by omega
     exact h
   obtain⟨z0,hz0⟩:∃z0,z0=zs[i].id:=⟨_,rfl⟩
   rw[<-hz0]at hc0 hfi hnx;clear hok hi hall hz0;by_cases he:z0=n
   ·have d2:(z0==n)=true:=by simpa using he
    have Hfi:=jH (hfi he);clear hfi hnx he;go_wp2_with(first|go_big_skip|refine zl1 hS ?_ (v:=.I z0) (hc:=by exact a8.old (by exact b8) hc0));go_ret;rw[Hfi.out];exact⟨rfl,hS⟩
   ·have d2:(z0==n)=false:=by simpa using he
    have Hnx:=jH (hnx he);clear hfi hnx he;go_wp2_with(first|go_big_skip|refine zl1 hS ?_ (v:=.I z0) (hc:=by exact a8.old (by exact b8) hc0));go_roundw
    case rel=>exact⟨i+1,rfl,hil,Hnx.out,hS⟩
    case measure=>simp[intOf];omega
  ·have d1:decide (i<zs.length)=false:=decide_eq_false hil;have Hno:=jH (FV7 (n:=n) fun j hj=>hok j hj (by omega));clear hok hi;go_wp2_with(first|go_big_skip);go_ret;rw[Hno.out];exact⟨rfl,hS⟩
theorem Ai7{zs:List Zo}{v:Value}{V:World}(hv:d6 Zo.cells 9 V v zs)(hl:zs.length<=16){i:Nat}(hi:i<zs.length)(W w:World)(R:List HP)(hS:St W (Old V::R) w):
  Calls Tryz.prog 74 #[v,.I i] w fun e w'=>∃r,(r=true↔aF4 zs zs[i] i)/\e=.returned (.bool r)/\St W (Old V::R) w':=by
 have Hv:=jH hv;obtain⟨a,cap,rfl,h63,hact⟩:=hv;have Hat:=jH hact;clear hact;obtain⟨pb,poff,rfl,hall⟩:=Hat.out i hi;obtain⟨z,hz⟩:∃z,z=zs[i]:=⟨_,rfl⟩
 rw[<-hz]at hall ⊢;clear hz;obtain⟨z0,z1,z2,z3,z4,z5,z6,z7,z8⟩:=z;simp only[Zo.cells]at hall;unfold aF4;simp only;go_enter Tryz.func74,Tryz.ntmps74;obtain⟨F,hF⟩:∃F,m5 zs z8=F:=⟨_,rfl⟩
 have hfc:=Aw7 zs z8;rw[hF]at hfc ⊢;have HF:=jH hF;have hFr : -1<=F/\F<zs.length:=by rcases hfc with ⟨h,_⟩|⟨k,hk,h,_⟩ <;> omega
 clear hF;have hi16:i<=16:=by omega
 by_cases c1:z6=0
 case neg=>
  have e1:(z6 != 0)=true:=by simpa using c1
  have Hno:=jH (show ¬(z6=0/\z7.size=0/\∃k, ∃h:k<zs.length,F=(k:Int)/\(k=i+1\/k+1=i)/\zs[k].own=z3/\zs[k].pend=2/\zs[k].new=z0)from fun h=>c1 h.1);clear hfc c1;go_wp2_with(first|go_big_skip|refine zlN hS ?_ (vs:=[.I z0,.string z1,.string z2,.I z3,.I z4,.I z5,.I z6,.string z7,.I z8]) (hc:=by exact a7.old (by exact b8) hall)|refine zal hS ?_;clear hS;intro b5 w hS|refine zsN hS ?_;clear hS;intro w hS|refine zl1 hS ?_|go_at_call 72;refine(Ad7 Hv.out z8 HF.out W _ _ _ (by(focus((repeat(first|exact .head|apply Take.tail));done))) hS).mono ?_;clear hS;rintro e w ⟨rfl,hS⟩);refine Aa7 (by kernel_rfl) (by kernel_rfl) hS ?_
  repeat(first|go_big_quiet_skip|refine zq1 ?_|refine zq1 ?_ (v:=.I y5) (hc:=by exact a8.old (by exact b8) hy5)|refine zq1 ?_ (v:=.I y8) (hc:=by exact a8.old (by exact b8) hy8)|refine zq1 ?_ (v:=.I y3) (hc:=by exact a8.old (by exact b8) hy3)|refine qR ?_)
  clear hS;intro w hS;go_wp2_with(first|go_big_skip);go_ret;exact⟨false,⟨fun h=>(by cases h),fun h=>absurd h Hno.out⟩,rfl,hS.s _⟩
 have e1:(z6 != 0)=false:=by simpa using c1
 have n7:=Ax7 z7;unfold p8 at n7;have n8:z7.toList.isEmpty=(z7.toList==[]):=by cases z7.toList <;> rfl
 rw[n7]at n8;by_cases c2:z7.size=0
 case neg=>
  have e2:z7.toList.isEmpty=false:=by rw[n8];simpa using c2
  have Hno:=jH (show ¬(z6=0/\z7.size=0/\∃k, ∃h:k<zs.length,F=(k:Int)/\(k=i+1\/k+1=i)/\zs[k].own=z3/\zs[k].pend=2/\zs[k].new=z0)from fun h=>c2 h.2.1);clear hfc c1 c2 n7 n8;go_wp2_with(first|go_big_skip|refine zlN hS ?_ (vs:=[.I z0,.string z1,.string z2,.I z3,.I z4,.I z5,.I z6,.string z7,.I z8]) (hc:=by exact a7.old (by exact b8) hall)|refine zal hS ?_;clear hS;intro b5 w hS|refine zsN hS ?_;clear hS;intro w hS|refine zl1 hS ?_|go_at_call 72;refine(Ad7 Hv.out z8 HF.out W _ _ _ (by(focus((repeat(first|exact .head|apply Take.tail));done))) hS).mono ?_;clear hS;rintro e w ⟨rfl,hS⟩);refine Aa7 (by kernel_rfl) (by kernel_rfl) hS ?_
  repeat(first|go_big_quiet_skip|refine zq1 ?_|refine zq1 ?_ (v:=.I y5) (hc:=by exact a8.old (by exact b8) hy5)|refine zq1 ?_ (v:=.I y8) (hc:=by exact a8.old (by exact b8) hy8)|refine zq1 ?_ (v:=.I y3) (hc:=by exact a8.old (by exact b8) hy3)|refine qR ?_)
  clear hS;intro w hS;go_wp2_with(first|go_big_skip);go_ret;exact⟨false,⟨fun h=>(by cases h),fun h=>absurd h Hno.out⟩,rfl,hS.s _⟩
 have e2:z7.toList.isEmpty=true:=by rw[n8];simpa using c2
 clear n7 n8
 rcases hfc with ⟨rfl,_⟩|⟨k,hk,rfl,_,_⟩
 ·have Hno:=jH (show ¬(z6=0/\z7.size=0/\∃k, ∃h:k<zs.length,(-1:Int)=(k:Int)/\(k=i+1\/k+1=i)/\zs[k].own=z3/\zs[k].pend=2/\zs[k].new=z0)from fun h=>by
   obtain⟨_,_,k,_,h9,_⟩:=h;omega)
  clear c1 c2 hFr;go_wp2_with(first|go_big_skip|refine zlN hS ?_ (vs:=[.I z0,.string z1,.string z2,.I z3,.I z4,.I z5,.I z6,.string z7,.I z8]) (hc:=by exact a7.old (by exact b8) hall)|refine zal hS ?_;clear hS;intro b5 w hS|refine zsN hS ?_;clear hS;intro w hS|refine zl1 hS ?_|go_at_call 72;refine(Ad7 Hv.out z8 HF.out W _ _ _ (by(focus((repeat(first|exact .head|apply Take.tail));done))) hS).mono ?_;clear hS;rintro e w ⟨rfl,hS⟩);refine Aa7 (by kernel_rfl) (by kernel_rfl) hS ?_
  repeat(first|go_big_quiet_skip|refine zq1 ?_|refine zq1 ?_ (v:=.I y5) (hc:=by exact a8.old (by exact b8) hy5)|refine zq1 ?_ (v:=.I y8) (hc:=by exact a8.old (by exact b8) hy8)|refine zq1 ?_ (v:=.I y3) (hc:=by exact a8.old (by exact b8) hy3)|refine qR ?_)
  clear hS;intro w hS;go_wp2_with(first|go_big_skip);go_ret;exact⟨false,⟨fun h=>(by cases h),fun h=>absurd h Hno.out⟩,rfl,hS.s _⟩
 have eD:decide ((k:Int)<0)=false:=by simp
 have hk16:k<=16:=by omega
 obtain⟨pb2,poff2,ea,hally⟩:=Hat.out k hk
 cases ea
 obtain⟨y,hy⟩:∃y,y=zs[k]:=⟨_,rfl⟩
 rw[<-hy]at hally
 have hex:∀P:Zo->Nat->Prop,(∃m, ∃h:m<zs.length,(k:Int)=(m:Int)/\P zs[m] m)->P y k:=fun P h=>by
  obtain⟨m,hm,e,h⟩:=h;obtain rfl:k=m:=by omega
  rw[hy];exact h
 have hyes:∀P:Zo->Nat->Prop,P y k->∃m, ∃h:m<zs.length,(k:Int)=(m:Int)/\P zs[m] m:=fun P h=>⟨k,hk,rfl,by rw[<-hy];exact h⟩
 have hex:=hex fun y k=>(k=i+1\/k+1=i)/\y.own=z3/\y.pend=2/\y.new=z0
 have hyes:=hyes fun y k=>(k=i+1\/k+1=i)/\y.own=z3/\y.pend=2/\y.new=z0
 clear hy;obtain⟨y0,y1,y2,y3,y4,y5,y6,y7,y8⟩:=y;simp only[Zo.cells]at hally;simp only at hex hyes;have hy5:V.cell? ⟨pb,poff+k*9+5,none⟩=some (.I y5):=hally 5 _ rfl;have hy8:V.cell? ⟨pb,poff+k*9+8,none⟩=some (.I y8):=hally 8 _ rfl;have hy3:V.cell? ⟨pb,poff+k*9+3,none⟩=some (.I y3):=hally 3 _ rfl;clear hally;have hno:¬((k=i+1\/k+1=i)/\y3=z3/\y5=2/\y8=z0)->¬(z6=0/\z7.size=0/\∃m, ∃h:m<zs.length,(k:Int)=(m:Int)/\(m=i+1\/m+1=i)/\zs[m].own=z3/\zs[m].pend=2/\zs[m].new=z0):=fun h h2=>h (hex h2.2.2)
 have hye:((k=i+1\/k+1=i)/\y3=z3/\y5=2/\y8=z0)->(z6=0/\z7.size=0/\∃m, ∃h:m<zs.length,(k:Int)=(m:Int)/\(m=i+1\/m+1=i)/\zs[m].own=z3/\zs[m].pend=2/\zs[m].new=z0):=fun h=>⟨c1,c2,hyes h⟩
 clear hex hyes c1 c2 hFr;by_cases c3:k=i+1\/k+1=i
 case neg=>
  have hA:((k:Int) != (i:Int)-1)=true:=by simp;omega
  have hB:((k:Int) != (i:Int)+1)=true:=by simp;omega
  have Hno:=jH (hno fun h=>c3 h.1);clear hno hye c3;go_wp2_with(first|go_big_skip|refine zlN hS ?_ (vs:=[.I z0,.string z1,.string z2,.I z3,.I z4,.I z5,.I z6,.string z7,.I z8]) (hc:=by exact a7.old (by exact b8) hall)|refine zal hS ?_;clear hS;intro b5 w hS|refine zsN hS ?_;clear hS;intro w hS|refine zl1 hS ?_|go_at_call 72;refine(Ad7 Hv.out z8 HF.out W _ _ _ (by(focus((repeat(first|exact .head|apply Take.tail));done))) hS).mono ?_;clear hS;rintro e w ⟨rfl,hS⟩);refine Aa7 (by kernel_rfl) (by kernel_rfl) hS ?_
  repeat(first|go_big_quiet_skip|refine zq1 ?_|refine zq1 ?_ (v:=.I y5) (hc:=by exact a8.old (by exact b8) hy5)|refine zq1 ?_ (v:=.I y8) (hc:=by exact a8.old (by exact b8) hy8)|refine zq1 ?_ (v:=.I y3) (hc:=by exact a8.old (by exact b8) hy3)|refine qR ?_)
  clear hS;intro w hS;go_wp2_with(first|go_big_skip);go_ret;exact⟨false,⟨fun h=>(by cases h),fun h=>absurd h Hno.out⟩,rfl,hS.s _⟩
 by_cases c5:y5=2
 case neg=>
  have e5:(y5 != 2)=true:=by simpa using c5
  have Hno:=jH (hno fun h=>c5 h.2.2.1);clear hno hye c5
  rcases c3 with c3|c3
  ·have hB:((k:Int) != (i:Int)+1)=false:=by simp;omega
   clear c3;go_wp2_with(first|go_big_skip|refine zlN hS ?_ (vs:=[.I z0,.string z1,.string z2,.I z3,.I z4,.I z5,.I z6,.string z7,.I z8]) (hc:=by exact a7.old (by exact b8) hall)|refine zal hS ?_;clear hS;intro b5 w hS|refine zsN hS ?_;clear hS;intro w hS|refine zl1 hS ?_|go_at_call 72;refine(Ad7 Hv.out z8 HF.out W _ _ _ (by(focus((repeat(first|exact .head|apply Take.tail));done))) hS).mono ?_;clear hS;rintro e w ⟨rfl,hS⟩);refine Aa7 (by kernel_rfl) (by kernel_rfl) hS ?_
   repeat(first|go_big_quiet_skip|refine zq1 ?_|refine zq1 ?_ (v:=.I y5) (hc:=by exact a8.old (by exact b8) hy5)|refine zq1 ?_ (v:=.I y8) (hc:=by exact a8.old (by exact b8) hy8)|refine zq1 ?_ (v:=.I y3) (hc:=by exact a8.old (by exact b8) hy3)|refine qR ?_)
   clear hS;intro w hS;go_wp2_with(first|go_big_skip);go_ret;exact⟨false,⟨fun h=>(by cases h),fun h=>absurd h Hno.out⟩,rfl,hS.s _⟩
  ·have hB:((k:Int) != (i:Int)+1)=true:=by simp;omega
   have hA:((k:Int) != (i:Int)-1)=false:=by simp;omega
   clear c3;go_wp2_with(first|go_big_skip|refine zlN hS ?_ (vs:=[.I z0,.string z1,.string z2,.I z3,.I z4,.I z5,.I z6,.string z7,.I z8]) (hc:=by exact a7.old (by exact b8) hall)|refine zal hS ?_;clear hS;intro b5 w hS|refine zsN hS ?_;clear hS;intro w hS|refine zl1 hS ?_|go_at_call 72;refine(Ad7 Hv.out z8 HF.out W _ _ _ (by(focus((repeat(first|exact .head|apply Take.tail));done))) hS).mono ?_;clear hS;rintro e w ⟨rfl,hS⟩);refine Aa7 (by kernel_rfl) (by kernel_rfl) hS ?_
   repeat(first|go_big_quiet_skip|refine zq1 ?_|refine zq1 ?_ (v:=.I y5) (hc:=by exact a8.old (by exact b8) hy5)|refine zq1 ?_ (v:=.I y8) (hc:=by exact a8.old (by exact b8) hy8)|refine zq1 ?_ (v:=.I y3) (hc:=by exact a8.old (by exact b8) hy3)|refine qR ?_)
   clear hS;intro w hS;go_wp2_with(first|go_big_skip);go_ret;exact⟨false,⟨fun h=>(by cases h),fun h=>absurd h Hno.out⟩,rfl,hS.s _⟩
 have e5:(y5 != 2)=false:=by simpa using c5
 by_cases c8:y8=z0
 case neg=>
  have e8:(y8 != z0)=true:=by simpa using c8
  have Hno:=jH (hno fun h=>c8 h.2.2.2);clear hno hye c5 c8
  rcases c3 with c3|c3
  ·have hB:((k:Int) != (i:Int)+1)=false:=by simp;omega
   clear c3;go_wp2_with(first|go_big_skip|refine zlN hS ?_ (vs:=[.I z0,.string z1,.string z2,.I z3,.I z4,.I z5,.I z6,.string z7,.I z8]) (hc:=by exact a7.old (by exact b8) hall)|refine zal hS ?_;clear hS;intro b5 w hS|refine zsN hS ?_;clear hS;intro w hS|refine zl1 hS ?_|go_at_call 72;refine(Ad7 Hv.out z8 HF.out W _ _ _ (by(focus((repeat(first|exact .head|apply Take.tail));done))) hS).mono ?_;clear hS;rintro e w ⟨rfl,hS⟩);refine Aa7 (by kernel_rfl) (by kernel_rfl) hS ?_
   repeat(first|go_big_quiet_skip|refine zq1 ?_|refine zq1 ?_ (v:=.I y5) (hc:=by exact a8.old (by exact b8) hy5)|refine zq1 ?_ (v:=.I y8) (hc:=by exact a8.old (by exact b8) hy8)|refine zq1 ?_ (v:=.I y3) (hc:=by exact a8.old (by exact b8) hy3)|refine qR ?_)
   clear hS;intro w hS;go_wp2_with(first|go_big_skip);go_ret;exact⟨false,⟨fun h=>(by cases h),fun h=>absurd h Hno.out⟩,rfl,hS.s _⟩
  ·have hB:((k:Int) != (i:Int)+1)=true:=by simp;omega
   have hA:((k:Int) != (i:Int)-1)=false:=by simp;omega
   clear c3;go_wp2_with(first|go_big_skip|refine zlN hS ?_ (vs:=[.I z0,.string z1,.string z2,.I z3,.I z4,.I z5,.I z6,.string z7,.I z8]) (hc:=by exact a7.old (by exact b8) hall)|refine zal hS ?_;clear hS;intro b5 w hS|refine zsN hS ?_;clear hS;intro w hS|refine zl1 hS ?_|go_at_call 72;refine(Ad7 Hv.out z8 HF.out W _ _ _ (by(focus((repeat(first|exact .head|apply Take.tail));done))) hS).mono ?_;clear hS;rintro e w ⟨rfl,hS⟩);refine Aa7 (by kernel_rfl) (by kernel_rfl) hS ?_
   repeat(first|go_big_quiet_skip|refine zq1 ?_|refine zq1 ?_ (v:=.I y5) (hc:=by exact a8.old (by exact b8) hy5)|refine zq1 ?_ (v:=.I y8) (hc:=by exact a8.old (by exact b8) hy8)|refine zq1 ?_ (v:=.I y3) (hc:=by exact a8.old (by exact b8) hy3)|refine qR ?_)
   clear hS;intro w hS;go_wp2_with(first|go_big_skip);go_ret;exact⟨false,⟨fun h=>(by cases h),fun h=>absurd h Hno.out⟩,rfl,hS.s _⟩
 have e8:(y8 != z0)=false:=by simpa using c8
 by_cases c9:y3=z3
 case neg=>
  have e9:(y3 != z3)=true:=by simpa using c9
  have Hno:=jH (hno fun h=>c9 h.2.1);clear hno hye c5 c8 c9
  rcases c3 with c3|c3
  ·have hB:((k:Int) != (i:Int)+1)=false:=by simp;omega
   clear c3;go_wp2_with(first|go_big_skip|refine zlN hS ?_ (vs:=[.I z0,.string z1,.string z2,.I z3,.I z4,.I z5,.I z6,.string z7,.I z8]) (hc:=by exact a7.old (by exact b8) hall)|refine zal hS ?_;clear hS;intro b5 w hS|refine zsN hS ?_;clear hS;intro w hS|refine zl1 hS ?_|go_at_call 72;refine(Ad7 Hv.out z8 HF.out W _ _ _ (by(focus((repeat(first|exact .head|apply Take.tail));done))) hS).mono ?_;clear hS;rintro e w ⟨rfl,hS⟩);refine Aa7 (by kernel_rfl) (by kernel_rfl) hS ?_
   repeat(first|go_big_quiet_skip|refine zq1 ?_|refine zq1 ?_ (v:=.I y5) (hc:=by exact a8.old (by exact b8) hy5)|refine zq1 ?_ (v:=.I y8) (hc:=by exact a8.old (by exact b8) hy8)|refine zq1 ?_ (v:=.I y3) (hc:=by exact a8.old (by exact b8) hy3)|refine qR ?_)
   clear hS;intro w hS;go_wp2_with(first|go_big_skip);go_ret;exact⟨false,⟨fun h=>(by cases h),fun h=>absurd h Hno.out⟩,rfl,hS.s _⟩
  ·have hB:((k:Int) != (i:Int)+1)=true:=by simp;omega
   have hA:((k:Int) != (i:Int)-1)=false:=by simp;omega
   clear c3;go_wp2_with(first|go_big_skip|refine zlN hS ?_ (vs:=[.I z0,.string z1,.string z2,.I z3,.I z4,.I z5,.I z6,.string z7,.I z8]) (hc:=by exact a7.old (by exact b8) hall)|refine zal hS ?_;clear hS;intro b5 w hS|refine zsN hS ?_;clear hS;intro w hS|refine zl1 hS ?_|go_at_call 72;refine(Ad7 Hv.out z8 HF.out W _ _ _ (by(focus((repeat(first|exact .head|apply Take.tail));done))) hS).mono ?_;clear hS;rintro e w ⟨rfl,hS⟩);refine Aa7 (by kernel_rfl) (by kernel_rfl) hS ?_
   repeat(first|go_big_quiet_skip|refine zq1 ?_|refine zq1 ?_ (v:=.I y5) (hc:=by exact a8.old (by exact b8) hy5)|refine zq1 ?_ (v:=.I y8) (hc:=by exact a8.old (by exact b8) hy8)|refine zq1 ?_ (v:=.I y3) (hc:=by exact a8.old (by exact b8) hy3)|refine qR ?_)
   clear hS;intro w hS;go_wp2_with(first|go_big_skip);go_ret;exact⟨false,⟨fun h=>(by cases h),fun h=>absurd h Hno.out⟩,rfl,hS.s _⟩
 have e9:(y3 != z3)=false:=by simpa using c9
 have Hye:=jH (hye ⟨c3,c9,c5,c8⟩);clear hno hye c5 c8 c9
 rcases c3 with c3|c3
 ·have hB:((k:Int) != (i:Int)+1)=false:=by simp;omega
  clear c3;go_wp2_with(first|go_big_skip|refine zlN hS ?_ (vs:=[.I z0,.string z1,.string z2,.I z3,.I z4,.I z5,.I z6,.string z7,.I z8]) (hc:=by exact a7.old (by exact b8) hall)|refine zal hS ?_;clear hS;intro b5 w hS|refine zsN hS ?_;clear hS;intro w hS|refine zl1 hS ?_|go_at_call 72;refine(Ad7 Hv.out z8 HF.out W _ _ _ (by(focus((repeat(first|exact .head|apply Take.tail));done))) hS).mono ?_;clear hS;rintro e w ⟨rfl,hS⟩);refine Aa7 (by kernel_rfl) (by kernel_rfl) hS ?_
  repeat(first|go_big_quiet_skip|refine zq1 ?_|refine zq1 ?_ (v:=.I y5) (hc:=by exact a8.old (by exact b8) hy5)|refine zq1 ?_ (v:=.I y8) (hc:=by exact a8.old (by exact b8) hy8)|refine zq1 ?_ (v:=.I y3) (hc:=by exact a8.old (by exact b8) hy3)|refine qR ?_)
  clear hS;intro w hS;go_wp2_with(first|go_big_skip);go_ret;exact⟨true,⟨fun _=>Hye.out,fun _=>rfl⟩,rfl,hS.s _⟩
 ·have hB:((k:Int) != (i:Int)+1)=true:=by simp;omega
  have hA:((k:Int) != (i:Int)-1)=false:=by simp;omega
  clear c3;go_wp2_with(first|go_big_skip|refine zlN hS ?_ (vs:=[.I z0,.string z1,.string z2,.I z3,.I z4,.I z5,.I z6,.string z7,.I z8]) (hc:=by exact a7.old (by exact b8) hall)|refine zal hS ?_;clear hS;intro b5 w hS|refine zsN hS ?_;clear hS;intro w hS|refine zl1 hS ?_|go_at_call 72;refine(Ad7 Hv.out z8 HF.out W _ _ _ (by(focus((repeat(first|exact .head|apply Take.tail));done))) hS).mono ?_;clear hS;rintro e w ⟨rfl,hS⟩);refine Aa7 (by kernel_rfl) (by kernel_rfl) hS ?_
  repeat(first|go_big_quiet_skip|refine zq1 ?_|refine zq1 ?_ (v:=.I y5) (hc:=by exact a8.old (by exact b8) hy5)|refine zq1 ?_ (v:=.I y8) (hc:=by exact a8.old (by exact b8) hy8)|refine zq1 ?_ (v:=.I y3) (hc:=by exact a8.old (by exact b8) hy3)|refine qR ?_)
  clear hS;intro w hS;go_wp2_with(first|go_big_skip);go_ret;exact⟨true,⟨fun _=>Hye.out,fun _=>rfl⟩,rfl,hS.s _⟩
end Go.Proofs.YtjcfifkjbaffnaaGreat
end
