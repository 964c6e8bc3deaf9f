/-
  The program's reader of an economy.
-/
import Derived.Test.YtlmhakmoioogaaaGreatEconDcM4
import Derived.Test.YtlmhakmoioogaaaGreatEconDcM16
import Derived.Test.YtlmhakmoioogaaaGreatEconDcM19
import Derived.Test.YtlmhakmoioogaaaGreatEconDcM27
import Derived.Test.YtlmhakmoioogaaaGreatEconDcM33
set_option maxHeartbeats 16000000
set_option maxRecDepth 100000
set_option linter.unusedSimpArgs false
set_option linter.unusedVariables false
section
namespace Go.Sl
open Go.RowKit
theorem Rc7{l l':List HP}(hs:l.Sublist l'):∀{h:R7},sats l' h->sats l h:=by
 induction hs with
 | slnil=>exact fun h=>h
 | cons _ _ ih=>exact fun⟨_,_,h2⟩=>BZ7 (ih h2)
 | cons_cons _ _ ih=>exact fun h=>AU7 (fun _ x=>x) (fun _ x=>ih x) h
end Go.Sl
namespace Go.Proofs.YtlmhakmoioogaaaGreat
open Go.RowKit Go.Sl
theorem fn4{W w:World}{R:List HP}{E:Ev}(k:ByteArray)(h:St W (j8 E::R) w):St W (j8 (l8 E k)::R) w:=h.imp fun _=>Rc7 ((List.filter_sublist).map _)
def RdN(s:RS)(N:Nat):Prop:=∀l,s=some l->ByB l/\l.length<=N
theorem RdN.ok{s:RS}{N:Nat}(h:RdN s N)(hN:N<=100000000):RdOk s:=⟨fun l hl=>(h l hl).1,fun l hl=>Nat.le_trans (h l hl).2 hN⟩
theorem RdN.num{s:RS}{N:Nat}(h:RdN s N):RdN (d8 s).2 N:=fun r hr=>by
 obtain⟨l,rfl⟩:=Aq7 hr;have hb:BS (some l):=fun l' hl'=>by cases hl';exact(h l rfl).1
 exact⟨(AW7 hb hr).2.2.2,Nat.le_trans (DR7 hb rfl hr) (h l rfl).2⟩
theorem RdN.raw{s:RS}{N:Nat}(h:RdN s N)(n:Int):RdN (S8 n s).2 N/\(ByB (S8 n s).1/\(S8 n s).1.length<=N):=by
 cases s with
 | none=>exact⟨fun l hl=>(by cases hl),fun c hc=>(by cases hc),Nat.zero_le _⟩
 | some l=>
  obtain⟨h1,h2⟩:=h l rfl;unfold S8;simp only;split
  ·refine⟨fun r hr=>?_,Ix7 h1 _,?_⟩
   ·cases hr
    refine⟨Iw7 h1 _,?_⟩;rw[List.length_drop];omega
   ·simp only[jT];omega
  ·exact⟨fun r hr=>(by cases hr),fun c hc=>(by cases hc),Nat.zero_le _⟩
theorem RdN.bytes{s:RS}{N:Nat}(h:RdN s N):RdN (j5 s).2 N:=(h.num.raw _).1
theorem RdN.row{s:RS}{N:Nat}(h:RdN s N):ByB (j5 s).1/\(j5 s).1.length<=N:=(h.num.raw _).2
theorem DU7{s:RS}(h:(j5 s).2=none):(j5 s).1=[]:=by
 unfold j5 at h ⊢
 cases hs:(d8 s).2 with
 | none=>rfl
 | some l=>
  rw[hs]at h;unfold S8 at h ⊢;simp only at h ⊢;split at h
  ·cases h
  ·rename_i h1
   rw[if_neg h1]
theorem Bv7{s:RS}(h:(d8 s).2=none):(d8 s).1=0:=by
 cases s with
 | none=>rfl
 | some l=>
  unfold d8 at h ⊢;simp only at h ⊢
  cases hd:bJ4 l with
  | none=>rfl
  | some x=>rw[hd]at h;cases h
theorem Pq7{rx:List Int}{p:Ps}{l:List Ord}{n:Int}(h:VGk rx p l n):rx≠[]:=by obtain⟨s,_,_,_,_,h5⟩:=h;intro e;rw[e]at h5;have:=congrArg List.length h5;have h6:=Bm7 n;unfold I9 at this;simp only[jA,List.length_nil]at this;omega
theorem Cs7(b:Bool)(xr rb eb:Nat)(W w:World)(R:List HP)(hS:St W (erR xr rb eb true::R) w):
  Calls Tryz.prog 153 #[.P xr,.bool b] w fun e w'=>e=.returned (.tuple #[])/\St W (erR xr rb eb b::R) w':=by
 have h:=SK7 true b xr rb eb W w R hS;rw[Bool.true_and]at h;exact h
def dH4{α:Type}(S:List Int->α->List Int->Prop)(W:World)(D:HP)(xr rb eb:Nat)(b:List Int)(f:α->Ec)(R:List HP)(w:World):Prop:=
 (∃y r,S b y r/\RdN (some r) 5000000/\St W (erR xr rb eb true::rdG D rb (some r)::ecP eb (f y)::D::R) w)\/((∀y r,¬S b y r)/\∃s,RdN s 5000000/\St W (erR xr rb eb false::rdG D rb s::D::R) w)
theorem SN7{xr rb eb:Nat}{D:HP}{b:List Int}{e:Ec}(h:RdN (some b) 5000000)(hgd:(j5 (j5 (some b)).2).1.length<=990000)(W w:World)(R:List HP)(hS:St W (erR xr rb eb true::rdG D rb (some b)::ecP eb e::D::R) w):
  Calls Tryz.prog 87 #[.P xr] w fun x w'=>x=.returned (.tuple #[])/\dH4 H9 W D xr rb eb b (fun y=>⟨ptL e.vs y,e.ss,e.ts,e.ar⟩) R w':=by
 obtain⟨m1,m2,m3,m4,E,hp,hn,hS1⟩:=aO4 (hS.s (ecP eb e::erR xr rb eb true::rdG D rb (some b)::D::R));have hS2:=D9 hS1;clear hS hS1;have hS:=hS2.s (rdG D rb (some b)::erR xr rb eb true::ebB eb m1 m2 m3 m4::c8 eS eN m1 (i8 E)::j8 E::c8 eI eSs m2 e.ss::c8 eW eTn m3 e.ts::c8 eW eU m4 e.ar::D::R);clear hS2;obtain⟨⟨kx,s1⟩,h1⟩:∃y,j5 (some b)=y:=⟨_,rfl⟩
 obtain⟨⟨rx,s2⟩,h2⟩:∃y,j5 s1=y:=⟨_,rfl⟩
 have hs1:RdN s1 5000000:=by have:=h.bytes;rw[h1]at this;exact this
 have hs2:RdN s2 5000000:=by have:=hs1.bytes;rw[h2]at this;exact this
 have hb:ByB rx/\rx.length<=990000:=by have h3:=hs1.row;rw[h2]at h3;rw[h1]at hgd;simp only at hgd;rw[h2]at hgd;exact⟨h3.1,hgd⟩
 have hst:∀(y:ByteArray×Vs) (r:List Int),H9 b y r↔(s2=some r/\y.1=x6 kx/\y5 y.1=true/\VGk rx y.2.ps y.2.L y.2.n/\G9 y.2=false):=fun y r=>by unfold H9;rw[h1];simp only;rw[h2]
 have Hok:=jH (h.ok (by decide));have Hok1:=jH (hs1.ok (by decide));have Hs2:=jH hs2;have H1:=jH h1;have H2:=jH h2;have Hb:=jH hb;have Hp:=jH hp;clear h hs1 h1 hgd;by_cases hg:∃p l n,VGk rx p l n
 ·obtain⟨p,l,n,hg⟩:=hg;have hps:=RE7 hb.1 hg;have Hw:=jH hps.2;have hrl:=hb.2;by_cases hk:y5 (x6 kx)=true
  ·have hk2:1<=kx.length/\kx.length<=16:=by
    unfold y5 at hk;rw[BT7]at hk;simpa using hk
   have d1:decide ((1:Int)<=((x6 kx).size:Int))=true:=by rw[BT7];simp;omega
   have d2:decide (((x6 kx).size:Int)<=16)=true:=by rw[BT7];simp;omega
   have Hg:=jH hg
   cases hv:G9 ⟨p,l,n⟩with
   | false=>
    obtain⟨r,e9⟩:∃r,s2=some r:=by
     cases s2 with
     | some r=>exact⟨r,rfl⟩
     | none=>
      have h3:=DU7 (s:=s1) (by rw[h2]);rw[h2]at h3;exact absurd h3 (Pq7 hg)
    have Hyes:=jH ((hst (x6 kx,⟨p,l,n⟩) r).2 ⟨e9,rfl,hk,hg,hv⟩);have Hv:=jH hv;have E9:=jH e9;clear e9 hst hv hg hk hk2 hps h2 hs2 hb hp hn;go_enter Tryz.func87,Tryz.ntmps87
    go_wp2_with(first|refine zl1 hS ?_|(fail_if_success (have:=y1));go_at_call 151;refine(AA7 H1.out Hok.out W _ _ _ (by exact g8) hS).mono ?_;clear hS;rintro x w ⟨v1,rfl,hS⟩;have y1:Nat:=0|(with_reducible apply Af7 (ns:=kx) hS);rfl;rfl;rfl;exact Tryz.underlying63;exact Tryz.underlying5;exact Tryz.underlying9;exact Take.head;refine frS ?_|(have:=y1);(go_at_call 151;refine(AA7 H2.out Hok1.out W _ _ _ (by exact g8) (hS.s (rdG D rb s1::erR xr rb eb true::ebB eb m1 m2 m3 m4::c8 eS eN m1 (i8 E)::j8 E::c8 eI eSs m2 e.ss::c8 eW eTn m3 e.ts::c8 eW eU m4 e.ar::D::R))).mono ?_;clear hS;rintro x w ⟨v2,rfl,hS⟩;obtain⟨ra,rc,rfl,hd⟩:=BF7 hS;have Hd:=jH (BG7 hd);clear hd)|go_at_call 152;refine(Ga7 Hg.out Hd.out Hb.out.1 Hb.out.2 .head hS).mono ?_;clear hS;rintro x w ⟨vb,mb,bb,rfl,hS0⟩;have hS9:=J6 (V:=⟨p,l,n⟩) hS0;clear hS0;have hS:=hS9.s (erR xr rb eb true::B5 vb ⟨p,l,n⟩::rdG D rb s2::ebB eb m1 m2 m3 m4::c8 eS eN m1 (i8 E)::j8 E::c8 eI eSs m2 e.ss::c8 eW eTn m3 e.ts::c8 eW eU m4 e.ar::D::R);clear hS9|(fail_if_success (have:=y2));(go_at_call 153;refine(Cs7 true xr rb eb W _ _ (hS.s (erR xr rb eb true::B5 vb ⟨p,l,n⟩::rdG D rb s2::ebB eb m1 m2 m3 m4::c8 eS eN m1 (i8 E)::j8 E::c8 eI eSs m2 e.ss::c8 eW eTn m3 e.ts::c8 eW eU m4 e.ar::D::R))).mono ?_;clear hS;have y2:Nat:=0;rintro x w ⟨rfl,hS⟩)|go_at_call 107;refine(EA7 Hv.out vb Hw.out (by omega) W _ _ (hS.s (B5 vb ⟨p,l,n⟩::erR xr rb eb true::rdG D rb s2::ebB eb m1 m2 m3 m4::c8 eS eN m1 (i8 E)::j8 E::c8 eI eSs m2 e.ss::c8 eW eTn m3 e.ts::c8 eW eU m4 e.ar::D::R))).mono ?_;clear hS;rintro x w ⟨rfl,hS⟩|(have:=y2);go_at_call 153;refine(Cs7 true xr rb eb W _ _ (hS.s (erR xr rb eb true::B5 vb ⟨p,l,n⟩::rdG D rb s2::ebB eb m1 m2 m3 m4::c8 eS eN m1 (i8 E)::j8 E::c8 eI eSs m2 e.ss::c8 eW eTn m3 e.ts::c8 eW eU m4 e.ar::D::R))).mono ?_;clear hS;rintro x w ⟨rfl,hS⟩|((with_reducible apply Ba7 (ek:=eS) (ev:=eN) (k:=x6 kx) (u:=vb) hS);rfl;rfl;rfl;rfl;exact g8;(focus(rfl));exact mV;exact kS;clear hS;intro w hS;try(refine frS ?_)))
    go_end0;have e9:=E9.out;clear E9;subst e9;refine⟨rfl,.inl ⟨_,r,Hyes.out,Hs2.out,?_⟩⟩;have hS0:=fn4 (x6 kx) (hS.s (j8 E::B5 vb ⟨p,l,n⟩::c8 eS eN m1 ((x6 kx,vb)::l8 (i8 E) (x6 kx))::erR xr rb eb true::rdG D rb (some r)::ebB eb m1 m2 m3 m4::c8 eI eSs m2 e.ss::c8 eW eTn m3 e.ts::c8 eW eU m4 e.ar::D::R));clear hS;rw[Im7]at hS0;have hS1:St W (j8 ((x6 kx,(vb,⟨p,l,n⟩))::l8 E (x6 kx))::_) w:=bo4 (x:=(x6 kx,(vb,⟨p,l,n⟩))) hS0.swap
    have hp2:(m8 ((x6 kx,(vb,(⟨p,l,n⟩:Vs)))::l8 E (x6 kx))).Perm (ptL e.vs (x6 kx,⟨p,l,n⟩)):=by
     unfold ptL;refine List.Perm.cons _ ?_;show(m8 (l8 E (x6 kx))).Perm (l8 e.vs (x6 kx))
     rw[<-GK7];exact Hp.out.filter _
    have h9:=R6 (e:=⟨ptL e.vs (x6 kx,⟨p,l,n⟩),e.ss,e.ts,e.ar⟩) (E:=(x6 kx,(vb,⟨p,l,n⟩))::l8 E (x6 kx)) hp2 (hS1.s (ebB eb m1 m2 m3 m4::c8 eS eN m1 ((x6 kx,vb)::i8 (l8 E (x6 kx)))::j8 ((x6 kx,(vb,⟨p,l,n⟩))::l8 E (x6 kx))::c8 eI eSs m2 e.ss::c8 eW eTn m3 e.ts::c8 eW eU m4 e.ar::erR xr rb eb true::rdG D rb (some r)::D::R));exact h9.s _
   | true=>
    have Hno:=jH (show ∀y r,¬H9 b y r from fun y r hy=>by
     obtain⟨_,_,_,h4,h5⟩:=(hst y r).1 hy;obtain⟨e1,e2,e3⟩:=FZ7 hg h4;obtain⟨yk,⟨yp,yl,yn⟩⟩:=y;simp only at e1 e2 e3 h5;rw[e1,e2,e3,hv]at h5
     cases h5)
    have Hv:=jH hv;clear hst hv hg hk hk2 hps h2 hs2 hb hp hn;go_enter Tryz.func87,Tryz.ntmps87
    go_wp2_with(first|refine zl1 hS ?_|(fail_if_success (have:=y1));go_at_call 151;refine(AA7 H1.out Hok.out W _ _ _ (by exact g8) hS).mono ?_;clear hS;rintro x w ⟨v1,rfl,hS⟩;have y1:Nat:=0|(with_reducible apply Af7 (ns:=kx) hS);rfl;rfl;rfl;exact Tryz.underlying63;exact Tryz.underlying5;exact Tryz.underlying9;exact Take.head;refine frS ?_|(have:=y1);(go_at_call 151;refine(AA7 H2.out Hok1.out W _ _ _ (by exact g8) (hS.s (rdG D rb s1::erR xr rb eb true::ebB eb m1 m2 m3 m4::c8 eS eN m1 (i8 E)::j8 E::c8 eI eSs m2 e.ss::c8 eW eTn m3 e.ts::c8 eW eU m4 e.ar::D::R))).mono ?_;clear hS;rintro x w ⟨v2,rfl,hS⟩;obtain⟨ra,rc,rfl,hd⟩:=BF7 hS;have Hd:=jH (BG7 hd);clear hd)|go_at_call 152;refine(Ga7 Hg.out Hd.out Hb.out.1 Hb.out.2 .head hS).mono ?_;clear hS;rintro x w ⟨vb,mb,bb,rfl,hS0⟩;have hS9:=J6 (V:=⟨p,l,n⟩) hS0;clear hS0;have hS:=hS9.s (erR xr rb eb true::B5 vb ⟨p,l,n⟩::rdG D rb s2::ebB eb m1 m2 m3 m4::c8 eS eN m1 (i8 E)::j8 E::c8 eI eSs m2 e.ss::c8 eW eTn m3 e.ts::c8 eW eU m4 e.ar::D::R);clear hS9|(fail_if_success (have:=y2));(go_at_call 153;refine(Cs7 true xr rb eb W _ _ (hS.s (erR xr rb eb true::B5 vb ⟨p,l,n⟩::rdG D rb s2::ebB eb m1 m2 m3 m4::c8 eS eN m1 (i8 E)::j8 E::c8 eI eSs m2 e.ss::c8 eW eTn m3 e.ts::c8 eW eU m4 e.ar::D::R))).mono ?_;clear hS;have y2:Nat:=0;rintro x w ⟨rfl,hS⟩)|go_at_call 107;refine(EA7 Hv.out vb Hw.out (by omega) W _ _ (hS.s (B5 vb ⟨p,l,n⟩::erR xr rb eb true::rdG D rb s2::ebB eb m1 m2 m3 m4::c8 eS eN m1 (i8 E)::j8 E::c8 eI eSs m2 e.ss::c8 eW eTn m3 e.ts::c8 eW eU m4 e.ar::D::R))).mono ?_;clear hS;rintro x w ⟨rfl,hS⟩|(have:=y2);go_at_call 153;refine(Cs7 false xr rb eb W _ _ (hS.s (erR xr rb eb true::B5 vb ⟨p,l,n⟩::rdG D rb s2::ebB eb m1 m2 m3 m4::c8 eS eN m1 (i8 E)::j8 E::c8 eI eSs m2 e.ss::c8 eW eTn m3 e.ts::c8 eW eU m4 e.ar::D::R))).mono ?_;clear hS;rintro x w ⟨rfl,hS⟩|((with_reducible apply Ba7 (ek:=eS) (ev:=eN) (k:=x6 kx) (u:=vb) hS);rfl;rfl;rfl;rfl;exact g8;(focus(rfl));exact mV;exact kS;clear hS;intro w hS;try(refine frS ?_)))
    go_end0;exact⟨rfl,.inr ⟨Hno.out,s2,Hs2.out,hS.s (erR xr rb eb false::rdG D rb s2::D::R)⟩⟩
  ·have Hno:=jH (show ∀y r,¬H9 b y r from fun y r hy=>by
    obtain⟨_,h4,h5,_,_⟩:=(hst y r).1 hy;rw[h4]at h5;exact hk h5)
   have Hg:=jH hg;have hk2:¬(1<=kx.length/\kx.length<=16):=fun h=>hk (by unfold y5;rw[BT7];simpa using h)
   by_cases hk3:1<=kx.length
   ·have d1:decide ((1:Int)<=((x6 kx).size:Int))=true:=by rw[BT7];simp;omega
    have d2:decide (((x6 kx).size:Int)<=16)=false:=by rw[BT7];simp;omega
    clear hst hg hk hk2 hk3 hps h2 hs2 hb hp hn;go_enter Tryz.func87,Tryz.ntmps87;go_wp2_with(first|refine zl1 hS ?_|(fail_if_success (have:=y1));go_at_call 151;refine(AA7 H1.out Hok.out W _ _ _ (by exact g8) hS).mono ?_;clear hS;rintro x w ⟨v1,rfl,hS⟩;have y1:Nat:=0|(with_reducible apply Af7 (ns:=kx) hS);rfl;rfl;rfl;exact Tryz.underlying63;exact Tryz.underlying5;exact Tryz.underlying9;exact Take.head;refine frS ?_|(have:=y1);(go_at_call 151;refine(AA7 H2.out Hok1.out W _ _ _ (by exact g8) (hS.s (rdG D rb s1::erR xr rb eb true::ebB eb m1 m2 m3 m4::c8 eS eN m1 (i8 E)::j8 E::c8 eI eSs m2 e.ss::c8 eW eTn m3 e.ts::c8 eW eU m4 e.ar::D::R))).mono ?_;clear hS;rintro x w ⟨v2,rfl,hS⟩;obtain⟨ra,rc,rfl,hd⟩:=BF7 hS;have Hd:=jH (BG7 hd);clear hd)|go_at_call 152;refine(Ga7 Hg.out Hd.out Hb.out.1 Hb.out.2 .head hS).mono ?_;clear hS;rintro x w ⟨vb,mb,bb,rfl,hS0⟩;have hS9:=J6 (V:=⟨p,l,n⟩) hS0;clear hS0;have hS:=hS9.s (erR xr rb eb true::B5 vb ⟨p,l,n⟩::rdG D rb s2::ebB eb m1 m2 m3 m4::c8 eS eN m1 (i8 E)::j8 E::c8 eI eSs m2 e.ss::c8 eW eTn m3 e.ts::c8 eW eU m4 e.ar::D::R);clear hS9|(fail_if_success (have:=y2));(go_at_call 153;refine(Cs7 false xr rb eb W _ _ (hS.s (erR xr rb eb true::B5 vb ⟨p,l,n⟩::rdG D rb s2::ebB eb m1 m2 m3 m4::c8 eS eN m1 (i8 E)::j8 E::c8 eI eSs m2 e.ss::c8 eW eTn m3 e.ts::c8 eW eU m4 e.ar::D::R))).mono ?_;clear hS;have y2:Nat:=0;rintro x w ⟨rfl,hS⟩));go_end0;exact⟨rfl,.inr ⟨Hno.out,s2,Hs2.out,hS.s (erR xr rb eb false::rdG D rb s2::D::R)⟩⟩
   ·have d1:decide ((1:Int)<=((x6 kx).size:Int))=false:=by rw[BT7];simp;omega
    clear hst hg hk hk2 hk3 hps h2 hs2 hb hp hn;go_enter Tryz.func87,Tryz.ntmps87;go_wp2_with(first|refine zl1 hS ?_|(fail_if_success (have:=y1));go_at_call 151;refine(AA7 H1.out Hok.out W _ _ _ (by exact g8) hS).mono ?_;clear hS;rintro x w ⟨v1,rfl,hS⟩;have y1:Nat:=0|(with_reducible apply Af7 (ns:=kx) hS);rfl;rfl;rfl;exact Tryz.underlying63;exact Tryz.underlying5;exact Tryz.underlying9;exact Take.head;refine frS ?_|(have:=y1);(go_at_call 151;refine(AA7 H2.out Hok1.out W _ _ _ (by exact g8) (hS.s (rdG D rb s1::erR xr rb eb true::ebB eb m1 m2 m3 m4::c8 eS eN m1 (i8 E)::j8 E::c8 eI eSs m2 e.ss::c8 eW eTn m3 e.ts::c8 eW eU m4 e.ar::D::R))).mono ?_;clear hS;rintro x w ⟨v2,rfl,hS⟩;obtain⟨ra,rc,rfl,hd⟩:=BF7 hS;have Hd:=jH (BG7 hd);clear hd)|go_at_call 152;refine(Ga7 Hg.out Hd.out Hb.out.1 Hb.out.2 .head hS).mono ?_;clear hS;rintro x w ⟨vb,mb,bb,rfl,hS0⟩;have hS9:=J6 (V:=⟨p,l,n⟩) hS0;clear hS0;have hS:=hS9.s (erR xr rb eb true::B5 vb ⟨p,l,n⟩::rdG D rb s2::ebB eb m1 m2 m3 m4::c8 eS eN m1 (i8 E)::j8 E::c8 eI eSs m2 e.ss::c8 eW eTn m3 e.ts::c8 eW eU m4 e.ar::D::R);clear hS9|(fail_if_success (have:=y2));(go_at_call 153;refine(Cs7 false xr rb eb W _ _ (hS.s (erR xr rb eb true::B5 vb ⟨p,l,n⟩::rdG D rb s2::ebB eb m1 m2 m3 m4::c8 eS eN m1 (i8 E)::j8 E::c8 eI eSs m2 e.ss::c8 eW eTn m3 e.ts::c8 eW eU m4 e.ar::D::R))).mono ?_;clear hS;have y2:Nat:=0;rintro x w ⟨rfl,hS⟩));go_end0;exact⟨rfl,.inr ⟨Hno.out,s2,Hs2.out,hS.s (erR xr rb eb false::rdG D rb s2::D::R)⟩⟩
 ·have hg2:∀p l n,¬VGk rx p l n:=fun p l n h=>hg ⟨p,l,n,h⟩
  have Hno:=jH (show ∀y r,¬H9 b y r from fun y r hy=>by obtain⟨_,_,_,h4,_⟩:=(hst y r).1 hy;exact hg2 _ _ _ h4);have Hg:=jH hg2;clear hst hg hg2 h2 hs2 hb hp hn;go_enter Tryz.func87,Tryz.ntmps87;go_wp2_with(first|refine zl1 hS ?_|(fail_if_success (have:=y1));go_at_call 151;refine(AA7 H1.out Hok.out W _ _ _ (by exact g8) hS).mono ?_;clear hS;rintro x w ⟨v1,rfl,hS⟩;have y1:Nat:=0|(with_reducible apply Af7 (ns:=kx) hS);rfl;rfl;rfl;exact Tryz.underlying63;exact Tryz.underlying5;exact Tryz.underlying9;exact Take.head;refine frS ?_|(have:=y1);(go_at_call 151;refine(AA7 H2.out Hok1.out W _ _ _ (by exact g8) (hS.s (rdG D rb s1::erR xr rb eb true::ebB eb m1 m2 m3 m4::c8 eS eN m1 (i8 E)::j8 E::c8 eI eSs m2 e.ss::c8 eW eTn m3 e.ts::c8 eW eU m4 e.ar::D::R))).mono ?_;clear hS;rintro x w ⟨v2,rfl,hS⟩;obtain⟨ra,rc,rfl,hd⟩:=BF7 hS;have Hd:=jH (BG7 hd);clear hd)|go_at_call 152;refine(SJ7 Hg.out Hd.out Hb.out.1 Hb.out.2 .head hS).mono ?_;clear hS;rintro x w ⟨rfl,hS9⟩;have hS:=hS9.s (erR xr rb eb true::rdG D rb s2::ebB eb m1 m2 m3 m4::c8 eS eN m1 (i8 E)::j8 E::c8 eI eSs m2 e.ss::c8 eW eTn m3 e.ts::c8 eW eU m4 e.ar::D::R);clear hS9|go_at_call 153;refine(Cs7 false xr rb eb W _ _ (hS.s (erR xr rb eb true::rdG D rb s2::ebB eb m1 m2 m3 m4::c8 eS eN m1 (i8 E)::j8 E::c8 eI eSs m2 e.ss::c8 eW eTn m3 e.ts::c8 eW eU m4 e.ar::D::R))).mono ?_;clear hS;rintro x w ⟨rfl,hS⟩);go_end0;exact⟨rfl,.inr ⟨Hno.out,s2,Hs2.out,hS.s (erR xr rb eb false::rdG D rb s2::D::R)⟩⟩
def ew4{κ ν:Type}(lt:κ->κ->Bool)(S:List Int->κ×ν->List Int->Prop)(W:World)(D:HP)(xb rb:Nat)(s:RS)(f:List (κ×ν)->Ec)(R:List HP)(w:World):Prop:=
 (∃b1 l r,d8 s=((l.length:Int),some b1)/\D5 S b1 l r/\Asc lt l/\RdN (some r) 9000/\St W (rdX D rb (some r)::L6 xb (f l)::R) w) \/
 ((∀b1 l r,d8 s=((l.length:Int),some b1)->D5 S b1 l r->¬Asc lt l)/\St W (rdX D rb none::R) w)
theorem Gd7{κ ν:Type}{lt:κ->κ->Bool}(ho:Ordr lt){l:List (κ×ν)}{y:κ×ν}(h:Asc lt l)(hy:(l.getLast?).all (fun x=>lt x.1 y.1)=true):Asc lt (l++[y]):=by
 refine List.pairwise_append.2 ⟨h,List.pairwise_singleton _ _,fun a ha b hb=>?_⟩;rw[List.mem_singleton.1 hb]
 cases hl:l.getLast? with
 | none=>rw[List.getLast?_eq_none_iff.1 hl]at ha;cases ha
 | some x=>
  rw[hl]at hy;have hy2:lt x.1 y.1=true:=hy;obtain⟨ys,rfl⟩:=List.getLast?_eq_some_iff.1 hl
  rcases List.mem_append.1 ha with ha|ha
  ·exact ho.tr _ _ _ ((List.pairwise_append.1 h).2.2 a ha x (List.mem_singleton.2 rfl)) hy2
  ·rw[List.mem_singleton.1 ha];exact hy2
theorem Ge7{α:Type}{l:List α}(h:0<l.length):l.getLast? = some l[l.length-1]:=by rw[List.getLast?_eq_getElem?,jG (by omega)]
theorem Rd7{κ ν:Type}{lt:κ->κ->Bool}{l:List (κ×ν)}{y:κ×ν}{l2:List (κ×ν)}(h0:0<l.length)(h:lt (l[l.length-1]).1 y.1=false):¬Asc lt (l++y::l2):=by
 intro h1;have h2:=(List.pairwise_append.1 h1).2.2 _ (jW (show l.length-1<l.length by omega)) y (List.mem_cons_self ..);rw[h]at h2
 cases h2
theorem Gf7{κ ν:Type}{lt:κ->κ->Bool}{S:List Int->κ×ν->List Int->Prop}(hd:∀b x y r r',S b x r->S b y r'->x=y/\r=r'){s:RS}{b1 m:List Int}{l:List (κ×ν)}{n:Nat}(h1:d8 s=((n:Int),some b1))(hn:l.length<n)(h2:D5 S b1 l m)(h3:∀y r,S m y r->0<l.length/\∀h:0<l.length,lt (l[l.length-1]).1 y.1=false):∀b1 l r,d8 s=((l.length:Int),some b1)->D5 S b1 l r->¬Asc lt l:=by
 intro c1 l' r e h4 h5;rw[h1]at e;simp only[Prod.mk.injEq,Option.some.injEq]at e;obtain⟨e1,rfl⟩:=e;obtain⟨l2,rfl,h6⟩:=IB7 hd h2 h4 (by omega);rw[jA]at e1
 cases l2 with
 | nil=>simp only[List.length_nil]at e1;omega
 | cons y l2=>
  obtain⟨q,h7,_⟩:=h6;obtain⟨h8,h9⟩:=h3 _ _ h7;exact Rd7 h8 (h9 h8) h5
theorem IC7{κ ν:Type}{lt:κ->κ->Bool}{S:List Int->κ×ν->List Int->Prop}{s:RS}{n:Int}(h1:d8 s=(n,none)):∀b1 (l:List (κ×ν)) r,d8 s=((l.length:Int),some b1)->D5 S b1 l r->¬Asc lt l:=by intro b1 l r e;rw[h1]at e;simp at e
def RwX(W:World)(D:HP)(xb rb:Nat)(b1:List Int)(n:Nat)(d:Ec)(R:List HP)(v:Value)(w:World):Prop:=
 ∃l m,v=.I (l.length:Nat)/\l.length<=n/\D5 H9 b1 l m/\Asc ltB l/\RdN (some m) 9000/\St W (rdX D rb (some m)::L6 xb ⟨l,d.ss,d.ts,d.ar⟩::R) w
theorem TF7{xb rb:Nat}{D:HP}{s:RS}{d:Ec}(hd:d.vs=[])(h:RdN s 9000)(W w:World)(R R':List HP)(ht:Take R D R')(hS:St W (rdX D rb s::L6 xb d::R) w):
  Calls Tryz.prog 94 #[.P xb,.P rb] w fun x w'=>x=.returned (.tuple #[])/\ew4 ltB H9 W D xb rb s (fun l=>⟨l,d.ss,d.ts,d.ar⟩) R w':=by
 obtain⟨⟨n,s1⟩,h1⟩:∃y,d8 s=y:=⟨_,rfl⟩
 have hr:=At7 s;have hn1:RdN s1 9000:=by have:=h.num;rw[h1]at this;exact this
 have h0:s1=none->n=0:=fun h2=>by have h3:=Bv7 (s:=s) (by rw[h1];exact h2);rw[h1]at h3;exact h3
 rw[h1]at hr;simp only at hr;obtain⟨n,rfl⟩:∃k:Nat,n=k:=⟨n.toNat,by omega⟩
 have hd2:d=⟨[],d.ss,d.ts,d.ar⟩:=by rw[<-hd]
 rw[hd2]at hS;have Hok:=jH (h.ok (by decide));have H1:=jH h1;have Hn1:=jH hn1
 cases s1 with
 | none=>
  have hn0:n=0:=by have:=h0 rfl;omega
  subst hn0;have Hno:=jH (IC7 (lt:=ltB) (S:=H9) h1);clear h h1 hn1 hr h0 hd hd2;go_enter Tryz.func94,Tryz.ntmps94;go_wp2_with(first|go_big_skip|go_at_call 97;refine(Ae7 H1.out Hok.out W _ _ _ (.tail ht) hS).mono ?_;clear hS;rintro x w ⟨rfl,hS⟩)
  go_loopw [5] (fun v wr=>v=.I 0/\St W (rdX D rb none::R) wr) (fun _ _=>0)
  case atStart=>exact⟨rfl,hS.s _⟩
  case round=>
   clear hS;obtain⟨rfl,hS⟩:=hrel;go_wp2_with(first|go_big_skip);go_end0;exact⟨rfl,.inr ⟨Hno.out,hS⟩⟩
 | some b1=>
  clear h h1 hn1 h0 hd hd2;go_enter Tryz.func94,Tryz.ntmps94;go_wp2_with(first|go_big_skip|go_at_call 97;refine(Ae7 H1.out Hok.out W _ _ _ (.tail ht) hS).mono ?_;clear hS;rintro x w ⟨rfl,hS⟩)
  go_loopw [5] (fun v wr=>RwX W D xb rb b1 n d R v wr) (fun v _=>n-(intOf v).toNat)
  case atStart=>exact⟨[],b1,rfl,Nat.zero_le _,rfl,List.Pairwise.nil,Hn1.out,hS⟩
  case round=>
   clear hS;obtain⟨l,m,rfl,hln,hm,ha,hrn,hS⟩:=hrel;by_cases hend:l.length=n
   ·have d1:decide (l.length<n)=false:=by simp;omega
    have H2:=jH (hend▸H1.out);have Hm:=jH hm;have Ha:=jH ha;have Hrn:=jH hrn;clear hm ha hrn hend;go_wp2_with(first|go_big_skip);go_end0;exact⟨rfl,.inl ⟨b1,l,m,H2.out,Hm.out,Ha.out,Hrn.out,hS⟩⟩
   ·have d1:decide (l.length<n)=true:=by simp;omega
    have hlt:l.length<n:=by omega
    have hl1:l.length<=4611686018427387904:=by omega
    obtain⟨v1,v2,v3,v4,C,hC,hS1⟩:=aV4 (hS.s (L6 xb ⟨l,d.ss,d.ts,d.ar⟩::rdX D rb (some m)::R));clear hS;have hCl:C.length=l.length:=by rw[<-Dv7,hC]
    obtain⟨va,vc,rfl⟩:=hS1.drop.rowVal;have hS2:=hS1.s (rdX D rb (some m)::xeB xb (.slice va C.length vc) v2 v3 v4::xrP (.slice va C.length vc) C::w5 C::xsP v2 d.ss::xtP v3 d.ts::xmP v4 d.ar::R);clear hS1;have hCb:C.length<=9000:=by obtain⟨e1,_⟩:=Cd7 DC7 (Hn1.out b1 rfl).1 hm;have e2:=AD7 RG7 l;have e3:=congrArg List.length e1;have e4:=(Hn1.out b1 rfl).2;rw[jA]at e3;omega
    obtain⟨rv,re,hv,hS⟩:=B9 hS2;obtain⟨ra0,rc0,rfl,rfl,Hv⟩:=ad4 hv;clear hv hS2;obtain⟨⟨kx,s1⟩,k1⟩:∃y,j5 (some m)=y:=⟨_,rfl⟩
    obtain⟨⟨rx,s2⟩,k2⟩:∃y,j5 s1=y:=⟨_,rfl⟩
    have hs1:RdN s1 9000:=by have:=hrn.bytes;rw[k1]at this;exact this
    have hs2:RdN s2 9000:=by have:=hs1.bytes;rw[k2]at this;exact this
    have hrow:ByB rx/\rx.length<=9000:=by have:=hs1.row;rw[k2]at this;exact this
    have hst:∀(y:ByteArray×Vs) (r:List Int),H9 m y r↔(s2=some r/\y.1=x6 kx/\y5 y.1=true/\VGk rx y.2.ps y.2.L y.2.n/\G9 y.2=false):=fun y r=>by unfold H9;rw[k1];simp only;rw[k2]
    have hnb:=Gf7 (lt:=ltB) BE7 H1.out hlt hm;have Hm:=jH (hrn.ok (by decide));have Hm1:=jH (hs1.ok (by decide));have Hs2:=jH hs2;have Hrow:=jH hrow;have K1:=jH k1;have K2:=jH k2;have HC:=jH hC;have HM:=jH hm;have Ha:=jH ha;obtain⟨u,hu⟩:∃u,x6 kx=u:=⟨_,rfl⟩
    have Hu:=jH hu;rw[hu]at hst;have hlC:l.length=C.length:=hCl.symm;have hltC:C.length<n:=by omega
    rw[hlC]at d1 ⊢;have HlC:=jH hlC;clear hm ha hrn hs1 hs2 hrow k1 hln hend hlt hCl hl1 hu;by_cases hg:∃p o n9,VGk rx p o n9
    ·obtain⟨p,o,n9,hg⟩:=hg;have Hg:=jH hg
     cases hk:y5 u with
     | false=>
      have Hno:=jH (hnb fun y r hy=>by
       obtain⟨_,e2,e3,_⟩:=(hst y r).1 hy;rw[e2,hk]at e3
       cases e3)
      have Hk:=jH hk;clear hnb hst hg hk k2 hC hlC;go_wp2_with(first|go_big_skip|refine zl1 hS ?_|(fail_if_success (have:=y1));go_at_call 158;refine(Ar7 K1.out Hm.out W _ _ _ (.tail (.tail (.tail (.tail (.tail (.tail ht)))))) (j7 Hv.out hS)).mono ?_;clear hS;rintro x w ⟨v8,rfl,hS⟩;have y1:Nat:=0|(with_reducible apply Af7 (ns:=kx) hS);rfl;rfl;rfl;exact Tryz.underlying63;exact Tryz.underlying5;exact Tryz.underlying9;exact Take.head;rw[Hu.out];refine frS ?_|(have:=y1);(fail_if_success (have:=y2));(go_at_call 158;refine(Ar7 K2.out Hm1.out W _ _ _ (.tail (.tail (.tail (.tail (.tail (.tail ht)))))) (hS.s (rdX D rb s1::xeB xb _ v2 v3 v4::xrP _ C::w5 C::xsP v2 d.ss::xtP v3 d.ts::xmP v4 d.ar::R))).mono ?_;clear hS;rintro x w ⟨v9,rfl,hS⟩;have y2:Nat:=0;obtain⟨ra,rc,rfl,hd9⟩:=BF7 hS;have Hd:=jH (BG7 hd9);have Hcap:=jH (De7 hd9);clear hd9)|go_at_call 159;refine(DS7 Hg.out Hd.out Hcap.out Hrow.out.1 Hrow.out.2 .head hS).mono ?_;clear hS;rintro x w ⟨vb,vB,rfl,hS⟩|go_at_call 159;refine(Fw7 Hg.out Hd.out Hcap.out Hrow.out.1 Hrow.out.2 .head hS).mono ?_;clear hS;rintro x w ⟨rfl,hS⟩|go_at_call 115;refine(BC7 Hk.out W _ _ hS).mono ?_;clear hS;rintro x w ⟨rfl,hS⟩|go_at_call 123;refine(bZ4 vb vB ⟨p,o,n9⟩ Hv9.out W _ _ hS).mono ?_;clear hS;rintro x w ⟨rfl,hS⟩|refine zl1 hS ?_ (hc:=by exact hlast (by exact g8))|go_at_call 99;refine(D7 D rb s2 W _ _ (hS.s (rdX D rb s2::R))).mono ?_;clear hS;rintro x w ⟨rfl,hS⟩);refine bodyPost_ret (results_none rfl _ _ _) rfl ?_;exact⟨rfl,.inr ⟨Hno.out,hS⟩⟩
     | true=>
      have Hk:=jH hk
      cases hv:G9 ⟨p,o,n9⟩with
      | true=>
       have Hno:=jH (hnb fun y r hy=>by
        obtain⟨_,_,_,e4,e5⟩:=(hst y r).1 hy;obtain⟨g1,g2,g3⟩:=FZ7 hg e4;obtain⟨yk,⟨yp,yl,yn⟩⟩:=y;simp only at g1 g2 g3 e5;rw[g1,g2,g3,hv]at e5
        cases e5)
       have Hv9:=jH hv;clear hnb hst hg hk hv k2 hC hlC;go_wp2_with(first|go_big_skip|refine zl1 hS ?_|(fail_if_success (have:=y1));go_at_call 158;refine(Ar7 K1.out Hm.out W _ _ _ (.tail (.tail (.tail (.tail (.tail (.tail ht)))))) (j7 Hv.out hS)).mono ?_;clear hS;rintro x w ⟨v8,rfl,hS⟩;have y1:Nat:=0|(with_reducible apply Af7 (ns:=kx) hS);rfl;rfl;rfl;exact Tryz.underlying63;exact Tryz.underlying5;exact Tryz.underlying9;exact Take.head;rw[Hu.out];refine frS ?_|(have:=y1);(fail_if_success (have:=y2));(go_at_call 158;refine(Ar7 K2.out Hm1.out W _ _ _ (.tail (.tail (.tail (.tail (.tail (.tail ht)))))) (hS.s (rdX D rb s1::xeB xb _ v2 v3 v4::xrP _ C::w5 C::xsP v2 d.ss::xtP v3 d.ts::xmP v4 d.ar::R))).mono ?_;clear hS;rintro x w ⟨v9,rfl,hS⟩;have y2:Nat:=0;obtain⟨ra,rc,rfl,hd9⟩:=BF7 hS;have Hd:=jH (BG7 hd9);have Hcap:=jH (De7 hd9);clear hd9)|go_at_call 159;refine(DS7 Hg.out Hd.out Hcap.out Hrow.out.1 Hrow.out.2 .head hS).mono ?_;clear hS;rintro x w ⟨vb,vB,rfl,hS⟩|go_at_call 159;refine(Fw7 Hg.out Hd.out Hcap.out Hrow.out.1 Hrow.out.2 .head hS).mono ?_;clear hS;rintro x w ⟨rfl,hS⟩|go_at_call 115;refine(BC7 Hk.out W _ _ hS).mono ?_;clear hS;rintro x w ⟨rfl,hS⟩|go_at_call 123;refine(bZ4 vb vB ⟨p,o,n9⟩ Hv9.out W _ _ hS).mono ?_;clear hS;rintro x w ⟨rfl,hS⟩|refine zl1 hS ?_ (hc:=by exact hlast (by exact g8))|go_at_call 99;refine(D7 D rb s2 W _ _ (hS.s (rdX D rb s2::R))).mono ?_;clear hS;rintro x w ⟨rfl,hS⟩);refine bodyPost_ret (results_none rfl _ _ _) rfl ?_;exact⟨rfl,.inr ⟨Hno.out,hS⟩⟩
      | false=>
       have Hv9:=jH hv
       obtain⟨r,e9⟩:∃r,s2=some r:=by
        cases s2 with
        | some r=>exact⟨r,rfl⟩
        | none=>
         have h3:=DU7 (s:=s1) (by rw[k2]);rw[k2]at h3;exact absurd h3 (Pq7 hg)
       have Hyes:=jH ((hst (u,⟨p,o,n9⟩) r).2 ⟨e9,rfl,hk,hg,hv⟩);have E9:=jH e9;by_cases hz:C.length=0
       ·have hl0:l=[]:=List.eq_nil_of_length_eq_zero (by omega);have hasc:Asc ltB (l++[(u,(⟨p,o,n9⟩:Vs))]):=by rw[hl0];exact List.pairwise_singleton _ _
        have Hasc:=jH hasc;have d2:decide (0<C.length)=false:=decide_eq_false (by omega);clear hnb hst hg hk hv k2 hC hl0 hasc e9 hlC hz;go_wp2_with(first|go_big_skip|refine zl1 hS ?_|(fail_if_success (have:=y1));go_at_call 158;refine(Ar7 K1.out Hm.out W _ _ _ (.tail (.tail (.tail (.tail (.tail (.tail ht)))))) (j7 Hv.out hS)).mono ?_;clear hS;rintro x w ⟨v8,rfl,hS⟩;have y1:Nat:=0|(with_reducible apply Af7 (ns:=kx) hS);rfl;rfl;rfl;exact Tryz.underlying63;exact Tryz.underlying5;exact Tryz.underlying9;exact Take.head;rw[Hu.out];refine frS ?_|(have:=y1);(fail_if_success (have:=y2));(go_at_call 158;refine(Ar7 K2.out Hm1.out W _ _ _ (.tail (.tail (.tail (.tail (.tail (.tail ht)))))) (hS.s (rdX D rb s1::xeB xb _ v2 v3 v4::xrP _ C::w5 C::xsP v2 d.ss::xtP v3 d.ts::xmP v4 d.ar::R))).mono ?_;clear hS;rintro x w ⟨v9,rfl,hS⟩;have y2:Nat:=0;obtain⟨ra,rc,rfl,hd9⟩:=BF7 hS;have Hd:=jH (BG7 hd9);have Hcap:=jH (De7 hd9);clear hd9)|go_at_call 159;refine(DS7 Hg.out Hd.out Hcap.out Hrow.out.1 Hrow.out.2 .head hS).mono ?_;clear hS;rintro x w ⟨vb,vB,rfl,hS⟩|go_at_call 159;refine(Fw7 Hg.out Hd.out Hcap.out Hrow.out.1 Hrow.out.2 .head hS).mono ?_;clear hS;rintro x w ⟨rfl,hS⟩|go_at_call 115;refine(BC7 Hk.out W _ _ hS).mono ?_;clear hS;rintro x w ⟨rfl,hS⟩|go_at_call 123;refine(bZ4 vb vB ⟨p,o,n9⟩ Hv9.out W _ _ hS).mono ?_;clear hS;rintro x w ⟨rfl,hS⟩|refine zl1 hS ?_ (hc:=by exact hlast (by exact g8))|go_at_call 99;refine(D7 D rb s2 W _ _ (hS.s (rdX D rb s2::R))).mono ?_;clear hS;rintro x w ⟨rfl,hS⟩|refine zbs hS ?_;clear hS;intro bS w hS|refine zap hS ?_ (h63:=by unfold maxLen;omega) (hb:=by omega);clear hS;intro v w hS;obtain⟨na,nc,rfl⟩:=hS.rowVal|refine zs1 hS ?_;clear hS;intro w hS);have e9:=E9.out;clear E9;subst e9;go_roundw
        case rel=>
         have h0:St W (row (.slice na (C.length+1) nc) 2 137 (C.length+1) (C.flatMap rwC++rwC (u,(vb,⟨p,o,n9⟩)))::_) w:=hS;rw[<-LS7]at h0;have h1:=cy4 (V:=⟨p,o,n9⟩) (h0.s (xvP vb (.P vB) n9 p::xkP vB o n9::xeB xb (.slice na (C.length+1) nc) v2 v3 v4::xrP (.slice na (C.length+1) nc) (C++[(u,(vb,⟨p,o,n9⟩))])::w5 C::xsP v2 d.ss::xtP v3 d.ts::xmP v4 d.ar::rdX D rb (some r)::R));have h2:=co4 (A:=C) (B:=[]) (x:=(u,(vb,⟨p,o,n9⟩))) (show St W (dvP vb ⟨p,o,n9⟩::w5 (C++[])::_) w by rw[List.append_nil];exact h1.s (dvP vb ⟨p,o,n9⟩::w5 C::xeB xb (.slice na (C.length+1) nc) v2 v3 v4::xrP (.slice na (C.length+1) nc) (C++[(u,(vb,⟨p,o,n9⟩))])::xsP v2 d.ss::xtP v3 d.ts::xmP v4 d.ar::rdX D rb (some r)::R));have h3:=N9 (d:=⟨l++[(u,⟨p,o,n9⟩)],d.ss,d.ts,d.ar⟩) (D:=C++[(u,(vb,⟨p,o,n9⟩))]) (by unfold m8;rw[List.map_append];show m8 C++_=_;rw[HC.out];rfl) (h2.s (xeB xb (.slice na (C.length+1) nc) v2 v3 v4::xrP (.slice na (C.length+1) nc) (C++[(u,(vb,⟨p,o,n9⟩))])::w5 (C++[(u,(vb,⟨p,o,n9⟩))])::xsP v2 d.ss::xtP v3 d.ts::xmP v4 d.ar::rdX D rb (some r)::R));exact⟨l++[(u,⟨p,o,n9⟩)],r,by rw[jA,HlC.out];rfl,by rw[jA,HlC.out];exact hltC,Bd7 HM.out Hyes.out,Hasc.out,Hs2.out,h3.swap⟩
        case measure=>simp[intOf];omega
       ·have hpos:0<C.length:=by omega
        obtain⟨⟨g,rfl⟩,_,_⟩:=St.rowAddr hS.drop.drop hpos;have hlast:∀{K K':List HP},Take K (xrP (.S g C.length vc) C) K'->e8 K g ((C.length-1)*2) (.string (C[C.length-1]'(by omega)).1):=fun hu=>d7.elemM (enc:=rwC) GU7 hu (by omega) 0 _ rfl
        have hll:(C[C.length-1]'(by omega)).1=(l[l.length-1]'(by omega)).1:=by
         have e1:(m8 C)[C.length-1]? = l[C.length-1]? := by rw[hC]
         unfold m8 at e1;rw[List.getElem?_map,jG (by omega),jG (by omega)]at e1;simp only[Option.map_some,Option.some.injEq]at e1;have e2:l[l.length-1]'(by omega)=l[C.length-1]'(by omega):=by simp only[hlC]
         rw[e2,<-e1]
        generalize (C[C.length-1]'(by omega)).1=yk at hlast hll
        cases hb:ltB yk u with
        | false=>
         have Hno:=jH (hnb fun y r hy=>⟨by omega,fun h0=>by obtain⟨_,e2,_⟩:=(hst y r).1 hy;rw[<-hll,e2];exact hb⟩);have hb2:Op.bytesLess yk.toList u.toList=false:=hb;clear hnb hst hg hk hv k2 hC hlC hll hb e9 hz;go_wp2_with(first|go_big_skip|refine zl1 hS ?_|(fail_if_success (have:=y1));go_at_call 158;refine(Ar7 K1.out Hm.out W _ _ _ (.tail (.tail (.tail (.tail (.tail (.tail ht)))))) (j7 Hv.out hS)).mono ?_;clear hS;rintro x w ⟨v8,rfl,hS⟩;have y1:Nat:=0|(with_reducible apply Af7 (ns:=kx) hS);rfl;rfl;rfl;exact Tryz.underlying63;exact Tryz.underlying5;exact Tryz.underlying9;exact Take.head;rw[Hu.out];refine frS ?_|(have:=y1);(fail_if_success (have:=y2));(go_at_call 158;refine(Ar7 K2.out Hm1.out W _ _ _ (.tail (.tail (.tail (.tail (.tail (.tail ht)))))) (hS.s (rdX D rb s1::xeB xb _ v2 v3 v4::xrP _ C::w5 C::xsP v2 d.ss::xtP v3 d.ts::xmP v4 d.ar::R))).mono ?_;clear hS;rintro x w ⟨v9,rfl,hS⟩;have y2:Nat:=0;obtain⟨ra,rc,rfl,hd9⟩:=BF7 hS;have Hd:=jH (BG7 hd9);have Hcap:=jH (De7 hd9);clear hd9)|go_at_call 159;refine(DS7 Hg.out Hd.out Hcap.out Hrow.out.1 Hrow.out.2 .head hS).mono ?_;clear hS;rintro x w ⟨vb,vB,rfl,hS⟩|go_at_call 159;refine(Fw7 Hg.out Hd.out Hcap.out Hrow.out.1 Hrow.out.2 .head hS).mono ?_;clear hS;rintro x w ⟨rfl,hS⟩|go_at_call 115;refine(BC7 Hk.out W _ _ hS).mono ?_;clear hS;rintro x w ⟨rfl,hS⟩|go_at_call 123;refine(bZ4 vb vB ⟨p,o,n9⟩ Hv9.out W _ _ hS).mono ?_;clear hS;rintro x w ⟨rfl,hS⟩|refine zl1 hS ?_ (hc:=by exact hlast (by exact g8))|go_at_call 99;refine(D7 D rb s2 W _ _ (hS.s (rdX D rb s2::R))).mono ?_;clear hS;rintro x w ⟨rfl,hS⟩);refine bodyPost_ret (results_none rfl _ _ _) rfl ?_;exact⟨rfl,.inr ⟨Hno.out,hS⟩⟩
        | true=>
         have hasc:Asc ltB (l++[(u,(⟨p,o,n9⟩:Vs))]):=Gd7 Ch7 Ha.out (by rw[Ge7 (by omega)];simp only[Option.all_some];rw[<-hll];exact hb);have Hasc:=jH hasc;have hb2:Op.bytesLess yk.toList u.toList=true:=hb;clear hnb hst hg hk hv k2 hC hll hb e9 hz hasc hlC;go_wp2_with(first|go_big_skip|refine zl1 hS ?_|(fail_if_success (have:=y1));go_at_call 158;refine(Ar7 K1.out Hm.out W _ _ _ (.tail (.tail (.tail (.tail (.tail (.tail ht)))))) (j7 Hv.out hS)).mono ?_;clear hS;rintro x w ⟨v8,rfl,hS⟩;have y1:Nat:=0|(with_reducible apply Af7 (ns:=kx) hS);rfl;rfl;rfl;exact Tryz.underlying63;exact Tryz.underlying5;exact Tryz.underlying9;exact Take.head;rw[Hu.out];refine frS ?_|(have:=y1);(fail_if_success (have:=y2));(go_at_call 158;refine(Ar7 K2.out Hm1.out W _ _ _ (.tail (.tail (.tail (.tail (.tail (.tail ht)))))) (hS.s (rdX D rb s1::xeB xb _ v2 v3 v4::xrP _ C::w5 C::xsP v2 d.ss::xtP v3 d.ts::xmP v4 d.ar::R))).mono ?_;clear hS;rintro x w ⟨v9,rfl,hS⟩;have y2:Nat:=0;obtain⟨ra,rc,rfl,hd9⟩:=BF7 hS;have Hd:=jH (BG7 hd9);have Hcap:=jH (De7 hd9);clear hd9)|go_at_call 159;refine(DS7 Hg.out Hd.out Hcap.out Hrow.out.1 Hrow.out.2 .head hS).mono ?_;clear hS;rintro x w ⟨vb,vB,rfl,hS⟩|go_at_call 159;refine(Fw7 Hg.out Hd.out Hcap.out Hrow.out.1 Hrow.out.2 .head hS).mono ?_;clear hS;rintro x w ⟨rfl,hS⟩|go_at_call 115;refine(BC7 Hk.out W _ _ hS).mono ?_;clear hS;rintro x w ⟨rfl,hS⟩|go_at_call 123;refine(bZ4 vb vB ⟨p,o,n9⟩ Hv9.out W _ _ hS).mono ?_;clear hS;rintro x w ⟨rfl,hS⟩|refine zl1 hS ?_ (hc:=by exact hlast (by exact g8))|go_at_call 99;refine(D7 D rb s2 W _ _ (hS.s (rdX D rb s2::R))).mono ?_;clear hS;rintro x w ⟨rfl,hS⟩|refine zbs hS ?_;clear hS;intro bS w hS|refine zap hS ?_ (h63:=by unfold maxLen;omega) (hb:=by omega);clear hS;intro v w hS;obtain⟨na,nc,rfl⟩:=hS.rowVal|refine zs1 hS ?_;clear hS;intro w hS);have e9:=E9.out;clear E9;subst e9;go_roundw
         case rel=>
          have h0:St W (row (.slice na (C.length+1) nc) 2 137 (C.length+1) (C.flatMap rwC++rwC (u,(vb,⟨p,o,n9⟩)))::_) w:=hS;rw[<-LS7]at h0;have h1:=cy4 (V:=⟨p,o,n9⟩) (h0.s (xvP vb (.P vB) n9 p::xkP vB o n9::xeB xb (.slice na (C.length+1) nc) v2 v3 v4::xrP (.slice na (C.length+1) nc) (C++[(u,(vb,⟨p,o,n9⟩))])::w5 C::xsP v2 d.ss::xtP v3 d.ts::xmP v4 d.ar::rdX D rb (some r)::R));have h2:=co4 (A:=C) (B:=[]) (x:=(u,(vb,⟨p,o,n9⟩))) (show St W (dvP vb ⟨p,o,n9⟩::w5 (C++[])::_) w by rw[List.append_nil];exact h1.s (dvP vb ⟨p,o,n9⟩::w5 C::xeB xb (.slice na (C.length+1) nc) v2 v3 v4::xrP (.slice na (C.length+1) nc) (C++[(u,(vb,⟨p,o,n9⟩))])::xsP v2 d.ss::xtP v3 d.ts::xmP v4 d.ar::rdX D rb (some r)::R));have h3:=N9 (d:=⟨l++[(u,⟨p,o,n9⟩)],d.ss,d.ts,d.ar⟩) (D:=C++[(u,(vb,⟨p,o,n9⟩))]) (by unfold m8;rw[List.map_append];show m8 C++_=_;rw[HC.out];rfl) (h2.s (xeB xb (.slice na (C.length+1) nc) v2 v3 v4::xrP (.slice na (C.length+1) nc) (C++[(u,(vb,⟨p,o,n9⟩))])::w5 (C++[(u,(vb,⟨p,o,n9⟩))])::xsP v2 d.ss::xtP v3 d.ts::xmP v4 d.ar::rdX D rb (some r)::R));exact⟨l++[(u,⟨p,o,n9⟩)],r,by rw[jA,HlC.out];rfl,by rw[jA,HlC.out];exact hltC,Bd7 HM.out Hyes.out,Hasc.out,Hs2.out,h3.swap⟩
         case measure=>simp[intOf];omega
    ·have hg2:∀p o n9,¬VGk rx p o n9:=fun p o n9 h=>hg ⟨p,o,n9,h⟩
     have Hno:=jH (hnb fun y r hy=>by obtain⟨_,_,_,e4,_⟩:=(hst y r).1 hy;exact absurd e4 (hg2 _ _ _));have Hg:=jH hg2;clear hnb hst hg hg2 k2 hC hlC;go_wp2_with(first|go_big_skip|refine zl1 hS ?_|(fail_if_success (have:=y1));go_at_call 158;refine(Ar7 K1.out Hm.out W _ _ _ (.tail (.tail (.tail (.tail (.tail (.tail ht)))))) (j7 Hv.out hS)).mono ?_;clear hS;rintro x w ⟨v8,rfl,hS⟩;have y1:Nat:=0|(with_reducible apply Af7 (ns:=kx) hS);rfl;rfl;rfl;exact Tryz.underlying63;exact Tryz.underlying5;exact Tryz.underlying9;exact Take.head;rw[Hu.out];refine frS ?_|(have:=y1);(fail_if_success (have:=y2));(go_at_call 158;refine(Ar7 K2.out Hm1.out W _ _ _ (.tail (.tail (.tail (.tail (.tail (.tail ht)))))) (hS.s (rdX D rb s1::xeB xb _ v2 v3 v4::xrP _ C::w5 C::xsP v2 d.ss::xtP v3 d.ts::xmP v4 d.ar::R))).mono ?_;clear hS;rintro x w ⟨v9,rfl,hS⟩;have y2:Nat:=0;obtain⟨ra,rc,rfl,hd9⟩:=BF7 hS;have Hd:=jH (BG7 hd9);have Hcap:=jH (De7 hd9);clear hd9)|go_at_call 159;refine(DS7 Hg.out Hd.out Hcap.out Hrow.out.1 Hrow.out.2 .head hS).mono ?_;clear hS;rintro x w ⟨vb,vB,rfl,hS⟩|go_at_call 159;refine(Fw7 Hg.out Hd.out Hcap.out Hrow.out.1 Hrow.out.2 .head hS).mono ?_;clear hS;rintro x w ⟨rfl,hS⟩|go_at_call 115;refine(BC7 Hk.out W _ _ hS).mono ?_;clear hS;rintro x w ⟨rfl,hS⟩|go_at_call 123;refine(bZ4 vb vB ⟨p,o,n9⟩ Hv9.out W _ _ hS).mono ?_;clear hS;rintro x w ⟨rfl,hS⟩|refine zl1 hS ?_ (hc:=by exact hlast (by exact g8))|go_at_call 99;refine(D7 D rb s2 W _ _ (hS.s (rdX D rb s2::R))).mono ?_;clear hS;rintro x w ⟨rfl,hS⟩);refine bodyPost_ret (results_none rfl _ _ _) rfl ?_;exact⟨rfl,.inr ⟨Hno.out,hS⟩⟩
end Go.Proofs.YtlmhakmoioogaaaGreat
end
