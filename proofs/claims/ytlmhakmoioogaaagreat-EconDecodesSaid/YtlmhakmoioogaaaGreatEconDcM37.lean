/-
  The program's reader of an economy.
-/
import Derived.Test.YtlmhakmoioogaaaGreatEconDcM4
import Derived.Test.YtlmhakmoioogaaaGreatEconDcM36
set_option maxHeartbeats 16000000
set_option maxRecDepth 100000
set_option linter.unusedSimpArgs false
set_option linter.unusedVariables false
section
namespace Go.Proofs.YtlmhakmoioogaaaGreat
open Go.RowKit Go.Sl
def TfR(W:World)(D:HP)(rb bT:Nat)(L:List HP)(c q:Int)(s2 s3 s4 s5 s6:RS)(z1 z2 z3 z4:ByteArray)(v:Value)(w:World):Prop:=
 (v=.I 0/\St W (rdG D rb s2::blk bT [.I c,.I q,.string (⟨#[]⟩:ByteArray),.string (⟨#[]⟩:ByteArray),.string (⟨#[]⟩:ByteArray),.string (⟨#[]⟩:ByteArray),.I 0,.I 0] 40::L) w) \/
 (v=.I 1/\St W (rdG D rb s3::blk bT [.I c,.I q,.string z1,.string (⟨#[]⟩:ByteArray),.string (⟨#[]⟩:ByteArray),.string (⟨#[]⟩:ByteArray),.I 0,.I 0] 40::L) w) \/
 (v=.I 2/\St W (rdG D rb s4::blk bT [.I c,.I q,.string z1,.string z2,.string (⟨#[]⟩:ByteArray),.string (⟨#[]⟩:ByteArray),.I 0,.I 0] 40::L) w) \/
 (v=.I 3/\St W (rdG D rb s5::blk bT [.I c,.I q,.string z1,.string z2,.string z3,.string (⟨#[]⟩:ByteArray),.I 0,.I 0] 40::L) w) \/
 (v=.I 4/\St W (rdG D rb s6::blk bT [.I c,.I q,.string z1,.string z2,.string z3,.string z4,.I 0,.I 0] 40::L) w)
theorem Re7{t:Tns}(h:cX4 t=true):1<=t.cnt:=(GY7 (o:=⟨2,t.client,t.seq,t.ak,t.aw,t.tk,t.tw,t.item,t.cnt,0,false,0⟩) h rfl).c0
theorem SQ7{xr rb eb:Nat}{D:HP}{b:List Int}{e:Ec}(h:RdN (some b) 5000000)(W w:World)(R:List HP)(hS:St W (erR xr rb eb true::rdG D rb (some b)::ecP eb e::D::R) w):
  Calls Tryz.prog 89 #[.P xr] w fun x w'=>x=.returned (.tuple #[])/\dH4 T5 W D xr rb eb b (fun y=>⟨e.vs,e.ss,ptL e.ts y,e.ar⟩) R w':=by
 obtain⟨m1,m2,m3,m4,E,hp,hS1⟩:=cv4 (hS.s (ecP eb e::erR xr rb eb true::rdG D rb (some b)::D::R));clear hS;have hS:=hS1.s (rdG D rb (some b)::D::erR xr rb eb true::ebB eb m1 m2 m3 m4::c8 eI eSs m2 e.ss::c8 eW eU m4 e.ar::c8 eW eTn m3 e.ts::c8 eS eN m1 (i8 E)::j8 E::R);clear hS1;obtain⟨⟨c,s1⟩,h1⟩:∃y,d8 (some b)=y:=⟨_,rfl⟩
 obtain⟨⟨q,s2⟩,h2⟩:∃y,d8 s1=y:=⟨_,rfl⟩
 obtain⟨⟨k1,s3⟩,h3⟩:∃y,j5 s2=y:=⟨_,rfl⟩
 obtain⟨⟨k2,s4⟩,h4⟩:∃y,j5 s3=y:=⟨_,rfl⟩
 obtain⟨⟨k3,s5⟩,h5⟩:∃y,j5 s4=y:=⟨_,rfl⟩
 obtain⟨⟨k4,s6⟩,h6⟩:∃y,j5 s5=y:=⟨_,rfl⟩
 obtain⟨⟨t6,s7⟩,h7⟩:∃y,d8 s6=y:=⟨_,rfl⟩
 obtain⟨⟨t7,s8⟩,h8⟩:∃y,d8 s7=y:=⟨_,rfl⟩
 obtain⟨z1,g1⟩:∃u,x6 k1=u:=⟨_,rfl⟩
 obtain⟨z2,g2⟩:∃u,x6 k2=u:=⟨_,rfl⟩
 obtain⟨z3,g3⟩:∃u,x6 k3=u:=⟨_,rfl⟩
 obtain⟨z4,g4⟩:∃u,x6 k4=u:=⟨_,rfl⟩
 have hn1:RdN s1 5000000:=by have:=h.num;rw[h1]at this;exact this
 have hn2:RdN s2 5000000:=by have:=hn1.num;rw[h2]at this;exact this
 have hn3:RdN s3 5000000:=by have:=hn2.bytes;rw[h3]at this;exact this
 have hn4:RdN s4 5000000:=by have:=hn3.bytes;rw[h4]at this;exact this
 have hn5:RdN s5 5000000:=by have:=hn4.bytes;rw[h5]at this;exact this
 have hn6:RdN s6 5000000:=by have:=hn5.bytes;rw[h6]at this;exact this
 have hn7:RdN s7 5000000:=by have:=hn6.num;rw[h7]at this;exact this
 have hn8:RdN s8 5000000:=by have:=hn7.num;rw[h8]at this;exact this
 have hst:∀(y:(Int×Int)×Tns) (r:List Int),T5 b y r↔(s8=some r/\y.2=⟨c,q,z1,z2,z3,z4,t6,t7⟩/\y.1=(y.2.client,y.2.seq)/\cX4 y.2=true):=fun y r=>by unfold T5 rdT dO4 do4 dn4 dm4 dl4 dk4 dj4;simp only[h1,h2,h3,h4,h5,h6,h7,h8,g1,g2,g3,g4]
 have Hok:=jH (h.ok (by decide));have Hok1:=jH (hn1.ok (by decide));have Hok2:=jH (hn2.ok (by decide));have Hok3:=jH (hn3.ok (by decide));have Hok4:=jH (hn4.ok (by decide));have Hok5:=jH (hn5.ok (by decide));have Hok6:=jH (hn6.ok (by decide));have Hok7:=jH (hn7.ok (by decide));have Hs8:=jH hn8;have H1:=jH h1;have H2:=jH h2;have H3:=jH h3;have H4:=jH h4;have H5:=jH h5;have H6:=jH h6;have H7:=jH h7;have H8:=jH h8;have G1:=jH g1;have G2:=jH g2;have G3:=jH g3;have G4:=jH g4;have Hp:=jH hp;have Hst:=jH hst;clear h h1 h2 h3 h4 h5 h6 h7 h8 g1 g2 g3 g4 hp hn1 hn2 hn3 hn4 hn5 hn6 hn7 hn8 hst;go_enter Tryz.func89,Tryz.ntmps89;go_wp2_with(fail);refine rf3 [0,1,3,7,15,0,32,96,224,511,1023,0,4095] (fun i=>i==11) (fun i=>if i==4 then some (.I c)else if i==9 then some (.I q)else none) [⟨some 4,some 9,fun _=>rdG D rb s1⟩,⟨some 9,none,fun _=>rdG D rb s2⟩,⟨some 11,some 12,fun nd=>j6 (nd 11) [.I 0,.I 0,.string ⟨#[]⟩,.string ⟨#[]⟩,.string ⟨#[]⟩,.string ⟨#[]⟩,.I 0,.I 0] 40⟩,⟨some 12,none,fun nd=>j6 (nd 11) [.I c,.I q,.string ⟨#[]⟩,.string ⟨#[]⟩,.string ⟨#[]⟩,.string ⟨#[]⟩,.I 0,.I 0] 40⟩] [some 4,none,none] hS ?_;clear hS;intro nd;refine cR ?_;refine zcn ?_;refine cR ?_;refine zc1 ?_;refine zcv ?_ (hs:=by(intro F w hS;(try clear hS0);exact AE7 H1.out Hok.out W w _ _ .head hS));refine cR ?_;refine zcn ?_;refine cR ?_;refine zc1 ?_;refine zcv ?_ (hs:=by(intro F w hS;(try clear hS0);exact AE7 H2.out Hok1.out W w _ _ .head hS));refine cR ?_;refine zca ?_;refine zct ?_;refine Ac7 ?_;intro w hS;have hS2:St W [rdG D rb s2,j6 (nd 11) _ _,D,erR xr rb eb true,sats (ebB eb m1 m2 m3 m4::c8 eI eSs m2 e.ss::c8 eW eU m4 e.ar::c8 eW eTn m3 e.ts::c8 eS eN m1 (i8 E)::j8 E::R)] w:=hS;clear hS;have hS:=hS2.unpack [_,_,_,_];clear hS2
 simp only[jK,jN]at hS;generalize nd 11=v12 at *;have hS9:=hS.swap;clear hS;have hS:=hS9;clear hS9;have h1:=hS.ptr;clear hS;obtain⟨bT,rfl,hS⟩:=h1;go_wp2_with(first|refine zbs hS ?_;clear hS;intro bS w hS);have hS2:St W (blk bS [.pointer (some ⟨bT,2,none⟩),.pointer (some ⟨bT,3,none⟩),.pointer (some ⟨bT,4,none⟩),.pointer (some ⟨bT,5,none⟩)] 217::blk bT _ _::rdG D rb s2::D::erR xr rb eb true::ebB eb m1 m2 m3 m4::c8 eI eSs m2 e.ss::c8 eW eU m4 e.ar::c8 eW eTn m3 e.ts::c8 eS eN m1 (i8 E)::j8 E::R) _:=hS;clear hS;have hS:=hS2.s (rdG D rb s2::blk bT [.I c,.I q,.string (⟨#[]⟩:ByteArray),.string (⟨#[]⟩:ByteArray),.string (⟨#[]⟩:ByteArray),.string (⟨#[]⟩:ByteArray),.I 0,.I 0] 40::blk bS [.pointer (some ⟨bT,2,none⟩),.pointer (some ⟨bT,3,none⟩),.pointer (some ⟨bT,4,none⟩),.pointer (some ⟨bT,5,none⟩)] 217::D::erR xr rb eb true::ebB eb m1 m2 m3 m4::c8 eI eSs m2 e.ss::c8 eW eU m4 e.ar::c8 eW eTn m3 e.ts::c8 eS eN m1 (i8 E)::j8 E::R);clear hS2
 go_loopw [26] (fun v wr=>TfR W D rb bT (blk bS [.pointer (some ⟨bT,2,none⟩),.pointer (some ⟨bT,3,none⟩),.pointer (some ⟨bT,4,none⟩),.pointer (some ⟨bT,5,none⟩)] 217::D::erR xr rb eb true::ebB eb m1 m2 m3 m4::c8 eI eSs m2 e.ss::c8 eW eU m4 e.ar::c8 eW eTn m3 e.ts::c8 eS eN m1 (i8 E)::j8 E::R) c q s2 s3 s4 s5 s6 z1 z2 z3 z4 v wr) (fun v _=>4-(intOf v).toNat)
 case atStart=>exact .inl ⟨rfl,hS⟩
 case round=>
  clear hS
  rcases hrel with ⟨rfl,hS⟩|⟨rfl,hS⟩|⟨rfl,hS⟩|⟨rfl,hS⟩|⟨rfl,hS⟩
  ·(go_wp2_with(first|refine zl1 hS ?_|go_at_call 151;refine(AA7 H3.out Hok2.out W _ _ _ (by exact g8) hS).mono ?_;clear hS;rintro x w ⟨v1,rfl,hS⟩|(with_reducible apply Af7 (ns:=k1) hS);rfl;rfl;rfl;exact Tryz.underlying63;exact Tryz.underlying5;exact Tryz.underlying9;exact Take.head;refine frS ?_|refine zs1 hS ?_;clear hS;intro w hS);rw[G1.out]at hS;go_roundw)
   case rel=>exact .inr (.inl ⟨rfl,hS.s _⟩)
   case measure=>simp[intOf]
  ·(go_wp2_with(first|refine zl1 hS ?_|go_at_call 151;refine(AA7 H4.out Hok3.out W _ _ _ (by exact g8) hS).mono ?_;clear hS;rintro x w ⟨v1,rfl,hS⟩|(with_reducible apply Af7 (ns:=k2) hS);rfl;rfl;rfl;exact Tryz.underlying63;exact Tryz.underlying5;exact Tryz.underlying9;exact Take.head;refine frS ?_|refine zs1 hS ?_;clear hS;intro w hS);rw[G2.out]at hS;go_roundw)
   case rel=>exact .inr (.inr (.inl ⟨rfl,hS.s _⟩))
   case measure=>simp[intOf]
  ·(go_wp2_with(first|refine zl1 hS ?_|go_at_call 151;refine(AA7 H5.out Hok4.out W _ _ _ (by exact g8) hS).mono ?_;clear hS;rintro x w ⟨v1,rfl,hS⟩|(with_reducible apply Af7 (ns:=k3) hS);rfl;rfl;rfl;exact Tryz.underlying63;exact Tryz.underlying5;exact Tryz.underlying9;exact Take.head;refine frS ?_|refine zs1 hS ?_;clear hS;intro w hS);rw[G3.out]at hS;go_roundw)
   case rel=>exact .inr (.inr (.inr (.inl ⟨rfl,hS.s _⟩)))
   case measure=>simp[intOf]
  ·(go_wp2_with(first|refine zl1 hS ?_|go_at_call 151;refine(AA7 H6.out Hok5.out W _ _ _ (by exact g8) hS).mono ?_;clear hS;rintro x w ⟨v1,rfl,hS⟩|(with_reducible apply Af7 (ns:=k4) hS);rfl;rfl;rfl;exact Tryz.underlying63;exact Tryz.underlying5;exact Tryz.underlying9;exact Take.head;refine frS ?_|refine zs1 hS ?_;clear hS;intro w hS);rw[G4.out]at hS;go_roundw)
   case rel=>exact .inr (.inr (.inr (.inr ⟨rfl,hS.s _⟩)))
   case measure=>simp[intOf]
  ·go_wp2_with(fail);refine rf3 [0,1,3,7,15,0,32,96,224,511,1023,2047,4095,8191] (fun _=>false) (fun i=>if i==4 then some (.I t6)else if i==9 then some (.I t7)else none) [⟨some 4,some 9,fun _=>rdG D rb s7⟩,⟨some 9,none,fun _=>rdG D rb s8⟩,⟨some 11,some 13,fun _=>blk bT [.I c,.I q,.string z1,.string z2,.string z3,.string z4,.I t6,.I 0] 40⟩,⟨some 13,none,fun _=>blk bT [.I c,.I q,.string z1,.string z2,.string z3,.string z4,.I t6,.I t7] 40⟩] [some 4,some 11,none,none,none] hS ?_;clear hS;intro nd;refine cR ?_;refine zcn ?_;refine cR ?_;refine zc1 ?_;refine zcv ?_ (hs:=by(intro F w hS;(try clear hS0);exact AE7 H7.out Hok6.out W w _ _ (by exact A9) hS));refine cR ?_;refine zcn ?_;refine cR ?_;refine zc1 ?_;refine zcv ?_ (hs:=by(intro F w hS;(try clear hS0);exact AE7 H8.out Hok7.out W w _ _ (by exact A9) hS));refine cR ?_;refine zcs ?_;refine cR ?_;refine zcs ?_;refine Ac7 ?_;intro w hS;have hS2:St W [rdG D rb s8,blk bT [.I c,.I q,.string z1,.string z2,.string z3,.string z4,.I t6,.I t7] 40,blk bS [.pointer (some ⟨bT,2,none⟩),.pointer (some ⟨bT,3,none⟩),.pointer (some ⟨bT,4,none⟩),.pointer (some ⟨bT,5,none⟩)] 217,D,erR xr rb eb true,sats (ebB eb m1 m2 m3 m4::c8 eI eSs m2 e.ss::c8 eW eU m4 e.ar::c8 eW eTn m3 e.ts::c8 eS eN m1 (i8 E)::j8 E::R)] w:=hS;clear hS;have hS:=hS2.unpack [_,_,_,_,_];clear hS2;simp only[jK,jN]at hS
   cases hm:cX4 ⟨c,q,z1,z2,z3,z4,t6,t7⟩with
   | false=>
    have Hno:=jH (show ∀y r,¬T5 b y r from fun y r hy=>by
     obtain⟨_,h4,_,h6⟩:=(Hst.out y r).1 hy;rw[h4,hm]at h6
     cases h6)
    have Hm:=jH (show A8 ⟨2,c,q,z1,z2,z3,z4,t6,t7,0,false,0⟩=false from hm);clear hm;go_wp2_with(first|refine zlN hS ?_ (vs:=[.string z1,.string z2]) (hc:=by first|exact d7.here rfl|exact d7.there (d7.here rfl))|refine zlN hS ?_ (vs:=[.string z3,.string z4]) (hc:=by first|exact d7.here rfl|exact d7.there (d7.here rfl))|refine zl1 hS ?_|go_at_call 85;refine(BX7 Hm.out W _ _ hS).mono ?_;clear hS;rintro x w ⟨rfl,hS⟩|go_at_call 153;refine(Cs7 false xr rb eb W _ _ (hS.s (erR xr rb eb true::blk bT _ _::rdG D rb s8::D::ebB eb m1 m2 m3 m4::c8 eI eSs m2 e.ss::c8 eW eU m4 e.ar::c8 eW eTn m3 e.ts::c8 eS eN m1 (i8 E)::j8 E::R))).mono ?_;clear hS;rintro x w ⟨rfl,hS⟩);refine rt 13 hS ?_
    repeat(first|refine zq1 ?_|refine zqN ?_|refine zqn ?_|refine qR ?_)
    clear hS;intro w hS;simp only[jD,List.drop_zero];go_wp2_with(first|((with_reducible apply Ba7 (ek:=eW) (ev:=eTn) (k:=(c,q)) (u:=(⟨c,q,z1,z2,z3,z4,t6,t7⟩:Tns)) hS);rfl;rfl;rfl;rfl;exact g8;(focus(rfl));exact mT;exact kW;clear hS;intro w hS;try(refine frS ?_)));go_end0;exact⟨rfl,.inr ⟨Hno.out,s8,Hs8.out,hS.s (erR xr rb eb false::rdG D rb s8::D::R)⟩⟩
   | true=>
    obtain⟨r,e9⟩:∃r,s8=some r:=by
     cases s8 with
     | some r=>exact⟨r,rfl⟩
     | none=>
      have h3:=Bv7 (s:=s7) (by rw[H8.out]);rw[H8.out]at h3;have h4:=Re7 hm;simp only at h3 h4;omega
    have Hyes:=jH ((Hst.out ((c,q),⟨c,q,z1,z2,z3,z4,t6,t7⟩) r).2 ⟨e9,rfl,rfl,hm⟩);have Hm:=jH (show A8 ⟨2,c,q,z1,z2,z3,z4,t6,t7,0,false,0⟩=true from hm);have E9:=jH e9;clear e9 hm;go_wp2_with(first|refine zlN hS ?_ (vs:=[.string z1,.string z2]) (hc:=by first|exact d7.here rfl|exact d7.there (d7.here rfl))|refine zlN hS ?_ (vs:=[.string z3,.string z4]) (hc:=by first|exact d7.here rfl|exact d7.there (d7.here rfl))|refine zl1 hS ?_|go_at_call 85;refine(BX7 Hm.out W _ _ hS).mono ?_;clear hS;rintro x w ⟨rfl,hS⟩|go_at_call 153;refine(Cs7 true xr rb eb W _ _ (hS.s (erR xr rb eb true::blk bT _ _::rdG D rb s8::D::ebB eb m1 m2 m3 m4::c8 eI eSs m2 e.ss::c8 eW eU m4 e.ar::c8 eW eTn m3 e.ts::c8 eS eN m1 (i8 E)::j8 E::R))).mono ?_;clear hS;rintro x w ⟨rfl,hS⟩);refine rt 13 hS ?_
    repeat(first|refine zq1 ?_|refine zqN ?_|refine zqn ?_|refine qR ?_)
    clear hS;intro w hS;simp only[jD,List.drop_zero];go_wp2_with(first|((with_reducible apply Ba7 (ek:=eW) (ev:=eTn) (k:=(c,q)) (u:=(⟨c,q,z1,z2,z3,z4,t6,t7⟩:Tns)) hS);rfl;rfl;rfl;rfl;exact g8;(focus(rfl));exact mT;exact kW;clear hS;intro w hS;try(refine frS ?_)));go_end0;have e9:=E9.out;clear E9;subst e9;refine⟨rfl,.inl ⟨((c,q),⟨c,q,z1,z2,z3,z4,t6,t7⟩),r,Hyes.out,Hs8.out,?_⟩⟩;have h9:=R6 (e:=⟨e.vs,e.ss,ptL e.ts ((c,q),⟨c,q,z1,z2,z3,z4,t6,t7⟩),e.ar⟩) Hp.out (hS.s (ebB eb m1 m2 m3 m4::c8 eS eN m1 (i8 E)::j8 E::c8 eI eSs m2 e.ss::c8 eW eTn m3 (((c,q),⟨c,q,z1,z2,z3,z4,t6,t7⟩)::l8 e.ts (c,q))::c8 eW eU m4 e.ar::erR xr rb eb true::rdG D rb (some r)::D::R));exact h9.s _
def dI4{α:Type}(S:List Int->α->List Int->Prop)(W:World)(D:HP)(xr rb eb:Nat)(s:RS)(f:List α->Ec)(R:List HP)(w:World):Prop:=
 (∃b1 l r,d8 s=((l.length:Int),some b1)/\D5 S b1 l r/\RdN (some r) 5000000/\St W (erR xr rb eb true::rdG D rb (some r)::ecP eb (f l)::D::R) w) \/
 ((∀b1 l r,d8 s=((l.length:Int),some b1)->¬D5 S b1 l r)/\∃ok s',(ok=false\/s'=none)/\RdN s' 5000000/\St W (erR xr rb eb ok::rdG D rb s'::D::R) w)
def TmR{α:Type}(S:List Int->α->List Int->Prop)(W:World)(D:HP)(xr rb eb:Nat)(s:RS)(f:List α->Ec)(R:List HP)(v:Value)(w:World):Prop:=
 ∃k:Nat,v=.I k/\k<=4611686018427387904 /\
 ((∃b1 l m,d8 s=(((l.length+k:Nat):Int),some b1)/\D5 S b1 l m/\RdN (some m) 5000000/\St W (erR xr rb eb true::rdG D rb (some m)::ecP eb (f l)::D::R) w) \/
 ((∀b1 l r,d8 s=((l.length:Int),some b1)->¬D5 S b1 l r)/\∃s',RdN s' 5000000/\St W (erR xr rb eb false::rdG D rb s'::D::R) w) \/
 ((∀b1 l r,d8 s=((l.length:Int),some b1)->¬D5 S b1 l r)/\St W (erR xr rb eb true::rdG D rb none::D::R) w))
def dJ4(s:RS):Prop:=∀(b1 m:List Int) (n:Nat) (l:List (ByteArray×Vs)),d8 s=((n:Int),some b1)->D5 H9 b1 l m->l.length<n->(j5 (j5 (some m)).2).1.length<=990000
theorem Hj7{s:RS}(h:RdN s 9000):dJ4 s:=fun b1 m n l h1 h2 _=>by
 have h3:RdN (some b1) 9000:=by have:=h.num;rw[h1]at this;exact this
 have h4:=(BD7 (I:=fun b=>ByB b/\b.length<=9000) (P:=fun _=>True) (fun b x r hb h=>⟨trivial,by obtain⟨e1,e2⟩:=DC7 b x r hb.1 h;refine⟨e2,?_⟩;have:=congrArg List.length e1;rw[jA]at this;omega⟩) (h3 b1 rfl) h2).2;have h5:RdN (some m) 9000:=fun l hl=>by cases hl;exact h4
 exact Nat.le_trans h5.bytes.row.2 (by decide)
theorem EY7{α:Type}{S:List Int->α->List Int->Prop}(hd:∀b x y r r',S b x r->S b y r'->x=y/\r=r'){s:RS}{b1 m:List Int}{l:List α}{k:Nat}(h1:d8 s=(((l.length+(k+1):Nat):Int),some b1))(h2:D5 S b1 l m)(h3:∀y r,¬S m y r):∀b1 l r,d8 s=((l.length:Int),some b1)->¬D5 S b1 l r:=by
 intro c1 l' r e h4;rw[h1]at e;simp only[Prod.mk.injEq,Option.some.injEq]at e;obtain⟨e1,rfl⟩:=e;obtain⟨l2,rfl,h5⟩:=IB7 hd h2 h4 (by omega);rw[jA]at e1
 cases l2 with
 | nil=>simp only[List.length_nil]at e1;omega
 | cons y l2=>
  obtain⟨q,h6,_⟩:=h5;exact h3 _ _ h6
theorem Gg7{α:Type}{S:List Int->α->List Int->Prop}{s:RS}{n:Int}(h1:d8 s=(n,none)):∀b1 (l:List α) r,d8 s=((l.length:Int),some b1)->¬D5 S b1 l r:=by intro b1 l r e;rw[h1]at e;simp at e
theorem EZ7{xr rb eb:Nat}{D:HP}{ok:Bool}{s:RS}(hbad:ok=false\/s=none)(h:RdN s 5000000)(fv:Value)(W w:World)(R:List HP)(hS:St W (erR xr rb eb ok::rdG D rb s::D::R) w):
  Calls Tryz.prog 91 #[.P xr,fv] w fun x w'=>x=.returned (.tuple #[])/\∃s',(ok=false\/s'=none)/\RdN s' 5000000/\St W (erR xr rb eb ok::rdG D rb s'::D::R) w':=by
 obtain⟨⟨n,s1⟩,h1⟩:∃y,d8 s=y:=⟨_,rfl⟩
 have hr:=At7 s;have hn1:RdN s1 5000000:=by have:=h.num;rw[h1]at this;exact this
 rw[h1]at hr
 have hend:ok=false\/(n=0/\s1=none):=by
  rcases hbad with h2|rfl
  ·exact .inl h2
  ·rw[Ax7]at h1
   cases h1
   exact .inr ⟨rfl,rfl⟩
 simp only at hr;have Hok:=jH (h.ok (by decide));have H1:=jH h1;have Hn1:=jH hn1;clear h h1 hn1 hbad
 rcases hend with rfl|⟨rfl,rfl⟩
 ·by_cases h0:n=0
  ·subst h0;go_enter Tryz.func91,Tryz.ntmps91;go_wp2_with(first|refine zl1 hS ?_|go_at_call 154;refine(AE7 H1.out Hok.out W _ _ _ (by exact g8) (hS.s (rdG D rb s::erR xr rb eb false::D::R))).mono ?_;clear hS;rintro x w ⟨rfl,hS⟩)
   go_loopw [4] (fun v wr=>v=.I 0/\St W (rdG D rb s1::erR xr rb eb false::D::R) wr) (fun _ _=>0)
   case atStart=>exact⟨rfl,hS⟩
   case round=>
    clear hS;obtain⟨rfl,hS⟩:=hrel;go_wp2_with(fail);go_end0;exact⟨rfl,s1,.inl (by first|exact rfl|exact trivial),Hn1.out,hS.swap⟩
  ·have d1:decide (0<n)=true:=by simp;omega
   go_enter Tryz.func91,Tryz.ntmps91;go_wp2_with(first|refine zl1 hS ?_|go_at_call 154;refine(AE7 H1.out Hok.out W _ _ _ (by exact g8) (hS.s (rdG D rb s::erR xr rb eb false::D::R))).mono ?_;clear hS;rintro x w ⟨rfl,hS⟩)
   go_loopw [4] (fun v wr=>v=.I n/\St W (rdG D rb s1::erR xr rb eb false::D::R) wr) (fun _ _=>0)
   case atStart=>exact⟨rfl,hS⟩
   case round=>
    clear hS;obtain⟨rfl,hS⟩:=hrel;go_wp2_with(first|refine zl1 hS ?_);go_end0;exact⟨rfl,s1,.inl (by first|exact rfl|exact trivial),Hn1.out,hS.swap⟩
 ·go_enter Tryz.func91,Tryz.ntmps91;go_wp2_with(first|refine zl1 hS ?_|go_at_call 154;refine(AE7 H1.out Hok.out W _ _ _ (by exact g8) (hS.s (rdG D rb s::erR xr rb eb ok::D::R))).mono ?_;clear hS;rintro x w ⟨rfl,hS⟩)
  go_loopw [4] (fun v wr=>v=.I 0/\St W (rdG D rb none::erR xr rb eb ok::D::R) wr) (fun _ _=>0)
  case atStart=>exact⟨rfl,hS⟩
  case round=>
   clear hS;obtain⟨rfl,hS⟩:=hrel;go_wp2_with(fail);go_end0;exact⟨rfl,none,.inr rfl,Hn1.out,hS.swap⟩
theorem SR7{xr rb eb:Nat}{D:HP}{s:RS}{e:Ec}(h:RdN s 5000000)(hgd:dJ4 s)(W w:World)(R:List HP)(hS:St W (erR xr rb eb true::rdG D rb s::ecP eb e::D::R) w):
  Calls Tryz.prog 91 #[.P xr,.func (.func 87) #[.P xr] #[]] w fun x w'=>x=.returned (.tuple #[])/\dI4 H9 W D xr rb eb s (fun l=>⟨l.foldl ptL e.vs,e.ss,e.ts,e.ar⟩) R w':=by
 obtain⟨⟨n,s1⟩,h1⟩:∃y,d8 s=y:=⟨_,rfl⟩
 have hr:=At7 s;have hn1:RdN s1 5000000:=by have:=h.num;rw[h1]at this;exact this
 have h0:s1=none->n=0:=fun h2=>by have h3:=Bv7 (s:=s) (by rw[h1];exact h2);rw[h1]at h3;exact h3
 rw[h1]at hr;simp only at hr;obtain⟨n,rfl⟩:∃k:Nat,n=k:=⟨n.toNat,by omega⟩
 obtain⟨f,hf⟩:∃f:List (ByteArray×Vs)->Ec,f=fun l=>⟨l.foldl ptL e.vs,e.ss,e.ts,e.ar⟩:=⟨_,rfl⟩
 have hf0:f []=e:=by rw[hf];rfl
 have hfs:∀l y,(⟨ptL (f l).vs y,(f l).ss,(f l).ts,(f l).ar⟩:Ec)=f (l++[y]):=fun l y=>by rw[hf];simp only[List.foldl_append];rfl
 rw[<-hf];rw[<-hf0]at hS;have Hgd:=jH hgd;clear hgd;have Hok:=jH (h.ok (by decide));have H1:=jH h1;have Hn1:=jH hn1;have Hr:=jH hr;have Hfs:=jH hfs;have Hf0:=jH hf0;have H0:=jH h0;clear h h1 hn1 hf hf0 hfs hr h0;go_enter Tryz.func91,Tryz.ntmps91;go_wp2_with(first|refine zl1 hS ?_|go_at_call 154;refine(AE7 H1.out Hok.out W _ _ _ (by exact g8) (hS.s (rdG D rb s::erR xr rb eb true::ecP eb (f [])::D::R))).mono ?_;clear hS;rintro x w ⟨rfl,hS⟩)
 go_loopw [4] (fun v wr=>TmR H9 W D xr rb eb s f R v wr) (fun v _=>(intOf v).toNat)
 case atStart=>
  refine⟨n,rfl,by have:=Hr.out;omega,?_⟩
  cases s1 with
  | some b1=>exact .inl ⟨b1,[],b1,by rw[H1.out];simp,rfl,Hn1.out,hS.swap⟩
  | none=>exact .inr (.inr ⟨Gg7 H1.out,hS.s _⟩)
 case round=>
  clear hS;obtain⟨k,rfl,hk,hrel⟩:=hrel;by_cases hk0:k=0
  ·subst hk0
   rcases hrel with ⟨b1,l,m,q1,q2,q3,hS⟩|⟨q1,s',q2,hS⟩|⟨q1,hS⟩
   ·have Q1:=jH q1;clear q1;go_wp2_with(fail);go_end0;exact⟨rfl,.inl ⟨b1,l,m,Q1.out,q2,q3,hS⟩⟩
   ·have Q1:=jH q1;clear q1;go_wp2_with(fail);go_end0;exact⟨rfl,.inr ⟨Q1.out,false,s',.inl rfl,q2,hS⟩⟩
   ·have Q1:=jH q1;clear q1;go_wp2_with(fail);go_end0;exact⟨rfl,.inr ⟨Q1.out,true,none,.inr rfl,fun l hl=>(by cases hl),hS⟩⟩
  ·obtain⟨k,rfl⟩:∃j,k=j+1:=⟨k-1,by omega⟩
   have d1:decide (0<k+1)=true:=by simp
   clear hk0
   rcases hrel with ⟨b1,l,m,q1,q2,q3,hS⟩|⟨q1,s',q2,hS⟩|⟨q1,hS⟩
   ·have Q1:=jH q1;have Q2:=jH q2;have Q3:=jH q3;clear q1 q2 q3;go_wp2_with(first|refine zl1 hS ?_|go_at_call 157;refine(CD7 W _ _ (hS.s (rdG D rb (some m)::erR xr rb eb true::ecP eb (f l)::D::R))).mono ?_;clear hS;rintro x w ⟨rfl,hS⟩|go_at_call 87;refine(SN7 Q3.out (Hgd.out _ _ _ _ Q1.out Q2.out (by omega)) W _ _ (hS.s (erR xr rb eb true::rdG D rb (some m)::ecP eb (f l)::D::R))).mono ?_;clear hS;rintro x w ⟨rfl,hst⟩;have Hst:=jH hst;clear hst);go_roundw
    case rel=>
     refine⟨k,by simp,by omega,?_⟩
     rcases Hst.out with ⟨y,r,g1,g2,g3⟩|⟨g1,s',g2,g3⟩
     ·refine .inl ⟨b1,l++[y],r,?_,Bd7 Q2.out g1,g2,?_⟩
      ·rw[Q1.out,jA,List.length_singleton,Nat.add_assoc,Nat.add_comm 1 k]
      ·rw[<-Hfs.out];exact g3
     ·exact .inr (.inl ⟨EY7 BE7 Q1.out Q2.out g1,s',g2,g3⟩)
    case measure=>simp[intOf]
   ·have Q1:=jH q1;clear q1;go_wp2_with(first|refine zl1 hS ?_);go_end0;exact⟨rfl,.inr ⟨Q1.out,false,s',.inl rfl,q2,hS⟩⟩
   ·have Q1:=jH q1;clear q1;go_wp2_with(first|refine zl1 hS ?_|go_at_call 157;refine(Dz7 W _ _ (hS.s (rdG D rb none::erR xr rb eb true::D::R))).mono ?_;clear hS;rintro x w ⟨rfl,hS⟩);go_end0;exact⟨rfl,.inr ⟨Q1.out,true,none,.inr rfl,fun l hl=>(by cases hl),hS.swap⟩⟩
theorem SS7{xr rb eb:Nat}{D:HP}{s:RS}{e:Ec}(h:RdN s 5000000)(W w:World)(R:List HP)(hS:St W (erR xr rb eb true::rdG D rb s::ecP eb e::D::R) w):
  Calls Tryz.prog 91 #[.P xr,.func (.func 88) #[.P xr] #[]] w fun x w'=>x=.returned (.tuple #[])/\dI4 O7 W D xr rb eb s (fun l=>⟨e.vs,l.foldl ptL e.ss,e.ts,e.ar⟩) R w':=by
 obtain⟨⟨n,s1⟩,h1⟩:∃y,d8 s=y:=⟨_,rfl⟩
 have hr:=At7 s;have hn1:RdN s1 5000000:=by have:=h.num;rw[h1]at this;exact this
 have h0:s1=none->n=0:=fun h2=>by have h3:=Bv7 (s:=s) (by rw[h1];exact h2);rw[h1]at h3;exact h3
 rw[h1]at hr;simp only at hr;obtain⟨n,rfl⟩:∃k:Nat,n=k:=⟨n.toNat,by omega⟩
 obtain⟨f,hf⟩:∃f:List (Int×(Int×Rpl))->Ec,f=fun l=>⟨e.vs,l.foldl ptL e.ss,e.ts,e.ar⟩:=⟨_,rfl⟩
 have hf0:f []=e:=by rw[hf];rfl
 have hfs:∀l y,(⟨(f l).vs,ptL (f l).ss y,(f l).ts,(f l).ar⟩:Ec)=f (l++[y]):=fun l y=>by rw[hf];simp only[List.foldl_append];rfl
 rw[<-hf];rw[<-hf0]at hS;have Hok:=jH (h.ok (by decide));have H1:=jH h1;have Hn1:=jH hn1;have Hr:=jH hr;have Hfs:=jH hfs;have Hf0:=jH hf0;have H0:=jH h0;clear h h1 hn1 hf hf0 hfs hr h0;go_enter Tryz.func91,Tryz.ntmps91;go_wp2_with(first|refine zl1 hS ?_|go_at_call 154;refine(AE7 H1.out Hok.out W _ _ _ (by exact g8) (hS.s (rdG D rb s::erR xr rb eb true::ecP eb (f [])::D::R))).mono ?_;clear hS;rintro x w ⟨rfl,hS⟩)
 go_loopw [4] (fun v wr=>TmR O7 W D xr rb eb s f R v wr) (fun v _=>(intOf v).toNat)
 case atStart=>
  refine⟨n,rfl,by have:=Hr.out;omega,?_⟩
  cases s1 with
  | some b1=>exact .inl ⟨b1,[],b1,by rw[H1.out];simp,rfl,Hn1.out,hS.swap⟩
  | none=>exact .inr (.inr ⟨Gg7 H1.out,hS.s _⟩)
 case round=>
  clear hS;obtain⟨k,rfl,hk,hrel⟩:=hrel;by_cases hk0:k=0
  ·subst hk0
   rcases hrel with ⟨b1,l,m,q1,q2,q3,hS⟩|⟨q1,s',q2,hS⟩|⟨q1,hS⟩
   ·have Q1:=jH q1;clear q1;go_wp2_with(fail);go_end0;exact⟨rfl,.inl ⟨b1,l,m,Q1.out,q2,q3,hS⟩⟩
   ·have Q1:=jH q1;clear q1;go_wp2_with(fail);go_end0;exact⟨rfl,.inr ⟨Q1.out,false,s',.inl rfl,q2,hS⟩⟩
   ·have Q1:=jH q1;clear q1;go_wp2_with(fail);go_end0;exact⟨rfl,.inr ⟨Q1.out,true,none,.inr rfl,fun l hl=>(by cases hl),hS⟩⟩
  ·obtain⟨k,rfl⟩:∃j,k=j+1:=⟨k-1,by omega⟩
   have d1:decide (0<k+1)=true:=by simp
   clear hk0
   rcases hrel with ⟨b1,l,m,q1,q2,q3,hS⟩|⟨q1,s',q2,hS⟩|⟨q1,hS⟩
   ·have Q1:=jH q1;have Q2:=jH q2;have Q3:=jH q3;clear q1 q2 q3;go_wp2_with(first|refine zl1 hS ?_|go_at_call 157;refine(CD7 W _ _ (hS.s (rdG D rb (some m)::erR xr rb eb true::ecP eb (f l)::D::R))).mono ?_;clear hS;rintro x w ⟨rfl,hS⟩|go_at_call 88;refine(SP7 Q3.out W _ _ (hS.s (erR xr rb eb true::rdG D rb (some m)::ecP eb (f l)::D::R))).mono ?_;clear hS;rintro x w ⟨rfl,hst⟩;have Hst:=jH hst;clear hst);go_roundw
    case rel=>
     refine⟨k,by simp,by omega,?_⟩
     rcases Hst.out with ⟨y,r,g1,g2,g3⟩|⟨g1,s',g2,g3⟩
     ·refine .inl ⟨b1,l++[y],r,?_,Bd7 Q2.out g1,g2,?_⟩
      ·rw[Q1.out,jA,List.length_singleton,Nat.add_assoc,Nat.add_comm 1 k]
      ·rw[<-Hfs.out];exact g3
     ·exact .inr (.inl ⟨EY7 Cr7 Q1.out Q2.out g1,s',g2,g3⟩)
    case measure=>simp[intOf]
   ·have Q1:=jH q1;clear q1;go_wp2_with(first|refine zl1 hS ?_);go_end0;exact⟨rfl,.inr ⟨Q1.out,false,s',.inl rfl,q2,hS⟩⟩
   ·have Q1:=jH q1;clear q1;go_wp2_with(first|refine zl1 hS ?_|go_at_call 157;refine(Dz7 W _ _ (hS.s (rdG D rb none::erR xr rb eb true::D::R))).mono ?_;clear hS;rintro x w ⟨rfl,hS⟩);go_end0;exact⟨rfl,.inr ⟨Q1.out,true,none,.inr rfl,fun l hl=>(by cases hl),hS.swap⟩⟩
theorem ST7{xr rb eb:Nat}{D:HP}{s:RS}{e:Ec}(h:RdN s 5000000)(W w:World)(R:List HP)(hS:St W (erR xr rb eb true::rdG D rb s::ecP eb e::D::R) w):
  Calls Tryz.prog 91 #[.P xr,.func (.func 89) #[.P xr] #[]] w fun x w'=>x=.returned (.tuple #[])/\dI4 T5 W D xr rb eb s (fun l=>⟨e.vs,e.ss,l.foldl ptL e.ts,e.ar⟩) R w':=by
 obtain⟨⟨n,s1⟩,h1⟩:∃y,d8 s=y:=⟨_,rfl⟩
 have hr:=At7 s;have hn1:RdN s1 5000000:=by have:=h.num;rw[h1]at this;exact this
 have h0:s1=none->n=0:=fun h2=>by have h3:=Bv7 (s:=s) (by rw[h1];exact h2);rw[h1]at h3;exact h3
 rw[h1]at hr;simp only at hr;obtain⟨n,rfl⟩:∃k:Nat,n=k:=⟨n.toNat,by omega⟩
 obtain⟨f,hf⟩:∃f:List ((Int×Int)×Tns)->Ec,f=fun l=>⟨e.vs,e.ss,l.foldl ptL e.ts,e.ar⟩:=⟨_,rfl⟩
 have hf0:f []=e:=by rw[hf];rfl
 have hfs:∀l y,(⟨(f l).vs,(f l).ss,ptL (f l).ts y,(f l).ar⟩:Ec)=f (l++[y]):=fun l y=>by rw[hf];simp only[List.foldl_append];rfl
 rw[<-hf];rw[<-hf0]at hS;have Hok:=jH (h.ok (by decide));have H1:=jH h1;have Hn1:=jH hn1;have Hr:=jH hr;have Hfs:=jH hfs;have Hf0:=jH hf0;have H0:=jH h0;clear h h1 hn1 hf hf0 hfs hr h0;go_enter Tryz.func91,Tryz.ntmps91;go_wp2_with(first|refine zl1 hS ?_|go_at_call 154;refine(AE7 H1.out Hok.out W _ _ _ (by exact g8) (hS.s (rdG D rb s::erR xr rb eb true::ecP eb (f [])::D::R))).mono ?_;clear hS;rintro x w ⟨rfl,hS⟩)
 go_loopw [4] (fun v wr=>TmR T5 W D xr rb eb s f R v wr) (fun v _=>(intOf v).toNat)
 case atStart=>
  refine⟨n,rfl,by have:=Hr.out;omega,?_⟩
  cases s1 with
  | some b1=>exact .inl ⟨b1,[],b1,by rw[H1.out];simp,rfl,Hn1.out,hS.swap⟩
  | none=>exact .inr (.inr ⟨Gg7 H1.out,hS.s _⟩)
 case round=>
  clear hS;obtain⟨k,rfl,hk,hrel⟩:=hrel;by_cases hk0:k=0
  ·subst hk0
   rcases hrel with ⟨b1,l,m,q1,q2,q3,hS⟩|⟨q1,s',q2,hS⟩|⟨q1,hS⟩
   ·have Q1:=jH q1;clear q1;go_wp2_with(fail);go_end0;exact⟨rfl,.inl ⟨b1,l,m,Q1.out,q2,q3,hS⟩⟩
   ·have Q1:=jH q1;clear q1;go_wp2_with(fail);go_end0;exact⟨rfl,.inr ⟨Q1.out,false,s',.inl rfl,q2,hS⟩⟩
   ·have Q1:=jH q1;clear q1;go_wp2_with(fail);go_end0;exact⟨rfl,.inr ⟨Q1.out,true,none,.inr rfl,fun l hl=>(by cases hl),hS⟩⟩
  ·obtain⟨k,rfl⟩:∃j,k=j+1:=⟨k-1,by omega⟩
   have d1:decide (0<k+1)=true:=by simp
   clear hk0
   rcases hrel with ⟨b1,l,m,q1,q2,q3,hS⟩|⟨q1,s',q2,hS⟩|⟨q1,hS⟩
   ·have Q1:=jH q1;have Q2:=jH q2;have Q3:=jH q3;clear q1 q2 q3;go_wp2_with(first|refine zl1 hS ?_|go_at_call 157;refine(CD7 W _ _ (hS.s (rdG D rb (some m)::erR xr rb eb true::ecP eb (f l)::D::R))).mono ?_;clear hS;rintro x w ⟨rfl,hS⟩|go_at_call 89;refine(SQ7 Q3.out W _ _ (hS.s (erR xr rb eb true::rdG D rb (some m)::ecP eb (f l)::D::R))).mono ?_;clear hS;rintro x w ⟨rfl,hst⟩;have Hst:=jH hst;clear hst);go_roundw
    case rel=>
     refine⟨k,by simp,by omega,?_⟩
     rcases Hst.out with ⟨y,r,g1,g2,g3⟩|⟨g1,s',g2,g3⟩
     ·refine .inl ⟨b1,l++[y],r,?_,Bd7 Q2.out g1,g2,?_⟩
      ·rw[Q1.out,jA,List.length_singleton,Nat.add_assoc,Nat.add_comm 1 k]
      ·rw[<-Hfs.out];exact g3
     ·exact .inr (.inl ⟨EY7 DE7 Q1.out Q2.out g1,s',g2,g3⟩)
    case measure=>simp[intOf]
   ·have Q1:=jH q1;clear q1;go_wp2_with(first|refine zl1 hS ?_);go_end0;exact⟨rfl,.inr ⟨Q1.out,false,s',.inl rfl,q2,hS⟩⟩
   ·have Q1:=jH q1;clear q1;go_wp2_with(first|refine zl1 hS ?_|go_at_call 157;refine(Dz7 W _ _ (hS.s (rdG D rb none::erR xr rb eb true::D::R))).mono ?_;clear hS;rintro x w ⟨rfl,hS⟩);go_end0;exact⟨rfl,.inr ⟨Q1.out,true,none,.inr rfl,fun l hl=>(by cases hl),hS.swap⟩⟩
theorem SU7{xr rb eb:Nat}{D:HP}{s:RS}{e:Ec}(h:RdN s 5000000)(W w:World)(R:List HP)(hS:St W (erR xr rb eb true::rdG D rb s::ecP eb e::D::R) w):
  Calls Tryz.prog 91 #[.P xr,.func (.func 90) #[.P xr] #[]] w fun x w'=>x=.returned (.tuple #[])/\dI4 aF4 W D xr rb eb s (fun l=>⟨e.vs,e.ss,e.ts,l.foldl ptL e.ar⟩) R w':=by
 obtain⟨⟨n,s1⟩,h1⟩:∃y,d8 s=y:=⟨_,rfl⟩
 have hr:=At7 s;have hn1:RdN s1 5000000:=by have:=h.num;rw[h1]at this;exact this
 have h0:s1=none->n=0:=fun h2=>by have h3:=Bv7 (s:=s) (by rw[h1];exact h2);rw[h1]at h3;exact h3
 rw[h1]at hr;simp only at hr;obtain⟨n,rfl⟩:∃k:Nat,n=k:=⟨n.toNat,by omega⟩
 obtain⟨f,hf⟩:∃f:List ((Int×Int)×Unit)->Ec,f=fun l=>⟨e.vs,e.ss,e.ts,l.foldl ptL e.ar⟩:=⟨_,rfl⟩
 have hf0:f []=e:=by rw[hf];rfl
 have hfs:∀l y,(⟨(f l).vs,(f l).ss,(f l).ts,ptL (f l).ar y⟩:Ec)=f (l++[y]):=fun l y=>by rw[hf];simp only[List.foldl_append];rfl
 rw[<-hf];rw[<-hf0]at hS;have Hok:=jH (h.ok (by decide));have H1:=jH h1;have Hn1:=jH hn1;have Hr:=jH hr;have Hfs:=jH hfs;have Hf0:=jH hf0;have H0:=jH h0;clear h h1 hn1 hf hf0 hfs hr h0;go_enter Tryz.func91,Tryz.ntmps91;go_wp2_with(first|refine zl1 hS ?_|go_at_call 154;refine(AE7 H1.out Hok.out W _ _ _ (by exact g8) (hS.s (rdG D rb s::erR xr rb eb true::ecP eb (f [])::D::R))).mono ?_;clear hS;rintro x w ⟨rfl,hS⟩)
 go_loopw [4] (fun v wr=>TmR aF4 W D xr rb eb s f R v wr) (fun v _=>(intOf v).toNat)
 case atStart=>
  refine⟨n,rfl,by have:=Hr.out;omega,?_⟩
  cases s1 with
  | some b1=>exact .inl ⟨b1,[],b1,by rw[H1.out];simp,rfl,Hn1.out,hS.swap⟩
  | none=>exact .inr (.inr ⟨Gg7 H1.out,hS.s _⟩)
 case round=>
  clear hS;obtain⟨k,rfl,hk,hrel⟩:=hrel;by_cases hk0:k=0
  ·subst hk0
   rcases hrel with ⟨b1,l,m,q1,q2,q3,hS⟩|⟨q1,s',q2,hS⟩|⟨q1,hS⟩
   ·have Q1:=jH q1;clear q1;go_wp2_with(fail);go_end0;exact⟨rfl,.inl ⟨b1,l,m,Q1.out,q2,q3,hS⟩⟩
   ·have Q1:=jH q1;clear q1;go_wp2_with(fail);go_end0;exact⟨rfl,.inr ⟨Q1.out,false,s',.inl rfl,q2,hS⟩⟩
   ·have Q1:=jH q1;clear q1;go_wp2_with(fail);go_end0;exact⟨rfl,.inr ⟨Q1.out,true,none,.inr rfl,fun l hl=>(by cases hl),hS⟩⟩
  ·obtain⟨k,rfl⟩:∃j,k=j+1:=⟨k-1,by omega⟩
   have d1:decide (0<k+1)=true:=by simp
   clear hk0
   rcases hrel with ⟨b1,l,m,q1,q2,q3,hS⟩|⟨q1,s',q2,hS⟩|⟨q1,hS⟩
   ·have Q1:=jH q1;have Q2:=jH q2;have Q3:=jH q3;clear q1 q2 q3;go_wp2_with(first|refine zl1 hS ?_|go_at_call 157;refine(CD7 W _ _ (hS.s (rdG D rb (some m)::erR xr rb eb true::ecP eb (f l)::D::R))).mono ?_;clear hS;rintro x w ⟨rfl,hS⟩|go_at_call 90;refine(SO7 Q3.out W _ _ (hS.s (erR xr rb eb true::rdG D rb (some m)::ecP eb (f l)::D::R))).mono ?_;clear hS;rintro x w ⟨rfl,hst⟩;have Hst:=jH hst;clear hst);go_roundw
    case rel=>
     refine⟨k,by simp,by omega,?_⟩
     rcases Hst.out with ⟨y,r,g1,g2,g3⟩|⟨g1,s',g2,g3⟩
     ·refine .inl ⟨b1,l++[y],r,?_,Bd7 Q2.out g1,g2,?_⟩
      ·rw[Q1.out,jA,List.length_singleton,Nat.add_assoc,Nat.add_comm 1 k]
      ·rw[<-Hfs.out];exact g3
     ·exact .inr (.inl ⟨EY7 Hg7 Q1.out Q2.out g1,s',g2,g3⟩)
    case measure=>simp[intOf]
   ·have Q1:=jH q1;clear q1;go_wp2_with(first|refine zl1 hS ?_);go_end0;exact⟨rfl,.inr ⟨Q1.out,false,s',.inl rfl,q2,hS⟩⟩
   ·have Q1:=jH q1;clear q1;go_wp2_with(first|refine zl1 hS ?_|go_at_call 157;refine(Dz7 W _ _ (hS.s (rdG D rb none::erR xr rb eb true::D::R))).mono ?_;clear hS;rintro x w ⟨rfl,hS⟩);go_end0;exact⟨rfl,.inr ⟨Q1.out,true,none,.inr rfl,fun l hl=>(by cases hl),hS.swap⟩⟩
def DcR(W:World)(D:HP)(xr rb eb:Nat)(b:List Int)(R:List HP)(v:Value)(w:World):Prop:=
 (v=.I 0/\St W (erR xr rb eb true::rdG D rb (some b)::ecP eb ec0::D::R) w) \/
 (∃b1 b2 lv,d8 (some b)=((lv.length:Int),some b1)/\D5 H9 b1 lv b2/\RdN (some b2) 5000000/\v=.I 1/\St W (erR xr rb eb true::rdG D rb (some b2)::ecP eb ⟨I5 lv,[],[],[]⟩::D::R) w) \/
 (∃b1 b2 b3 b4 lv ls,d8 (some b)=((lv.length:Int),some b1)/\D5 H9 b1 lv b2/\d8 (some b2)=((ls.length:Int),some b3)/\D5 O7 b3 ls b4/\RdN (some b4) 5000000/\v=.I 2/\St W (erR xr rb eb true::rdG D rb (some b4)::ecP eb ⟨I5 lv,I5 ls,[],[]⟩::D::R) w) \/
 (∃b1 b2 b3 b4 b5 b6 lv ls lt,d8 (some b)=((lv.length:Int),some b1)/\D5 H9 b1 lv b2/\d8 (some b2)=((ls.length:Int),some b3)/\D5 O7 b3 ls b4/\d8 (some b4)=((lt.length:Int),some b5)/\D5 T5 b5 lt b6/\RdN (some b6) 5000000/\v=.I 3/\St W (erR xr rb eb true::rdG D rb (some b6)::ecP eb ⟨I5 lv,I5 ls,I5 lt,[]⟩::D::R) w) \/
 (∃X r,aT4 b X r/\RdN (some r) 5000000/\v=.I 4/\St W (erR xr rb eb true::rdG D rb (some r)::ecP eb (ofX X)::D::R) w) \/
 ((∀X r,¬aT4 b X r)/\∃(i:Nat) (ok:Bool) (s':RS),v=.I i/\i<=4/\(ok=false\/s'=none)/\RdN s' 5000000/\St W (erR xr rb eb ok::rdG D rb s'::D::R) w)
theorem no1{b:List Int}(h:∀b1 l r,d8 (some b)=((l.length:Int),some b1)->¬D5 H9 b1 l r):∀X r,¬aT4 b X r:=by rintro X r ⟨b1,b2,_,_,_,_,_,h1,h2,_⟩;exact h _ _ _ h1 h2
theorem no2{b b1 b2:List Int}{lv:List (ByteArray×Vs)}(k1:d8 (some b)=((lv.length:Int),some b1))(k2:D5 H9 b1 lv b2)(h:∀b1 l r,d8 (some b2)=((l.length:Int),some b1)->¬D5 O7 b1 l r):∀X r,¬aT4 b X r:=by rintro X r ⟨c1,c2,c3,c4,_,_,_,h1,h2,h3,h4,_⟩;rw[k1]at h1;simp only[Prod.mk.injEq,Option.some.injEq]at h1;obtain⟨e1,rfl⟩:=h1;obtain⟨rfl,rfl⟩:=AY7 BE7 k2 h2 (by omega);exact h _ _ _ h3 h4
theorem no3{b b1 b2 b3 b4:List Int}{lv:List (ByteArray×Vs)}{ls:List (Int×(Int×Rpl))}(k1:d8 (some b)=((lv.length:Int),some b1))(k2:D5 H9 b1 lv b2)(k3:d8 (some b2)=((ls.length:Int),some b3))(k4:D5 O7 b3 ls b4)(h:∀b1 l r,d8 (some b4)=((l.length:Int),some b1)->¬D5 T5 b1 l r):∀X r,¬aT4 b X r:=by rintro X r ⟨c1,c2,c3,c4,c5,c6,_,h1,h2,h3,h4,h5,h6,_⟩;rw[k1]at h1;simp only[Prod.mk.injEq,Option.some.injEq]at h1;obtain⟨e1,rfl⟩:=h1;obtain⟨rfl,rfl⟩:=AY7 BE7 k2 h2 (by omega);rw[k3]at h3;simp only[Prod.mk.injEq,Option.some.injEq]at h3;obtain⟨e3,rfl⟩:=h3;obtain⟨rfl,rfl⟩:=AY7 Cr7 k4 h4 (by omega);exact h _ _ _ h5 h6
theorem no4{b b1 b2 b3 b4 b5 b6:List Int}{lv:List (ByteArray×Vs)}{ls:List (Int×(Int×Rpl))}{lt:List ((Int×Int)×Tns)}(k1:d8 (some b)=((lv.length:Int),some b1))(k2:D5 H9 b1 lv b2)(k3:d8 (some b2)=((ls.length:Int),some b3))(k4:D5 O7 b3 ls b4)(k5:d8 (some b4)=((lt.length:Int),some b5))(k6:D5 T5 b5 lt b6)(h:∀b1 l r,d8 (some b6)=((l.length:Int),some b1)->¬D5 aF4 b1 l r):∀X r,¬aT4 b X r:=by rintro X r ⟨c1,c2,c3,c4,c5,c6,c7,h1,h2,h3,h4,h5,h6,h7,h8⟩;rw[k1]at h1;simp only[Prod.mk.injEq,Option.some.injEq]at h1;obtain⟨e1,rfl⟩:=h1;obtain⟨rfl,rfl⟩:=AY7 BE7 k2 h2 (by omega);rw[k3]at h3;simp only[Prod.mk.injEq,Option.some.injEq]at h3;obtain⟨e3,rfl⟩:=h3;obtain⟨rfl,rfl⟩:=AY7 Cr7 k4 h4 (by omega);rw[k5]at h5;simp only[Prod.mk.injEq,Option.some.injEq]at h5;obtain⟨e5,rfl⟩:=h5;obtain⟨rfl,rfl⟩:=AY7 DE7 k6 h6 (by omega);exact h _ _ _ h7 h8
theorem JZ7(D0:HP)(a:Option Addr)(c:Nat)(b:List Int)(hat:At D0 a c b)(hb:ByB b)(hN:b.length<=5000000)(hgd:dJ4 (some b))(henc:∀X,J5 b X->EncOk (ofX X))(W w:World)(R R':List HP)(ht:Take R D0 R')(hS:St W R w):
  Calls Tryz.prog 34 #[.slice a b.length c] w fun x w'=>((∀X,J5 b X->¬bk4 X)/\x=.returned (.tuple #[.pointer none,.I 3])/\St W R w') \/
   (∃X,J5 b X/\bk4 X/\∃eb,x=.returned (.tuple #[.P eb,.I 0])/\St W (ecP eb (ofX X)::R) w'):=by
 have hrn:RdN (some b) 5000000:=fun l hl=>by cases hl;exact⟨hb,hN⟩
 have Hrn:=jH hrn;have Hat:=jH hat
 have Henc:=jH henc;have Hgd:=jH hgd;have Hb:=jH hb;clear hrn hat henc hb hgd;go_enter Tryz.func34,Tryz.ntmps34;go_wp2_with(first|go_at_call 86;refine(JO7 D0 a c b Hat.out (by omega) W _ _ _ (by first|exact ht|exact .tail ht|exact .tail (.tail ht)) hS).mono ?_;clear hS;rintro x w ⟨v2,rb,rfl,hS⟩|go_at_call 15;refine(JA7 W _ _ hS).mono ?_;clear hS;rintro x w ⟨eb,rfl,hS⟩|refine zbx hS ?_;clear hS;intro xr w hS|refine zbs hS ?_;clear hS;intro bS w hS);obtain⟨D,hD⟩:∃D,D=byR v2 b:=⟨_,rfl⟩
 have hS0:St W (blk bS [.func (.func 87) #[.P xr] #[],.func (.func 88) #[.P xr] #[],.func (.func 89) #[.P xr] #[],.func (.func 90) #[.P xr] #[]] 1::erR xr rb eb true::ecP eb ec0::rdG (byR v2 b) rb (some b)::byR v2 b::R) _:=hS;rw[<-hD]at hS0;clear hS hD;have hS:=hS0.s (erR xr rb eb true::rdG D rb (some b)::ecP eb ec0::D::blk bS [.func (.func 87) #[.P xr] #[],.func (.func 88) #[.P xr] #[],.func (.func 89) #[.P xr] #[],.func (.func 90) #[.P xr] #[]] 1::R);clear hS0
 go_loopw [22] (fun v wr=>DcR W D xr rb eb b (blk bS [.func (.func 87) #[.P xr] #[],.func (.func 88) #[.P xr] #[],.func (.func 89) #[.P xr] #[],.func (.func 90) #[.P xr] #[]] 1::R) v wr) (fun v _=>4-(intOf v).toNat)
 case atStart=>exact .inl ⟨rfl,hS⟩
 case round=>
  clear hS
  rcases hrel with ⟨rfl,hS⟩|⟨b1,b2,lv,q1,q2,q3,rfl,hS⟩|⟨b1,b2,b3,b4,lv,ls,q1,q2,q3,q4,q5,rfl,hS⟩|⟨b1,b2,b3,b4,b5,b6,lv,ls,lt,q1,q2,q3,q4,q5,q6,q7,rfl,hS⟩|⟨X,r,q1,q2,rfl,hS⟩|⟨q1,i,ok,s',rfl,hi,hbad,hsn,hS⟩
  ·go_wp2_with(first|refine zl1 hS ?_|go_at_call 91;refine(SR7 (s:=some b) (e:=ec0) Hrn.out Hgd.out W _ _ (hS.s (erR xr rb eb true::rdG D rb (some b)::ecP eb ec0::D::blk bS [.func (.func 87) #[.P xr] #[],.func (.func 88) #[.P xr] #[],.func (.func 89) #[.P xr] #[],.func (.func 90) #[.P xr] #[]] 1::R))).mono ?_;clear hS;rintro x w ⟨rfl,hst⟩;have Hst:=jH hst;clear hst);go_roundw
   case rel=>
    rcases Hst.out with ⟨b1,l,r,g1,g2,g3,g4⟩|⟨g1,ok,s',g2,g3,g4⟩
    ·exact .inr (.inl ⟨b1,r,l,g1,g2,g3,rfl,g4⟩)
    ·exact .inr (.inr (.inr (.inr (.inr ⟨no1 g1,1,ok,s',rfl,by decide,g2,g3,g4⟩))))
   case measure=>simp[intOf]
  ·have Q1:=jH q1;have Q2:=jH q2;have Q3:=jH q3;clear q1 q2 q3;go_wp2_with(first|refine zl1 hS ?_|go_at_call 91;refine(SS7 (s:=some b2) (e:=(⟨I5 lv,[],[],[]⟩:Ec)) Q3.out W _ _ (hS.s (erR xr rb eb true::rdG D rb (some b2)::ecP eb (⟨I5 lv,[],[],[]⟩:Ec)::D::blk bS [.func (.func 87) #[.P xr] #[],.func (.func 88) #[.P xr] #[],.func (.func 89) #[.P xr] #[],.func (.func 90) #[.P xr] #[]] 1::R))).mono ?_;clear hS;rintro x w ⟨rfl,hst⟩;have Hst:=jH hst;clear hst);go_roundw
   case rel=>
    rcases Hst.out with ⟨c1,l,r,g1,g2,g3,g4⟩|⟨g1,ok,s',g2,g3,g4⟩
    ·exact .inr (.inr (.inl ⟨b1,b2,c1,r,lv,l,Q1.out,Q2.out,g1,g2,g3,rfl,g4⟩))
    ·exact .inr (.inr (.inr (.inr (.inr ⟨no2 Q1.out Q2.out g1,2,ok,s',rfl,by decide,g2,g3,g4⟩))))
   case measure=>simp[intOf]
  ·have Q1:=jH q1;have Q2:=jH q2;have Q3:=jH q3;have Q4:=jH q4;have Q5:=jH q5;clear q1 q2 q3 q4 q5;go_wp2_with(first|refine zl1 hS ?_|go_at_call 91;refine(ST7 (s:=some b4) (e:=(⟨I5 lv,I5 ls,[],[]⟩:Ec)) Q5.out W _ _ (hS.s (erR xr rb eb true::rdG D rb (some b4)::ecP eb (⟨I5 lv,I5 ls,[],[]⟩:Ec)::D::blk bS [.func (.func 87) #[.P xr] #[],.func (.func 88) #[.P xr] #[],.func (.func 89) #[.P xr] #[],.func (.func 90) #[.P xr] #[]] 1::R))).mono ?_;clear hS;rintro x w ⟨rfl,hst⟩;have Hst:=jH hst;clear hst);go_roundw
   case rel=>
    rcases Hst.out with ⟨c1,l,r,g1,g2,g3,g4⟩|⟨g1,ok,s',g2,g3,g4⟩
    ·exact .inr (.inr (.inr (.inl ⟨b1,b2,b3,b4,c1,r,lv,ls,l,Q1.out,Q2.out,Q3.out,Q4.out,g1,g2,g3,rfl,g4⟩)))
    ·exact .inr (.inr (.inr (.inr (.inr ⟨no3 Q1.out Q2.out Q3.out Q4.out g1,3,ok,s',rfl,by decide,g2,g3,g4⟩))))
   case measure=>simp[intOf]
  ·have Q1:=jH q1;have Q2:=jH q2;have Q3:=jH q3;have Q4:=jH q4;have Q5:=jH q5;have Q6:=jH q6;have Q7:=jH q7;clear q1 q2 q3 q4 q5 q6 q7;go_wp2_with(first|refine zl1 hS ?_|go_at_call 91;refine(SU7 (s:=some b6) (e:=(⟨I5 lv,I5 ls,I5 lt,[]⟩:Ec)) Q7.out W _ _ (hS.s (erR xr rb eb true::rdG D rb (some b6)::ecP eb (⟨I5 lv,I5 ls,I5 lt,[]⟩:Ec)::D::blk bS [.func (.func 87) #[.P xr] #[],.func (.func 88) #[.P xr] #[],.func (.func 89) #[.P xr] #[],.func (.func 90) #[.P xr] #[]] 1::R))).mono ?_;clear hS;rintro x w ⟨rfl,hst⟩;have Hst:=jH hst;clear hst);go_roundw
   case rel=>
    rcases Hst.out with ⟨c1,l,r,g1,g2,g3,g4⟩|⟨g1,ok,s',g2,g3,g4⟩
    ·exact .inr (.inr (.inr (.inr (.inl ⟨⟨lv,ls,lt,l⟩,r,⟨b1,b2,b3,b4,b5,b6,c1,Q1.out,Q2.out,Q3.out,Q4.out,Q5.out,Q6.out,g1,g2⟩,g3,rfl,g4⟩))))
    ·exact .inr (.inr (.inr (.inr (.inr ⟨no4 Q1.out Q2.out Q3.out Q4.out Q5.out Q6.out g1,4,ok,s',rfl,by decide,g2,g3,g4⟩))))
   case measure=>simp[intOf]
  ·cases he:ar4 (some r)with
   | false=>
    have Hno:=jH (show ∀X,J5 b X->¬bk4 X from fun Y hY _=>by
     obtain⟨_,e2⟩:=Cj7 q1 hY;subst e2
     cases he)
    have Hend:=jH he;clear he q1 q2;go_wp2_with(first|refine zl1 hS ?_|go_at_call 92;refine(AX7 Hend.out W _ _ (hS.s (rdG D rb (some r)::erR xr rb eb true::R))).mono ?_;clear hS;rintro x w ⟨rfl,hS⟩);go_ret2;exact .inl ⟨Hno.out,rfl,hS.drop.drop⟩
   | true=>
    have e2:r=[]:=Option.some.inj (Fu7 he);have hp:J5 b X:=by unfold J5;rw[<-e2];exact q1
    have Hend:=jH he;have Hok:=jH (Henc.out X hp);have Hp:=jH hp;by_cases ha:bk4 X
    ·have Ha:=jH ha;have Hgood:=jH (Nb7 Hb.out hp ha);clear he q1 q2 e2 hp ha;go_wp2_with(first|refine zl1 hS ?_|go_at_call 92;refine(AX7 Hend.out W _ _ (hS.s (rdG D rb (some r)::erR xr rb eb true::ecP eb (ofX X) ::R))).mono ?_;clear hS;rintro x w ⟨rfl,hS⟩|go_at_call 27;refine(Ha7 Hok.out W _ _ (hS.s (ecP eb (ofX X)::erR xr rb eb true::R))).mono ?_;clear hS;rintro x w ⟨v9,d9,rfl,hd9,hS⟩;have Hd9:=jH hd9;clear hd9|go_at_call 93;refine(Fv7 D0 a c b d9 v9 Hat.out ((Pc7 (JX7 Hd9.out) Hb.out).trans (decide_eq_true (LZ7 Hd9.out Hgood.out))) W _ _ _ _ (.tail (.tail (.tail ht))) .head hS).mono ?_;clear hS;rintro x w ⟨rfl,hS⟩);go_ret2;exact .inr ⟨X,Hp.out,Ha.out,eb,rfl,hS.s _⟩
    ·have Hno:=jH (show ∀X,J5 b X->¬bk4 X from fun Y hY=>by
      obtain⟨rfl,_⟩:=Cj7 hp hY;exact ha)
     have Hne:=jH (fun h9=>ha (Nc7 Hb.out (by omega) hp h9));clear he q1 q2 e2 hp ha;go_wp2_with(first|refine zl1 hS ?_|go_at_call 92;refine(AX7 Hend.out W _ _ (hS.s (rdG D rb (some r)::erR xr rb eb true::ecP eb (ofX X) ::R))).mono ?_;clear hS;rintro x w ⟨rfl,hS⟩|go_at_call 27;refine(Ha7 Hok.out W _ _ (hS.s (ecP eb (ofX X)::erR xr rb eb true::R))).mono ?_;clear hS;rintro x w ⟨v9,d9,rfl,hd9,hS⟩;have Hd9:=jH hd9;clear hd9|go_at_call 93;refine(Fv7 D0 a c b d9 v9 Hat.out ((Pc7 (JX7 Hd9.out) Hb.out).trans (decide_eq_false (fun e9=>Hne.out (e9▸Hd9.out)))) W _ _ _ _ (.tail (.tail (.tail ht))) .head hS).mono ?_;clear hS;rintro x w ⟨rfl,hS⟩);go_ret2;exact .inl ⟨Hno.out,rfl,hS.s _⟩
  ·have Hno:=jH q1;have Hbad:=jH hbad;have Hsn:=jH hsn;clear q1 hbad hsn;have hi5:i=0\/i=1\/i=2\/i=3\/i=4:=by omega
   clear hi
   rcases hi5 with rfl|rfl|rfl|rfl|rfl
   ·skip
    go_wp2_with(first|refine zl1 hS ?_|go_at_call 91;refine(EZ7 Hbad.out Hsn.out _ W _ _ (hS.s (erR xr rb eb ok::rdG D rb s'::D::blk bS [.func (.func 87) #[.P xr] #[],.func (.func 88) #[.P xr] #[],.func (.func 89) #[.P xr] #[],.func (.func 90) #[.P xr] #[]] 1::R))).mono ?_;clear hS;rintro x w ⟨rfl,s2,hb2,hn2,hS⟩;have Hb2:=jH hb2;have Hn2:=jH hn2;clear hb2 hn2);go_roundw
    case rel=>exact .inr (.inr (.inr (.inr (.inr ⟨Hno.out,1,ok,s2,rfl,by decide,Hb2.out,Hn2.out,hS⟩))))
    case measure=>simp[intOf]
   ·skip
    go_wp2_with(first|refine zl1 hS ?_|go_at_call 91;refine(EZ7 Hbad.out Hsn.out _ W _ _ (hS.s (erR xr rb eb ok::rdG D rb s'::D::blk bS [.func (.func 87) #[.P xr] #[],.func (.func 88) #[.P xr] #[],.func (.func 89) #[.P xr] #[],.func (.func 90) #[.P xr] #[]] 1::R))).mono ?_;clear hS;rintro x w ⟨rfl,s2,hb2,hn2,hS⟩;have Hb2:=jH hb2;have Hn2:=jH hn2;clear hb2 hn2);go_roundw
    case rel=>exact .inr (.inr (.inr (.inr (.inr ⟨Hno.out,2,ok,s2,rfl,by decide,Hb2.out,Hn2.out,hS⟩))))
    case measure=>simp[intOf]
   ·skip
    go_wp2_with(first|refine zl1 hS ?_|go_at_call 91;refine(EZ7 Hbad.out Hsn.out _ W _ _ (hS.s (erR xr rb eb ok::rdG D rb s'::D::blk bS [.func (.func 87) #[.P xr] #[],.func (.func 88) #[.P xr] #[],.func (.func 89) #[.P xr] #[],.func (.func 90) #[.P xr] #[]] 1::R))).mono ?_;clear hS;rintro x w ⟨rfl,s2,hb2,hn2,hS⟩;have Hb2:=jH hb2;have Hn2:=jH hn2;clear hb2 hn2);go_roundw
    case rel=>exact .inr (.inr (.inr (.inr (.inr ⟨Hno.out,3,ok,s2,rfl,by decide,Hb2.out,Hn2.out,hS⟩))))
    case measure=>simp[intOf]
   ·skip
    go_wp2_with(first|refine zl1 hS ?_|go_at_call 91;refine(EZ7 Hbad.out Hsn.out _ W _ _ (hS.s (erR xr rb eb ok::rdG D rb s'::D::blk bS [.func (.func 87) #[.P xr] #[],.func (.func 88) #[.P xr] #[],.func (.func 89) #[.P xr] #[],.func (.func 90) #[.P xr] #[]] 1::R))).mono ?_;clear hS;rintro x w ⟨rfl,s2,hb2,hn2,hS⟩;have Hb2:=jH hb2;have Hn2:=jH hn2;clear hb2 hn2);go_roundw
    case rel=>exact .inr (.inr (.inr (.inr (.inr ⟨Hno.out,4,ok,s2,rfl,by decide,Hb2.out,Hn2.out,hS⟩))))
    case measure=>simp[intOf]
   ·cases ok with
    | false=>
     go_wp2_with(first|refine zl1 hS ?_);go_ret2;exact .inl ⟨fun X hX=>absurd hX (Hno.out X []),rfl,hS.s _⟩
    | true=>
     have e9:s'=none:=Hbad.out.resolve_left (by simp);subst e9;have Hend:=jH (show ar4 none=false from rfl);go_wp2_with(first|refine zl1 hS ?_|go_at_call 92;refine(AX7 Hend.out W _ _ (hS.s (rdG D rb none::erR xr rb eb true::R))).mono ?_;clear hS;rintro x w ⟨rfl,hS⟩);go_ret2;exact .inl ⟨fun X hX=>absurd hX (Hno.out X []),rfl,hS.s _⟩
end Go.Proofs.YtlmhakmoioogaaaGreat
end
