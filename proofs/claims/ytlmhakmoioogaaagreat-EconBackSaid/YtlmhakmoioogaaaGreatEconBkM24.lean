/-
  An economy out of bytes, whole.
-/
import Derived.Test.YtlmhakmoioogaaaGreatEconBkM23
set_option maxHeartbeats 16000000
set_option maxRecDepth 100000
set_option linter.unusedSimpArgs false
set_option linter.unusedVariables false
section
namespace Go.Proofs.YtlmhakmoioogaaaGreat
open Go.RowKit Go.Sl
section
variable{κ ν:Type}[DecidableEq κ]
def ptL(l:List (κ×ν))(x:κ×ν):List (κ×ν):=x::j9 l x.1
def be4(l:List (κ×ν)):List (κ×ν):=l.foldl ptL []
theorem Mz7:∀(l a:List (κ×ν)),((l.reverse++a).map (·.1)).Nodup->l.foldl ptL a=l.reverse++a
 | [],_,_=>rfl
 | x::l,a,h=>by
  rw[List.reverse_cons,jS]at h;have h2:(((x::a:List (κ×ν))).map (·.1)).Nodup:=(List.nodup_append.1 (by rw[List.map_append]at h;exact h)).2.1;rw[List.map_cons,List.nodup_cons]at h2;have e:ptL a x=x::a:=by unfold ptL;rw[BN7 fun y hy e=>h2.1 (List.mem_map.2 ⟨y,hy,e⟩)]
  rw[List.foldl_cons,e,Mz7 l (x::a) h,List.reverse_cons,jS];rfl
theorem ET7{l:List (κ×ν)}(h:(l.map (·.1)).Nodup):be4 l=l.reverse:=by have:=Mz7 l [] (by rw[List.append_nil,List.map_reverse];exact((List.reverse_perm _).nodup_iff).2 h);rwa [List.append_nil]at this
end
def ofX(X:Ec):Ec:=⟨be4 X.vs,be4 X.ss,be4 X.ts,be4 X.ar⟩
def et4(X:Ec):Prop:=Asc ltB X.vs/\Asc ltI X.ss/\Asc ltW X.ts/\Asc ltW X.ar
def fZ4(b:List Int)(X:Ec)(r:List Int):Prop:=∃b1 b2 b3 b4 b5 b6 b7,j7 (some b)=((X.vs.length:Int),some b1)/\bN4 ca4 b1 X.vs b2/\j7 (some b2)=((X.ss.length:Int),some b3)/\bN4 cE4 b3 X.ss b4/\j7 (some b4)=((X.ts.length:Int),some b5)/\bN4 cl4 b5 X.ts b6/\j7 (some b6)=((X.ar.length:Int),some b7)/\bN4 cm4 b7 X.ar r
def cS4(b:List Int)(X:Ec):Prop:=fZ4 b X []
theorem MA7{b:List Int}{n:Nat}{r:List Int}(hb:ByB b)(h:j7 (some b)=((n:Int),some r)):b=m6 n++r/\ByB r:=by obtain⟨h1,_,_,h4⟩:=CM7 hb h;exact⟨h1,h4⟩
def dR4(X:Ec):List Int:=m6 X.vs.length++X.vs.flatMap fK++m6 X.ss.length++X.ss.flatMap fSe++m6 X.ts.length++X.ts.flatMap enT++m6 X.ar.length++X.ar.flatMap fAr
theorem Qe7{b:List Int}{X:Ec}(hb:ByB b)(h:cS4 b X):b=dR4 X:=by obtain⟨b1,b2,b3,b4,b5,b6,b7,h1,h2,h3,h4,h5,h6,h7,h8⟩:=h;obtain⟨a1,g1⟩:=MA7 hb h1;obtain⟨a2,g2⟩:=EQ7 Qa7 g1 h2;obtain⟨a3,g3⟩:=MA7 g2 h3;obtain⟨a4,g4⟩:=EQ7 Qb7 g3 h4;obtain⟨a5,g5⟩:=MA7 g4 h5;obtain⟨a6,g6⟩:=EQ7 Qd7 g5 h6;obtain⟨a7,g7⟩:=MA7 g6 h7;obtain⟨a8,_⟩:=EQ7 Qc7 g7 h8;rw[List.append_nil]at a8;unfold dR4;simp only[jS];rw[<-a8,<-a7,<-a6,<-a5,<-a4,<-a3,<-a2];exact a1
theorem SZ7{e:Ec}(hn:(e.vs.map (·.1)).Nodup):e.vs.flatMap fK=(e.vs.map (·.1)).flatMap (enK e):=by
 rw[List.flatMap_map];refine DI7 fun x hx=>?_
 have h2:atV e x.1=x.2:=by unfold atV;rw[Br7 (v:=x.2) hn hx];rfl
 unfold fK enK;rw[h2];unfold C9 F7;rw[Ay7]
theorem Iy7{X:Ec}(h:et4 X):SameE X (ofX X):=by
 obtain⟨h1,h2,h3,h4⟩:=h;unfold ofX;refine⟨?_,?_,?_,?_⟩
 ·show X.vs.Perm (be4 X.vs)
  rw[ET7 (AW7 Bp7 h1)];exact(List.reverse_perm _).symm
 ·show X.ss.Perm (be4 X.ss)
  rw[ET7 (AW7 DG7 h2)];exact(List.reverse_perm _).symm
 ·show X.ts.Perm (be4 X.ts)
  rw[ET7 (AW7 Aw7 h3)];exact(List.reverse_perm _).symm
 ·show X.ar.Perm (be4 X.ar)
  rw[ET7 (AW7 Aw7 h4)];exact(List.reverse_perm _).symm
theorem Nz7{b:List Int}{X:Ec}(hb:ByB b)(h:cS4 b X)(ha:et4 X):bn4 (ofX X) b:=by have he:=Qe7 hb h;obtain⟨h1,h2,h3,h4⟩:=ha;have n1:=AW7 Bp7 h1;have n2:=AW7 DG7 h2;refine HJ7 n1 n2 (Iy7 ⟨h1,h2,h3,h4⟩) ⟨X.ts,X.ar.map (·.1),List.Perm.refl _,h3,List.Perm.refl _,(List.pairwise_map (f:=fun x:(Int×Int)×Unit=>x.1) (R:=fun x y=>ltW x y=true)).2 h4,?_⟩;have e1:ksE X=X.vs.map (·.1):=GX7 h1;rw[e1,Mv7 h2,<-SZ7 n1,<-Lc7 n2,<-Ld7];exact he
theorem Uw7{t:Tns}(h:es4 t=true):TnOk t:=GW7 (o:=⟨2,t.client,t.seq,t.ak,t.aw,t.tk,t.tw,t.item,t.cnt,0,false,0⟩) h rfl
theorem Ux7{κ ν:Type}{lt:κ->κ->Bool}{l:List (κ×ν)}{ks:List κ}(h:l.map (·.1)=ks)(hp:ks.Pairwise fun x y=>lt x y=true):Asc lt l:=by rw[<-h]at hp;exact List.pairwise_map.1 hp
theorem Kb7{e:Ec}{d:List Int}(h:bn4 e d):ByB d:=by
 obtain⟨T,A,_,_,_,_,rfl⟩:=h;have hr:∀z,ByB z->ByB (F7 z):=fun z hz=>AC7 (Az7 _) hz
 have h1:∀k,ByB (enK e k):=fun k=>AC7 (hr _ (DC7 k)) (hr _ (DF7 _ _ _))
 have h2:∀c,ByB (enS e c):=fun c=>AC7 (AD7 Az7 _) (hr _ (AC7 (AD7 Az7 _) (AD7 Az7 _)))
 have h3:∀x,ByB (enT x):=fun x=>AC7 (AC7 (AD7 Az7 _) (AC7 (hr _ (DC7 _)) (AC7 (hr _ (DC7 _)) (AC7 (hr _ (DC7 _)) (hr _ (DC7 _)))))) (AD7 Az7 _)
 have h4:∀k,ByB (enA k):=fun k=>AD7 Az7 _
 exact AC7 (AC7 (AC7 (AC7 (AC7 (AC7 (AC7 (Az7 _) (AD7 h1 _)) (Az7 _)) (AD7 h2 _)) (Az7 _)) (AD7 h3 _)) (Az7 _)) (AD7 h4 _)
end Go.Proofs.YtlmhakmoioogaaaGreat
end
section
namespace Go.Sl
open Go.RowKit
theorem Sp7{l l':List HP}(hs:l.Sublist l'):∀{h:ad4},sats l' h->sats l h:=by
 induction hs with
 | slnil=>exact fun h=>h
 | cons _ _ ih=>exact fun⟨_,_,h2⟩=>Cm7 (ih h2)
 | cons_cons _ _ ih=>exact fun h=>AO7 (fun _ x=>x) (fun _ x=>ih x) h
end Go.Sl
namespace Go.Proofs.YtlmhakmoioogaaaGreat
open Go.RowKit Go.Sl
theorem ga4{W w:World}{R:List HP}{E:Ev}(k:ByteArray)(h:St W (m9 E::R) w):St W (m9 (j9 E k)::R) w:=h.imp fun _=>Sp7 ((List.filter_sublist).map _)
def RdN(s:RS)(N:Nat):Prop:=∀l,s=some l->ByB l/\l.length<=N
theorem RdN.ok{s:RS}{N:Nat}(h:RdN s N)(hN:N<=100000000):RdOk s:=⟨fun l hl=>(h l hl).1,fun l hl=>Nat.le_trans (h l hl).2 hN⟩
theorem RdN.num{s:RS}{N:Nat}(h:RdN s N):RdN (j7 s).2 N:=fun r hr=>by
 obtain⟨l,rfl⟩:=Ar7 hr;have hb:BS (some l):=fun l' hl'=>by cases hl';exact(h l rfl).1
 exact⟨(AQ7 hb hr).2.2.2,Nat.le_trans (DD7 hb rfl hr) (h l rfl).2⟩
theorem RdN.raw{s:RS}{N:Nat}(h:RdN s N)(n:Int):RdN (aW4 n s).2 N/\(ByB (aW4 n s).1/\(aW4 n s).1.length<=N):=by
 cases s with
 | none=>exact⟨fun l hl=>(by cases hl),fun c hc=>(by cases hc),Nat.zero_le _⟩
 | some l=>
  obtain⟨h1,h2⟩:=h l rfl;unfold aW4;simp only;split
  ·refine⟨fun r hr=>?_,Im7 h1 _,?_⟩
   ·cases hr
    refine⟨Il7 h1 _,?_⟩;rw[List.length_drop];omega
   ·simp only[jT];omega
  ·exact⟨fun r hr=>(by cases hr),fun c hc=>(by cases hc),Nat.zero_le _⟩
theorem RdN.bytes{s:RS}{N:Nat}(h:RdN s N):RdN (m8 s).2 N:=(h.num.raw _).1
theorem RdN.row{s:RS}{N:Nat}(h:RdN s N):ByB (m8 s).1/\(m8 s).1.length<=N:=(h.num.raw _).2
theorem Kc7(b:Bool)(xr rb eb:Nat)(W w:World)(R:List HP)(hS:St W (erR xr rb eb true::R) w):
  Calls Tryz.prog 153 #[.P xr,.bool b] w fun e w'=>e=.returned (.tuple #[])/\St W (erR xr rb eb b::R) w':=by
 have h:=Ut7 true b xr rb eb W w R hS;rw[Bool.true_and]at h;exact h
def ic4{α:Type}(S:List Int->α->List Int->Prop)(W:World)(D:HP)(xr rb eb:Nat)(b:List Int)(f:α->Ec)(R:List HP)(w:World):Prop:=
 (∃y r,S b y r/\RdN (some r) 5000000/\St W (erR xr rb eb true::rdG D rb (some r)::ecP eb (f y)::D::R) w)\/((∀y r,¬S b y r)/\∃s,RdN s 5000000/\St W (erR xr rb eb false::rdG D rb s::D::R) w)
def TfR(W:World)(D:HP)(rb bT:Nat)(L:List HP)(c q:Int)(s2 s3 s4 s5 s6:RS)(z1 z2 z3 z4:ByteArray)(v:Value)(w:World):Prop:=
 (v=.I 0/\St W (rdG D rb s2::blk bT [.I c,.I q,.string (⟨#[]⟩:ByteArray),.string (⟨#[]⟩:ByteArray),.string (⟨#[]⟩:ByteArray),.string (⟨#[]⟩:ByteArray),.I 0,.I 0] 40::L) w) \/
 (v=.I 1/\St W (rdG D rb s3::blk bT [.I c,.I q,.string z1,.string (⟨#[]⟩:ByteArray),.string (⟨#[]⟩:ByteArray),.string (⟨#[]⟩:ByteArray),.I 0,.I 0] 40::L) w) \/
 (v=.I 2/\St W (rdG D rb s4::blk bT [.I c,.I q,.string z1,.string z2,.string (⟨#[]⟩:ByteArray),.string (⟨#[]⟩:ByteArray),.I 0,.I 0] 40::L) w) \/
 (v=.I 3/\St W (rdG D rb s5::blk bT [.I c,.I q,.string z1,.string z2,.string z3,.string (⟨#[]⟩:ByteArray),.I 0,.I 0] 40::L) w) \/
 (v=.I 4/\St W (rdG D rb s6::blk bT [.I c,.I q,.string z1,.string z2,.string z3,.string z4,.I 0,.I 0] 40::L) w)
theorem Le7{e i x0 x1 x2 x3:Int}{rx:List Int}(h:fB4 rx ⟨e,i,⟨x0,x1,x2,x3⟩⟩)(v:Value)(W w:World)(R:List HP)(hS:St W (byR v rx::R) w):
  Calls Tryz.prog 155 #[v] w fun x w'=>x=.returned (.tuple #[rV e i x0 x1 x2 x3,.I 0])/\St W R w':=by
 have hr:=h.1;have hl:=DT7 ⟨e,i,⟨x0,x1,x2,x3⟩⟩;have hn:=Sl7 h.1;have hby:ByB (rpB ⟨e,i,⟨x0,x1,x2,x3⟩⟩):=AC7 (AD7 Az7 _) (AD7 Az7 _);rw[<-h.2]at hn hby hl;obtain⟨a,c,rfl,hd⟩:=LX7 hS;have Hat:=jH (Ju7 hd);have hrd:RdOk (some rx):=⟨fun l hl2=>by cases hl2;exact hby,fun l hl2=>by cases hl2;omega⟩
 have Hrd:=jH hrd;have Hn:=jH hn;have Hr:=jH hr;have Hend:=jH (show cV4 (some [])=true from rfl);clear hd hrd hn hr h hby;go_enter Tryz.func155,Tryz.ntmps155;go_wp2_with(first|(fail_if_success (have:=a1));(refine zal hS ?_;clear hS;have a1:Nat:=0;intro b0 w hS)|(have:=a1);(fail_if_success (have:=a2));(refine zal hS ?_;clear hS;have a2:Nat:=0;intro bX w hS)|(have:=a2);(fail_if_success (have:=a3));(refine zal hS ?_;clear hS;have a3:Nat:=0;intro bE w hS)|refine zs1 hS ?_;clear hS;intro w hS|go_at_call 86;refine(OU7 _ a c rx Hat.out (by omega) W _ _ _ (.tail (.tail (.tail .head))) hS).mono ?_;clear hS;rintro ex w ⟨v2,rb,rfl,hS⟩|refine zbs hS ?_;clear hS;intro bS w hS1;have hS2:St W (blk bS [.P bE,.pointer (some ⟨bX,1,none⟩),.pointer (some ⟨bX,2,none⟩),.pointer (some ⟨bX,3,none⟩),.pointer (some ⟨bX,4,none⟩),.pointer (some ⟨bX,5,none⟩)] 262::_) _:=hS1;clear hS1;have hS:=hS2;clear hS2|go_at_call 196;refine(gX4 Hrd.out .head (hS.s (rdG _ rb (some rx)::blk bE _ _::blk bX _ _::blk bS _ _::byR v2 rx::blk b0 _ _::byR _ rx::R)) Hn.out).mono ?_;clear hS;rintro ex w ⟨rfl,hS⟩|go_at_call 92;refine(FU7 Hend.out W _ _ hS).mono ?_;clear hS;rintro ex w ⟨rfl,hS⟩|refine zl1 hS ?_|refine zlN hS ?_|go_at_call 136;refine(PM7 Hr.out W _ _ hS).mono ?_;clear hS;rintro ex w ⟨rfl,hS⟩|refine zsN hS ?_;clear hS;intro w hS);apply Ac7;rfl;rfl;rfl;rfl;exact hS;decide +kernel;(exact x9);kernel_rfl;exact⟨rfl,hS.s _⟩
theorem Uy7{xr rb eb:Nat}{D:HP}{b:List Int}{e:Ec}{k:ByteArray}{p:Ps}{l:List Ord}{n:Int}{r:List Int}(hy:ca4 b (k,⟨p,l,n⟩) r)(h:RdN (some b) 5000000)(hgd:(m8 (m8 (some b)).2).1.length<=990000)(W w:World)(R:List HP)(hS:St W (erR xr rb eb true::rdG D rb (some b)::ecP eb e::D::R) w):
  Calls Tryz.prog 87 #[.P xr] w fun x w'=>x=.returned (.tuple #[])/\RdN (some r) 5000000/\St W (erR xr rb eb true::rdG D rb (some r)::ecP eb ⟨ptL e.vs (k,⟨p,l,n⟩),e.ss,e.ts,e.ar⟩::D::R) w':=by
 obtain⟨m1,m2,m3,m4,E,hp,hn,hS1⟩:=av4 (hS.s (ecP eb e::erR xr rb eb true::rdG D rb (some b)::D::R));have hS2:=G6 hS1;clear hS hS1;have hS:=hS2.s (rdG D rb (some b)::erR xr rb eb true::ebB eb m1 m2 m3 m4::d8 eS eN m1 (j6 E)::m9 E::d8 eI eSs m2 e.ss::d8 eW eTn m3 e.ts::d8 eW eU m4 e.ar::D::R);clear hS2;obtain⟨y1,y2,hk,hg,hv⟩:=hy;obtain⟨⟨kx,s1⟩,h1⟩:∃y,m8 (some b)=y:=⟨_,rfl⟩
 obtain⟨⟨rx,s2⟩,h2⟩:∃y,m8 s1=y:=⟨_,rfl⟩
 have hs1:RdN s1 5000000:=by have:=h.bytes;rw[h1]at this;exact this
 have hs2:RdN s2 5000000:=by have:=hs1.bytes;rw[h2]at this;exact this
 rw[h1]at y1 y2 hg hgd;simp only at y1 y2 hk hg hv hgd;rw[h2]at y1 hg hgd;simp only at y1 hg hgd;have hb:ByB rx/\rx.length<=990000:=by have h3:=hs1.row;rw[h2]at h3;exact⟨h3.1,hgd⟩
 have hw:=(SY7 hb.1 hg).2;have hk2:=hk;rw[y2]at hk2;have hk3:1<=kx.length/\kx.length<=16:=by unfold C8 at hk2;rw[Ey7]at hk2;simpa using hk2
 have d1:decide ((1:Int)<=((E7 kx).size:Int))=true:=by rw[Ey7];simp;omega
 have d2:decide (((E7 kx).size:Int)<=16)=true:=by rw[Ey7];simp;omega
 have hrl:=hb.2;have Hok:=jH (h.ok (by decide));have Hok1:=jH (hs1.ok (by decide));have Hs2:=jH hs2;have H1:=jH h1;have H2:=jH h2;have Hb:=jH hb;have Hp:=jH hp;have Hw:=jH hw;have Hg:=jH hg;have Hv:=jH hv;have E9:=jH y1;have K9:=jH y2;clear h hs1 h1 hgd hs2 h2 hb hp hn hw hg hv hk hk2 hk3 y1 y2;go_enter Tryz.func87,Tryz.ntmps87
 go_wp2_with(first|refine zl1 hS ?_|(fail_if_success (have:=y1));go_at_call 151;refine(BT7 H1.out Hok.out W _ _ _ (by exact j5) hS).mono ?_;clear hS;rintro x w ⟨v1,rfl,hS⟩;have y1:Nat:=0|(with_reducible apply AF7 (ns:=kx) hS);rfl;rfl;rfl;exact Tryz.underlying63;exact Tryz.underlying5;exact Tryz.underlying9;exact Take.head;refine frS ?_|(have:=y1);(go_at_call 151;refine(BT7 H2.out Hok1.out W _ _ _ (by exact j5) (hS.s (rdG D rb s1::erR xr rb eb true::ebB eb m1 m2 m3 m4::d8 eS eN m1 (j6 E)::m9 E::d8 eI eSs m2 e.ss::d8 eW eTn m3 e.ts::d8 eW eU m4 e.ar::D::R))).mono ?_;clear hS;rintro x w ⟨v2,rfl,hS⟩;obtain⟨ra,rc,rfl,hd⟩:=LX7 hS;have Hd:=jH (Ju7 hd);clear hd)|go_at_call 152;refine(Vc7 Hg.out Hd.out Hb.out.1 Hb.out.2 .head hS).mono ?_;clear hS;rintro x w ⟨vb,mb,bb,rfl,hS0⟩;have hS9:=ah4 (V:=⟨p,l,n⟩) hS0;clear hS0;have hS:=hS9.s (erR xr rb eb true::J6 vb ⟨p,l,n⟩::rdG D rb s2::ebB eb m1 m2 m3 m4::d8 eS eN m1 (j6 E)::m9 E::d8 eI eSs m2 e.ss::d8 eW eTn m3 e.ts::d8 eW eU m4 e.ar::D::R);clear hS9|(fail_if_success (have:=y2));(go_at_call 153;refine(Kc7 true xr rb eb W _ _ (hS.s (erR xr rb eb true::J6 vb ⟨p,l,n⟩::rdG D rb s2::ebB eb m1 m2 m3 m4::d8 eS eN m1 (j6 E)::m9 E::d8 eI eSs m2 e.ss::d8 eW eTn m3 e.ts::d8 eW eU m4 e.ar::D::R))).mono ?_;clear hS;have y2:Nat:=0;rintro x w ⟨rfl,hS⟩)|go_at_call 107;refine(GM7 Hv.out vb Hw.out (by omega) W _ _ (hS.s (J6 vb ⟨p,l,n⟩::erR xr rb eb true::rdG D rb s2::ebB eb m1 m2 m3 m4::d8 eS eN m1 (j6 E)::m9 E::d8 eI eSs m2 e.ss::d8 eW eTn m3 e.ts::d8 eW eU m4 e.ar::D::R))).mono ?_;clear hS;rintro x w ⟨rfl,hS⟩|(have:=y2);go_at_call 153;refine(Kc7 true xr rb eb W _ _ (hS.s (erR xr rb eb true::J6 vb ⟨p,l,n⟩::rdG D rb s2::ebB eb m1 m2 m3 m4::d8 eS eN m1 (j6 E)::m9 E::d8 eI eSs m2 e.ss::d8 eW eTn m3 e.ts::d8 eW eU m4 e.ar::D::R))).mono ?_;clear hS;rintro x w ⟨rfl,hS⟩|((with_reducible apply Bs7 (ek:=eS) (ev:=eN) (k:=E7 kx) (u:=vb) hS);rfl;rfl;rfl;rfl;exact j5;(focus(rfl));exact mV;exact kS;clear hS;intro w hS;try(refine frS ?_)))
 go_end0;have e9:=E9.out;have k9:=K9.out;clear E9 K9;subst e9 k9;refine⟨rfl,Hs2.out,?_⟩;have hS0:=ga4 (E7 kx) (hS.s (m9 E::J6 vb ⟨p,l,n⟩::d8 eS eN m1 ((E7 kx,vb)::j9 (j6 E) (E7 kx))::erR xr rb eb true::rdG D rb (some r)::ebB eb m1 m2 m3 m4::d8 eI eSs m2 e.ss::d8 eW eTn m3 e.ts::d8 eW eU m4 e.ar::D::R));clear hS;rw[Io7]at hS0;have hS1:St W (m9 ((E7 kx,(vb,⟨p,l,n⟩))::j9 E (E7 kx))::_) w:=cb4 (x:=(E7 kx,(vb,⟨p,l,n⟩))) hS0.swap
 have hp2:(r6 ((E7 kx,(vb,(⟨p,l,n⟩:Vs)))::j9 E (E7 kx))).Perm (ptL e.vs (E7 kx,⟨p,l,n⟩)):=by
  unfold ptL;refine List.Perm.cons _ ?_;show(r6 (j9 E (E7 kx))).Perm (j9 e.vs (E7 kx))
  rw[<-GJ7];exact Hp.out.filter _
 have h9:=S8 (e:=⟨ptL e.vs (E7 kx,⟨p,l,n⟩),e.ss,e.ts,e.ar⟩) (E:=(E7 kx,(vb,⟨p,l,n⟩))::j9 E (E7 kx)) hp2 (hS1.s (ebB eb m1 m2 m3 m4::d8 eS eN m1 ((E7 kx,vb)::j6 (j9 E (E7 kx)))::m9 ((E7 kx,(vb,⟨p,l,n⟩))::j9 E (E7 kx))::d8 eI eSs m2 e.ss::d8 eW eTn m3 e.ts::d8 eW eU m4 e.ar::erR xr rb eb true::rdG D rb (some r)::D::R));exact h9.s _
abbrev tB23a:List Nat:=[0,1,3,7,15,0,32,96,224,511,1023,2047]
theorem Uz7{xr rb eb:Nat}{D:HP}{b:List Int}{e:Ec}{c0 q0:Int}{r:List Int}(hy:cm4 b ((c0,q0),()) r)(h:RdN (some b) 5000000)(W w:World)(R:List HP)(hS:St W (erR xr rb eb true::rdG D rb (some b)::ecP eb e::D::R) w):
  Calls Tryz.prog 90 #[.P xr] w fun x w'=>x=.returned (.tuple #[])/\RdN (some r) 5000000/\St W (erR xr rb eb true::rdG D rb (some r)::ecP eb ⟨e.vs,e.ss,e.ts,ptL e.ar ((c0,q0),())⟩::D::R) w':=by
 obtain⟨m1,m2,m3,m4,E,hp,hS1⟩:=cN4 (hS.s (ecP eb e::erR xr rb eb true::rdG D rb (some b)::D::R));clear hS;have hS:=hS1.s (rdG D rb (some b)::D::erR xr rb eb true::ebB eb m1 m2 m3 m4::d8 eI eSs m2 e.ss::d8 eW eU m4 e.ar::d8 eW eTn m3 e.ts::d8 eS eN m1 (j6 E)::m9 E::R);clear hS1;obtain⟨⟨c0,s1⟩,h1⟩:∃y,j7 (some b)=y:=⟨_,rfl⟩
 obtain⟨⟨q0,s2⟩,h2⟩:∃y,j7 s1=y:=⟨_,rfl⟩
 have hn1:RdN s1 5000000:=by have:=h.num;rw[h1]at this;exact this
 have hn2:RdN s2 5000000:=by have:=hn1.num;rw[h2]at this;exact this
 obtain⟨y1,y2,y3⟩:=hy;rw[h1]at y1 y2;simp only at y1 y2 y3;rw[h2]at y1 y2;simp only[Prod.mk.injEq]at y1 y2;obtain⟨rfl,rfl⟩:=y2;have Hok:=jH (h.ok (by decide));have Hok1:=jH (hn1.ok (by decide));have Hs2:=jH hn2;have H1:=jH h1;have H2:=jH h2;have Hp:=jH hp;have Hw:=jH y3;have E9:=jH y1;clear y1 y3 h h1 h2 hp hn1 hn2;go_enter Tryz.func90,Tryz.ntmps90;go_wp2_with(fail);refine rf3 tB23a (fun _=>false) (fun i=>if i==4 then some (.I c0)else if i==9 then some (.I q0)else none) [⟨some 4,some 9,fun _=>rdG D rb s1⟩,⟨some 9,none,fun _=>rdG D rb s2⟩] [some 4,none,none] hS ?_;clear hS;intro nd;refine cR ?_;refine zcn ?_;refine cR ?_;refine zc1 ?_;refine zcv ?_ (hs:=by(intro F w hS;(try clear hS0);exact Ch7 H1.out Hok.out W w _ _ .head hS));refine cR ?_;refine zcn ?_;refine cR ?_;refine zc1 ?_;refine zcv ?_ (hs:=by(intro F w hS;(try clear hS0);exact Ch7 H2.out Hok1.out W w _ _ .head hS))
 iterate 2 (refine cR ?_)
 refine Ad7 ?_;intro w hS;have hS2:St W [rdG D rb s2,D,erR xr rb eb true,sats (ebB eb m1 m2 m3 m4::d8 eI eSs m2 e.ss::d8 eW eU m4 e.ar::d8 eW eTn m3 e.ts::d8 eS eN m1 (j6 E)::m9 E::R)] w:=hS;clear hS;have hS:=hS2.unpack [_,_,_];clear hS2;simp only[jK,jN]at hS;go_wp2_with(first|refine zl1 hS ?_|go_at_call 156;refine(SX7 Hw.out W _ _ hS).mono ?_;clear hS;rintro x w ⟨rfl,hS⟩|go_at_call 153;refine(Kc7 true xr rb eb W _ _ (hS.s (erR xr rb eb true::rdG D rb s2::D::ebB eb m1 m2 m3 m4::d8 eI eSs m2 e.ss::d8 eW eU m4 e.ar::d8 eW eTn m3 e.ts::d8 eS eN m1 (j6 E)::m9 E::R))).mono ?_;clear hS;rintro x w ⟨rfl,hS⟩|((with_reducible apply Bs7 (ek:=eW) (ev:=eU) (k:=(c0,q0)) (u:=()) hS);rfl;rfl;rfl;rfl;exact j5;(focus(rfl));exact mAr;exact kW;clear hS;intro w hS;try(refine frS ?_)));go_end0;have e9:=E9.out;clear E9;subst e9;refine⟨rfl,Hs2.out,?_⟩;have h9:=S8 (e:=⟨e.vs,e.ss,e.ts,ptL e.ar ((c0,q0),())⟩) Hp.out (hS.s (ebB eb m1 m2 m3 m4::d8 eS eN m1 (j6 E)::m9 E::d8 eI eSs m2 e.ss::d8 eW eTn m3 e.ts::d8 eW eU m4 (((c0,q0),())::j9 e.ar (c0,q0))::erR xr rb eb true::rdG D rb (some r)::D::R));exact h9.s _
theorem UA7{xr rb eb:Nat}{D:HP}{b:List Int}{e:Ec}{c0 q0 r0 r1 r2 r3 r4 r5:Int}{r:List Int}(hy:cE4 b (c0,(q0,⟨r0,r1,⟨r2,r3,r4,r5⟩⟩)) r)(h:RdN (some b) 5000000)(W w:World)(R:List HP)(hS:St W (erR xr rb eb true::rdG D rb (some b)::ecP eb e::D::R) w):
  Calls Tryz.prog 88 #[.P xr] w fun x w'=>x=.returned (.tuple #[])/\RdN (some r) 5000000/\St W (erR xr rb eb true::rdG D rb (some r)::ecP eb ⟨e.vs,ptL e.ss (c0,(q0,⟨r0,r1,⟨r2,r3,r4,r5⟩⟩)),e.ts,e.ar⟩::D::R) w':=by
 obtain⟨m1,m2,m3,m4,E,hp,hS1⟩:=cN4 (hS.s (ecP eb e::erR xr rb eb true::rdG D rb (some b)::D::R));clear hS;have hS:=hS1.s (rdG D rb (some b)::D::erR xr rb eb true::ebB eb m1 m2 m3 m4::d8 eI eSs m2 e.ss::d8 eW eU m4 e.ar::d8 eW eTn m3 e.ts::d8 eS eN m1 (j6 E)::m9 E::R);clear hS1;obtain⟨⟨c0,s1⟩,h1⟩:∃y,j7 (some b)=y:=⟨_,rfl⟩
 obtain⟨⟨q0,s2⟩,h2⟩:∃y,j7 s1=y:=⟨_,rfl⟩
 have hn1:RdN s1 5000000:=by have:=h.num;rw[h1]at this;exact this
 have hn2:RdN s2 5000000:=by have:=hn1.num;rw[h2]at this;exact this
 obtain⟨⟨rx,s3⟩,h3⟩:∃y,m8 s2=y:=⟨_,rfl⟩
 have hn3:RdN s3 5000000:=by have:=hn2.bytes;rw[h3]at this;exact this
 obtain⟨y1,y2,y3,y4,y5⟩:=hy;rw[h1]at y1 y2 y3 y5;simp only at y1 y2 y3 y4 y5;rw[h2]at y1 y3 y5;simp only at y1 y3 y5;rw[h3]at y1 y5;simp only at y1 y5;subst y2 y3;have Hok:=jH (h.ok (by decide));have Hok1:=jH (hn1.ok (by decide));have Hok2:=jH (hn2.ok (by decide));have Hs3:=jH hn3;have H1:=jH h1;have H2:=jH h2;have H3:=jH h3;have Hp:=jH hp;have Hr:=jH y5;have Hw:=jH y4;have E9:=jH y1;clear y1 y4 y5 h h1 h2 h3 hp hn1 hn2 hn3;go_enter Tryz.func88,Tryz.ntmps88;go_wp2_with(fail);refine rf3 tB23a (fun _=>false) (fun i=>if i==4 then some (.I c0)else if i==9 then some (.I q0)else none) [⟨some 4,some 9,fun _=>rdG D rb s1⟩,⟨some 9,none,fun _=>rdG D rb s2⟩] [some 4,none,none] hS ?_;clear hS;intro nd;refine cR ?_;refine zcn ?_;refine cR ?_;refine zc1 ?_;refine zcv ?_ (hs:=by(intro F w hS;(try clear hS0);exact Ch7 H1.out Hok.out W w _ _ .head hS));refine cR ?_;refine zcn ?_;refine cR ?_;refine zc1 ?_;refine zcv ?_ (hs:=by(intro F w hS;(try clear hS0);exact Ch7 H2.out Hok1.out W w _ _ .head hS))
 iterate 2 (refine cR ?_)
 refine Ad7 ?_;intro w hS;have hS2:St W [rdG D rb s2,D,erR xr rb eb true,sats (ebB eb m1 m2 m3 m4::d8 eI eSs m2 e.ss::d8 eW eU m4 e.ar::d8 eW eTn m3 e.ts::d8 eS eN m1 (j6 E)::m9 E::R)] w:=hS;clear hS;have hS:=hS2.unpack [_,_,_];clear hS2;simp only[jK,jN]at hS;go_wp2_with(first|refine zl1 hS ?_|go_at_call 151;refine(BT7 H3.out Hok2.out W _ _ _ .head hS).mono ?_;clear hS;rintro x w ⟨v1,rfl,hS⟩|go_at_call 155;refine(Le7 Hr.out v1 W _ _ hS).mono ?_;clear hS;rintro x w ⟨rfl,hS⟩|refine zal hS ?_;clear hS;intro bA w hS|refine zsN hS ?_;clear hS;intro w hS|go_at_call 156;refine(SX7 Hw.out W _ _ hS).mono ?_;clear hS;rintro x w ⟨rfl,hS⟩|go_at_call 153;refine(Kc7 true xr rb eb W _ _ (hS.s (erR xr rb eb true::blk bA _ _::rdG D rb s3::D::ebB eb m1 m2 m3 m4::d8 eI eSs m2 e.ss::d8 eW eU m4 e.ar::d8 eW eTn m3 e.ts::d8 eS eN m1 (j6 E)::m9 E::R))).mono ?_;clear hS;rintro x w ⟨rfl,hS⟩);refine rt 11 hS ?_
 repeat(first|refine zq1 ?_|refine zqN ?_|refine zqn ?_|refine qR ?_)
 clear hS;intro w hS;simp only[jD,List.drop_zero];go_wp2_with(first|((with_reducible apply Bs7 (ek:=eI) (ev:=eSs) (k:=c0) (u:=(q0,(⟨r0,r1,⟨r2,r3,r4,r5⟩⟩:Rpl))) hS);rfl;rfl;rfl;rfl;exact j5;(focus(rfl));exact mS;exact kEi;clear hS;intro w hS;try(refine frS ?_)));go_end0;have e9:=E9.out;clear E9;subst e9;refine⟨rfl,Hs3.out,?_⟩;have h9:=S8 (e:=⟨e.vs,ptL e.ss (c0,(q0,⟨r0,r1,⟨r2,r3,r4,r5⟩⟩)),e.ts,e.ar⟩) Hp.out (hS.s (ebB eb m1 m2 m3 m4::d8 eS eN m1 (j6 E)::m9 E::d8 eI eSs m2 ((c0,(q0,⟨r0,r1,⟨r2,r3,r4,r5⟩⟩))::j9 e.ss c0)::d8 eW eTn m3 e.ts::d8 eW eU m4 e.ar::erR xr rb eb true::rdG D rb (some r)::D::R));exact h9.s _
theorem UB7{xr rb eb:Nat}{D:HP}{b:List Int}{e:Ec}{x:(Int×Int)×Tns}{r:List Int}(hy:cl4 b x r)(h:RdN (some b) 5000000)(W w:World)(R:List HP)(hS:St W (erR xr rb eb true::rdG D rb (some b)::ecP eb e::D::R) w):
  Calls Tryz.prog 89 #[.P xr] w fun z w'=>z=.returned (.tuple #[])/\RdN (some r) 5000000/\St W (erR xr rb eb true::rdG D rb (some r)::ecP eb ⟨e.vs,e.ss,ptL e.ts x,e.ar⟩::D::R) w':=by
 obtain⟨m1,m2,m3,m4,E,hp,hS1⟩:=cN4 (hS.s (ecP eb e::erR xr rb eb true::rdG D rb (some b)::D::R));clear hS;have hS:=hS1.s (rdG D rb (some b)::D::erR xr rb eb true::ebB eb m1 m2 m3 m4::d8 eI eSs m2 e.ss::d8 eW eU m4 e.ar::d8 eW eTn m3 e.ts::d8 eS eN m1 (j6 E)::m9 E::R);clear hS1;obtain⟨⟨c,s1⟩,h1⟩:∃y,j7 (some b)=y:=⟨_,rfl⟩
 obtain⟨⟨q,s2⟩,h2⟩:∃y,j7 s1=y:=⟨_,rfl⟩
 obtain⟨⟨k1,s3⟩,h3⟩:∃y,m8 s2=y:=⟨_,rfl⟩
 obtain⟨⟨k2,s4⟩,h4⟩:∃y,m8 s3=y:=⟨_,rfl⟩
 obtain⟨⟨k3,s5⟩,h5⟩:∃y,m8 s4=y:=⟨_,rfl⟩
 obtain⟨⟨k4,s6⟩,h6⟩:∃y,m8 s5=y:=⟨_,rfl⟩
 obtain⟨⟨t6,s7⟩,h7⟩:∃y,j7 s6=y:=⟨_,rfl⟩
 obtain⟨⟨t7,s8⟩,h8⟩:∃y,j7 s7=y:=⟨_,rfl⟩
 obtain⟨z1,g1⟩:∃u,E7 k1=u:=⟨_,rfl⟩
 obtain⟨z2,g2⟩:∃u,E7 k2=u:=⟨_,rfl⟩
 obtain⟨z3,g3⟩:∃u,E7 k3=u:=⟨_,rfl⟩
 obtain⟨z4,g4⟩:∃u,E7 k4=u:=⟨_,rfl⟩
 have hn1:RdN s1 5000000:=by have:=h.num;rw[h1]at this;exact this
 have hn2:RdN s2 5000000:=by have:=hn1.num;rw[h2]at this;exact this
 have hn3:RdN s3 5000000:=by have:=hn2.bytes;rw[h3]at this;exact this
 have hn4:RdN s4 5000000:=by have:=hn3.bytes;rw[h4]at this;exact this
 have hn5:RdN s5 5000000:=by have:=hn4.bytes;rw[h5]at this;exact this
 have hn6:RdN s6 5000000:=by have:=hn5.bytes;rw[h6]at this;exact this
 have hn7:RdN s7 5000000:=by have:=hn6.num;rw[h7]at this;exact this
 have hn8:RdN s8 5000000:=by have:=hn7.num;rw[h8]at this;exact this
 have hst:∀(y:(Int×Int)×Tns) (r:List Int),cl4 b y r↔(s8=some r/\y.2=⟨c,q,z1,z2,z3,z4,t6,t7⟩/\y.1=(y.2.client,y.2.seq)/\es4 y.2=true):=fun y r=>by unfold cl4 rdT eW4 ee4 ed4 ec4 eb4 ea4 dZ4;simp only[h1,h2,h3,h4,h5,h6,h7,h8,g1,g2,g3,g4]
 have Hok:=jH (h.ok (by decide));have Hok1:=jH (hn1.ok (by decide));have Hok2:=jH (hn2.ok (by decide));have Hok3:=jH (hn3.ok (by decide));have Hok4:=jH (hn4.ok (by decide));have Hok5:=jH (hn5.ok (by decide));have Hok6:=jH (hn6.ok (by decide));have Hok7:=jH (hn7.ok (by decide));have Hs8:=jH hn8;have H1:=jH h1;have H2:=jH h2;have H3:=jH h3;have H4:=jH h4;have H5:=jH h5;have H6:=jH h6;have H7:=jH h7;have H8:=jH h8;have G1:=jH g1;have G2:=jH g2;have G3:=jH g3;have G4:=jH g4;have Hp:=jH hp;obtain⟨y1,y2,y3,y4⟩:=(hst x r).1 hy;obtain⟨x1,x2⟩:=x;simp only at y2 y3 y4;subst y2;subst y3;have Hm:=jH (show C5 ⟨2,c,q,z1,z2,z3,z4,t6,t7,0,false,0⟩=true from y4);have E9:=jH y1;clear y1 y4 hy;clear h h1 h2 h3 h4 h5 h6 h7 h8 g1 g2 g3 g4 hp hn1 hn2 hn3 hn4 hn5 hn6 hn7 hn8 hst;go_enter Tryz.func89,Tryz.ntmps89;go_wp2_with(fail);refine rf3 [0,1,3,7,15,0,32,96,224,511,1023,0,4095] (fun i=>i==11) (fun i=>if i==4 then some (.I c)else if i==9 then some (.I q)else none) [⟨some 4,some 9,fun _=>rdG D rb s1⟩,⟨some 9,none,fun _=>rdG D rb s2⟩,⟨some 11,some 12,fun nd=>k8 (nd 11) [.I 0,.I 0,.string ⟨#[]⟩,.string ⟨#[]⟩,.string ⟨#[]⟩,.string ⟨#[]⟩,.I 0,.I 0] 40⟩,⟨some 12,none,fun nd=>k8 (nd 11) [.I c,.I q,.string ⟨#[]⟩,.string ⟨#[]⟩,.string ⟨#[]⟩,.string ⟨#[]⟩,.I 0,.I 0] 40⟩] [some 4,none,none] hS ?_;clear hS;intro nd;refine cR ?_;refine zcn ?_;refine cR ?_;refine zc1 ?_;refine zcv ?_ (hs:=by(intro F w hS;(try clear hS0);exact Ch7 H1.out Hok.out W w _ _ .head hS));refine cR ?_;refine zcn ?_;refine cR ?_;refine zc1 ?_;refine zcv ?_ (hs:=by(intro F w hS;(try clear hS0);exact Ch7 H2.out Hok1.out W w _ _ .head hS));refine cR ?_;refine zca ?_;refine zct ?_;refine Ad7 ?_;intro w hS
 have hS2:St W [rdG D rb s2,k8 (nd 11) _ _,D,erR xr rb eb true,sats (ebB eb m1 m2 m3 m4::d8 eI eSs m2 e.ss::d8 eW eU m4 e.ar::d8 eW eTn m3 e.ts::d8 eS eN m1 (j6 E)::m9 E::R)] w:=hS;clear hS;have hS:=hS2.unpack [_,_,_,_];clear hS2;simp only[jK,jN]at hS;generalize nd 11=v12 at *;have hS9:=hS.swap;clear hS;have hS:=hS9;clear hS9;have h1:=hS.ptr;clear hS;obtain⟨bT,rfl,hS⟩:=h1;go_wp2_with(first|refine zbs hS ?_;clear hS;intro bS w hS);have hS2:St W (blk bS [.pointer (some ⟨bT,2,none⟩),.pointer (some ⟨bT,3,none⟩),.pointer (some ⟨bT,4,none⟩),.pointer (some ⟨bT,5,none⟩)] 217::blk bT _ _::rdG D rb s2::D::erR xr rb eb true::ebB eb m1 m2 m3 m4::d8 eI eSs m2 e.ss::d8 eW eU m4 e.ar::d8 eW eTn m3 e.ts::d8 eS eN m1 (j6 E)::m9 E::R) _:=hS;clear hS;have hS:=hS2.s (rdG D rb s2::blk bT [.I c,.I q,.string (⟨#[]⟩:ByteArray),.string (⟨#[]⟩:ByteArray),.string (⟨#[]⟩:ByteArray),.string (⟨#[]⟩:ByteArray),.I 0,.I 0] 40::blk bS [.pointer (some ⟨bT,2,none⟩),.pointer (some ⟨bT,3,none⟩),.pointer (some ⟨bT,4,none⟩),.pointer (some ⟨bT,5,none⟩)] 217::D::erR xr rb eb true::ebB eb m1 m2 m3 m4::d8 eI eSs m2 e.ss::d8 eW eU m4 e.ar::d8 eW eTn m3 e.ts::d8 eS eN m1 (j6 E)::m9 E::R);clear hS2
 go_loopw [26] (fun v wr=>TfR W D rb bT (blk bS [.pointer (some ⟨bT,2,none⟩),.pointer (some ⟨bT,3,none⟩),.pointer (some ⟨bT,4,none⟩),.pointer (some ⟨bT,5,none⟩)] 217::D::erR xr rb eb true::ebB eb m1 m2 m3 m4::d8 eI eSs m2 e.ss::d8 eW eU m4 e.ar::d8 eW eTn m3 e.ts::d8 eS eN m1 (j6 E)::m9 E::R) c q s2 s3 s4 s5 s6 z1 z2 z3 z4 v wr) (fun v _=>4-(intOf v).toNat)
 case atStart=>exact .inl ⟨rfl,hS⟩
 case round=>
  clear hS
  rcases hrel with ⟨rfl,hS⟩|⟨rfl,hS⟩|⟨rfl,hS⟩|⟨rfl,hS⟩|⟨rfl,hS⟩
  ·(go_wp2_with(first|refine zl1 hS ?_|go_at_call 151;refine(BT7 H3.out Hok2.out W _ _ _ (by exact j5) hS).mono ?_;clear hS;rintro x w ⟨v1,rfl,hS⟩|(with_reducible apply AF7 (ns:=k1) hS);rfl;rfl;rfl;exact Tryz.underlying63;exact Tryz.underlying5;exact Tryz.underlying9;exact Take.head;refine frS ?_|refine zs1 hS ?_;clear hS;intro w hS);rw[G1.out]at hS;go_roundw)
   case rel=>exact .inr (.inl ⟨rfl,hS.s _⟩)
   case measure=>simp[intOf]
  ·(go_wp2_with(first|refine zl1 hS ?_|go_at_call 151;refine(BT7 H4.out Hok3.out W _ _ _ (by exact j5) hS).mono ?_;clear hS;rintro x w ⟨v1,rfl,hS⟩|(with_reducible apply AF7 (ns:=k2) hS);rfl;rfl;rfl;exact Tryz.underlying63;exact Tryz.underlying5;exact Tryz.underlying9;exact Take.head;refine frS ?_|refine zs1 hS ?_;clear hS;intro w hS);rw[G2.out]at hS;go_roundw)
   case rel=>exact .inr (.inr (.inl ⟨rfl,hS.s _⟩))
   case measure=>simp[intOf]
  ·(go_wp2_with(first|refine zl1 hS ?_|go_at_call 151;refine(BT7 H5.out Hok4.out W _ _ _ (by exact j5) hS).mono ?_;clear hS;rintro x w ⟨v1,rfl,hS⟩|(with_reducible apply AF7 (ns:=k3) hS);rfl;rfl;rfl;exact Tryz.underlying63;exact Tryz.underlying5;exact Tryz.underlying9;exact Take.head;refine frS ?_|refine zs1 hS ?_;clear hS;intro w hS);rw[G3.out]at hS;go_roundw)
   case rel=>exact .inr (.inr (.inr (.inl ⟨rfl,hS.s _⟩)))
   case measure=>simp[intOf]
  ·(go_wp2_with(first|refine zl1 hS ?_|go_at_call 151;refine(BT7 H6.out Hok5.out W _ _ _ (by exact j5) hS).mono ?_;clear hS;rintro x w ⟨v1,rfl,hS⟩|(with_reducible apply AF7 (ns:=k4) hS);rfl;rfl;rfl;exact Tryz.underlying63;exact Tryz.underlying5;exact Tryz.underlying9;exact Take.head;refine frS ?_|refine zs1 hS ?_;clear hS;intro w hS);rw[G4.out]at hS;go_roundw)
   case rel=>exact .inr (.inr (.inr (.inr ⟨rfl,hS.s _⟩)))
   case measure=>simp[intOf]
  ·go_wp2_with(fail);refine rf3 [0,1,3,7,15,0,32,96,224,511,1023,2047,4095,8191] (fun _=>false) (fun i=>if i==4 then some (.I t6)else if i==9 then some (.I t7)else none) [⟨some 4,some 9,fun _=>rdG D rb s7⟩,⟨some 9,none,fun _=>rdG D rb s8⟩,⟨some 11,some 13,fun _=>blk bT [.I c,.I q,.string z1,.string z2,.string z3,.string z4,.I t6,.I 0] 40⟩,⟨some 13,none,fun _=>blk bT [.I c,.I q,.string z1,.string z2,.string z3,.string z4,.I t6,.I t7] 40⟩] [some 4,some 11,none,none,none] hS ?_;clear hS;intro nd;refine cR ?_;refine zcn ?_;refine cR ?_;refine zc1 ?_;refine zcv ?_ (hs:=by(intro F w hS;(try clear hS0);exact Ch7 H7.out Hok6.out W w _ _ (by exact D5) hS));refine cR ?_;refine zcn ?_;refine cR ?_;refine zc1 ?_;refine zcv ?_ (hs:=by(intro F w hS;(try clear hS0);exact Ch7 H8.out Hok7.out W w _ _ (by exact D5) hS));refine cR ?_;refine zcs ?_;refine cR ?_;refine zcs ?_;refine Ad7 ?_;intro w hS;have hS2:St W [rdG D rb s8,blk bT [.I c,.I q,.string z1,.string z2,.string z3,.string z4,.I t6,.I t7] 40,blk bS [.pointer (some ⟨bT,2,none⟩),.pointer (some ⟨bT,3,none⟩),.pointer (some ⟨bT,4,none⟩),.pointer (some ⟨bT,5,none⟩)] 217,D,erR xr rb eb true,sats (ebB eb m1 m2 m3 m4::d8 eI eSs m2 e.ss::d8 eW eU m4 e.ar::d8 eW eTn m3 e.ts::d8 eS eN m1 (j6 E)::m9 E::R)] w:=hS;clear hS;have hS:=hS2.unpack [_,_,_,_,_];clear hS2;simp only[jK,jN]at hS
   go_wp2_with(first|refine zlN hS ?_ (vs:=[.string z1,.string z2]) (hc:=by first|exact i8.here rfl|exact i8.there (i8.here rfl))|refine zlN hS ?_ (vs:=[.string z3,.string z4]) (hc:=by first|exact i8.here rfl|exact i8.there (i8.here rfl))|refine zl1 hS ?_|go_at_call 85;refine(Ci7 Hm.out W _ _ hS).mono ?_;clear hS;rintro x w ⟨rfl,hS⟩|go_at_call 153;refine(Kc7 true xr rb eb W _ _ (hS.s (erR xr rb eb true::blk bT _ _::rdG D rb s8::D::ebB eb m1 m2 m3 m4::d8 eI eSs m2 e.ss::d8 eW eU m4 e.ar::d8 eW eTn m3 e.ts::d8 eS eN m1 (j6 E)::m9 E::R))).mono ?_;clear hS;rintro x w ⟨rfl,hS⟩);refine rt 13 hS ?_
   repeat(first|refine zq1 ?_|refine zqN ?_|refine zqn ?_|refine qR ?_)
   clear hS;intro w hS;simp only[jD,List.drop_zero];go_wp2_with(first|((with_reducible apply Bs7 (ek:=eW) (ev:=eTn) (k:=(c,q)) (u:=(⟨c,q,z1,z2,z3,z4,t6,t7⟩:Tns)) hS);rfl;rfl;rfl;rfl;exact j5;(focus(rfl));exact mT;exact kW;clear hS;intro w hS;try(refine frS ?_)));go_end0;have e9:=E9.out;clear E9;subst e9;refine⟨rfl,Hs8.out,?_⟩;have h9:=S8 (e:=⟨e.vs,e.ss,ptL e.ts ((c,q),⟨c,q,z1,z2,z3,z4,t6,t7⟩),e.ar⟩) Hp.out (hS.s (ebB eb m1 m2 m3 m4::d8 eS eN m1 (j6 E)::m9 E::d8 eI eSs m2 e.ss::d8 eW eTn m3 (((c,q),⟨c,q,z1,z2,z3,z4,t6,t7⟩)::j9 e.ts (c,q))::d8 eW eU m4 e.ar::erR xr rb eb true::rdG D rb (some r)::D::R));exact h9.s _
def id4{α:Type}(S:List Int->α->List Int->Prop)(W:World)(D:HP)(xr rb eb:Nat)(s:RS)(f:List α->Ec)(R:List HP)(w:World):Prop:=
 (∃b1 l r,j7 s=((l.length:Int),some b1)/\bN4 S b1 l r/\RdN (some r) 5000000/\St W (erR xr rb eb true::rdG D rb (some r)::ecP eb (f l)::D::R) w) \/
 ((∀b1 l r,j7 s=((l.length:Int),some b1)->¬bN4 S b1 l r)/\∃ok s',(ok=false\/s'=none)/\RdN s' 5000000/\St W (erR xr rb eb ok::rdG D rb s'::D::R) w)
def TmR{α:Type}(S:List Int->α->List Int->Prop)(W:World)(D:HP)(xr rb eb:Nat)(s:RS)(f:List α->Ec)(R:List HP)(v:Value)(w:World):Prop:=
 ∃k:Nat,v=.I k/\k<=4611686018427387904 /\
 ((∃b1 l m,j7 s=(((l.length+k:Nat):Int),some b1)/\bN4 S b1 l m/\RdN (some m) 5000000/\St W (erR xr rb eb true::rdG D rb (some m)::ecP eb (f l)::D::R) w) \/
 ((∀b1 l r,j7 s=((l.length:Int),some b1)->¬bN4 S b1 l r)/\∃s',RdN s' 5000000/\St W (erR xr rb eb false::rdG D rb s'::D::R) w) \/
 ((∀b1 l r,j7 s=((l.length:Int),some b1)->¬bN4 S b1 l r)/\St W (erR xr rb eb true::rdG D rb none::D::R) w))
def ie4(s:RS):Prop:=∀(b1 m:List Int) (n:Nat) (l:List (ByteArray×Vs)),j7 s=((n:Int),some b1)->bN4 ca4 b1 l m->l.length<n->(m8 (m8 (some m)).2).1.length<=990000
def TyR{α:Type}(S:List Int->α->List Int->Prop)(W:World)(D:HP)(xr rb eb:Nat)(L:List α)(r0:List Int)(f:List α->Ec)(R:List HP)(v:Value)(w:World):Prop:=
 ∃(l1 l2:List α) (m:List Int),v=.I (l2.length:Nat)/\L=l1++l2/\bN4 S m l2 r0/\RdN (some m) 5000000/\St W (erR xr rb eb true::rdG D rb (some m)::ecP eb (f l1)::D::R) w
theorem gY4{b r:List Int}{x:ByteArray×Vs}(h:ca4 b x r)(hl:(I5 x.2.ps x.2.L x.2.n).length<=990000):(m8 (m8 (some b)).2).1.length<=990000:=by obtain⟨_,_,_,⟨s,_,_,_,_,g5⟩,_⟩:=h;rw[<-g5];exact hl
theorem Sq7{xr rb eb:Nat}{D:HP}{b b1 r0:List Int}{L:List (ByteArray×Vs)}{e e2:Ec}(h1:j7 (some b)=((L.length:Int),some b1))(h2:bN4 ca4 b1 L r0)(hl:∀x∈L,(I5 x.2.ps x.2.L x.2.n).length<=990000)(h:RdN (some b) 5000000)(he:⟨L.foldl ptL e.vs,e.ss,e.ts,e.ar⟩=e2)(W w:World)(R:List HP)(hS:St W (erR xr rb eb true::rdG D rb (some b)::ecP eb e::D::R) w):
  Calls Tryz.prog 91 #[.P xr,.func (.func 87) #[.P xr] #[]] w fun x w'=>x=.returned (.tuple #[])/\RdN (some r0) 5000000/\St W (erR xr rb eb true::rdG D rb (some r0)::ecP eb e2::D::R) w':=by
 have hr:=Cg7 (some b);have hn1:RdN (some b1) 5000000:=by have:=h.num;rw[h1]at this;exact this
 rw[h1]at hr;simp only at hr;subst he;obtain⟨f,hf⟩:∃f:List (ByteArray×Vs)->Ec,f=fun l=>⟨l.foldl ptL e.vs,e.ss,e.ts,e.ar⟩:=⟨_,rfl⟩
 have hf0:f []=e:=by rw[hf];rfl
 have hfL:f L=⟨L.foldl ptL e.vs,e.ss,e.ts,e.ar⟩:=by rw[hf]
 have hfs:∀l y,(⟨ptL (f l).vs y,(f l).ss,(f l).ts,(f l).ar⟩:Ec)=f (l++[y]):=fun l y=>by rw[hf];simp only[List.foldl_append];rfl
 rw[<-hfL];rw[<-hf0]at hS;have Hok:=jH (h.ok (by decide));have H1:=jH h1;have H2:=jH h2;have Hn1:=jH hn1;have Hr:=jH hr;have Hfs:=jH hfs;have Hf0:=jH hf0;have Hl:=jH hl;clear hl;clear h h1 h2 hn1 hf hf0 hfL hfs hr;go_enter Tryz.func91,Tryz.ntmps91;go_wp2_with(first|refine zl1 hS ?_|go_at_call 154;refine(Ch7 H1.out Hok.out W _ _ _ (.tail (.tail .head)) (hS.s (rdG D rb (some b)::erR xr rb eb true::ecP eb (f [])::D::R))).mono ?_;clear hS;rintro x w ⟨rfl,hS⟩)
 go_loopw [4] (fun v wr=>TyR ca4 W D xr rb eb L r0 f R v wr) (fun v _=>(intOf v).toNat)
 case atStart=>exact⟨[],L,b1,rfl,rfl,H2.out,Hn1.out,hS.swap⟩
 case round=>
  clear hS;obtain⟨l1,l2,m,rfl,e1,q2,q3,hS⟩:=hrel
  cases l2 with
  | nil=>
   have q4:m=r0:=q2;subst q4;rw[List.append_nil]at e1;have E1:=jH e1;clear e1 q2;go_wp2_with(fail);go_end0;rw[E1.out];exact⟨rfl,q3,hS⟩
  | cons y l2=>
   have hk:(y::l2).length<=4611686018427387904:=by have h3:=Hr.out.2;rw[e1,jA]at h3;omega
   obtain⟨m2,g1,g2⟩:=q2;have G1:=jH g1;have G2:=jH g2;have Q3:=jH q3;have E1:=jH e1;have HG:=jH (gY4 g1 (Hl.out y (by rw[e1];exact List.mem_append_right _ (List.mem_cons_self ..))));have d1:decide (0<l2.length+1)=true:=by simp
   rw[jC]at hk ⊢;clear q3 g1 g2 e1;obtain⟨yk,⟨yp,yl,yn⟩⟩:=y;go_wp2_with(first|refine zl1 hS ?_|go_at_call 157;refine(DE7 W _ _ (hS.s (rdG D rb (some m)::erR xr rb eb true::ecP eb (f l1)::D::R))).mono ?_;clear hS;rintro x w ⟨rfl,hS⟩|go_at_call 87;refine(Uy7 G1.out Q3.out HG.out W _ _ (hS.s (erR xr rb eb true::rdG D rb (some m)::ecP eb (f l1)::D::R))).mono ?_;clear hS;rintro x w ⟨rfl,hn2,hS⟩;have Hn2:=jH hn2;clear hn2);go_roundw
   case rel=>
    refine⟨l1++[_],l2,m2,by simp,by rw[jS];exact E1.out,G2.out,Hn2.out,?_⟩;rw[<-Hfs.out];exact hS
   case measure=>simp[intOf]
theorem Sr7{xr rb eb:Nat}{D:HP}{b b1 r0:List Int}{L:List (Int×(Int×Rpl))}{e e2:Ec}(h1:j7 (some b)=((L.length:Int),some b1))(h2:bN4 cE4 b1 L r0)(h:RdN (some b) 5000000)(he:⟨e.vs,L.foldl ptL e.ss,e.ts,e.ar⟩=e2)(W w:World)(R:List HP)(hS:St W (erR xr rb eb true::rdG D rb (some b)::ecP eb e::D::R) w):
  Calls Tryz.prog 91 #[.P xr,.func (.func 88) #[.P xr] #[]] w fun x w'=>x=.returned (.tuple #[])/\RdN (some r0) 5000000/\St W (erR xr rb eb true::rdG D rb (some r0)::ecP eb e2::D::R) w':=by
 have hr:=Cg7 (some b);have hn1:RdN (some b1) 5000000:=by have:=h.num;rw[h1]at this;exact this
 rw[h1]at hr;simp only at hr;subst he;obtain⟨f,hf⟩:∃f:List (Int×(Int×Rpl))->Ec,f=fun l=>⟨e.vs,l.foldl ptL e.ss,e.ts,e.ar⟩:=⟨_,rfl⟩
 have hf0:f []=e:=by rw[hf];rfl
 have hfL:f L=⟨e.vs,L.foldl ptL e.ss,e.ts,e.ar⟩:=by rw[hf]
 have hfs:∀l y,(⟨(f l).vs,ptL (f l).ss y,(f l).ts,(f l).ar⟩:Ec)=f (l++[y]):=fun l y=>by rw[hf];simp only[List.foldl_append];rfl
 rw[<-hfL];rw[<-hf0]at hS;have Hok:=jH (h.ok (by decide));have H1:=jH h1;have H2:=jH h2;have Hn1:=jH hn1;have Hr:=jH hr;have Hfs:=jH hfs;have Hf0:=jH hf0;clear h h1 h2 hn1 hf hf0 hfL hfs hr;go_enter Tryz.func91,Tryz.ntmps91;go_wp2_with(first|refine zl1 hS ?_|go_at_call 154;refine(Ch7 H1.out Hok.out W _ _ _ (.tail (.tail .head)) (hS.s (rdG D rb (some b)::erR xr rb eb true::ecP eb (f [])::D::R))).mono ?_;clear hS;rintro x w ⟨rfl,hS⟩)
 go_loopw [4] (fun v wr=>TyR cE4 W D xr rb eb L r0 f R v wr) (fun v _=>(intOf v).toNat)
 case atStart=>exact⟨[],L,b1,rfl,rfl,H2.out,Hn1.out,hS.swap⟩
 case round=>
  clear hS;obtain⟨l1,l2,m,rfl,e1,q2,q3,hS⟩:=hrel
  cases l2 with
  | nil=>
   have q4:m=r0:=q2;subst q4;rw[List.append_nil]at e1;have E1:=jH e1;clear e1 q2;go_wp2_with(fail);go_end0;rw[E1.out];exact⟨rfl,q3,hS⟩
  | cons y l2=>
   have hk:(y::l2).length<=4611686018427387904:=by have h3:=Hr.out.2;rw[e1,jA]at h3;omega
   obtain⟨m2,g1,g2⟩:=q2;have G1:=jH g1;have G2:=jH g2;have Q3:=jH q3;have E1:=jH e1;have d1:decide (0<l2.length+1)=true:=by simp
   rw[jC]at hk ⊢;clear q3 g1 g2 e1;obtain⟨yc,⟨yq,⟨y0,y1,⟨y2,y3,y4,y5⟩⟩⟩⟩:=y;go_wp2_with(first|refine zl1 hS ?_|go_at_call 157;refine(DE7 W _ _ (hS.s (rdG D rb (some m)::erR xr rb eb true::ecP eb (f l1)::D::R))).mono ?_;clear hS;rintro x w ⟨rfl,hS⟩|go_at_call 88;refine(UA7 G1.out Q3.out W _ _ (hS.s (erR xr rb eb true::rdG D rb (some m)::ecP eb (f l1)::D::R))).mono ?_;clear hS;rintro x w ⟨rfl,hn2,hS⟩;have Hn2:=jH hn2;clear hn2);go_roundw
   case rel=>
    refine⟨l1++[_],l2,m2,by simp,by rw[jS];exact E1.out,G2.out,Hn2.out,?_⟩;rw[<-Hfs.out];exact hS
   case measure=>simp[intOf]
theorem Ss7{xr rb eb:Nat}{D:HP}{b b1 r0:List Int}{L:List ((Int×Int)×Tns)}{e e2:Ec}(h1:j7 (some b)=((L.length:Int),some b1))(h2:bN4 cl4 b1 L r0)(h:RdN (some b) 5000000)(he:⟨e.vs,e.ss,L.foldl ptL e.ts,e.ar⟩=e2)(W w:World)(R:List HP)(hS:St W (erR xr rb eb true::rdG D rb (some b)::ecP eb e::D::R) w):
  Calls Tryz.prog 91 #[.P xr,.func (.func 89) #[.P xr] #[]] w fun x w'=>x=.returned (.tuple #[])/\RdN (some r0) 5000000/\St W (erR xr rb eb true::rdG D rb (some r0)::ecP eb e2::D::R) w':=by
 have hr:=Cg7 (some b);have hn1:RdN (some b1) 5000000:=by have:=h.num;rw[h1]at this;exact this
 rw[h1]at hr;simp only at hr;subst he;obtain⟨f,hf⟩:∃f:List ((Int×Int)×Tns)->Ec,f=fun l=>⟨e.vs,e.ss,l.foldl ptL e.ts,e.ar⟩:=⟨_,rfl⟩
 have hf0:f []=e:=by rw[hf];rfl
 have hfL:f L=⟨e.vs,e.ss,L.foldl ptL e.ts,e.ar⟩:=by rw[hf]
 have hfs:∀l y,(⟨(f l).vs,(f l).ss,ptL (f l).ts y,(f l).ar⟩:Ec)=f (l++[y]):=fun l y=>by rw[hf];simp only[List.foldl_append];rfl
 rw[<-hfL];rw[<-hf0]at hS;have Hok:=jH (h.ok (by decide));have H1:=jH h1;have H2:=jH h2;have Hn1:=jH hn1;have Hr:=jH hr;have Hfs:=jH hfs;have Hf0:=jH hf0;clear h h1 h2 hn1 hf hf0 hfL hfs hr;go_enter Tryz.func91,Tryz.ntmps91;go_wp2_with(first|refine zl1 hS ?_|go_at_call 154;refine(Ch7 H1.out Hok.out W _ _ _ (.tail (.tail .head)) (hS.s (rdG D rb (some b)::erR xr rb eb true::ecP eb (f [])::D::R))).mono ?_;clear hS;rintro x w ⟨rfl,hS⟩)
 go_loopw [4] (fun v wr=>TyR cl4 W D xr rb eb L r0 f R v wr) (fun v _=>(intOf v).toNat)
 case atStart=>exact⟨[],L,b1,rfl,rfl,H2.out,Hn1.out,hS.swap⟩
 case round=>
  clear hS;obtain⟨l1,l2,m,rfl,e1,q2,q3,hS⟩:=hrel
  cases l2 with
  | nil=>
   have q4:m=r0:=q2;subst q4;rw[List.append_nil]at e1;have E1:=jH e1;clear e1 q2;go_wp2_with(fail);go_end0;rw[E1.out];exact⟨rfl,q3,hS⟩
  | cons y l2=>
   have hk:(y::l2).length<=4611686018427387904:=by have h3:=Hr.out.2;rw[e1,jA]at h3;omega
   obtain⟨m2,g1,g2⟩:=q2;have G1:=jH g1;have G2:=jH g2;have Q3:=jH q3;have E1:=jH e1;have d1:decide (0<l2.length+1)=true:=by simp
   rw[jC]at hk ⊢;clear q3 g1 g2 e1;go_wp2_with(first|refine zl1 hS ?_|go_at_call 157;refine(DE7 W _ _ (hS.s (rdG D rb (some m)::erR xr rb eb true::ecP eb (f l1)::D::R))).mono ?_;clear hS;rintro x w ⟨rfl,hS⟩|go_at_call 89;refine(UB7 G1.out Q3.out W _ _ (hS.s (erR xr rb eb true::rdG D rb (some m)::ecP eb (f l1)::D::R))).mono ?_;clear hS;rintro x w ⟨rfl,hn2,hS⟩;have Hn2:=jH hn2;clear hn2);go_roundw
   case rel=>
    refine⟨l1++[_],l2,m2,by simp,by rw[jS];exact E1.out,G2.out,Hn2.out,?_⟩;rw[<-Hfs.out];exact hS
   case measure=>simp[intOf]
theorem St7{xr rb eb:Nat}{D:HP}{b b1 r0:List Int}{L:List ((Int×Int)×Unit)}{e e2:Ec}(h1:j7 (some b)=((L.length:Int),some b1))(h2:bN4 cm4 b1 L r0)(h:RdN (some b) 5000000)(he:⟨e.vs,e.ss,e.ts,L.foldl ptL e.ar⟩=e2)(W w:World)(R:List HP)(hS:St W (erR xr rb eb true::rdG D rb (some b)::ecP eb e::D::R) w):
  Calls Tryz.prog 91 #[.P xr,.func (.func 90) #[.P xr] #[]] w fun x w'=>x=.returned (.tuple #[])/\RdN (some r0) 5000000/\St W (erR xr rb eb true::rdG D rb (some r0)::ecP eb e2::D::R) w':=by
 have hr:=Cg7 (some b);have hn1:RdN (some b1) 5000000:=by have:=h.num;rw[h1]at this;exact this
 rw[h1]at hr;simp only at hr;subst he;obtain⟨f,hf⟩:∃f:List ((Int×Int)×Unit)->Ec,f=fun l=>⟨e.vs,e.ss,e.ts,l.foldl ptL e.ar⟩:=⟨_,rfl⟩
 have hf0:f []=e:=by rw[hf];rfl
 have hfL:f L=⟨e.vs,e.ss,e.ts,L.foldl ptL e.ar⟩:=by rw[hf]
 have hfs:∀l y,(⟨(f l).vs,(f l).ss,(f l).ts,ptL (f l).ar y⟩:Ec)=f (l++[y]):=fun l y=>by rw[hf];simp only[List.foldl_append];rfl
 rw[<-hfL];rw[<-hf0]at hS;have Hok:=jH (h.ok (by decide));have H1:=jH h1;have H2:=jH h2;have Hn1:=jH hn1;have Hr:=jH hr;have Hfs:=jH hfs;have Hf0:=jH hf0;clear h h1 h2 hn1 hf hf0 hfL hfs hr;go_enter Tryz.func91,Tryz.ntmps91;go_wp2_with(first|refine zl1 hS ?_|go_at_call 154;refine(Ch7 H1.out Hok.out W _ _ _ (.tail (.tail .head)) (hS.s (rdG D rb (some b)::erR xr rb eb true::ecP eb (f [])::D::R))).mono ?_;clear hS;rintro x w ⟨rfl,hS⟩)
 go_loopw [4] (fun v wr=>TyR cm4 W D xr rb eb L r0 f R v wr) (fun v _=>(intOf v).toNat)
 case atStart=>exact⟨[],L,b1,rfl,rfl,H2.out,Hn1.out,hS.swap⟩
 case round=>
  clear hS;obtain⟨l1,l2,m,rfl,e1,q2,q3,hS⟩:=hrel
  cases l2 with
  | nil=>
   have q4:m=r0:=q2;subst q4;rw[List.append_nil]at e1;have E1:=jH e1;clear e1 q2;go_wp2_with(fail);go_end0;rw[E1.out];exact⟨rfl,q3,hS⟩
  | cons y l2=>
   have hk:(y::l2).length<=4611686018427387904:=by have h3:=Hr.out.2;rw[e1,jA]at h3;omega
   obtain⟨m2,g1,g2⟩:=q2;have G1:=jH g1;have G2:=jH g2;have Q3:=jH q3;have E1:=jH e1;have d1:decide (0<l2.length+1)=true:=by simp
   rw[jC]at hk ⊢;clear q3 g1 g2 e1;obtain⟨⟨yc,yq⟩,⟨⟩⟩:=y;go_wp2_with(first|refine zl1 hS ?_|go_at_call 157;refine(DE7 W _ _ (hS.s (rdG D rb (some m)::erR xr rb eb true::ecP eb (f l1)::D::R))).mono ?_;clear hS;rintro x w ⟨rfl,hS⟩|go_at_call 90;refine(Uz7 G1.out Q3.out W _ _ (hS.s (erR xr rb eb true::rdG D rb (some m)::ecP eb (f l1)::D::R))).mono ?_;clear hS;rintro x w ⟨rfl,hn2,hS⟩;have Hn2:=jH hn2;clear hn2);go_roundw
   case rel=>
    refine⟨l1++[_],l2,m2,by simp,by rw[jS];exact E1.out,G2.out,Hn2.out,?_⟩;rw[<-Hfs.out];exact hS
   case measure=>simp[intOf]
def DyR(W:World)(D:HP)(xr rb eb bS:Nat)(b b2 b4 b6:List Int)(X:Ec)(R:List HP)(v:Value)(w:World):Prop:=
 (v=.I 0/\St W (erR xr rb eb true::rdG D rb (some b)::ecP eb ec0::D::blk bS [.func (.func 87) #[.P xr] #[],.func (.func 88) #[.P xr] #[],.func (.func 89) #[.P xr] #[],.func (.func 90) #[.P xr] #[]] 1::R) w) \/
 (v=.I 1/\RdN (some b2) 5000000/\St W (erR xr rb eb true::rdG D rb (some b2)::ecP eb ⟨be4 X.vs,[],[],[]⟩::D::blk bS [.func (.func 87) #[.P xr] #[],.func (.func 88) #[.P xr] #[],.func (.func 89) #[.P xr] #[],.func (.func 90) #[.P xr] #[]] 1::R) w) \/
 (v=.I 2/\RdN (some b4) 5000000/\St W (erR xr rb eb true::rdG D rb (some b4)::ecP eb ⟨be4 X.vs,be4 X.ss,[],[]⟩::D::blk bS [.func (.func 87) #[.P xr] #[],.func (.func 88) #[.P xr] #[],.func (.func 89) #[.P xr] #[],.func (.func 90) #[.P xr] #[]] 1::R) w) \/
 (v=.I 3/\RdN (some b6) 5000000/\St W (erR xr rb eb true::rdG D rb (some b6)::ecP eb ⟨be4 X.vs,be4 X.ss,be4 X.ts,[]⟩::D::blk bS [.func (.func 87) #[.P xr] #[],.func (.func 88) #[.P xr] #[],.func (.func 89) #[.P xr] #[],.func (.func 90) #[.P xr] #[]] 1::R) w) \/
 (v=.I 4/\St W (erR xr rb eb true::rdG D rb (some [])::ecP eb (ofX X)::D::blk bS [.func (.func 87) #[.P xr] #[],.func (.func 88) #[.P xr] #[],.func (.func 89) #[.P xr] #[],.func (.func 90) #[.P xr] #[]] 1::R) w)
theorem Qf7(D0:HP)(a:Option Addr)(c:Nat)(b:List Int){X:Ec}(hp:cS4 b X)(ha:et4 X)(hl:∀x∈X.vs,(I5 x.2.ps x.2.L x.2.n).length<=990000)(hat:At D0 a c b)(hb:ByB b)(hN:b.length<=5000000)(henc:EncOk (ofX X))(W w:World)(R R':List HP)(ht:Take R D0 R')(hS:St W R w):
  Calls Tryz.prog 34 #[.slice a b.length c] w fun x w'=>∃eb,x=.returned (.tuple #[.P eb,.I 0])/\St W (ecP eb (ofX X)::R) w':=by
 have Hrn:=jH (show RdN (some b) 5000000 from fun l hl=>by cases hl;exact⟨hb,hN⟩);have Hat:=jH hat
 have Hok:=jH henc;have Hb:=jH hb;have Hgood:=jH (Nz7 hb hp ha);have Hl:=jH hl;obtain⟨b1,b2,b3,b4,b5,b6,b7,p1,p2,p3,p4,p5,p6,p7,p8⟩:=hp;have P1:=jH p1;have P2:=jH p2;have P3:=jH p3;have P4:=jH p4;have P5:=jH p5;have P6:=jH p6;have P7:=jH p7;have P8:=jH p8;clear hat henc hb hl ha p1 p2 p3 p4 p5 p6 p7 p8;go_enter Tryz.func34,Tryz.ntmps34;go_wp2_with(first|go_at_call 86;refine(OU7 D0 a c b Hat.out (by omega) W _ _ _ (by first|exact ht|exact .tail ht|exact .tail (.tail ht)) hS).mono ?_;clear hS;rintro x w ⟨v2,rb,rfl,hS⟩|go_at_call 15;refine(GL7 W _ _ hS).mono ?_;clear hS;rintro x w ⟨eb,rfl,hS⟩|refine zbx hS ?_;clear hS;intro xr w hS|refine zbs hS ?_;clear hS;intro bS w hS);obtain⟨D,hD⟩:∃D,D=byR v2 b:=⟨_,rfl⟩
 have hS0:St W (blk bS [.func (.func 87) #[.P xr] #[],.func (.func 88) #[.P xr] #[],.func (.func 89) #[.P xr] #[],.func (.func 90) #[.P xr] #[]] 1::erR xr rb eb true::ecP eb ec0::rdG (byR v2 b) rb (some b)::byR v2 b::R) _:=hS;rw[<-hD]at hS0;clear hS hD;have hS:=hS0.s (erR xr rb eb true::rdG D rb (some b)::ecP eb ec0::D::blk bS [.func (.func 87) #[.P xr] #[],.func (.func 88) #[.P xr] #[],.func (.func 89) #[.P xr] #[],.func (.func 90) #[.P xr] #[]] 1::R);clear hS0
 go_loopw [22] (fun v wr=>DyR W D xr rb eb bS b b2 b4 b6 X R v wr) (fun v _=>4-(intOf v).toNat)
 case atStart=>exact .inl ⟨rfl,hS⟩
 case round=>
  clear hS
  rcases hrel with ⟨rfl,hS⟩|⟨rfl,hq,hS⟩|⟨rfl,hq,hS⟩|⟨rfl,hq,hS⟩|⟨rfl,hS⟩
  ·go_wp2_with(first|refine zl1 hS ?_|go_at_call 91;refine(Sq7 P1.out P2.out Hl.out Hrn.out rfl W _ _ hS).mono ?_;clear hS;rintro x w ⟨rfl,hn,hS⟩;have Hn:=jH hn;clear hn);go_roundw
   case rel=>exact .inr (.inl ⟨rfl,Hn.out,hS⟩)
   case measure=>simp[intOf]
  ·have Hq:=jH hq;clear hq;go_wp2_with(first|refine zl1 hS ?_|go_at_call 91;refine(Sr7 P3.out P4.out Hq.out rfl W _ _ hS).mono ?_;clear hS;rintro x w ⟨rfl,hn,hS⟩;have Hn:=jH hn;clear hn);go_roundw
   case rel=>exact .inr (.inr (.inl ⟨rfl,Hn.out,hS⟩))
   case measure=>simp[intOf]
  ·have Hq:=jH hq;clear hq;go_wp2_with(first|refine zl1 hS ?_|go_at_call 91;refine(Ss7 P5.out P6.out Hq.out rfl W _ _ hS).mono ?_;clear hS;rintro x w ⟨rfl,hn,hS⟩;have Hn:=jH hn;clear hn);go_roundw
   case rel=>exact .inr (.inr (.inr (.inl ⟨rfl,Hn.out,hS⟩)))
   case measure=>simp[intOf]
  ·have Hq:=jH hq;clear hq;go_wp2_with(first|refine zl1 hS ?_|go_at_call 91;refine(St7 P7.out P8.out Hq.out rfl W _ _ hS).mono ?_;clear hS;rintro x w ⟨rfl,hn,hS⟩;have Hn:=jH hn;clear hn);go_roundw
   case rel=>exact .inr (.inr (.inr (.inr ⟨rfl,hS⟩)))
   case measure=>simp[intOf]
  ·have Hend:=jH (show cV4 (some [])=true from rfl);go_wp2_with(first|refine zl1 hS ?_|go_at_call 92;refine(FU7 Hend.out W _ _ (hS.s (rdG D rb (some [])::erR xr rb eb true::ecP eb (ofX X) ::R))).mono ?_;clear hS;rintro x w ⟨rfl,hS⟩|go_at_call 27;refine(JY7 Hok.out W _ _ (hS.s (ecP eb (ofX X)::erR xr rb eb true::R))).mono ?_;clear hS;rintro x w ⟨v9,d9,rfl,hd9,hS⟩;have Hd9:=jH hd9;clear hd9|go_at_call 93;refine(KI7 D0 a c b d9 v9 Hat.out ((TO7 (Kb7 Hd9.out) Hb.out).trans (decide_eq_true (Ix7 Hd9.out Hgood.out))) W _ _ _ _ (.tail (.tail (.tail ht))) .head hS).mono ?_;clear hS;rintro x w ⟨rfl,hS⟩);go_ret2;exact⟨eb,rfl,hS.s _⟩
end Go.Proofs.YtlmhakmoioogaaaGreat
end
