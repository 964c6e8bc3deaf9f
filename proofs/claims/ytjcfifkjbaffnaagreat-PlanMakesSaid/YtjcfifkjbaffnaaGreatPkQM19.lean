/-
  The plan's heap of hosts.
-/
import Derived.Test.YtjcfifkjbaffnaaGreatPkQM5
import Derived.Test.YtjcfifkjbaffnaaGreatPkQM18
set_option maxHeartbeats 16000000
set_option maxRecDepth 100000
set_option linter.unusedSimpArgs false
set_option linter.unusedVariables false
section
namespace Go.Proofs.YtjcfifkjbaffnaaGreat
open Go.RowKit Go.Sl
def beC(x:Int×Int):List Value:=[.I x.1,.I x.2]
theorem AL7(x:Int×Int):(beC x).length=2:=rfl
theorem bD4(v:Value)(w:World):(Instr.typeAssert (.iface 96 v) 20 96 false).run Tryz.prog w=.ok v w:=by kernel_rfl
abbrev bsV(g n cap:Nat)(least:Bool):Value:=.agg #[.S g n cap,.bool least]
theorem Hi7(g n cap:Nat)(least:Bool)(W w:World)(L:List HP)(hS:St W L w):
  Calls Tryz.prog 116 #[bsV g n cap least] w fun e w'=>e=.returned (.I n)/\St W L w':=by
 go_enter Tryz.func116,Tryz.ntmps116;go_wp2_with(first|go_big_skip|refine zbx hS ?_ (l:=[.S g n cap,.bool least]);clear hS;intro b3 w hS|refine zl1 hS ?_);go_ret;exact⟨rfl,hS.drop⟩
theorem Fq7{xs:List (Int×Int)}{i j:Nat}{hi:i<xs.length}{hj:j<xs.length}{least r:Bool}(hr:l8 least xs[i] xs[j]=r)(junk:List Value)(g n cap:Nat)(hn:xs.length=n)(hcap:n<=cap)(hm:cap<=maxLen)(W w:World)(L:List HP)(hS:St W (blk g (xs.flatMap beC++junk) 96::L) w):
  Calls Tryz.prog 117 #[bsV g n cap least,.I i,.I j] w fun e w'=>e=.returned (.bool r)/\St W (blk g (xs.flatMap beC++junk) 96::L) w':=by
 subst hn;unfold maxLen at hm;have hi9:∀{K:List HP},a7 (blk g (xs.flatMap beC++junk) 96::K) g (i*2) (beC xs[i]):=a7.elem AL7 hi;have hj9:∀{K:List HP},a7 (blk g (xs.flatMap beC++junk) 96::K) g (j*2) (beC xs[j]):=a7.elem AL7 hj;obtain⟨x,hx⟩:∃x,x=xs[i]:=⟨_,rfl⟩
 obtain⟨y,hy⟩:∃y,y=xs[j]:=⟨_,rfl⟩
 rw[<-hx]at hi9 hr;rw[<-hy]at hj9 hr;obtain⟨x1,x2⟩:=x;obtain⟨y1,y2⟩:=y;obtain⟨n,hn⟩:∃n,n=xs.length:=⟨_,rfl⟩
 rw[<-hn]at hi hj hcap ⊢;obtain⟨cells,hcs⟩:∃cells,cells=xs.flatMap beC++junk:=⟨_,rfl⟩
 rw[<-hcs]at hi9 hj9 hS ⊢;clear hx hy hcs hn;simp only[beC]at hi9 hj9;unfold l8 at hr;simp only at hr;go_enter Tryz.func117,Tryz.ntmps117;go_wp2_with(first|go_big_skip|refine zbx hS ?_ (l:=[.S g n cap,.bool least]);clear hS;intro b3 w hS)
 refine rf2 [0,1,0,7,15,0,32,0,224,480,0,0,3103,8191] (fun i=>i==10||i==11) [⟨some 10,some 12,fun nd=>f7 (nd 10) [.I 0,.I 0] 96⟩,⟨some 12,none,fun nd=>f7 (nd 10) [.I x1,.I x2] 96⟩,⟨some 11,some 13,fun nd=>f7 (nd 11) [.I 0,.I 0] 96⟩,⟨some 13,none,fun nd=>f7 (nd 11) [.I y1,.I y2] 96⟩]
  [none,none] hS.swap ?_
 intro nd
 repeat(first|refine zc1 ?_|refine zcN ?_ (vs:=[.I x1,.I x2]) (hc:=by(intro F;exact hi9))|refine zcN ?_ (vs:=[.I y1,.I y2]) (hc:=by(intro F;exact hj9))|refine zca ?_|refine zct ?_|refine cR ?_)
 refine AC7 ?_;clear hS;intro w hS0;have hS1:St W [f7 (nd 10) [.I x1,.I x2] 96,f7 (nd 11) [.I y1,.I y2] 96,blk g cells 96,blk b3 [.S g n cap,.bool least] 99,sats L] w:=hS0;generalize nd 10=v17 at *;generalize nd 11=v18 at *;have hS2:St W (_::_::_::_::L) w:=hS1.unpack [_,_,_,_];clear hS0 hS1;obtain⟨ba,rfl,hS3⟩:=hS2.ptr;obtain⟨bb,rfl,hS4⟩:=hS3.swap.ptr;clear hS2 hS3;have hS:=hS4.s (blk ba [.I x1,.I x2] 96::blk bb [.I y1,.I y2] 96::blk b3 [.S g n cap,.bool least] 99::blk g cells 96::L);clear hS4;by_cases he:x2=y2
 ·have e1:(x2 != y2)=false:=by simpa using he
  rw[if_neg (by simpa using he)]at hr;have Hr:=jH hr;clear hr he;go_wp2_with(first|go_big_skip|refine zl1 hS ?_);go_ret;rw[<-Hr.out];exact⟨rfl,hS.drop.drop.drop⟩
 ·have e1:(x2 != y2)=true:=by simpa using he
  rw[if_pos he]at hr;have Hr:=jH hr;clear hr he;go_wp2_with(first|go_big_skip|refine zl1 hS ?_);go_ret;rw[<-Hr.out];exact⟨rfl,hS.drop.drop.drop⟩
theorem FP7(xs:List (Int×Int))(junk:List Value)(g n cap i j:Nat)(least:Bool)(hn:xs.length=n)(hi:i<xs.length)(hj:j<xs.length)(hcap:n<=cap)(hm:cap<=maxLen)(W w:World)(L:List HP)(hS:St W (blk g (xs.flatMap beC++junk) 96::L) w):
  Calls Tryz.prog 118 #[bsV g n cap least,.I i,.I j] w fun e w'=>e=.returned (.tuple #[])/\St W (blk g ((swB xs i j hi hj).flatMap beC++junk) 96::L) w':=by
 subst hn;unfold maxLen at hm;have hlt:∀k,k<xs.length->k*2+2<=xs.length*2:=fun k hk=>by omega
 have hfl:=Am7 AL7 xs;have hfl2:=Am7 AL7 (xs.set i xs[j]);rw[List.length_set]at hfl2;obtain⟨n,hn⟩:∃n,n=xs.length:=⟨_,rfl⟩
 have hin:i<n:=by omega
 have hjn:j<n:=by omega
 rw[<-hn]at hcap ⊢;have Hfl:=jH hfl;have Hfl2:=jH hfl2;have Hlt:=jH hlt;clear hfl hfl2 hlt hn;go_enter Tryz.func118,Tryz.ntmps118;go_wp2_with(first|go_big_skip|refine zbx hS ?_ (l:=[.S g n cap,.bool least]);clear hS;intro b3 w hS)
 refine rf2 [0,1,0,0,8,0,0,64,0,448,960,0,2048,0,14336,30720,65479,131015,262143,524287] (fun i=>false) [⟨some 17,some 19,fun nd=>blk g ((xs.set i xs[j]).flatMap beC++junk) 96⟩,⟨some 19,none,fun nd=>blk g ((swB xs i j hi hj).flatMap beC++junk) 96⟩]
  [some 17,none] hS.swap ?_
 intro nd
 repeat(first|refine zc1 ?_|refine zcN ?_ (vs:=beC xs[j]) (hc:=by(intro F;exact a7.elem AL7 hj))|refine zcN ?_ (vs:=beC xs[i]) (hc:=by(intro F;exact a7.elem AL7 hi))|(apply aO4 (vs:=beC xs[j]);rfl;rfl;rfl;rfl;(focus((conv=>lhs;whnf);try rfl));rfl;kernel_rfl;rfl;rfl;((have hfl:=Hfl.out;have hlt:=Hlt.out);rw[jA,hfl,AL7];have:=hlt i hi;omega);exact ER7 AL7 xs junk i hi xs[j];rfl;try(refine frS ?_))|(apply aO4 (vs:=beC xs[i]);rfl;rfl;rfl;rfl;(focus((conv=>lhs;whnf);try rfl));rfl;kernel_rfl;rfl;rfl;((have hfl2:=Hfl2.out;have hlt:=Hlt.out);rw[jA,hfl2,AL7];have:=hlt j hj;omega);exact ER7 AL7 (xs.set i xs[j]) junk j (by simpa using hj) xs[i];rfl;try(refine frS ?_))|refine cR ?_)
 refine AC7 ?_;clear hS;intro w hS0;have hS1:St W [blk g ((swB xs i j hi hj).flatMap beC++junk) 96,blk b3 _ _,sats L] w:=hS0;have hS:=hS1.unpack [_,_];clear hS0 hS1;simp only[jK,jN]at hS;go_wp2_with(first|go_big_skip);go_end0;exact⟨rfl,hS.swap.drop⟩
theorem FQ7(xs:List (Int×Int))(x1 x2:Int)(bb n:Nat)(least:Bool)(v:Value)(hn:xs.length=n)(h63:n<=4294967296)(W w:World)(L:List HP)(hS:St W (blk bb [v,.bool least] 99::row v 2 96 n (xs.flatMap beC)::L) w):
  Calls Tryz.prog 119 #[.P bb,.iface 96 (.agg #[.I x1,.I x2])] w fun e w'=>∃v',e=.returned (.tuple #[])/\St W (blk bb [v',.bool least] 99::row v' 2 96 (n+1) ((xs++[(x1,x2)]).flatMap beC)::L) w':=by
 obtain⟨va,vc,rfl⟩:=hS.drop.rowVal;have hta:=bD4;go_enter Tryz.func119,Tryz.ntmps119;go_wp2_with(first|go_big_skip)
 refine rf2 [0,0,2,6,14,0,32,96,254,511,1023,2047] (fun i=>i==7||i==8) [⟨some 7,none,fun nd=>I6 (nd 7) 1 1 [.I x1,.I x2] 96⟩,⟨some 8,none,fun nd=>row (nd 8) 2 96 (n+1) (xs.flatMap beC++[.I x1,.I x2])⟩,⟨some 11,none,fun nd=>blk bb [nd 8,.bool least] 99⟩]
  [some 11,some 8] hS ?_
 intro nd
 repeat(first|refine zc1 ?_|apply ay4;rfl;rfl;rfl;(focus(simp only[fD,fI,fJ,Act.eval,fE,fF,fG,fH,fK];try rfl));exact esS;exact rsS;rfl;rfl;rfl;rfl;intro _;rfl;rfl;intro _;rfl;refine frS ?_|apply Ch7;rfl;rfl;rfl;(focus((conv=>lhs;whnf);try rfl));(focus((conv=>lhs;whnf);try rfl));exact esS;exact rsS;rfl;decide;rfl;intro F w hS;exact Dg7 hS (by exact I7);(focus(try rfl));rfl;(focus(unfold maxLen;omega));(focus(omega));intro _;rfl;intro _;rfl;refine frS ?_|(apply Gj7;rfl;rfl;rfl;rfl;(focus((conv=>lhs;whnf);try rfl));kernel_rfl;rfl;intro F w hS;exact hS.rowOne (by exact I7);(focus(simp));rfl;rfl;try(refine frS ?_))|refine zcn ?_|refine cR ?_)
 refine AC7 ?_;clear hS;intro w hS0;have hS1:St W [I6 (nd 7) 1 1 _ _,row (nd 8) 2 _ (n+1) _,blk bb [nd 8,.bool least] 99,sats L] w:=hS0;generalize nd 8=v7 at *;have hS:=hS1.drop.swap.unpack [_,_];clear hS0 hS1;simp only[jK,jN]at hS;go_wp2_with(first|go_big_skip);go_end0;refine⟨v7,rfl,?_⟩;rw[List.flatMap_append];exact hS
def UpB(W:World)(L:List HP)(bb g cap:Nat)(least:Bool)(junk:List Value)(n:Nat)(r:List (Int×Int))(v:Value)(w:World):Prop:=
 ∃(k:Nat) (ys:List (Int×Int)),v=.I k/\k<ys.length/\ys.length=n/\upB (l8 least) k ys k=r/\St W (blk bb [.S g n cap,.bool least] 99::blk g (ys.flatMap beC++junk) 96::L) w
theorem Ij7(xs:List (Int×Int))(junk:List Value)(bb g n cap j:Nat)(least:Bool)(hn:xs.length=n)(hj:j<n)(hcap:n<=cap)(hm:cap<=maxLen)(W w:World)(L:List HP)
  (hS:St W (blk bb [.S g n cap,.bool least] 99::blk g (xs.flatMap beC++junk) 96::L) w):
  Calls Tryz.prog 91 #[.iface 100 (.P bb),.I j] w fun e w'=>e=.returned (.tuple #[])/\St W (blk bb [.S g n cap,.bool least] 99::blk g ((upB (l8 least) j xs j).flatMap beC++junk) 96::L) w':=by
 have hm':cap<=9223372036854775807:=by unfold maxLen at hm;omega
 go_enter Tryz.func91,Tryz.ntmps91;go_wp2_with fail
 go_loopw [1] (fun v wr=>UpB W L bb g cap least junk n (upB (l8 least) j xs j) v wr) (fun v _=>(intOf v).toNat)
 case atStart=>exact⟨j,xs,rfl,by omega,hn,rfl,hS⟩
 case round=>
  clear hS;obtain⟨k,ys,rfl,hk,hyn,hr,hS⟩:=hrel;have Hr:=jH hr;have Hyn:=jH hyn;clear hr hyn hn;have hkn:k<n:=by have:=Hyn.out;omega
  by_cases h0:k=0
  ·subst h0;go_wp2_with fail;go_end0;exact⟨rfl,by rw[<-Hr.out];exact hS⟩
  ·obtain⟨i,hi0⟩:∃i,i=(k-1) / 2:=⟨_,rfl⟩
   have hik:i<k:=by omega
   have hi:((k:Int)-1) / 2=(i:Int):=by omega
   have hne:((i:Int)==(k:Int))=false:=by simp;omega
   have hil:i<ys.length:=by omega
   have hu:upB (l8 least) k ys k=if l8 least ys[k] ys[i]=true then upB (l8 least) (k-1) (swB ys i k hil hk) i else ys:=by
    subst hi0;obtain⟨k',rfl⟩:∃k',k=k'+1:=⟨k-1,by omega⟩
    rw[upB,dif_pos ⟨by omega,hk⟩];rfl
   have hm1:i<=k-1:=by omega
   have Hu:=jH hu;clear hu hi0
   cases hb:l8 least ys[k] ys[i]
   ·have Hb:=jH hb;clear hb;go_wp2_with(first|(with_reducible apply AZ7 117 hS);rfl;rfl;rfl;decide +kernel;decide +kernel;exact a7.whole;kernel_rfl;(focus(simp only[fD,fI,fJ,Act.eval,fE,fF,fG,fH,fK];try rfl));simp only[List.append_toArray,jK,jN];(try simp only[hi]);refine Calls.mono (Fq7 Hb.out junk g n cap Hyn.out hcap hm _ _ _ hS.swap) ?_;(clear hS;rintro e w ⟨rfl,hS⟩;refine⟨_,rfl,?_⟩;try(refine frS ?_)));go_end0;have hr:=Hu.out;rw[Hb.out]at hr;exact⟨rfl,by rw[<-Hr.out,hr];exact hS.swap⟩
   ·have Hb:=jH hb;clear hb;go_wp2_with(first|(with_reducible apply AZ7 117 hS);rfl;rfl;rfl;decide +kernel;decide +kernel;exact a7.whole;kernel_rfl;(focus(simp only[fD,fI,fJ,Act.eval,fE,fF,fG,fH,fK];try rfl));simp only[List.append_toArray,jK,jN];(try simp only[hi]);refine Calls.mono (Fq7 Hb.out junk g n cap Hyn.out hcap hm _ _ _ hS.swap) ?_;(clear hS;rintro e w ⟨rfl,hS⟩;refine⟨_,rfl,?_⟩;try(refine frS ?_))|(with_reducible apply AZ7 118 hS);rfl;rfl;rfl;decide +kernel;decide +kernel;exact a7.there a7.whole;kernel_rfl;(focus(simp only[fD,fI,fJ,Act.eval,fE,fF,fG,fH,fK];try rfl));simp only[List.append_toArray,jK,jN];(try simp only[hi]);refine Calls.mono (FP7 ys junk g n cap i k least Hyn.out hil hk hcap hm _ _ _ hS) ?_;(clear hS;rintro e w ⟨rfl,hS⟩;refine⟨_,rfl,?_⟩;try(refine frS ?_)));have hr:=Hu.out;rw[Hb.out,if_pos rfl]at hr;have hup:upB (l8 least) i (swB ys i k hil hk) i=upB (l8 least) (k-1) (swB ys i k hil hk) i:=Fa7 (l8 least) _ _ _ _ (Nat.le_refl _) hm1;go_roundw
    case rel=>exact⟨i,swB ys i k hil hk,rfl,by rw[AS7];exact hil,by rw[AS7];exact Hyn.out,by rw[<-Hr.out,hr,hup],hS.swap⟩
    case measure=>simp[intOf];omega
theorem EI7(xs:List (Int×Int))(x1 x2:Int)(bb n:Nat)(least:Bool)(v:Value)(hn:xs.length=n)(h63:n<=4294967296)(W w:World)(L:List HP)(hS:St W (blk bb [v,.bool least] 99::row v 2 96 n (xs.flatMap beC)::L) w):
  Calls Tryz.prog 71 #[.iface 100 (.P bb),.iface 96 (.agg #[.I x1,.I x2])] w fun e w'=>∃v',e=.returned (.tuple #[])/\St W (blk bb [v',.bool least] 99::row v' 2 96 (n+1) ((J7 (l8 least) xs (x1,x2)).flatMap beC)::L) w':=by
 have Hlen:=jH (show(xs++[(x1,x2)]).length=n+1 by simp[hn]);have hpu:J7 (l8 least) xs (x1,x2)=upB (l8 least) n (xs++[(x1,x2)]) n:=by unfold J7;rw[hn]
 rw[hpu];have Hn:=jH hn;clear hn hpu;go_enter Tryz.func71,Tryz.ntmps71;go_wp2_with(first|((with_reducible apply EF7 119 2);rfl;rfl;rfl;decide +kernel;decide +kernel;decide +kernel;(focus(simp only[fD,fI,fJ,Act.eval,fE,fF,fG,fH,fK];try rfl));simp only[List.append_toArray,jK,jN];refine Calls.mono (FQ7 xs x1 x2 bb n least v Hn.out h63 W _ L hS) ?_;clear hS;rintro e w ⟨v',rfl,hS⟩;refine⟨_,rfl,?_⟩;refine frS ?_;have h1:=hS.swap.rowOpen;clear hS;rcases h1 with ⟨_,h0,_⟩ | ⟨g,cap,junk,rfl,hn1,hm1,hj1,hl1,hS⟩;exfalso;omega;have hm':cap<=9223372036854775807:=(by unfold maxLen at hm1;omega);have hS:=hS.swap)|(with_reducible apply AZ7 116 hS);rfl;rfl;rfl;decide +kernel;decide +kernel;exact a7.whole;kernel_rfl;(focus(simp only[fD,fI,fJ,Act.eval,fE,fF,fG,fH,fK];try rfl));simp only[List.append_toArray,jK,jN];refine Calls.mono (Hi7 _ (n+1) cap least W _ _ hS) ?_;(clear hS;rintro e w ⟨rfl,hS⟩;refine⟨_,rfl,?_⟩;try(refine frS ?_))|go_at_call 91;refine(Ij7 (xs++[(x1,x2)]) junk bb g (n+1) cap n least Hlen.out (by omega) hn1 hm1 W _ L hS).mono ?_;clear hS;rintro e w ⟨rfl,hS⟩);go_end0;refine⟨.S g (n+1) cap,rfl,?_⟩;have hS:=hS.swap;refine(St.rowShut hS hn1 hm1 ?_ ?_).swap
 ·rw[jA,Am7 AL7,EB7,Hlen.out];rw[jA,hl1]at hj1;exact hj1
 ·rw[Am7 AL7,EB7,Hlen.out]
def BeO(W:World)(R:List HP)(bb:Nat)(least:Bool)(ld:Int->Int)(hs:List Int)(v22:Value)(w:World):Prop:=
 ∃(i:Nat) (v:Value),v22=.I i/\i<=hs.length/\St W (blk bb [v,.bool least] 99::row v 2 96 i ((A8 least ld (hs.take i)).flatMap beC)::R) w
def BeI(W:World)(R:List HP)(l:List Ro)(s:Pn)(h:Int)(zs:List Zo)(v8 v32:Value)(w:World):Prop:=
 ∃k:Nat,v32=.I k/\v8=.I (f9 l s h (zs.take k))/\k<=zs.length/\St W R w
theorem Ek7(b:Bool)(ld:Int->Int){hs:List Int}{i:Nat}(h:i<=hs.length):(A8 b ld (hs.take i)).length=i:=by rw[(Bn7 b ld hs i h).length_eq,jM,jT];omega
theorem FR7{E:Pe}{rl:List (Int×Ro)}{s:Pn}{zs:List Zo}{hs:List Int}{V:World}{l:List Ro}(hv:d6 Zo.cells 9 V E.zv zs)(hh:d6 hC 1 V E.hv hs)(hl:zs.length<=16)(hhl:hs.length<=6)(hrl:∀n,(m6 rl n).getD ro0=C5 l n)(least:Bool)(W w:World)(R:List HP)(hS:St W (plP E rl s::Old V::R) w):
  Calls Tryz.prog 46 #[.pointer (some ⟨E.pb,0,none⟩),.bool least] w fun e w'=>∃bb v,e=.returned (.P bb)/\St W (blk bb [v,.bool least] 99::row v 2 96 hs.length ((A8 least (fun h=>f9 l s h zs) hs).flatMap beC)::plP E rl s::Old V::R) w':=by
 have Hrl:=jH hrl;obtain⟨a,cap,hze,_,hact⟩:=hv;obtain⟨ha,hcap,hhe,_,hhact⟩:=hh;have Hat:=jH hact;have Hht:=jH hhact;have HE:=jH hze;have HH:=jH hhe;clear hact hze hhact hhe hrl;go_enter Tryz.func46,Tryz.ntmps46;go_wp2_with(first|go_big_skip|refine zbx hS ?_ (l:=[.slice none 0 0,.bool least]);clear hS;intro bb w hS|refine zl1 hS ?_ (hc:=by(focus((repeat(first|exact j9 HE.out|exact bk4 HH.out|apply a8.there));done))));have hS1:=((hS.s (plP E rl s::Old V::R)).rowNil (k:=2) (T:=96))
 have hS2:St W (blk bb [.slice none 0 0,.bool least] 99::row (.slice none 0 0) 2 96 0 []::plP E rl s::Old V::R) w:=by exact(hS.rowNil (k:=2) (T:=96)).s _
 clear hS hS1
 go_loopw [22] (fun v22 wr=>BeO W (plP E rl s::Old V::R) bb least (fun h=>f9 l s h zs) hs v22 wr) (fun v22 _=>hs.length-(intOf v22).toNat)
 case atStart=>exact⟨0,.slice none 0 0,rfl,Nat.zero_le _,hS2⟩
 case round=>
  clear hS2;obtain⟨i,v,rfl,hi,hS⟩:=hrel;have hi6:i<=6:=by omega
  by_cases hil:i<hs.length
  ·have d1:decide (i<hs.length)=true:=decide_eq_true hil;have hbn:=BY7 least (fun h=>f9 l s h zs) hil;have hbl:=Ek7 least (fun h=>f9 l s h zs) (Nat.le_of_lt hil);obtain⟨pb,poff,rfl,hx⟩:=Hht.out i hil;have hx0:V.cell? ⟨pb,poff+i,none⟩=some (.I hs[i]):=by have:=hx 0 _ rfl;rwa [Nat.mul_one,Nat.add_zero]at this
   obtain⟨h,hhe⟩:∃h,h=hs[i]:=⟨_,rfl⟩
   rw[<-hhe]at hx0 hbn;have Hbn:=jH hbn;have Hbl:=jH hbl;clear hx hhe hi hbn hbl;go_wp2_with(first|go_big_skip|refine zl1 hS ?_ (v:=.I h) (hc:=by exact a8.old (by exact b8) hx0)|refine zl1 hS ?_ (hc:=by(focus((repeat(first|exact j9 HE.out|exact bk4 HH.out|apply a8.there));done))))
   go_loopw [8,32] (fun v8 v32 wr=>BeI W (blk bb [v,.bool least] 99::row v 2 96 i ((A8 least (fun h=>f9 l s h zs) (hs.take i)).flatMap beC)::plP E rl s::Old V::R) l s h zs v8 v32 wr) (fun _ v32 _=>zs.length-(intOf v32).toNat)
   case atStart=>exact⟨0,rfl,rfl,Nat.zero_le _,hS⟩
   case round=>
    clear hS;obtain⟨k,rfl,rfl,hk,hS⟩:=hrel;have hli:=Bl7 l s h (zs.take k);rw[jT]at hli;by_cases hkl:k<zs.length
    ·have d2:decide (k<zs.length)=true:=decide_eq_true hkl;have hnx:=EZ7 l s h hkl;obtain⟨zb,zoff,ea,hall⟩:=Hat.out k hkl;have hhr:=AA7 l zs[k];generalize f9 l s h (zs.take k)=n at hli hnx;obtain⟨n1,n2⟩:=hli;have hn2:n<=17592186044416:=by omega
     obtain⟨z,hz⟩:∃z,z=zs[k]:=⟨_,rfl⟩
     rw[<-hz]at hnx hall hhr;obtain⟨z0,z1,z2,z3,z4,z5,z6,z7,z8⟩:=z;simp only[Zo.cells]at hall;obtain⟨x,hxx⟩:∃x,i9 l ⟨z0,z1,z2,z3,z4,z5,z6,z7,z8⟩=x:=⟨_,rfl⟩
     unfold atZ at hnx;simp only at hnx;rw[hxx]at hnx hhr;obtain⟨x1,x2⟩:=hhr;have Hh:=jH hxx;obtain rfl:a=some ⟨zb,zoff,none⟩:=ea;clear hxx hz n2 hk
     cases h5:z5==3 with
     | true=>
      rw[if_pos (c:=z5=3) (by simpa using h5)]at hnx
      cases hg:m6 s.mv z0 with
      | none=>
       have Hm:=jH (show F9 true (.I 0) ((m6 s.mv z0).map kI)=.tuple #[.I 0,.bool false]by rw[hg];rfl);rw[hg]at hnx;clear hg;simp only[Option.getD_none]at hnx
       cases hb:z6==h with
       | true=>
        rw[if_pos (by simpa using hb)]at hnx;have Hnx:=jH hnx;clear hnx;go_wp2_with(first|go_big_skip|refine zlN hS ?_ (vs:=[.I z0,.string z1,.string z2,.I z3,.I z4,.I z5,.I z6,.string z7,.I z8]) (hc:=by exact a7.old (by exact b8) hall)|refine zal hS ?_;clear hS;intro bZ w hS|refine zsN hS ?_;clear hS;intro w hS|refine zl1 hS ?_);refine Aa7 (by kernel_rfl) (by kernel_rfl) hS ?_
        repeat(first|go_big_quiet_skip|refine zq1 ?_|refine zq1 ?_ (hc:=by(focus((repeat(first|exact aD4|apply a8.there));done)))|refine zqn ?_|(apply Av7 (ek:=kI) (ev:=kI) (k:=z0) (v:=(.tuple #[.I 0,.bool false])));rfl;rfl;rfl;rfl;exact D6 (by(focus((repeat(first|exact .head|apply Take.tail));done)));exact tII;exact mI;exact zI0;exact Hm.out;refine frS ?_|refine qR ?_)
        clear hS;intro w hS;go_wp2_with(first|go_big_skip|refine zlN hS ?_|go_at_call 44;refine(Ah7 Hrl.out Hh.out (by(focus((repeat(first|exact .head|apply Take.tail));done))) hS).mono ?_;clear hS;rintro e w ⟨rfl,hS⟩);go_roundw
        case rel=>exact⟨k+1,rfl,by rw[Hnx.out];first|done|rfl,hkl,hS.s _⟩
        case measure=>simp[intOf];omega
       | false=>
        rw[if_neg (by simpa using hb)]at hnx;have Hnx:=jH (hnx.trans (Int.add_zero _));clear hnx;go_wp2_with(first|go_big_skip|refine zlN hS ?_ (vs:=[.I z0,.string z1,.string z2,.I z3,.I z4,.I z5,.I z6,.string z7,.I z8]) (hc:=by exact a7.old (by exact b8) hall)|refine zal hS ?_;clear hS;intro bZ w hS|refine zsN hS ?_;clear hS;intro w hS|refine zl1 hS ?_);refine Aa7 (by kernel_rfl) (by kernel_rfl) hS ?_
        repeat(first|go_big_quiet_skip|refine zq1 ?_|refine zq1 ?_ (hc:=by(focus((repeat(first|exact aD4|apply a8.there));done)))|refine zqn ?_|(apply Av7 (ek:=kI) (ev:=kI) (k:=z0) (v:=(.tuple #[.I 0,.bool false])));rfl;rfl;rfl;rfl;exact D6 (by(focus((repeat(first|exact .head|apply Take.tail));done)));exact tII;exact mI;exact zI0;exact Hm.out;refine frS ?_|refine qR ?_)
        clear hS;intro w hS;go_wp2_with(first|go_big_skip|refine zlN hS ?_|go_at_call 44;refine(Ah7 Hrl.out Hh.out (by(focus((repeat(first|exact .head|apply Take.tail));done))) hS).mono ?_;clear hS;rintro e w ⟨rfl,hS⟩);go_roundw
        case rel=>exact⟨k+1,rfl,by rw[Hnx.out];first|done|rfl,hkl,hS.s _⟩
        case measure=>simp[intOf];omega
      | some t=>
       have Hm:=jH (show F9 true (.I 0) ((m6 s.mv z0).map kI)=.tuple #[.I t,.bool true]by rw[hg];rfl);rw[hg]at hnx;clear hg;simp only[Option.getD_some]at hnx
       cases hb:t==h with
       | true=>
        rw[if_pos (by simpa using hb)]at hnx;have Hnx:=jH hnx;clear hnx;go_wp2_with(first|go_big_skip|refine zlN hS ?_ (vs:=[.I z0,.string z1,.string z2,.I z3,.I z4,.I z5,.I z6,.string z7,.I z8]) (hc:=by exact a7.old (by exact b8) hall)|refine zal hS ?_;clear hS;intro bZ w hS|refine zsN hS ?_;clear hS;intro w hS|refine zl1 hS ?_);refine Aa7 (by kernel_rfl) (by kernel_rfl) hS ?_
        repeat(first|go_big_quiet_skip|refine zq1 ?_|refine zq1 ?_ (hc:=by(focus((repeat(first|exact aD4|apply a8.there));done)))|refine zqn ?_|(apply Av7 (ek:=kI) (ev:=kI) (k:=z0) (v:=(.tuple #[.I t,.bool true])));rfl;rfl;rfl;rfl;exact D6 (by(focus((repeat(first|exact .head|apply Take.tail));done)));exact tII;exact mI;exact zI0;exact Hm.out;refine frS ?_|refine qR ?_)
        clear hS;intro w hS;go_wp2_with(first|go_big_skip|refine zlN hS ?_|go_at_call 44;refine(Ah7 Hrl.out Hh.out (by(focus((repeat(first|exact .head|apply Take.tail));done))) hS).mono ?_;clear hS;rintro e w ⟨rfl,hS⟩);go_roundw
        case rel=>exact⟨k+1,rfl,by rw[Hnx.out];first|done|rfl,hkl,hS.s _⟩
        case measure=>simp[intOf];omega
       | false=>
        rw[if_neg (by simpa using hb)]at hnx;have Hnx:=jH (hnx.trans (Int.add_zero _));clear hnx;go_wp2_with(first|go_big_skip|refine zlN hS ?_ (vs:=[.I z0,.string z1,.string z2,.I z3,.I z4,.I z5,.I z6,.string z7,.I z8]) (hc:=by exact a7.old (by exact b8) hall)|refine zal hS ?_;clear hS;intro bZ w hS|refine zsN hS ?_;clear hS;intro w hS|refine zl1 hS ?_);refine Aa7 (by kernel_rfl) (by kernel_rfl) hS ?_
        repeat(first|go_big_quiet_skip|refine zq1 ?_|refine zq1 ?_ (hc:=by(focus((repeat(first|exact aD4|apply a8.there));done)))|refine zqn ?_|(apply Av7 (ek:=kI) (ev:=kI) (k:=z0) (v:=(.tuple #[.I t,.bool true])));rfl;rfl;rfl;rfl;exact D6 (by(focus((repeat(first|exact .head|apply Take.tail));done)));exact tII;exact mI;exact zI0;exact Hm.out;refine frS ?_|refine qR ?_)
        clear hS;intro w hS;go_wp2_with(first|go_big_skip|refine zlN hS ?_|go_at_call 44;refine(Ah7 Hrl.out Hh.out (by(focus((repeat(first|exact .head|apply Take.tail));done))) hS).mono ?_;clear hS;rintro e w ⟨rfl,hS⟩);go_roundw
        case rel=>exact⟨k+1,rfl,by rw[Hnx.out];first|done|rfl,hkl,hS.s _⟩
        case measure=>simp[intOf];omega
     | false=>
      rw[if_neg (c:=z5=3) (by simpa using h5)]at hnx
      cases hg:m6 s.mv z0 with
      | none=>
       have Hm:=jH (show F9 true (.I 0) ((m6 s.mv z0).map kI)=.tuple #[.I 0,.bool false]by rw[hg];rfl);rw[hg]at hnx;clear hg;simp only[Option.getD_none]at hnx
       cases hb:z3==h with
       | true=>
        rw[if_pos (by simpa using hb)]at hnx;have Hnx:=jH hnx;clear hnx;go_wp2_with(first|go_big_skip|refine zlN hS ?_ (vs:=[.I z0,.string z1,.string z2,.I z3,.I z4,.I z5,.I z6,.string z7,.I z8]) (hc:=by exact a7.old (by exact b8) hall)|refine zal hS ?_;clear hS;intro bZ w hS|refine zsN hS ?_;clear hS;intro w hS|refine zl1 hS ?_);refine Aa7 (by kernel_rfl) (by kernel_rfl) hS ?_
        repeat(first|go_big_quiet_skip|refine zq1 ?_|refine zq1 ?_ (hc:=by(focus((repeat(first|exact aD4|apply a8.there));done)))|refine zqn ?_|(apply Av7 (ek:=kI) (ev:=kI) (k:=z0) (v:=(.tuple #[.I 0,.bool false])));rfl;rfl;rfl;rfl;exact D6 (by(focus((repeat(first|exact .head|apply Take.tail));done)));exact tII;exact mI;exact zI0;exact Hm.out;refine frS ?_|refine qR ?_)
        clear hS;intro w hS;go_wp2_with(first|go_big_skip|refine zlN hS ?_|go_at_call 44;refine(Ah7 Hrl.out Hh.out (by(focus((repeat(first|exact .head|apply Take.tail));done))) hS).mono ?_;clear hS;rintro e w ⟨rfl,hS⟩);go_roundw
        case rel=>exact⟨k+1,rfl,by rw[Hnx.out];first|done|rfl,hkl,hS.s _⟩
        case measure=>simp[intOf];omega
       | false=>
        rw[if_neg (by simpa using hb)]at hnx;have Hnx:=jH (hnx.trans (Int.add_zero _));clear hnx;go_wp2_with(first|go_big_skip|refine zlN hS ?_ (vs:=[.I z0,.string z1,.string z2,.I z3,.I z4,.I z5,.I z6,.string z7,.I z8]) (hc:=by exact a7.old (by exact b8) hall)|refine zal hS ?_;clear hS;intro bZ w hS|refine zsN hS ?_;clear hS;intro w hS|refine zl1 hS ?_);refine Aa7 (by kernel_rfl) (by kernel_rfl) hS ?_
        repeat(first|go_big_quiet_skip|refine zq1 ?_|refine zq1 ?_ (hc:=by(focus((repeat(first|exact aD4|apply a8.there));done)))|refine zqn ?_|(apply Av7 (ek:=kI) (ev:=kI) (k:=z0) (v:=(.tuple #[.I 0,.bool false])));rfl;rfl;rfl;rfl;exact D6 (by(focus((repeat(first|exact .head|apply Take.tail));done)));exact tII;exact mI;exact zI0;exact Hm.out;refine frS ?_|refine qR ?_)
        clear hS;intro w hS;go_wp2_with(first|go_big_skip|refine zlN hS ?_|go_at_call 44;refine(Ah7 Hrl.out Hh.out (by(focus((repeat(first|exact .head|apply Take.tail));done))) hS).mono ?_;clear hS;rintro e w ⟨rfl,hS⟩);go_roundw
        case rel=>exact⟨k+1,rfl,by rw[Hnx.out];first|done|rfl,hkl,hS.s _⟩
        case measure=>simp[intOf];omega
      | some t=>
       have Hm:=jH (show F9 true (.I 0) ((m6 s.mv z0).map kI)=.tuple #[.I t,.bool true]by rw[hg];rfl);rw[hg]at hnx;clear hg;simp only[Option.getD_some]at hnx
       cases hb:t==h with
       | true=>
        rw[if_pos (by simpa using hb)]at hnx;have Hnx:=jH hnx;clear hnx;go_wp2_with(first|go_big_skip|refine zlN hS ?_ (vs:=[.I z0,.string z1,.string z2,.I z3,.I z4,.I z5,.I z6,.string z7,.I z8]) (hc:=by exact a7.old (by exact b8) hall)|refine zal hS ?_;clear hS;intro bZ w hS|refine zsN hS ?_;clear hS;intro w hS|refine zl1 hS ?_);refine Aa7 (by kernel_rfl) (by kernel_rfl) hS ?_
        repeat(first|go_big_quiet_skip|refine zq1 ?_|refine zq1 ?_ (hc:=by(focus((repeat(first|exact aD4|apply a8.there));done)))|refine zqn ?_|(apply Av7 (ek:=kI) (ev:=kI) (k:=z0) (v:=(.tuple #[.I t,.bool true])));rfl;rfl;rfl;rfl;exact D6 (by(focus((repeat(first|exact .head|apply Take.tail));done)));exact tII;exact mI;exact zI0;exact Hm.out;refine frS ?_|refine qR ?_)
        clear hS;intro w hS;go_wp2_with(first|go_big_skip|refine zlN hS ?_|go_at_call 44;refine(Ah7 Hrl.out Hh.out (by(focus((repeat(first|exact .head|apply Take.tail));done))) hS).mono ?_;clear hS;rintro e w ⟨rfl,hS⟩);go_roundw
        case rel=>exact⟨k+1,rfl,by rw[Hnx.out];first|done|rfl,hkl,hS.s _⟩
        case measure=>simp[intOf];omega
       | false=>
        rw[if_neg (by simpa using hb)]at hnx;have Hnx:=jH (hnx.trans (Int.add_zero _));clear hnx;go_wp2_with(first|go_big_skip|refine zlN hS ?_ (vs:=[.I z0,.string z1,.string z2,.I z3,.I z4,.I z5,.I z6,.string z7,.I z8]) (hc:=by exact a7.old (by exact b8) hall)|refine zal hS ?_;clear hS;intro bZ w hS|refine zsN hS ?_;clear hS;intro w hS|refine zl1 hS ?_);refine Aa7 (by kernel_rfl) (by kernel_rfl) hS ?_
        repeat(first|go_big_quiet_skip|refine zq1 ?_|refine zq1 ?_ (hc:=by(focus((repeat(first|exact aD4|apply a8.there));done)))|refine zqn ?_|(apply Av7 (ek:=kI) (ev:=kI) (k:=z0) (v:=(.tuple #[.I t,.bool true])));rfl;rfl;rfl;rfl;exact D6 (by(focus((repeat(first|exact .head|apply Take.tail));done)));exact tII;exact mI;exact zI0;exact Hm.out;refine frS ?_|refine qR ?_)
        clear hS;intro w hS;go_wp2_with(first|go_big_skip|refine zlN hS ?_|go_at_call 44;refine(Ah7 Hrl.out Hh.out (by(focus((repeat(first|exact .head|apply Take.tail));done))) hS).mono ?_;clear hS;rintro e w ⟨rfl,hS⟩);go_roundw
        case rel=>exact⟨k+1,rfl,by rw[Hnx.out];first|done|rfl,hkl,hS.s _⟩
        case measure=>simp[intOf];omega
    ·have d2:decide (k<zs.length)=false:=decide_eq_false hkl;have hke:k=zs.length:=by omega
     obtain⟨N,hN⟩:∃N,N=f9 l s h (zs.take k):=⟨_,rfl⟩
     rw[<-hN]at hli ⊢;have hN2:N=f9 l s h zs:=by rw[hN,hke,List.take_length]
     have HN:=jH hN2;clear hN hN2 hke hk hli;go_wp2_with(first|go_big_skip|go_at_call 71;refine(EI7 (A8 least (fun h=>f9 l s h zs) (hs.take i)) h N bb i least v Hbl.out (by omega) W _ _ hS).mono ?_;clear hS;rintro e w ⟨v',rfl,hS⟩);have e9:A8 least (fun h=>f9 l s h zs) (hs.take (i+1))=J7 (l8 least) (A8 least (fun h=>f9 l s h zs) (hs.take i)) (h,N):=by rw[Hbn.out,HN.out]
     have E9:=jH e9;clear e9;go_roundw
     case rel=>exact⟨i+1,v',rfl,hil,by rw[E9.out];exact hS⟩
     case measure=>simp[intOf];omega
  ·have d1:decide (i<hs.length)=false:=decide_eq_false hil;have hie:i=hs.length:=by omega
   rw[hie,List.take_length]at hS;clear hie hi;go_wp2_with(first|go_big_skip);go_ret;exact⟨bb,v,rfl,hS⟩
end Go.Proofs.YtjcfifkjbaffnaaGreat
end
