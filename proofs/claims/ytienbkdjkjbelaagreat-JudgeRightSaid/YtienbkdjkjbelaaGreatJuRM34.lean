/-
  The document's vault.
-/
import Derived.Test.YtienbkdjkjbelaaGreatJuRM5
import Derived.Test.YtienbkdjkjbelaaGreatJuRM21
import Derived.Test.YtienbkdjkjbelaaGreatJuRM22
import Derived.Test.YtienbkdjkjbelaaGreatJuRM33
set_option maxHeartbeats 16000000
set_option maxRecDepth 100000
set_option linter.unusedSimpArgs false
set_option linter.unusedVariables false
section
namespace Go.Proofs.YtienbkdjkjbelaaGreat
open Go.RowKit Go.Sl
def pxR(xB:Nat)(L:List Ord)(m:Int)(ts:List Trd)(v:Value):HP:=fun f=>∃(a:Option Addr) (c:Nat) (left:Int),v=.tuple #[.slice a ts.length c,.I left,.I 0]/\sats [xkP xB L m,row (.slice a ts.length c) 8 230 ts.length (ts.flatMap Trd.cells)] f
section
variable{W w:World}{xB:Nat}{L:List Ord}{m n:Int}{ts:List Trd}{v:Value}{R:List HP}
theorem df4(h:St W (pxR xB L m ts v::R) w):∃a c left,v=.tuple #[.slice a ts.length c,.I left,.I 0]/\St W (xkP xB L m::row (.slice a ts.length c) 8 230 ts.length (ts.flatMap Trd.cells)::R) w:=by obtain⟨a,h⟩:=St.ex h;obtain⟨c,h⟩:=St.ex h;obtain⟨left,h⟩:=St.ex h;obtain⟨h1,h⟩:=St.and h;refine⟨a,c,left,h1,?_⟩;exact(St.split (St.split h).swap).swap.drop.swap
theorem ed4{a:Option Addr}{c:Nat}{left:Int}(hv:v=.tuple #[.slice a ts.length c,.I left,.I 0])(h:St W (xkP xB L m::row (.slice a ts.length c) 8 230 ts.length (ts.flatMap Trd.cells)::R) w):St W (pxR xB L m ts v::R) w:=by refine St.mkEx a (St.mkEx c (St.mkEx left (St.mkAnd hv ?_)));refine St.join ?_;refine St.swap (St.imp h.swap ?_);intro f hf;exact⟨fun _=>true,hf,trivial⟩
theorem dg4{L1 R1:List HP}(hS:St W L1 w)(hu:Take L1 (pxR xB L m ts v) R1):∃vs:Array Value,v=.tuple vs/\vs.size=3:=by obtain⟨a,c,left,h,_⟩:=df4 (hS.take hu);exact⟨_,h,rfl⟩
theorem dt4{o:Ord}{L2:List Ord}(hm:MayP o)(hid:o.id=n)(hL:L.length<32)(hmay:∀x∈L,MayP x)(h1:bF4 L o=L2)(h2:aJ4 L o=ts)(hS:St W (xkP xB L n::R) w):
  Calls Tryz.prog 135 #[.P xB,.agg o.cells.toArray] w fun e w'=>∃v,e=.returned v/\St W (pxR xB L2 (n+1) ts v::R) w':=by
 subst h1 h2;obtain⟨a,c,last,hlast,hS⟩:=bi4 hS;have hno:¬(H5 o=false\/o.id<=last):=by rintro(h|h);(rw[Aq7.2 hm]at h;cases h);omega
 have ht:(D6 L last o).trades=aJ4 L o:=by unfold D6;rw[if_neg hno,if_neg (by omega)];rfl
 have hl:(D6 L last o).L=bF4 L o:=by unfold D6;rw[if_neg hno,if_neg (by omega)];rfl
 refine(Hu7 L last o xB _ (Aq7.2 hm) (by omega) (by omega) (fun x hx=>⟨(hmay x hx).cnt0,(hmay x hx).cnt1⟩) W w R hS).mono ?_;rw[ht,hl];rintro e w' ⟨v7,v',rfl,hS⟩;obtain⟨a7,c7,rfl⟩:=hS.drop.drop.rowVal;exact⟨_,rfl,ed4 rfl (aw4 (by omega) hS)⟩
end
def OxR(W:World)(F:Ps->List HP)(p:Ps)(ts:List Trd)(v:Value)(w:World):Prop:=
 ∃(k:Nat),v=.I k/\k<=ts.length/\St W (F ((ts.take k).foldl av4 p)) w
section
variable(xb xB:Nat)(p:Ps)(L:List Ord)(n:Int)(N:Nat)(o:Ord)(W w:World)(R:List HP)
theorem KI7(hp:K5 p)(hw:PsW p N)(hN:N+150<=1000000)(hmay:∀x∈L,MayP x)(h:aI4 o=true)(hn0:1<=n)(hn:n<=1099511627776)(hL:L.length<32)(ht:m9 p o.who (l5 o)=0)(hS:St W (xvR xb xB p L n R) w):
  Calls Tryz.prog 105 #[.P xb,.agg o.cells.toArray] w fun e w'=>e=.returned (.tuple #[.I n,.I 0]) /\
   St W (xvR xb xB ((aJ4 L { o with id:=n }).foldl av4 (s5 p o.who (l5 o))) (bF4 L { o with id:=n }) (n+1) R) w':=by
 obtain⟨i,u,y,t,c,pr⟩:=o;have hm:H5 ⟨1,u,y,t,c,pr⟩=true:=h;have hm1:=Aq7.1 hm;have hm2:MayP ⟨n,u,y,t,c,pr⟩:=⟨hn0,hn,hm1.who0,hm1.who1,hm1.item0,hm1.item1,hm1.cnt0,hm1.cnt1,hm1.price0,hm1.price1⟩
 have eh:l5 ⟨i,u,y,t,c,pr⟩=l5 ⟨n,u,y,t,c,pr⟩:=rfl;have ht':m9 p u (l5 ⟨n,u,y,t,c,pr⟩)=0:=ht;have c0':1<=c:=hm2.cnt0;have c1':c<=1048576:=hm2.cnt1;have htr:∀x∈aJ4 L ⟨n,u,y,t,c,pr⟩,TrB x:=Da7 _ _ _ _ hmay ⟨show 0<=c by omega,c1',hm2.item0,hm2.item1,hm2.price1⟩ fun t ht=>(by cases ht)
 have htw:∀x∈aJ4 L ⟨n,u,y,t,c,pr⟩,x9 x.buyer=true/\x9 x.seller=true:=DJ7 _ _ _ _ (fun x hx=>DH7 (hmay x hx)) (DH7 hm2) fun t ht=>(by cases ht)
 have htl:(aJ4 L ⟨n,u,y,t,c,pr⟩).length<=33:=by have:=DI7 (L.length+1) ⟨n,u,y,t,c,pr⟩ L [];unfold aJ4;rw[List.length_nil]at this;omega
 have hok1:K5 (s5 p u (l5 ⟨n,u,y,t,c,pr⟩)):=Ci7 hp _ _;have hw1:PsW (s5 p u (l5 ⟨n,u,y,t,c,pr⟩)) (N+1):=Dc7 hw _ _;simp only[eh];obtain⟨p1,hp1⟩:∃x,s5 p u (l5 ⟨n,u,y,t,c,pr⟩)=x:=⟨_,rfl⟩
 rw[hp1]at hok1 hw1;simp only[hp1];obtain⟨it,hit⟩:∃x,l5 ⟨n,u,y,t,c,pr⟩=x:=⟨_,rfl⟩
 rw[hit]at ht' hp1;obtain⟨h0,h1,h2,h3⟩:=it;obtain⟨ts,hts⟩:∃x,aJ4 L ⟨n,u,y,t,c,pr⟩=x:=⟨_,rfl⟩
 obtain⟨L2,hL2⟩:∃x,bF4 L ⟨n,u,y,t,c,pr⟩=x:=⟨_,rfl⟩
 simp only[hts,hL2];rw[hts]at htr htw htl;have Hts:=jH hts;have HL2:=jH hL2;clear hts hL2;have Hm2:=jH hm2;have Hit:=jH hit;have Hte:=jH ht';have Htp:=jH hp1;have Hok:=jH hok1;have Hw:=jH hw;have Hw1:=jH hw1;have Htr:=jH htr;have Htw:=jH htw;have Hmay:=jH hmay;have hN':=hN;have hN:N<=1000000:=by omega
 have d1:decide ((32:Int)<=(L.length:Int))=false:=by simp;omega
 have d2:decide ((1099511627776:Int)<n)=false:=by simp;omega
 clear hit ht' hp1 h ht eh hok1 htr htw hmay hm1 hm2 hp hw hw1;simp only[Ord.cells];obtain⟨xv,hS1⟩:=aE4 hS;obtain⟨la,lc,last,hlast,hS2⟩:=bi4 (hS1.s (xkP xB L n::blk xb _ _::hdR _ (hdL p)::R));clear hS hS1;have hS:=hS2;clear hS2;go_enter Tryz.func105,Tryz.ntmps105;go_wp2_with(first|go_at_call 134;refine(AW7 ⟨1,u,y,t,c,pr⟩ W _ _ hS).mono ?_;clear hS;rw[hm];rintro e w ⟨rfl,hS⟩|(with_reducible apply Au7 hS);rfl;rfl;rfl;rfl;clear hS;intro b3 w hS;refine frS ?_|(with_reducible apply Ap7 hS);rfl;rfl;exact zsS;clear hS;intro b6 w hS;refine frS ?_|refine zl1 hS ?_|refine zlN hS ?_|refine zs1 hS ?_;clear hS;intro w hS|refine zsN hS ?_;clear hS;intro w hS);refine rt 5 hS ?_
 iterate 2 (refine qR ?_)
 (refine zq1 ?_);refine zqN ?_;apply As7;rfl;(intro w;apply Aj7;rfl;decide +kernel;(focus(simp only[fD,fI,fJ,Act.eval,fE,fF,fG,fH,fK];try rfl)));(intro w hS;exact EJ7 (o:=⟨n,u,y,t,c,pr⟩) Hm2.out Hit.out W w _ hS);(refine frS ?_);clear hS;intro w hS;simp only[jD,List.drop_zero];go_wp2_with(first|go_at_call 103;refine(de4 xb _ n p N W _ _ Hw.out hN u ⟨h0,h1,h2,h3⟩ (ag4 (hS.s (blk xb _ _::hdR _ (hdL p)::blk xB _ _::j6 _ L::blk b6 _ _::blk b3 _ _::R)))).mono ?_;clear hS;rw[Hte.out,Htp.out];rintro e w ⟨rfl,hS⟩;(have hS1:=aE4 hS);clear hS;obtain⟨xv2,hS⟩:=hS1|refine zl1 hS ?_|refine zs1 hS ?_;clear hS;intro w hS);have hSk:=aw4 hlast (hS.s (blk xB _ _::j6 _ L::blk b3 _ _::blk xb _ _::hdR _ (hdL p1)::R));clear hS;refine rf3 [0,1,3,7,0,31,63,127,127,127,255,1535,4095] (fun i=>i==5) (fun _=>none) [⟨some 5,none,fun nd=>pxR xB L2 (n+1) ts (nd 5)⟩] [some 5,none,none,none] hSk ?_;clear hSk;intro nd;refine cR ?_;refine zcn ?_;refine cR ?_;refine zc1 ?_;refine zcN ?_;apply AZ7;rfl;rfl;rfl;decide +kernel;(focus(simp only[fD,fI,fJ,Act.eval,fE,fF,fG,fH,fK];try rfl));(intro _;rfl);(intro F w hS;exact dt4 (o:=⟨n,u,y,t,c,pr⟩) Hm2.out rfl hL Hmay.out HL2.out Hts.out hS);(refine frS ?_);refine cR ?_;apply DD7 (v:=nd 5);rfl;kernel_rfl;rfl;rfl;rfl;(intro F w hS;exact dg4 hS (by exact w8));decide;(refine frS ?_);apply DD7 (v:=nd 5);rfl;kernel_rfl;rfl;rfl;rfl;(intro F w hS;exact dg4 hS (by exact w8));decide;(refine frS ?_);apply DD7 (v:=nd 5);rfl;kernel_rfl;rfl;rfl;rfl;(intro F w hS;exact dg4 hS (by exact w8));decide;(refine frS ?_)
 iterate 3 (refine cR ?_)
 refine Ad7 ?_;intro w hS;have hS2:St W [pxR xB _ _ _ (nd 5),blk b3 _ _,blk xb _ _,hdR _ (hdL p1),sats R] w:=hS;clear hS;have hS:=hS2.unpack [_,_,_,_];clear hS2;simp only[jK,jN]at hS;generalize nd 5=v5 at *;obtain⟨ta,tc,left,hv5,hS5⟩:=df4 hS;clear hS;subst hv5;have hS:=ag4 (hS5.s (blk xb _ _::hdR _ (hdL p1)::xkP xB L2 (n+1)::row (.slice ta ts.length tc) 8 _ _ _::blk b3 _ _::R));clear hS5;simp only[cF4,Array.getD_eq_getD_getElem?,List.getElem?_toArray,List.getElem?_cons_zero,List.getElem?_cons_succ,Option.getD_some];go_wp2_with(fail)
 go_loopw [11] (fun v wr=>OxR W (fun q=>[xvP xb (.P xB) (n+1) q,xkP xB L2 (n+1),row (.slice ta ts.length tc) 8 230 ts.length (ts.flatMap Trd.cells),blk b3 [.I n,.string u,.bool y,.I t,.I c,.I pr] 173]++R) p1 ts v wr) (fun v _=>ts.length-(intOf v).toNat)
 case atStart=>exact⟨0,rfl,Nat.zero_le _,hS⟩
 case round=>
  clear hS;obtain⟨k,rfl,hk,hS⟩:=hrel;simp only[jK,jN]at hS;by_cases hkn:k=ts.length
  ·subst hkn;rw[List.take_length]at hS;go_wp2_with(first|refine zl1 hS ?_);go_ret2;exact⟨rfl,hS.s _⟩
  ·have hk1:k<ts.length:=by omega
   clear hkn hk;obtain⟨⟨g,rfl⟩,_,_⟩:=St.rowAddr hS.drop.drop (by omega);have hcells:∀{K K':List HP},Take K (row (.S g ts.length tc) 8 230 ts.length (ts.flatMap Trd.cells)) K'->d8 K g (k*8) (Trd.cells ts[k]):=fun hu=>d8.elemM (enc:=Trd.cells) Trd.len hu hk1
   have hq:K5 ((ts.take k).foldl av4 p1):=Db7 _ Hok.out fun x hx=>Htr.out x (List.mem_of_mem_take hx)
   have hqw:PsW ((ts.take k).foldl av4 p1) (N+110):=Al7 (FI7 _ Hw1.out fun x hx=>Htw.out x (List.mem_of_mem_take hx)) (by rw[jT];omega);have hstep:(ts.take (k+1)).foldl av4 p1=av4 ((ts.take k).foldl av4 p1) ts[k]:=by rw[List.take_succ_eq_append_getElem hk1,List.foldl_append];rfl
   have hb:=Htr.out _ (jW hk1);have hb2:=Htw.out _ (jW hk1);have Hstep:=jH hstep;have Hq:=jH hq;have Hqw:=jH hqw;clear hstep hq hqw;generalize (ts.take k).foldl av4 p1=q at hS Hstep Hq Hqw;generalize ts[k]=x at hcells Hstep hb hb2;obtain⟨ub,us,xi,xj,xt,xc,xp,xd⟩:=x;obtain⟨⟨c0,c1⟩,⟨t0,t1⟩,⟨p0,p1'⟩,⟨b0,b1⟩⟩:=hb;simp only at c0 c1 t0 t1 p0 p1' b0 b1 hb2;have m1:=Cz7 c0 c1 b0 b1;have m2:=Cz7 c0 c1 p0 p1';have n1:xc*(xd-xp)<=9223372036854775807:=by omega
   have n2 : -9223372036854775808<=xc*(xd-xp):=by omega
   have n3:xc*xp<=9223372036854775807:=by omega
   have n4 : -9223372036854775808<=xc*xp:=by omega
   simp only[Trd.cells]at hcells;have G1:=jH (show ∀y,s8 (j7 q y)=true from Hq.out);have G2:=jH (show ∀y,s8 (j7 (k9 q ub xt xc) y)=true from Ak7 Hq.out _ _ c0);have G3:=jH (show ∀y,s8 (j7 (k9 (k9 q ub xt xc) ub 0 (xc*(xd-xp))) y)=true from Ak7 (Ak7 Hq.out _ _ c0) _ _ m1.1);have W1:=jH (show PsW q 1000000 from Al7 Hqw.out (by omega));have W2:=jH (show PsW (k9 q ub xt xc) 1000000 from Al7 (Ax7 Hqw.out hb2.1 _ _) (by omega));have W3:=jH (show PsW (k9 (k9 q ub xt xc) ub 0 (xc*(xd-xp))) 1000000 from Al7 (Ax7 (Ax7 Hqw.out hb2.1 _ _) hb2.1 _ _) (by omega));clear hb2;go_wp2_with(fail);refine rt 16 hS ?_
   iterate 5 (refine qR ?_)
   (apply An7;rfl;rfl;rfl;decide +kernel;exact hcells (by exact i7) 0 _ rfl;refine frS ?_)
   iterate 4 (refine qR ?_)
   (apply An7;rfl;rfl;rfl;decide +kernel;exact hcells (by exact i7) 4 _ rfl;refine frS ?_)
   iterate 4 (refine qR ?_)
   (apply An7;rfl;rfl;rfl;decide +kernel;exact hcells (by exact i7) 5 _ rfl;refine frS ?_);clear hS;intro w hS;simp only[jD,List.drop_zero];go_wp2_with(first|go_at_call 136;refine(bU4 xb _ (n+1) _ 1000000 W _ _ W1.out (Nat.le_refl _) _ _ _ (G1.out _) ⟨by omega,by omega⟩ ⟨by omega,by omega⟩ hS).mono ?_;clear hS;rintro e w ⟨rfl,hS⟩);refine rt 23 hS ?_
   iterate 5 (refine qR ?_)
   (apply An7;rfl;rfl;rfl;decide +kernel;exact hcells (by exact i7) 0 _ rfl;refine frS ?_)
   iterate 4 (refine qR ?_)
   (apply An7;rfl;rfl;rfl;decide +kernel;exact hcells (by exact i7) 5 _ rfl;refine frS ?_)
   iterate 4 (refine qR ?_)
   (apply An7;rfl;rfl;rfl;decide +kernel;exact hcells (by exact i7) 7 _ rfl;refine frS ?_)
   iterate 4 (refine qR ?_)
   (apply An7;rfl;rfl;rfl;decide +kernel;exact hcells (by exact i7) 6 _ rfl;refine frS ?_)
   iterate 2 (refine qR ?_)
   clear hS;intro w hS;simp only[jD,List.drop_zero];go_wp2_with(first|go_at_call 136;refine(bU4 xb _ (n+1) _ 1000000 W _ _ W2.out (Nat.le_refl _) _ _ _ (G2.out _) ⟨by omega,by omega⟩ ⟨by omega,by omega⟩ hS).mono ?_;clear hS;rintro e w ⟨rfl,hS⟩);refine rt 17 hS ?_
   iterate 5 (refine qR ?_)
   (apply An7;rfl;rfl;rfl;decide +kernel;exact hcells (by exact i7) 1 _ rfl;refine frS ?_)
   iterate 4 (refine qR ?_)
   (apply An7;rfl;rfl;rfl;decide +kernel;exact hcells (by exact i7) 5 _ rfl;refine frS ?_)
   iterate 4 (refine qR ?_)
   (apply An7;rfl;rfl;rfl;decide +kernel;exact hcells (by exact i7) 6 _ rfl;refine frS ?_);refine qR ?_;clear hS;intro w hS;simp only[jD,List.drop_zero];go_wp2_with(first|go_at_call 136;refine(bU4 xb _ (n+1) _ 1000000 W _ _ W3.out (Nat.le_refl _) _ _ _ (G3.out _) ⟨by omega,by omega⟩ ⟨by omega,by omega⟩ hS).mono ?_;clear hS;rintro e w ⟨rfl,hS⟩);go_roundw
   case rel=>exact⟨k+1,rfl,hk1,by rw[Hstep.out];exact hS⟩
   case measure=>simp[intOf];omega
end
theorem fE4(xb xB:Nat)(V:Vs)(N:Nat)(o:Ord)(hp:K5 V.ps)(hw:PsW V.ps N)(hN:N+150<=1000000)(hmay:∀x∈V.L,MayP x)(hn:1<=V.n)(W w:World)(R:List HP)(hS:St W (xvR xb xB V.ps V.L V.n R) w):
  Calls Tryz.prog 105 #[.P xb,.agg o.cells.toArray] w fun e w'=>e=.returned (.tuple #[.I (w9 V o).1,.I (w9 V o).2.1]) /\
   St W (xvR xb xB (w9 V o).2.2.ps (w9 V o).2.2.L (w9 V o).2.2.n R) w':=by
 unfold w9;by_cases h1:aI4 o=false
 ·rw[if_pos h1];exact Jf7 xb xB V.ps V.L V.n o W w R h1 hS
 ·rw[if_neg h1];have h1':aI4 o=true:=by simpa using h1
  by_cases h2:32<=V.L.length\/1099511627776<V.n
  ·rw[if_pos h2];exact HG7 xb xB V.ps V.L V.n o W w R h1' h2 hS
  ·rw[if_neg h2];by_cases h3:m9 V.ps o.who (l5 o)=0
   ·rw[if_pos h3];exact KI7 xb xB V.ps V.L V.n N o W w R hp hw hN hmay h1' hn (by omega) (by omega) h3 hS
   ·rw[if_neg h3]
    have h14:m9 V.ps o.who (l5 o)=14:=by
     have hh:=Ed7 h1';unfold m9 at h3 ⊢;rw[if_pos hh]at h3 ⊢;split
     ·rename_i hs;rw[if_pos hs]at h3;exact absurd rfl h3
     ·rfl
    exact GU7 xb xB V.ps V.L V.n N o W w R hw (by omega) h1' (by omega) hn (by omega) h14 hS
def CaR(W:World)(F:List HP)(L:List Ord)(id:Int)(who:ByteArray)(v:Value)(w:World):Prop:=
 ∃i:Nat,v=.I i/\i<=L.length/\(∀x∈L.take i,O9 id who x=false)/\St W F w
section
variable(xb xB:Nat)(p:Ps)(L:List Ord)(n:Int)(N:Nat)(who:ByteArray)(id:Int)(W w:World)(R:List HP)
theorem du4(hp:K5 p)(hw:PsW p N)(hN:N+150<=1000000)(hmay:∀x∈L,MayP x)(hl32:L.length<=32)(hS:St W (xvR xb xB p L n R) w):
  Calls Tryz.prog 106 #[.P xb,.string who,.I id] w fun e w'=>e=.returned (.I (A6 ⟨p,L,n⟩ who id).1)/\St W (xvR xb xB (A6 ⟨p,L,n⟩ who id).2.ps (A6 ⟨p,L,n⟩ who id).2.L n R) w':=by
 have Hp:=jH hp;have Hw:=jH hw;have Hmay:=jH hmay;clear hp hw hmay;obtain⟨xv,hS1⟩:=aE4 hS;obtain⟨la,lc,last,hlast,hS2⟩:=bi4 (hS1.s (xkP xB L n::blk xb _ _::hdR _ (hdL p)::R));clear hS hS1;have hS:=hS2;clear hS2;go_enter Tryz.func106,Tryz.ntmps106;go_wp2_with fail
 go_loopw [7] (fun v wr=>CaR W (blk xB [.slice la L.length lc,.I last] 186::j6 (.slice la L.length lc) L::blk xb [xv,.P xB,.I n] 183::hdR xv (hdL p)::R) L id who v wr) (fun v _=>L.length-(intOf v).toNat)
 case atStart=>exact⟨0,rfl,Nat.zero_le _,fun x hx=>(by simp at hx),hS⟩
 case round=>
  clear hS;obtain⟨i,rfl,hil,hno,hS⟩:=hrel;by_cases hin:i=L.length
  ·rw[hin,List.take_length]at hno;have hany:L.any (O9 id who)=false:=by rw[List.any_eq_false];intro x hx;rw[hno x hx];simp
   have E:=jH (show A6 ⟨p,L,n⟩ who id=(7,⟨p,L,n⟩)by unfold A6;rw[if_neg (by rw[hany];simp)]);subst hin;clear hno hany;go_wp2_with(first|refine zl1 hS ?_);go_ret;rw[E.out];have hS1:=aw4 hlast (hS.s (blk xB _ _::j6 _ L::blk xb _ _::hdR _ (hdL p)::R));exact⟨rfl,ag4 (hS1.s (blk xb _ _::hdR _ (hdL p)::xkP xB L n::R))⟩
  ·have hi1:i<L.length:=by omega
   obtain⟨⟨g,rfl⟩,_,_⟩:=St.rowAddr hS.drop (by omega);have q0:(Ord.cells L[i])[0]? = some (.I L[i].id):=rfl;have q1:(Ord.cells L[i])[1]? = some (.string L[i].who):=rfl
   have hstep:O9 id who L[i]=false->∀x∈L.take (i+1),O9 id who x=false:=fun h x hx=>by
    rw[List.take_succ_eq_append_getElem hi1]at hx
    rcases List.mem_append.1 hx with hx|hx
    ·exact hno x hx
    ·rw[List.mem_singleton.1 hx];exact h
   have hyes:O9 id who L[i]=true->L.any (O9 id who)=true:=fun h=>List.any_eq_true.2 ⟨_,jW hi1,h⟩
   have hd:O9 id who L[i]=((L[i].id==id)&&(L[i].who.toList==who.toList)):=rfl;generalize hx:L[i]=x at q0 q1 hstep hyes hd;have Hx:=jH hx;clear hx hno hin;obtain⟨xi,xu,xy,xt,xc,xp⟩:=x;simp only at q0 q1 hd;have c0:∀{K K':List HP},Take K (j6 (.S g L.length lc) L) K'->i6 K g (i*6) (.I xi):=fun hu=>d8.elemM (enc:=Ord.cells) Ord.len hu hi1 0 _ (by rw[Hx.out];rfl)
   have c1:∀{K K':List HP},Take K (j6 (.S g L.length lc) L) K'->i6 K g (i*6+1) (.string xu):=fun hu=>d8.elemM (enc:=Ord.cells) Ord.len hu hi1 1 _ (by rw[Hx.out];rfl)
   cases h1:xi==id with
   | false=>
    rw[h1,Bool.false_and]at hd;have Hs:=jH (hstep hd);clear hstep hyes hd q0 q1;go_wp2_with(first|refine zl1 hS ?_|refine zl1 hS ?_ (hc:=by exact c0 (by exact i7)));go_roundw
    case rel=>exact⟨i+1,rfl,hi1,Hs.out,hS⟩
    case measure=>simp[intOf];omega
   | true=>
    cases h2:xu.toList==who.toList with
    | false=>
     rw[h1,h2,Bool.and_false]at hd;have Hs:=jH (hstep hd);clear hstep hyes hd q0 q1;go_wp2_with(first|refine zl1 hS ?_|refine zl1 hS ?_ (hc:=by exact c0 (by exact i7))|refine zl1 hS ?_ (hc:=by exact c1 (by exact i7)));go_roundw
     case rel=>exact⟨i+1,rfl,hi1,Hs.out,hS⟩
     case measure=>simp[intOf];omega
    | true=>
     rw[h1,h2,Bool.and_true]at hd;have hany:=hyes hd;obtain⟨he0,hmem⟩:=DF7 hany;have hmz:=Hmay.out _ hmem;have e:A6 ⟨p,L,n⟩ who id=(0,⟨bT4 p who (l5 (p9 L id).o),(p9 L id).L,n⟩):=by unfold A6;rw[if_pos hany]
     generalize hCR:p9 L id=CR at he0 hmz e;obtain⟨⟨zi,zu,zy,zt,zc,zp⟩,en,L2⟩:=CR;simp only at he0 hmz e;subst he0;obtain⟨it,hit⟩:∃y,l5 ⟨zi,zu,zy,zt,zc,zp⟩=y:=⟨_,rfl⟩
     have hii:s8 it=true:=by rw[<-hit];exact(Ed7 (o:=⟨zi,zu,zy,zt,zc,zp⟩) (Aq7.2 ⟨show(1:Int)<=1 by decide,show(1:Int)<=1099511627776 by decide,hmz.who0,hmz.who1,hmz.item0,hmz.item1,hmz.cnt0,hmz.cnt1,hmz.price0,hmz.price1⟩)).2
     have hwho:x9 who=true:=by
      have hxw:(⟨xi,xu,xy,xt,xc,xp⟩:Ord)∈L:=by rw[<-Hx.out];exact jW hi1
      have e1:xu=who:=Dd7 (by rw[Lib.toList_data,Lib.toList_data]at h2;simpa using h2);rw[<-e1];exact DH7 (Hmay.out _ hxw)
     rw[hit]at e;obtain⟨h0,h1',h2',h3'⟩:=it;obtain⟨a0,a1,a2,a3⟩:=Ah7.1 hii;simp only at a0 a1 a2 a3;have HCR:=jH hCR;have Hmz:=jH hmz;have Hit:=jH hit;have E:=jH e;clear hCR hmz hit e hii hstep hyes hd q0 q1 hany hmem;have G1:=jH (show ∀y,s8 (j7 p y)=true from Hp.out);have G2:=jH (show ∀y,s8 (j7 (k9 p who 0 h0) y)=true from Ak7 Hp.out _ _ a0.1);have G3:=jH (show ∀y,s8 (j7 (k9 (k9 p who 0 h0) who 1 h1') y)=true from Ak7 (Ak7 Hp.out _ _ a0.1) _ _ a1.1);have G4:=jH (show ∀y,s8 (j7 (k9 (k9 (k9 p who 0 h0) who 1 h1') who 2 h2') y)=true from Ak7 (Ak7 (Ak7 Hp.out _ _ a0.1) _ _ a1.1) _ _ a2.1);have W1:=jH (show PsW p 1000000 from Al7 Hw.out (by omega));have W2:=jH (show PsW (k9 p who 0 h0) 1000000 from Al7 (Ax7 Hw.out hwho _ _) (by omega));have W3:=jH (show PsW (k9 (k9 p who 0 h0) who 1 h1') 1000000 from Al7 (Ax7 (Ax7 Hw.out hwho _ _) hwho _ _) (by omega));have W4:=jH (show PsW (k9 (k9 (k9 p who 0 h0) who 1 h1') who 2 h2') 1000000 from Al7 (Ax7 (Ax7 (Ax7 Hw.out hwho _ _) hwho _ _) hwho _ _) (by omega));clear hwho;go_wp2_with(first|refine zl1 hS ?_|refine zl1 hS ?_ (hc:=by exact c0 (by exact i7))|refine zl1 hS ?_ (hc:=by exact c1 (by exact i7))|go_at_call 137;refine(EW7 L id xB last _ hl32 W _ _ (hS.s (blk xB _ _::j6 _ L::blk xb _ _::hdR _ (hdL p)::R))).mono ?_;clear hS;rw[HCR.out];simp only[Ord.cells];rintro e w ⟨rfl,v9,hS⟩|go_at_call 119;refine(EJ7 (o:=⟨zi,zu,zy,zt,zc,zp⟩) Hmz.out Hit.out W _ _ hS).mono ?_;clear hS;rintro e w ⟨rfl,hS⟩|(fail_if_success (have:=b8));((with_reducible apply Ap7 hS);rfl;rfl;exact zsS;clear hS;intro b8 w hS;refine frS ?_)|(have:=b8);(with_reducible apply Ap7 hS);rfl;rfl;exact zsS;clear hS;intro b10 w hS;refine frS ?_|refine zlN hS ?_|refine zsN hS ?_;clear hS;intro w hS);have hS1:=aw4 hlast (hS.s (blk xB _ _::j6 _ L2::blk xb _ _::hdR _ (hdL p)::blk b10 _ _::R));clear hS
     have hS:=ag4 (hS1.s (blk xb _ _::hdR _ (hdL p)::xkP xB L2 n::blk b10 _ _::R));clear hS1
     go_loopw [11] (fun v wr=>Cn4 W (fun q=>[xvP xb (.P xB) n q,xkP xB L2 n,blk b10 [.I h0,.I h1',.I h2',.I h3'] 34]++R) p who ⟨h0,h1',h2',h3'⟩ v wr) (fun v _=>4-(intOf v).toNat)
     case atStart=>exact .inl ⟨rfl,hS⟩
     case round=>
     clear hS;simp only[Cn4,jK,jN]at hrel
     rcases hrel with ⟨rfl,hS⟩|⟨rfl,hS⟩|⟨rfl,hS⟩|⟨rfl,hS⟩|⟨rfl,hS⟩
     ·skip
      go_wp2_with(first|refine zl1 hS ?_|go_at_call 136;refine(bU4 xb _ n _ 1000000 W _ _ W1.out (Nat.le_refl _) _ _ _ (G1.out _) ⟨by omega,by omega⟩ ⟨by omega,by omega⟩ hS).mono ?_;clear hS;rintro e w ⟨rfl,hS⟩);go_roundw
      case rel=>exact .inr (.inl ⟨rfl,hS⟩)
      case measure=>simp[intOf]
     ·skip
      go_wp2_with(first|refine zl1 hS ?_|go_at_call 136;refine(bU4 xb _ n _ 1000000 W _ _ W2.out (Nat.le_refl _) _ _ _ (G2.out _) ⟨by omega,by omega⟩ ⟨by omega,by omega⟩ hS).mono ?_;clear hS;rintro e w ⟨rfl,hS⟩);go_roundw
      case rel=>exact .inr (.inr (.inl ⟨rfl,hS⟩))
      case measure=>simp[intOf]
     ·skip
      go_wp2_with(first|refine zl1 hS ?_|go_at_call 136;refine(bU4 xb _ n _ 1000000 W _ _ W3.out (Nat.le_refl _) _ _ _ (G3.out _) ⟨by omega,by omega⟩ ⟨by omega,by omega⟩ hS).mono ?_;clear hS;rintro e w ⟨rfl,hS⟩);go_roundw
      case rel=>exact .inr (.inr (.inr (.inl ⟨rfl,hS⟩)))
      case measure=>simp[intOf]
     ·skip
      go_wp2_with(first|refine zl1 hS ?_|go_at_call 136;refine(bU4 xb _ n _ 1000000 W _ _ W4.out (Nat.le_refl _) _ _ _ (G4.out _) ⟨by omega,by omega⟩ ⟨by omega,by omega⟩ hS).mono ?_;clear hS;rintro e w ⟨rfl,hS⟩);go_roundw
      case rel=>exact .inr (.inr (.inr (.inr ⟨rfl,hS⟩)))
      case measure=>simp[intOf]
     ·go_wp2_with(fail);go_ret;rw[E.out];exact⟨rfl,hS.s _⟩
end
def bv4(k:Int):Ps->Int
 | []=>0
 | x::p=>H8 x.2 k+bv4 k p
def eM4(k:Int):List Ord->Int
 | []=>0
 | x::L=>H8 (l5 x) k+eM4 k L
def fF4(k:Int)(t:Trd):Int:=(if k=t.item then t.cnt else 0)+(if k=0 then t.cnt*(t.bid-t.price)+t.cnt*t.price else 0)
def fG4(k:Int):List Trd->Int
 | []=>0
 | t::ts=>fF4 k t+fG4 k ts
def fH4(k:Int):List It->Int
 | []=>0
 | i::l=>H8 i k+fH4 k l
def dh4(V:Vs)(k:Int):Int:=bv4 k V.ps+eM4 k V.L
structure Kx(k:Int):Prop where
 k0:0<=k
 k3:k<=3
theorem FM7(k:Int):H8 it0 k=0:=by
 unfold H8 it0;repeat' split
 all_goals rfl
theorem Ou7{i:It}(h:isZ i=true)(k:Int):H8 i k=0:=by rw[MT7 h,FM7]
theorem KJ7{p:Ps}(h:(p.map (·.1)).Nodup)(k:ByteArray)(i:It):((E7 p k i).map (·.1)).Nodup:=by
 unfold E7;split
 ·exact DG7 h k
 ·rw[List.map_cons,List.nodup_cons];refine⟨fun hm=>?_,DG7 h k⟩;obtain⟨x,hx,e⟩:=List.mem_map.1 hm;exact(Ct7 hx).2 e
theorem KK7{p:Ps}(h:(p.map (·.1)).Nodup){x:ByteArray×It}(hx:x∈p):j7 p x.1=x.2:=by have:=Fy7 (v:=x.2) h hx;unfold j7;rw[this];rfl
theorem Jg7(x:ByteArray×It)(p:Ps)(k:ByteArray):j7 (x::p) k=if x.1=k then x.2 else j7 p k:=by
 unfold j7 j5;split
 ·rename_i h
  rw[List.find?_cons_of_pos (by simpa using h)];rfl
 ·rename_i h
  rw[List.find?_cons_of_neg (by simpa using h)]
theorem Iw7(k:Int)(who:ByteArray):∀{p:Ps},(p.map (·.1)).Nodup->bv4 k (i9 p who)=bv4 k p-H8 (j7 p who) k
 | [],_=>by
  show(0:Int)=0-H8 it0 k
  rw[FM7];rfl
 | x::p,h=>by
  rw[List.map_cons,List.nodup_cons]at h;have ih:=Iw7 k who h.2;rw[Jg7];by_cases hx:x.1=who
  ·rw[if_pos hx]
   have e:i9 (x::p) who=p:=by
    unfold i9;rw[List.filter_cons,if_neg (by simpa using hx)];refine List.filter_eq_self.2 fun y hy=>?_
    have:y.1≠who:=fun e=>h.1 (List.mem_map.2 ⟨y,hy,e.trans hx.symm⟩)
    simpa using this
   rw[e];show bv4 k p=H8 x.2 k+bv4 k p-H8 x.2 k
   omega
  ·rw[if_neg hx];have e:i9 (x::p) who=x::i9 p who:=by unfold i9;rw[List.filter_cons,if_pos (by simpa using hx)]
   rw[e];show H8 x.2 k+bv4 k (i9 p who)=H8 x.2 k+bv4 k p-H8 (j7 p who) k
   omega
theorem Ml7{p:Ps}(h:(p.map (·.1)).Nodup)(k:Int)(who:ByteArray)(i:It):bv4 k (E7 p who i)=bv4 k p-H8 (j7 p who) k+H8 i k:=by
 have hd:=Iw7 k who h;unfold E7;split
 ·rename_i hz
  rw[hd,Ou7 hz];omega
 ·show H8 i k+bv4 k (i9 p who)=_
  omega
structure PsK(p:Ps):Prop where
 nd:(p.map (·.1)).Nodup
 ok:K5 p
theorem PsK.pos{p:Ps}(h:PsK p)(k:Int):0<=bv4 k p:=by
 have hx:∀x∈p,0<=H8 x.2 k:=fun x hx=>by rw[<-KK7 h.nd hx];exact(JZ7 (h.ok x.1) k).1
 clear h
 induction p with
 | nil=>exact Int.le_refl _
 | cons x p ih=>
  have h1:=hx x (List.mem_cons_self ..);have h2:=ih fun y hy=>hx y (List.mem_cons_of_mem _ hy)
  show 0<=H8 x.2 k+bv4 k p
  omega
theorem NL7:s8 it0=true:=by decide
theorem PsK.le{p:Ps}(h:PsK p)(who:ByteArray)(k:Int):H8 (j7 p who) k<=bv4 k p:=by have h1:=Ml7 h.nd k who it0;have h2:=PsK.pos ⟨KJ7 h.nd who it0,Ec7 h.ok who NL7⟩ k;rw[FM7]at h1;omega
def gi4(o:Ord)(c:Int):Ord:=⟨o.id,o.who,o.buy,o.item,c,o.price⟩
def gq4(V:Vs):List It:=(hdL V.ps).map Hd.has++V.L.map l5
def fI4(V:Vs):It:=⟨dh4 V 0,dh4 V 1,dh4 V 2,dh4 V 3⟩
abbrev eN4(v:Value)(l:List It):HP:=row v 4 34 l.length (l.flatMap It.cells)
def TtR(W:World)(F:List HP)(m:Nat)(acc:Nat->List It)(v7 vk:Value)(w:World):Prop:=
 ∃k:Nat,vk=.I k/\k<=m/\St W (eN4 v7 (acc k)::F) w
theorem eO4(W w:World)(R:List HP)(hS:St W R w):
  Calls Tryz.prog 98 #[] w fun e w'=>∃xb xB,e=.returned (.P xb)/\St W (xvR xb xB [] [] 1 R) w':=by
 go_enter Tryz.func98,Tryz.ntmps98;go_wp2_with(first|(fail_if_success (have:=bA));(with_reducible apply Au7 hS);rfl;rfl;rfl;rfl;clear hS;intro bA w hS;refine frS ?_|(have:=bA);(with_reducible apply Au7 hS);rfl;rfl;rfl;rfl;clear hS;intro bB w hS;refine frS ?_);go_ret;have hS1:=(hS.rowNil (k:=5) (T:=171)).rowNil (k:=6) (T:=173);have e0:hdL []=[]:=List.eq_nil_of_length_eq_zero (by rw[ED7];rfl);have hS2:St W (j6 (.slice none 0 0) []::hdR (.slice none 0 0) []::_) _:=hS1;rw[<-e0]at hS2;have hS3:=aw4 (n:=1) (last:=0) (by decide) (hS2.s (blk bA _ _::j6 _ []::blk bB _ _::hdR _ (hdL [])::R));exact⟨bB,bA,rfl,ag4 (hS3.s (blk bB _ _::hdR _ (hdL [])::xkP bA [] 1::R))⟩
def gr4(W:World)(Lr:List HP)(n:Nat)(v:Value)(w:World):Prop:=∃i:Nat,v=.I i/\i<=n/\St W Lr w
end Go.Proofs.YtienbkdjkjbelaaGreat
end
