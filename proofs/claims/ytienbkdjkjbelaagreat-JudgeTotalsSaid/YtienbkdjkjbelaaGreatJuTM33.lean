/-
  The document's vault.
-/
import Derived.Test.YtienbkdjkjbelaaGreatJuTM5
import Derived.Test.YtienbkdjkjbelaaGreatJuTM20
import Derived.Test.YtienbkdjkjbelaaGreatJuTM32
set_option maxHeartbeats 16000000
set_option maxRecDepth 100000
set_option linter.unusedSimpArgs false
set_option linter.unusedVariables false
section
namespace Go.Proofs.YtienbkdjkjbelaaGreat
open Go.RowKit Go.Sl
def pxR(xB:Nat)(L:List Ord)(m:Int)(ts:List Trd)(v:Value):HP:=fun f=>∃(a:Option Addr) (c:Nat) (left:Int),v=.tuple #[.slice a ts.length c,.I left,.I 0]/\sats [xkP xB L m,row (.slice a ts.length c) 8 230 ts.length (ts.flatMap Trd.cells)] f
section
variable{W w:World}{xB:Nat}{L:List Ord}{m n:Int}{ts:List Trd}{v:Value}{R:List HP}
theorem dZ4(h:St W (pxR xB L m ts v::R) w):∃a c left,v=.tuple #[.slice a ts.length c,.I left,.I 0]/\St W (xkP xB L m::row (.slice a ts.length c) 8 230 ts.length (ts.flatMap Trd.cells)::R) w:=by obtain⟨a,h⟩:=St.ex h;obtain⟨c,h⟩:=St.ex h;obtain⟨left,h⟩:=St.ex h;obtain⟨h1,h⟩:=St.and h;refine⟨a,c,left,h1,?_⟩;exact(St.split (St.split h).swap).swap.drop.swap
theorem fb4{a:Option Addr}{c:Nat}{left:Int}(hv:v=.tuple #[.slice a ts.length c,.I left,.I 0])(h:St W (xkP xB L m::row (.slice a ts.length c) 8 230 ts.length (ts.flatMap Trd.cells)::R) w):St W (pxR xB L m ts v::R) w:=by refine St.mkEx a (St.mkEx c (St.mkEx left (St.mkAnd hv ?_)));refine St.join ?_;refine St.swap (St.imp h.swap ?_);intro f hf;exact⟨fun _=>true,hf,trivial⟩
theorem ea4{L1 R1:List HP}(hS:St W L1 w)(hu:Take L1 (pxR xB L m ts v) R1):∃vs:Array Value,v=.tuple vs/\vs.size=3:=by obtain⟨a,c,left,h,_⟩:=dZ4 (hS.take hu);exact⟨_,h,rfl⟩
theorem eq4{o:Ord}{L2:List Ord}(hm:MayP o)(hid:o.id=n)(hL:L.length<32)(hmay:∀x∈L,MayP x)(h1:bP4 L o=L2)(h2:aM4 L o=ts)(hS:St W (xkP xB L n::R) w):
  Calls Tryz.prog 135 #[.P xB,.agg o.cells.toArray] w fun e w'=>∃v,e=.returned v/\St W (pxR xB L2 (n+1) ts v::R) w':=by
 subst h1 h2;obtain⟨a,c,last,hlast,hS⟩:=bx4 hS;have hno:¬(J7 o=false\/o.id<=last):=by rintro(h|h);(rw[Ao7.2 hm]at h;cases h);omega
 have ht:(F9 L last o).trades=aM4 L o:=by unfold F9;rw[if_neg hno,if_neg (by omega)];rfl
 have hl:(F9 L last o).L=bP4 L o:=by unfold F9;rw[if_neg hno,if_neg (by omega)];rfl
 refine(Ix7 L last o xB _ (Ao7.2 hm) (by omega) (by omega) (fun x hx=>⟨(hmay x hx).cnt0,(hmay x hx).cnt1⟩) W w R hS).mono ?_;rw[ht,hl];rintro e w' ⟨v7,v',rfl,hS⟩;obtain⟨a7,c7,rfl⟩:=hS.drop.drop.rowVal;exact⟨_,rfl,fb4 rfl (aJ4 (by omega) hS)⟩
end
def OxR(W:World)(F:Ps->List HP)(p:Ps)(ts:List Trd)(v:Value)(w:World):Prop:=
 ∃(k:Nat),v=.I k/\k<=ts.length/\St W (F ((ts.take k).foldl ay4 p)) w
section
variable(xb xB:Nat)(p:Ps)(L:List Ord)(n:Int)(N:Nat)(o:Ord)(W w:World)(R:List HP)
theorem MI7(hp:L7 p)(hw:PsW p N)(hN:N+150<=1000000)(hmay:∀x∈L,MayP x)(h:aU4 o=true)(hn0:1<=n)(hn:n<=1099511627776)(hL:L.length<32)(ht:p9 p o.who (j5 o)=0)(hS:St W (xvR xb xB p L n R) w):
  Calls Tryz.prog 105 #[.P xb,.agg o.cells.toArray] w fun e w'=>e=.returned (.tuple #[.I n,.I 0]) /\
   St W (xvR xb xB ((aM4 L { o with id:=n }).foldl ay4 (r8 p o.who (j5 o))) (bP4 L { o with id:=n }) (n+1) R) w':=by
 obtain⟨i,u,y,t,c,pr⟩:=o;have hm:J7 ⟨1,u,y,t,c,pr⟩=true:=h;have hm1:=Ao7.1 hm;have hm2:MayP ⟨n,u,y,t,c,pr⟩:=⟨hn0,hn,hm1.who0,hm1.who1,hm1.item0,hm1.item1,hm1.cnt0,hm1.cnt1,hm1.price0,hm1.price1⟩
 have eh:j5 ⟨i,u,y,t,c,pr⟩=j5 ⟨n,u,y,t,c,pr⟩:=rfl;have ht':p9 p u (j5 ⟨n,u,y,t,c,pr⟩)=0:=ht;have c0':1<=c:=hm2.cnt0;have c1':c<=1048576:=hm2.cnt1;have htr:∀x∈aM4 L ⟨n,u,y,t,c,pr⟩,TrB x:=Cw7 _ _ _ _ hmay ⟨show 0<=c by omega,c1',hm2.item0,hm2.item1,hm2.price1⟩ fun t ht=>(by cases ht)
 have htw:∀x∈aM4 L ⟨n,u,y,t,c,pr⟩,C6 x.buyer=true/\C6 x.seller=true:=Ek7 _ _ _ _ (fun x hx=>Ei7 (hmay x hx)) (Ei7 hm2) fun t ht=>(by cases ht)
 have htl:(aM4 L ⟨n,u,y,t,c,pr⟩).length<=33:=by have:=Ej7 (L.length+1) ⟨n,u,y,t,c,pr⟩ L [];unfold aM4;rw[List.length_nil]at this;omega
 have hok1:L7 (r8 p u (j5 ⟨n,u,y,t,c,pr⟩)):=BF7 hp _ _;have hw1:PsW (r8 p u (j5 ⟨n,u,y,t,c,pr⟩)) (N+1):=Dv7 hw _ _;simp only[eh];obtain⟨p1,hp1⟩:∃x,r8 p u (j5 ⟨n,u,y,t,c,pr⟩)=x:=⟨_,rfl⟩
 rw[hp1]at hok1 hw1;simp only[hp1];obtain⟨it,hit⟩:∃x,j5 ⟨n,u,y,t,c,pr⟩=x:=⟨_,rfl⟩
 rw[hit]at ht' hp1;obtain⟨h0,h1,h2,h3⟩:=it;obtain⟨ts,hts⟩:∃x,aM4 L ⟨n,u,y,t,c,pr⟩=x:=⟨_,rfl⟩
 obtain⟨L2,hL2⟩:∃x,bP4 L ⟨n,u,y,t,c,pr⟩=x:=⟨_,rfl⟩
 simp only[hts,hL2];rw[hts]at htr htw htl;have Hts:=jH hts;have HL2:=jH hL2;clear hts hL2;have Hm2:=jH hm2;have Hit:=jH hit;have Hte:=jH ht';have Htp:=jH hp1;have Hok:=jH hok1;have Hw:=jH hw;have Hw1:=jH hw1;have Htr:=jH htr;have Htw:=jH htw;have Hmay:=jH hmay;have hN':=hN;have hN:N<=1000000:=by omega
 have d1:decide ((32:Int)<=(L.length:Int))=false:=by simp;omega
 have d2:decide ((1099511627776:Int)<n)=false:=by simp;omega
 clear hit ht' hp1 h ht eh hok1 htr htw hmay hm1 hm2 hp hw hw1;simp only[Ord.cells];obtain⟨xv,hS1⟩:=aV4 hS;obtain⟨la,lc,last,hlast,hS2⟩:=bx4 (hS1.s (xkP xB L n::blk xb _ _::hdR _ (hdL p)::R));clear hS hS1;have hS:=hS2;clear hS2;go_enter Tryz.func105,Tryz.ntmps105;go_wp2_with(first|go_at_call 134;refine(Ba7 ⟨1,u,y,t,c,pr⟩ W _ _ hS).mono ?_;clear hS;rw[hm];rintro e w ⟨rfl,hS⟩|(with_reducible apply Ay7 hS);rfl;rfl;rfl;rfl;clear hS;intro b3 w hS;refine frS ?_|(with_reducible apply An7 hS);rfl;rfl;exact zsS;clear hS;intro b6 w hS;refine frS ?_|refine zl1 hS ?_|refine zlN hS ?_|refine zs1 hS ?_;clear hS;intro w hS|refine zsN hS ?_;clear hS;intro w hS);refine rt 5 hS ?_
 iterate 2 (refine qR ?_)
 (refine zq1 ?_);refine zqN ?_;apply At7;rfl;(intro w;apply Ah7;rfl;decide +kernel;(focus(simp only[fD,fI,fJ,Act.eval,fE,fF,fG,fH,fK];try rfl)));(intro w hS;exact DF7 (o:=⟨n,u,y,t,c,pr⟩) Hm2.out Hit.out W w _ hS);(refine frS ?_);clear hS;intro w hS;simp only[jD,List.drop_zero];go_wp2_with(first|go_at_call 103;refine(dY4 xb _ n p N W _ _ Hw.out hN u ⟨h0,h1,h2,h3⟩ (ao4 (hS.s (blk xb _ _::hdR _ (hdL p)::blk xB _ _::j7 _ L::blk b6 _ _::blk b3 _ _::R)))).mono ?_;clear hS;rw[Hte.out,Htp.out];rintro e w ⟨rfl,hS⟩;(have hS1:=aV4 hS);clear hS;obtain⟨xv2,hS⟩:=hS1|refine zl1 hS ?_|refine zs1 hS ?_;clear hS;intro w hS);have hSk:=aJ4 hlast (hS.s (blk xB _ _::j7 _ L::blk b3 _ _::blk xb _ _::hdR _ (hdL p1)::R));clear hS;refine rf3 [0,1,3,7,0,31,63,127,127,127,255,1535,4095] (fun i=>i==5) (fun _=>none) [⟨some 5,none,fun nd=>pxR xB L2 (n+1) ts (nd 5)⟩] [some 5,none,none,none] hSk ?_;clear hSk;intro nd;refine cR ?_;refine zcn ?_;refine cR ?_;refine zc1 ?_;refine zcN ?_;apply Bb7;rfl;rfl;rfl;decide +kernel;(focus(simp only[fD,fI,fJ,Act.eval,fE,fF,fG,fH,fK];try rfl));(intro _;rfl);(intro F w hS;exact eq4 (o:=⟨n,u,y,t,c,pr⟩) Hm2.out rfl hL Hmay.out HL2.out Hts.out hS);(refine frS ?_);refine cR ?_;apply Ef7 (v:=nd 5);rfl;kernel_rfl;rfl;rfl;rfl;(intro F w hS;exact ea4 hS (by exact A6));decide;(refine frS ?_);apply Ef7 (v:=nd 5);rfl;kernel_rfl;rfl;rfl;rfl;(intro F w hS;exact ea4 hS (by exact A6));decide;(refine frS ?_);apply Ef7 (v:=nd 5);rfl;kernel_rfl;rfl;rfl;rfl;(intro F w hS;exact ea4 hS (by exact A6));decide;(refine frS ?_)
 iterate 3 (refine cR ?_)
 refine Ad7 ?_;intro w hS;have hS2:St W [pxR xB _ _ _ (nd 5),blk b3 _ _,blk xb _ _,hdR _ (hdL p1),sats R] w:=hS;clear hS;have hS:=hS2.unpack [_,_,_,_];clear hS2;simp only[jK,jN]at hS;generalize nd 5=v5 at *;obtain⟨ta,tc,left,hv5,hS5⟩:=dZ4 hS;clear hS;subst hv5;have hS:=ao4 (hS5.s (blk xb _ _::hdR _ (hdL p1)::xkP xB L2 (n+1)::row (.slice ta ts.length tc) 8 _ _ _::blk b3 _ _::R));clear hS5;simp only[dp4,Array.getD_eq_getD_getElem?,List.getElem?_toArray,List.getElem?_cons_zero,List.getElem?_cons_succ,Option.getD_some];go_wp2_with(fail)
 go_loopw [11] (fun v wr=>OxR W (fun q=>[xvP xb (.P xB) (n+1) q,xkP xB L2 (n+1),row (.slice ta ts.length tc) 8 230 ts.length (ts.flatMap Trd.cells),blk b3 [.I n,.string u,.bool y,.I t,.I c,.I pr] 173]++R) p1 ts v wr) (fun v _=>ts.length-(intOf v).toNat)
 case atStart=>exact⟨0,rfl,Nat.zero_le _,hS⟩
 case round=>
  clear hS;obtain⟨k,rfl,hk,hS⟩:=hrel;simp only[jK,jN]at hS;by_cases hkn:k=ts.length
  ·subst hkn;rw[List.take_length]at hS;go_wp2_with(first|refine zl1 hS ?_);go_ret2;exact⟨rfl,hS.s _⟩
  ·have hk1:k<ts.length:=by omega
   clear hkn hk;obtain⟨⟨g,rfl⟩,_,_⟩:=St.rowAddr hS.drop.drop (by omega);have hcells:∀{K K':List HP},Take K (row (.S g ts.length tc) 8 230 ts.length (ts.flatMap Trd.cells)) K'->d8 K g (k*8) (Trd.cells ts[k]):=fun hu=>d8.elemM (enc:=Trd.cells) Trd.len hu hk1
   have hq:L7 ((ts.take k).foldl ay4 p1):=Du7 _ Hok.out fun x hx=>Htr.out x (List.mem_of_mem_take hx)
   have hqw:PsW ((ts.take k).foldl ay4 p1) (N+110):=Al7 (Gy7 _ Hw1.out fun x hx=>Htw.out x (List.mem_of_mem_take hx)) (by rw[jT];omega);have hstep:(ts.take (k+1)).foldl ay4 p1=ay4 ((ts.take k).foldl ay4 p1) ts[k]:=by rw[List.take_succ_eq_append_getElem hk1,List.foldl_append];rfl
   have hb:=Htr.out _ (jW hk1);have hb2:=Htw.out _ (jW hk1);have Hstep:=jH hstep;have Hq:=jH hq;have Hqw:=jH hqw;clear hstep hq hqw;generalize (ts.take k).foldl ay4 p1=q at hS Hstep Hq Hqw;generalize ts[k]=x at hcells Hstep hb hb2;obtain⟨ub,us,xi,xj,xt,xc,xp,xd⟩:=x;obtain⟨⟨c0,c1⟩,⟨t0,t1⟩,⟨p0,p1'⟩,⟨b0,b1⟩⟩:=hb;simp only at c0 c1 t0 t1 p0 p1' b0 b1 hb2;have m1:=BN7 c0 c1 b0 b1;have m2:=BN7 c0 c1 p0 p1';have n1:xc*(xd-xp)<=9223372036854775807:=by omega
   have n2 : -9223372036854775808<=xc*(xd-xp):=by omega
   have n3:xc*xp<=9223372036854775807:=by omega
   have n4 : -9223372036854775808<=xc*xp:=by omega
   simp only[Trd.cells]at hcells;have G1:=jH (show ∀y,s6 (j8 q y)=true from Hq.out);have G2:=jH (show ∀y,s6 (j8 (l5 q ub xt xc) y)=true from Ak7 Hq.out _ _ c0);have G3:=jH (show ∀y,s6 (j8 (l5 (l5 q ub xt xc) ub 0 (xc*(xd-xp))) y)=true from Ak7 (Ak7 Hq.out _ _ c0) _ _ m1.1);have W1:=jH (show PsW q 1000000 from Al7 Hqw.out (by omega));have W2:=jH (show PsW (l5 q ub xt xc) 1000000 from Al7 (AD7 Hqw.out hb2.1 _ _) (by omega));have W3:=jH (show PsW (l5 (l5 q ub xt xc) ub 0 (xc*(xd-xp))) 1000000 from Al7 (AD7 (AD7 Hqw.out hb2.1 _ _) hb2.1 _ _) (by omega));clear hb2;go_wp2_with(fail);refine rt 16 hS ?_
   iterate 5 (refine qR ?_)
   (apply Ar7;rfl;rfl;rfl;decide +kernel;exact hcells (by exact i7) 0 _ rfl;refine frS ?_)
   iterate 4 (refine qR ?_)
   (apply Ar7;rfl;rfl;rfl;decide +kernel;exact hcells (by exact i7) 4 _ rfl;refine frS ?_)
   iterate 4 (refine qR ?_)
   (apply Ar7;rfl;rfl;rfl;decide +kernel;exact hcells (by exact i7) 5 _ rfl;refine frS ?_);clear hS;intro w hS;simp only[jD,List.drop_zero];go_wp2_with(first|go_at_call 136;refine(cv4 xb _ (n+1) _ 1000000 W _ _ W1.out (Nat.le_refl _) _ _ _ (G1.out _) ⟨by omega,by omega⟩ ⟨by omega,by omega⟩ hS).mono ?_;clear hS;rintro e w ⟨rfl,hS⟩);refine rt 23 hS ?_
   iterate 5 (refine qR ?_)
   (apply Ar7;rfl;rfl;rfl;decide +kernel;exact hcells (by exact i7) 0 _ rfl;refine frS ?_)
   iterate 4 (refine qR ?_)
   (apply Ar7;rfl;rfl;rfl;decide +kernel;exact hcells (by exact i7) 5 _ rfl;refine frS ?_)
   iterate 4 (refine qR ?_)
   (apply Ar7;rfl;rfl;rfl;decide +kernel;exact hcells (by exact i7) 7 _ rfl;refine frS ?_)
   iterate 4 (refine qR ?_)
   (apply Ar7;rfl;rfl;rfl;decide +kernel;exact hcells (by exact i7) 6 _ rfl;refine frS ?_)
   iterate 2 (refine qR ?_)
   clear hS;intro w hS;simp only[jD,List.drop_zero];go_wp2_with(first|go_at_call 136;refine(cv4 xb _ (n+1) _ 1000000 W _ _ W2.out (Nat.le_refl _) _ _ _ (G2.out _) ⟨by omega,by omega⟩ ⟨by omega,by omega⟩ hS).mono ?_;clear hS;rintro e w ⟨rfl,hS⟩);refine rt 17 hS ?_
   iterate 5 (refine qR ?_)
   (apply Ar7;rfl;rfl;rfl;decide +kernel;exact hcells (by exact i7) 1 _ rfl;refine frS ?_)
   iterate 4 (refine qR ?_)
   (apply Ar7;rfl;rfl;rfl;decide +kernel;exact hcells (by exact i7) 5 _ rfl;refine frS ?_)
   iterate 4 (refine qR ?_)
   (apply Ar7;rfl;rfl;rfl;decide +kernel;exact hcells (by exact i7) 6 _ rfl;refine frS ?_);refine qR ?_;clear hS;intro w hS;simp only[jD,List.drop_zero];go_wp2_with(first|go_at_call 136;refine(cv4 xb _ (n+1) _ 1000000 W _ _ W3.out (Nat.le_refl _) _ _ _ (G3.out _) ⟨by omega,by omega⟩ ⟨by omega,by omega⟩ hS).mono ?_;clear hS;rintro e w ⟨rfl,hS⟩);go_roundw
   case rel=>exact⟨k+1,rfl,hk1,by rw[Hstep.out];exact hS⟩
   case measure=>simp[intOf];omega
end
theorem gD4(xb xB:Nat)(V:Vs)(N:Nat)(o:Ord)(hp:L7 V.ps)(hw:PsW V.ps N)(hN:N+150<=1000000)(hmay:∀x∈V.L,MayP x)(hn:1<=V.n)(W w:World)(R:List HP)(hS:St W (xvR xb xB V.ps V.L V.n R) w):
  Calls Tryz.prog 105 #[.P xb,.agg o.cells.toArray] w fun e w'=>e=.returned (.tuple #[.I (x8 V o).1,.I (x8 V o).2.1]) /\
   St W (xvR xb xB (x8 V o).2.2.ps (x8 V o).2.2.L (x8 V o).2.2.n R) w':=by
 unfold x8;by_cases h1:aU4 o=false
 ·rw[if_pos h1];exact KG7 xb xB V.ps V.L V.n o W w R h1 hS
 ·rw[if_neg h1];have h1':aU4 o=true:=by simpa using h1
  by_cases h2:32<=V.L.length\/1099511627776<V.n
  ·rw[if_pos h2];exact IN7 xb xB V.ps V.L V.n o W w R h1' h2 hS
  ·rw[if_neg h2];by_cases h3:p9 V.ps o.who (j5 o)=0
   ·rw[if_pos h3];exact MI7 xb xB V.ps V.L V.n N o W w R hp hw hN hmay h1' hn (by omega) (by omega) h3 hS
   ·rw[if_neg h3]
    have h14:p9 V.ps o.who (j5 o)=14:=by
     have hh:=Cg7 h1';unfold p9 at h3 ⊢;rw[if_pos hh]at h3 ⊢;split
     ·rename_i hs;rw[if_pos hs]at h3;exact absurd rfl h3
     ·rfl
    exact HL7 xb xB V.ps V.L V.n N o W w R hw (by omega) h1' (by omega) hn (by omega) h14 hS
def CaR(W:World)(F:List HP)(L:List Ord)(id:Int)(who:ByteArray)(v:Value)(w:World):Prop:=
 ∃i:Nat,v=.I i/\i<=L.length/\(∀x∈L.take i,an4 id who x=false)/\St W F w
section
variable(xb xB:Nat)(p:Ps)(L:List Ord)(n:Int)(N:Nat)(who:ByteArray)(id:Int)(W w:World)(R:List HP)
theorem er4(hp:L7 p)(hw:PsW p N)(hN:N+150<=1000000)(hmay:∀x∈L,MayP x)(hl32:L.length<=32)(hS:St W (xvR xb xB p L n R) w):
  Calls Tryz.prog 106 #[.P xb,.string who,.I id] w fun e w'=>e=.returned (.I (B8 ⟨p,L,n⟩ who id).1)/\St W (xvR xb xB (B8 ⟨p,L,n⟩ who id).2.ps (B8 ⟨p,L,n⟩ who id).2.L n R) w':=by
 have Hp:=jH hp;have Hw:=jH hw;have Hmay:=jH hmay;clear hp hw hmay;obtain⟨xv,hS1⟩:=aV4 hS;obtain⟨la,lc,last,hlast,hS2⟩:=bx4 (hS1.s (xkP xB L n::blk xb _ _::hdR _ (hdL p)::R));clear hS hS1;have hS:=hS2;clear hS2;go_enter Tryz.func106,Tryz.ntmps106;go_wp2_with fail
 go_loopw [7] (fun v wr=>CaR W (blk xB [.slice la L.length lc,.I last] 186::j7 (.slice la L.length lc) L::blk xb [xv,.P xB,.I n] 183::hdR xv (hdL p)::R) L id who v wr) (fun v _=>L.length-(intOf v).toNat)
 case atStart=>exact⟨0,rfl,Nat.zero_le _,fun x hx=>(by simp at hx),hS⟩
 case round=>
  clear hS;obtain⟨i,rfl,hil,hno,hS⟩:=hrel;by_cases hin:i=L.length
  ·rw[hin,List.take_length]at hno;have hany:L.any (an4 id who)=false:=by rw[List.any_eq_false];intro x hx;rw[hno x hx];simp
   have E:=jH (show B8 ⟨p,L,n⟩ who id=(7,⟨p,L,n⟩)by unfold B8;rw[if_neg (by rw[hany];simp)]);subst hin;clear hno hany;go_wp2_with(first|refine zl1 hS ?_);go_ret;rw[E.out];have hS1:=aJ4 hlast (hS.s (blk xB _ _::j7 _ L::blk xb _ _::hdR _ (hdL p)::R));exact⟨rfl,ao4 (hS1.s (blk xb _ _::hdR _ (hdL p)::xkP xB L n::R))⟩
  ·have hi1:i<L.length:=by omega
   obtain⟨⟨g,rfl⟩,_,_⟩:=St.rowAddr hS.drop (by omega);have q0:(Ord.cells L[i])[0]? = some (.I L[i].id):=rfl;have q1:(Ord.cells L[i])[1]? = some (.string L[i].who):=rfl
   have hstep:an4 id who L[i]=false->∀x∈L.take (i+1),an4 id who x=false:=fun h x hx=>by
    rw[List.take_succ_eq_append_getElem hi1]at hx
    rcases List.mem_append.1 hx with hx|hx
    ·exact hno x hx
    ·rw[List.mem_singleton.1 hx];exact h
   have hyes:an4 id who L[i]=true->L.any (an4 id who)=true:=fun h=>List.any_eq_true.2 ⟨_,jW hi1,h⟩
   have hd:an4 id who L[i]=((L[i].id==id)&&(L[i].who.toList==who.toList)):=rfl;generalize hx:L[i]=x at q0 q1 hstep hyes hd;have Hx:=jH hx;clear hx hno hin;obtain⟨xi,xu,xy,xt,xc,xp⟩:=x;simp only at q0 q1 hd;have c0:∀{K K':List HP},Take K (j7 (.S g L.length lc) L) K'->i6 K g (i*6) (.I xi):=fun hu=>d8.elemM (enc:=Ord.cells) Ord.len hu hi1 0 _ (by rw[Hx.out];rfl)
   have c1:∀{K K':List HP},Take K (j7 (.S g L.length lc) L) K'->i6 K g (i*6+1) (.string xu):=fun hu=>d8.elemM (enc:=Ord.cells) Ord.len hu hi1 1 _ (by rw[Hx.out];rfl)
   cases h1:xi==id with
   | false=>
    rw[h1,Bool.false_and]at hd;have Hs:=jH (hstep hd);clear hstep hyes hd q0 q1;go_wp2_with(first|refine zl1 hS ?_|refine zl1 hS ?_ (hc:=by exact c0 (by exact i7)));go_roundw
    case rel=>exact⟨i+1,rfl,hi1,Hs.out,hS⟩
    case measure=>simp[intOf];omega
   | true=>
    cases h2:xu.toList==who.toList with
    | false=>
     rw[h1,h2,Bool.and_false]at hd;have Hs:=jH (hstep hd);clear hstep hyes hd q0 q1;go_wp2_with(first|refine zl1 hS ?_|refine zl1 hS ?_ (hc:=by exact c0 (by exact i7))|refine zl1 hS ?_ (hc:=by exact c1 (by exact i7)));go_roundw
     case rel=>exact⟨i+1,rfl,hi1,Hs.out,hS⟩
     case measure=>simp[intOf];omega
    | true=>
     rw[h1,h2,Bool.and_true]at hd;have hany:=hyes hd;obtain⟨he0,hmem⟩:=CJ7 hany;have hmz:=Hmay.out _ hmem;have e:B8 ⟨p,L,n⟩ who id=(0,⟨bY4 p who (j5 (m9 L id).o),(m9 L id).L,n⟩):=by unfold B8;rw[if_pos hany]
     generalize hCR:m9 L id=CR at he0 hmz e;obtain⟨⟨zi,zu,zy,zt,zc,zp⟩,en,L2⟩:=CR;simp only at he0 hmz e;subst he0;obtain⟨it,hit⟩:∃y,j5 ⟨zi,zu,zy,zt,zc,zp⟩=y:=⟨_,rfl⟩
     have hii:s6 it=true:=by rw[<-hit];exact(Cg7 (o:=⟨zi,zu,zy,zt,zc,zp⟩) (Ao7.2 ⟨show(1:Int)<=1 by decide,show(1:Int)<=1099511627776 by decide,hmz.who0,hmz.who1,hmz.item0,hmz.item1,hmz.cnt0,hmz.cnt1,hmz.price0,hmz.price1⟩)).2
     have hwho:C6 who=true:=by
      have hxw:(⟨xi,xu,xy,xt,xc,xp⟩:Ord)∈L:=by rw[<-Hx.out];exact jW hi1
      have e1:xu=who:=Dw7 (by rw[Lib.toList_data,Lib.toList_data]at h2;simpa using h2);rw[<-e1];exact Ei7 (Hmay.out _ hxw)
     rw[hit]at e;obtain⟨h0,h1',h2',h3'⟩:=it;obtain⟨a0,a1,a2,a3⟩:=Ag7.1 hii;simp only at a0 a1 a2 a3;have HCR:=jH hCR;have Hmz:=jH hmz;have Hit:=jH hit;have E:=jH e;clear hCR hmz hit e hii hstep hyes hd q0 q1 hany hmem;have G1:=jH (show ∀y,s6 (j8 p y)=true from Hp.out);have G2:=jH (show ∀y,s6 (j8 (l5 p who 0 h0) y)=true from Ak7 Hp.out _ _ a0.1);have G3:=jH (show ∀y,s6 (j8 (l5 (l5 p who 0 h0) who 1 h1') y)=true from Ak7 (Ak7 Hp.out _ _ a0.1) _ _ a1.1);have G4:=jH (show ∀y,s6 (j8 (l5 (l5 (l5 p who 0 h0) who 1 h1') who 2 h2') y)=true from Ak7 (Ak7 (Ak7 Hp.out _ _ a0.1) _ _ a1.1) _ _ a2.1);have W1:=jH (show PsW p 1000000 from Al7 Hw.out (by omega));have W2:=jH (show PsW (l5 p who 0 h0) 1000000 from Al7 (AD7 Hw.out hwho _ _) (by omega));have W3:=jH (show PsW (l5 (l5 p who 0 h0) who 1 h1') 1000000 from Al7 (AD7 (AD7 Hw.out hwho _ _) hwho _ _) (by omega));have W4:=jH (show PsW (l5 (l5 (l5 p who 0 h0) who 1 h1') who 2 h2') 1000000 from Al7 (AD7 (AD7 (AD7 Hw.out hwho _ _) hwho _ _) hwho _ _) (by omega));clear hwho;go_wp2_with(first|refine zl1 hS ?_|refine zl1 hS ?_ (hc:=by exact c0 (by exact i7))|refine zl1 hS ?_ (hc:=by exact c1 (by exact i7))|go_at_call 137;refine(FP7 L id xB last _ hl32 W _ _ (hS.s (blk xB _ _::j7 _ L::blk xb _ _::hdR _ (hdL p)::R))).mono ?_;clear hS;rw[HCR.out];simp only[Ord.cells];rintro e w ⟨rfl,v9,hS⟩|go_at_call 119;refine(DF7 (o:=⟨zi,zu,zy,zt,zc,zp⟩) Hmz.out Hit.out W _ _ hS).mono ?_;clear hS;rintro e w ⟨rfl,hS⟩|(fail_if_success (have:=b8));((with_reducible apply An7 hS);rfl;rfl;exact zsS;clear hS;intro b8 w hS;refine frS ?_)|(have:=b8);(with_reducible apply An7 hS);rfl;rfl;exact zsS;clear hS;intro b10 w hS;refine frS ?_|refine zlN hS ?_|refine zsN hS ?_;clear hS;intro w hS);have hS1:=aJ4 hlast (hS.s (blk xB _ _::j7 _ L2::blk xb _ _::hdR _ (hdL p)::blk b10 _ _::R));clear hS
     have hS:=ao4 (hS1.s (blk xb _ _::hdR _ (hdL p)::xkP xB L2 n::blk b10 _ _::R));clear hS1
     go_loopw [11] (fun v wr=>Cn4 W (fun q=>[xvP xb (.P xB) n q,xkP xB L2 n,blk b10 [.I h0,.I h1',.I h2',.I h3'] 34]++R) p who ⟨h0,h1',h2',h3'⟩ v wr) (fun v _=>4-(intOf v).toNat)
     case atStart=>exact .inl ⟨rfl,hS⟩
     case round=>
     clear hS;simp only[Cn4,jK,jN]at hrel
     rcases hrel with ⟨rfl,hS⟩|⟨rfl,hS⟩|⟨rfl,hS⟩|⟨rfl,hS⟩|⟨rfl,hS⟩
     ·skip
      go_wp2_with(first|refine zl1 hS ?_|go_at_call 136;refine(cv4 xb _ n _ 1000000 W _ _ W1.out (Nat.le_refl _) _ _ _ (G1.out _) ⟨by omega,by omega⟩ ⟨by omega,by omega⟩ hS).mono ?_;clear hS;rintro e w ⟨rfl,hS⟩);go_roundw
      case rel=>exact .inr (.inl ⟨rfl,hS⟩)
      case measure=>simp[intOf]
     ·skip
      go_wp2_with(first|refine zl1 hS ?_|go_at_call 136;refine(cv4 xb _ n _ 1000000 W _ _ W2.out (Nat.le_refl _) _ _ _ (G2.out _) ⟨by omega,by omega⟩ ⟨by omega,by omega⟩ hS).mono ?_;clear hS;rintro e w ⟨rfl,hS⟩);go_roundw
      case rel=>exact .inr (.inr (.inl ⟨rfl,hS⟩))
      case measure=>simp[intOf]
     ·skip
      go_wp2_with(first|refine zl1 hS ?_|go_at_call 136;refine(cv4 xb _ n _ 1000000 W _ _ W3.out (Nat.le_refl _) _ _ _ (G3.out _) ⟨by omega,by omega⟩ ⟨by omega,by omega⟩ hS).mono ?_;clear hS;rintro e w ⟨rfl,hS⟩);go_roundw
      case rel=>exact .inr (.inr (.inr (.inl ⟨rfl,hS⟩)))
      case measure=>simp[intOf]
     ·skip
      go_wp2_with(first|refine zl1 hS ?_|go_at_call 136;refine(cv4 xb _ n _ 1000000 W _ _ W4.out (Nat.le_refl _) _ _ _ (G4.out _) ⟨by omega,by omega⟩ ⟨by omega,by omega⟩ hS).mono ?_;clear hS;rintro e w ⟨rfl,hS⟩);go_roundw
      case rel=>exact .inr (.inr (.inr (.inr ⟨rfl,hS⟩)))
      case measure=>simp[intOf]
     ·go_wp2_with(fail);go_ret;rw[E.out];exact⟨rfl,hS.s _⟩
end
end Go.Proofs.YtienbkdjkjbelaaGreat
end
