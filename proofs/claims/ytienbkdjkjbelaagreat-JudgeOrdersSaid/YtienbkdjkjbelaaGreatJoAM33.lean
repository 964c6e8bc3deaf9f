/-
  The document's vault.
-/
import Derived.Test.YtienbkdjkjbelaaGreatJoAM5
import Derived.Test.YtienbkdjkjbelaaGreatJoAM20
import Derived.Test.YtienbkdjkjbelaaGreatJoAM21
import Derived.Test.YtienbkdjkjbelaaGreatJoAM28
import Derived.Test.YtienbkdjkjbelaaGreatJoAM29
import Derived.Test.YtienbkdjkjbelaaGreatJoAM32
set_option maxHeartbeats 16000000
set_option maxRecDepth 100000
set_option linter.unusedSimpArgs false
set_option linter.unusedVariables false
section
namespace Go.Proofs.YtienbkdjkjbelaaGreat
open Go.RowKit Go.Sl
def pxR(xB:Nat)(L:List Ord)(m:Int)(ts:List Trd)(v:Value):HP:=fun f=>∃(a:Option Addr) (c:Nat) (left:Int),v=.tuple #[.slice a ts.length c,.I left,.I 0]/\sats [xkP xB L m,row (.slice a ts.length c) 8 230 ts.length (ts.flatMap Trd.cells)] f
section
variable{W w:World}{xB:Nat}{L:List Ord}{m n:Int}{ts:List Trd}{v:Value}{R:List HP}
theorem dW4(h:St W (pxR xB L m ts v::R) w):∃a c left,v=.tuple #[.slice a ts.length c,.I left,.I 0]/\St W (xkP xB L m::row (.slice a ts.length c) 8 230 ts.length (ts.flatMap Trd.cells)::R) w:=by obtain⟨a,h⟩:=St.ex h;obtain⟨c,h⟩:=St.ex h;obtain⟨left,h⟩:=St.ex h;obtain⟨h1,h⟩:=St.and h;refine⟨a,c,left,h1,?_⟩;exact(St.split (St.split h).swap).swap.drop.swap
theorem eZ4{a:Option Addr}{c:Nat}{left:Int}(hv:v=.tuple #[.slice a ts.length c,.I left,.I 0])(h:St W (xkP xB L m::row (.slice a ts.length c) 8 230 ts.length (ts.flatMap Trd.cells)::R) w):St W (pxR xB L m ts v::R) w:=by refine St.mkEx a (St.mkEx c (St.mkEx left (St.mkAnd hv ?_)));refine St.join ?_;refine St.swap (St.imp h.swap ?_);intro f hf;exact⟨fun _=>true,hf,trivial⟩
theorem dX4{L1 R1:List HP}(hS:St W L1 w)(hu:Take L1 (pxR xB L m ts v) R1):∃vs:Array Value,v=.tuple vs/\vs.size=3:=by obtain⟨a,c,left,h,_⟩:=dW4 (hS.take hu);exact⟨_,h,rfl⟩
theorem eo4{o:Ord}{L2:List Ord}(hm:MayP o)(hid:o.id=n)(hL:L.length<32)(hmay:∀x∈L,MayP x)(h1:ca4 L o=L2)(h2:ba4 L o=ts)(hS:St W (xkP xB L n::R) w):
  Calls Tryz.prog 135 #[.P xB,.agg o.cells.toArray] w fun e w'=>∃v,e=.returned v/\St W (pxR xB L2 (n+1) ts v::R) w':=by
 subst h1 h2;obtain⟨a,c,last,hlast,hS⟩:=bo4 hS;have hno:¬(I8 o=false\/o.id<=last):=by rintro(h|h);(rw[As7.2 hm]at h;cases h);omega
 have ht:(E9 L last o).trades=ba4 L o:=by unfold E9;rw[if_neg hno,if_neg (by omega)];rfl
 have hl:(E9 L last o).L=ca4 L o:=by unfold E9;rw[if_neg hno,if_neg (by omega)];rfl
 refine(Iv7 L last o xB _ (As7.2 hm) (by omega) (by omega) (fun x hx=>⟨(hmay x hx).cnt0,(hmay x hx).cnt1⟩) W w R hS).mono ?_;rw[ht,hl];rintro e w' ⟨v7,v',rfl,hS⟩;obtain⟨a7,c7,rfl⟩:=hS.drop.drop.rowVal;exact⟨_,rfl,eZ4 rfl (aA4 (by omega) hS)⟩
end
def OxR(W:World)(F:Ps->List HP)(p:Ps)(ts:List Trd)(v:Value)(w:World):Prop:=
 ∃(k:Nat),v=.I k/\k<=ts.length/\St W (F ((ts.take k).foldl aI4 p)) w
section
variable(xb xB:Nat)(p:Ps)(L:List Ord)(n:Int)(N:Nat)(o:Ord)(W w:World)(R:List HP)
theorem Ms7(hp:K6 p)(hw:PsW p N)(hN:N+150<=1000000)(hmay:∀x∈L,MayP x)(h:aZ4 o=true)(hn0:1<=n)(hn:n<=1099511627776)(hL:L.length<32)(ht:r6 p o.who (m6 o)=0)(hS:St W (xvR xb xB p L n R) w):
  Calls Tryz.prog 105 #[.P xb,.agg o.cells.toArray] w fun e w'=>e=.returned (.tuple #[.I n,.I 0]) /\
   St W (xvR xb xB ((ba4 L { o with id:=n }).foldl aI4 (t8 p o.who (m6 o))) (ca4 L { o with id:=n }) (n+1) R) w':=by
 obtain⟨i,u,y,t,c,pr⟩:=o;have hm:I8 ⟨1,u,y,t,c,pr⟩=true:=h;have hm1:=As7.1 hm;have hm2:MayP ⟨n,u,y,t,c,pr⟩:=⟨hn0,hn,hm1.who0,hm1.who1,hm1.item0,hm1.item1,hm1.cnt0,hm1.cnt1,hm1.price0,hm1.price1⟩
 have eh:m6 ⟨i,u,y,t,c,pr⟩=m6 ⟨n,u,y,t,c,pr⟩:=rfl;have ht':r6 p u (m6 ⟨n,u,y,t,c,pr⟩)=0:=ht;have c0':1<=c:=hm2.cnt0;have c1':c<=1048576:=hm2.cnt1;have htr:∀x∈ba4 L ⟨n,u,y,t,c,pr⟩,TrB x:=Dv7 _ _ _ _ hmay ⟨show 0<=c by omega,c1',hm2.item0,hm2.item1,hm2.price1⟩ fun t ht=>(by cases ht)
 have htw:∀x∈ba4 L ⟨n,u,y,t,c,pr⟩,B7 x.buyer=true/\B7 x.seller=true:=Ei7 _ _ _ _ (fun x hx=>Eg7 (hmay x hx)) (Eg7 hm2) fun t ht=>(by cases ht)
 have htl:(ba4 L ⟨n,u,y,t,c,pr⟩).length<=33:=by have:=Eh7 (L.length+1) ⟨n,u,y,t,c,pr⟩ L [];unfold ba4;rw[List.length_nil]at this;omega
 have hok1:K6 (t8 p u (m6 ⟨n,u,y,t,c,pr⟩)):=CC7 hp _ _;have hw1:PsW (t8 p u (m6 ⟨n,u,y,t,c,pr⟩)) (N+1):=Dx7 hw _ _;simp only[eh];obtain⟨p1,hp1⟩:∃x,t8 p u (m6 ⟨n,u,y,t,c,pr⟩)=x:=⟨_,rfl⟩
 rw[hp1]at hok1 hw1;simp only[hp1];obtain⟨it,hit⟩:∃x,m6 ⟨n,u,y,t,c,pr⟩=x:=⟨_,rfl⟩
 rw[hit]at ht' hp1;obtain⟨h0,h1,h2,h3⟩:=it;obtain⟨ts,hts⟩:∃x,ba4 L ⟨n,u,y,t,c,pr⟩=x:=⟨_,rfl⟩
 obtain⟨L2,hL2⟩:∃x,ca4 L ⟨n,u,y,t,c,pr⟩=x:=⟨_,rfl⟩
 simp only[hts,hL2];rw[hts]at htr htw htl;have Hts:=jH hts;have HL2:=jH hL2;clear hts hL2;have Hm2:=jH hm2;have Hit:=jH hit;have Hte:=jH ht';have Htp:=jH hp1;have Hok:=jH hok1;have Hw:=jH hw;have Hw1:=jH hw1;have Htr:=jH htr;have Htw:=jH htw;have Hmay:=jH hmay;have hN':=hN;have hN:N<=1000000:=by omega
 have d1:decide ((32:Int)<=(L.length:Int))=false:=by simp;omega
 have d2:decide ((1099511627776:Int)<n)=false:=by simp;omega
 clear hit ht' hp1 h ht eh hok1 htr htw hmay hm1 hm2 hp hw hw1;simp only[Ord.cells];obtain⟨xv,hS1⟩:=aJ4 hS;obtain⟨la,lc,last,hlast,hS2⟩:=bo4 (hS1.s (xkP xB L n::blk xb _ _::hdR _ (hdL p)::R));clear hS hS1;have hS:=hS2;clear hS2;go_enter Tryz.func105,Tryz.ntmps105;go_wp2_with(first|go_at_call 134;refine(Bh7 ⟨1,u,y,t,c,pr⟩ W _ _ hS).mono ?_;clear hS;rw[hm];rintro e w ⟨rfl,hS⟩|(with_reducible apply Az7 hS);rfl;rfl;rfl;rfl;clear hS;intro b3 w hS;refine frS ?_|(with_reducible apply An7 hS);rfl;rfl;exact zsS;clear hS;intro b6 w hS;refine frS ?_|refine zl1 hS ?_|refine zlN hS ?_|refine zs1 hS ?_;clear hS;intro w hS|refine zsN hS ?_;clear hS;intro w hS);refine rt 5 hS ?_
 iterate 2 (refine qR ?_)
 (refine zq1 ?_);refine zqN ?_;apply At7;rfl;(intro w;apply Aj7;rfl;decide +kernel;(focus(simp only[fD,fI,fJ,Act.eval,fE,fF,fG,fH,fK];try rfl)));(intro w hS;exact Fz7 (o:=⟨n,u,y,t,c,pr⟩) Hm2.out Hit.out W w _ hS);(refine frS ?_);clear hS;intro w hS;simp only[jD,List.drop_zero];go_wp2_with(first|go_at_call 103;refine(dV4 xb _ n p N W _ _ Hw.out hN u ⟨h0,h1,h2,h3⟩ (ah4 (hS.s (blk xb _ _::hdR _ (hdL p)::blk xB _ _::j7 _ L::blk b6 _ _::blk b3 _ _::R)))).mono ?_;clear hS;rw[Hte.out,Htp.out];rintro e w ⟨rfl,hS⟩;(have hS1:=aJ4 hS);clear hS;obtain⟨xv2,hS⟩:=hS1|refine zl1 hS ?_|refine zs1 hS ?_;clear hS;intro w hS);have hSk:=aA4 hlast (hS.s (blk xB _ _::j7 _ L::blk b3 _ _::blk xb _ _::hdR _ (hdL p1)::R));clear hS;refine rf3 [0,1,3,7,0,31,63,127,127,127,255,1535,4095] (fun i=>i==5) (fun _=>none) [⟨some 5,none,fun nd=>pxR xB L2 (n+1) ts (nd 5)⟩] [some 5,none,none,none] hSk ?_;clear hSk;intro nd;refine cR ?_;refine zcn ?_;refine cR ?_;refine zc1 ?_;refine zcN ?_;apply AH7;rfl;rfl;rfl;decide +kernel;(focus(simp only[fD,fI,fJ,Act.eval,fE,fF,fG,fH,fK];try rfl));(intro _;rfl);(intro F w hS;exact eo4 (o:=⟨n,u,y,t,c,pr⟩) Hm2.out rfl hL Hmay.out HL2.out Hts.out hS);(refine frS ?_);refine cR ?_;apply Ec7 (v:=nd 5);rfl;kernel_rfl;rfl;rfl;rfl;(intro F w hS;exact dX4 hS (by exact w8));decide;(refine frS ?_);apply Ec7 (v:=nd 5);rfl;kernel_rfl;rfl;rfl;rfl;(intro F w hS;exact dX4 hS (by exact w8));decide;(refine frS ?_);apply Ec7 (v:=nd 5);rfl;kernel_rfl;rfl;rfl;rfl;(intro F w hS;exact dX4 hS (by exact w8));decide;(refine frS ?_)
 iterate 3 (refine cR ?_)
 refine Ad7 ?_;intro w hS;have hS2:St W [pxR xB _ _ _ (nd 5),blk b3 _ _,blk xb _ _,hdR _ (hdL p1),sats R] w:=hS;clear hS;have hS:=hS2.unpack [_,_,_,_];clear hS2;simp only[jK,jN]at hS;generalize nd 5=v5 at *;obtain⟨ta,tc,left,hv5,hS5⟩:=dW4 hS;clear hS;subst hv5;have hS:=ah4 (hS5.s (blk xb _ _::hdR _ (hdL p1)::xkP xB L2 (n+1)::row (.slice ta ts.length tc) 8 _ _ _::blk b3 _ _::R));clear hS5;simp only[dn4,Array.getD_eq_getD_getElem?,List.getElem?_toArray,List.getElem?_cons_zero,List.getElem?_cons_succ,Option.getD_some];go_wp2_with(fail)
 go_loopw [11] (fun v wr=>OxR W (fun q=>[xvP xb (.P xB) (n+1) q,xkP xB L2 (n+1),row (.slice ta ts.length tc) 8 230 ts.length (ts.flatMap Trd.cells),blk b3 [.I n,.string u,.bool y,.I t,.I c,.I pr] 173]++R) p1 ts v wr) (fun v _=>ts.length-(intOf v).toNat)
 case atStart=>exact⟨0,rfl,Nat.zero_le _,hS⟩
 case round=>
  clear hS;obtain⟨k,rfl,hk,hS⟩:=hrel;simp only[jK,jN]at hS;by_cases hkn:k=ts.length
  ·subst hkn;rw[List.take_length]at hS;go_wp2_with(first|refine zl1 hS ?_);go_ret2;exact⟨rfl,hS.s _⟩
  ·have hk1:k<ts.length:=by omega
   clear hkn hk;obtain⟨⟨g,rfl⟩,_,_⟩:=St.rowAddr hS.drop.drop (by omega);have hcells:∀{K K':List HP},Take K (row (.S g ts.length tc) 8 230 ts.length (ts.flatMap Trd.cells)) K'->i6 K g (k*8) (Trd.cells ts[k]):=fun hu=>i6.elemM (enc:=Trd.cells) Trd.len hu hk1
   have hq:K6 ((ts.take k).foldl aI4 p1):=Dw7 _ Hok.out fun x hx=>Htr.out x (List.mem_of_mem_take hx)
   have hqw:PsW ((ts.take k).foldl aI4 p1) (N+110):=Al7 (Gz7 _ Hw1.out fun x hx=>Htw.out x (List.mem_of_mem_take hx)) (by rw[jT];omega);have hstep:(ts.take (k+1)).foldl aI4 p1=aI4 ((ts.take k).foldl aI4 p1) ts[k]:=by rw[List.take_succ_eq_append_getElem hk1,List.foldl_append];rfl
   have hb:=Htr.out _ (jW hk1);have hb2:=Htw.out _ (jW hk1);have Hstep:=jH hstep;have Hq:=jH hq;have Hqw:=jH hqw;clear hstep hq hqw;generalize (ts.take k).foldl aI4 p1=q at hS Hstep Hq Hqw;generalize ts[k]=x at hcells Hstep hb hb2;obtain⟨ub,us,xi,xj,xt,xc,xp,xd⟩:=x;obtain⟨⟨c0,c1⟩,⟨t0,t1⟩,⟨p0,p1'⟩,⟨b0,b1⟩⟩:=hb;simp only at c0 c1 t0 t1 p0 p1' b0 b1 hb2;have m1:=CS7 c0 c1 b0 b1;have m2:=CS7 c0 c1 p0 p1';have n1:xc*(xd-xp)<=9223372036854775807:=by omega
   have n2 : -9223372036854775808<=xc*(xd-xp):=by omega
   have n3:xc*xp<=9223372036854775807:=by omega
   have n4 : -9223372036854775808<=xc*xp:=by omega
   simp only[Trd.cells]at hcells;have G1:=jH (show ∀y,w5 (j9 q y)=true from Hq.out);have G2:=jH (show ∀y,w5 (j9 (l9 q ub xt xc) y)=true from Am7 Hq.out _ _ c0);have G3:=jH (show ∀y,w5 (j9 (l9 (l9 q ub xt xc) ub 0 (xc*(xd-xp))) y)=true from Am7 (Am7 Hq.out _ _ c0) _ _ m1.1);have W1:=jH (show PsW q 1000000 from Al7 Hqw.out (by omega));have W2:=jH (show PsW (l9 q ub xt xc) 1000000 from Al7 (AI7 Hqw.out hb2.1 _ _) (by omega));have W3:=jH (show PsW (l9 (l9 q ub xt xc) ub 0 (xc*(xd-xp))) 1000000 from Al7 (AI7 (AI7 Hqw.out hb2.1 _ _) hb2.1 _ _) (by omega));clear hb2;go_wp2_with(fail);refine rt 16 hS ?_
   iterate 5 (refine qR ?_)
   (apply Aq7;rfl;rfl;rfl;decide +kernel;exact hcells (by exact i8) 0 _ rfl;refine frS ?_)
   iterate 4 (refine qR ?_)
   (apply Aq7;rfl;rfl;rfl;decide +kernel;exact hcells (by exact i8) 4 _ rfl;refine frS ?_)
   iterate 4 (refine qR ?_)
   (apply Aq7;rfl;rfl;rfl;decide +kernel;exact hcells (by exact i8) 5 _ rfl;refine frS ?_);clear hS;intro w hS;simp only[jD,List.drop_zero];go_wp2_with(first|go_at_call 136;refine(ct4 xb _ (n+1) _ 1000000 W _ _ W1.out (Nat.le_refl _) _ _ _ (G1.out _) ⟨by omega,by omega⟩ ⟨by omega,by omega⟩ hS).mono ?_;clear hS;rintro e w ⟨rfl,hS⟩);refine rt 23 hS ?_
   iterate 5 (refine qR ?_)
   (apply Aq7;rfl;rfl;rfl;decide +kernel;exact hcells (by exact i8) 0 _ rfl;refine frS ?_)
   iterate 4 (refine qR ?_)
   (apply Aq7;rfl;rfl;rfl;decide +kernel;exact hcells (by exact i8) 5 _ rfl;refine frS ?_)
   iterate 4 (refine qR ?_)
   (apply Aq7;rfl;rfl;rfl;decide +kernel;exact hcells (by exact i8) 7 _ rfl;refine frS ?_)
   iterate 4 (refine qR ?_)
   (apply Aq7;rfl;rfl;rfl;decide +kernel;exact hcells (by exact i8) 6 _ rfl;refine frS ?_)
   iterate 2 (refine qR ?_)
   clear hS;intro w hS;simp only[jD,List.drop_zero];go_wp2_with(first|go_at_call 136;refine(ct4 xb _ (n+1) _ 1000000 W _ _ W2.out (Nat.le_refl _) _ _ _ (G2.out _) ⟨by omega,by omega⟩ ⟨by omega,by omega⟩ hS).mono ?_;clear hS;rintro e w ⟨rfl,hS⟩);refine rt 17 hS ?_
   iterate 5 (refine qR ?_)
   (apply Aq7;rfl;rfl;rfl;decide +kernel;exact hcells (by exact i8) 1 _ rfl;refine frS ?_)
   iterate 4 (refine qR ?_)
   (apply Aq7;rfl;rfl;rfl;decide +kernel;exact hcells (by exact i8) 5 _ rfl;refine frS ?_)
   iterate 4 (refine qR ?_)
   (apply Aq7;rfl;rfl;rfl;decide +kernel;exact hcells (by exact i8) 6 _ rfl;refine frS ?_);refine qR ?_;clear hS;intro w hS;simp only[jD,List.drop_zero];go_wp2_with(first|go_at_call 136;refine(ct4 xb _ (n+1) _ 1000000 W _ _ W3.out (Nat.le_refl _) _ _ _ (G3.out _) ⟨by omega,by omega⟩ ⟨by omega,by omega⟩ hS).mono ?_;clear hS;rintro e w ⟨rfl,hS⟩);go_roundw
   case rel=>exact⟨k+1,rfl,hk1,by rw[Hstep.out];exact hS⟩
   case measure=>simp[intOf];omega
end
theorem gB4(xb xB:Nat)(V:Vs)(N:Nat)(o:Ord)(hp:K6 V.ps)(hw:PsW V.ps N)(hN:N+150<=1000000)(hmay:∀x∈V.L,MayP x)(hn:1<=V.n)(W w:World)(R:List HP)(hS:St W (xvR xb xB V.ps V.L V.n R) w):
  Calls Tryz.prog 105 #[.P xb,.agg o.cells.toArray] w fun e w'=>e=.returned (.tuple #[.I (B5 V o).1,.I (B5 V o).2.1]) /\
   St W (xvR xb xB (B5 V o).2.2.ps (B5 V o).2.2.L (B5 V o).2.2.n R) w':=by
 unfold B5;by_cases h1:aZ4 o=false
 ·rw[if_pos h1];exact KE7 xb xB V.ps V.L V.n o W w R h1 hS
 ·rw[if_neg h1];have h1':aZ4 o=true:=by simpa using h1
  by_cases h2:32<=V.L.length\/1099511627776<V.n
  ·rw[if_pos h2];exact IN7 xb xB V.ps V.L V.n o W w R h1' h2 hS
  ·rw[if_neg h2];by_cases h3:r6 V.ps o.who (m6 o)=0
   ·rw[if_pos h3];exact Ms7 xb xB V.ps V.L V.n N o W w R hp hw hN hmay h1' hn (by omega) (by omega) h3 hS
   ·rw[if_neg h3]
    have h14:r6 V.ps o.who (m6 o)=14:=by
     have hh:=EH7 h1';unfold r6 at h3 ⊢;rw[if_pos hh]at h3 ⊢;split
     ·rename_i hs;rw[if_pos hs]at h3;exact absurd rfl h3
     ·rfl
    exact HM7 xb xB V.ps V.L V.n N o W w R hw (by omega) h1' (by omega) hn (by omega) h14 hS
def CaR(W:World)(F:List HP)(L:List Ord)(id:Int)(who:ByteArray)(v:Value)(w:World):Prop:=
 ∃i:Nat,v=.I i/\i<=L.length/\(∀x∈L.take i,ag4 id who x=false)/\St W F w
section
variable(xb xB:Nat)(p:Ps)(L:List Ord)(n:Int)(N:Nat)(who:ByteArray)(id:Int)(W w:World)(R:List HP)
theorem ep4(hp:K6 p)(hw:PsW p N)(hN:N+150<=1000000)(hmay:∀x∈L,MayP x)(hl32:L.length<=32)(hS:St W (xvR xb xB p L n R) w):
  Calls Tryz.prog 106 #[.P xb,.string who,.I id] w fun e w'=>e=.returned (.I (B9 ⟨p,L,n⟩ who id).1)/\St W (xvR xb xB (B9 ⟨p,L,n⟩ who id).2.ps (B9 ⟨p,L,n⟩ who id).2.L n R) w':=by
 have Hp:=jH hp;have Hw:=jH hw;have Hmay:=jH hmay;clear hp hw hmay;obtain⟨xv,hS1⟩:=aJ4 hS;obtain⟨la,lc,last,hlast,hS2⟩:=bo4 (hS1.s (xkP xB L n::blk xb _ _::hdR _ (hdL p)::R));clear hS hS1;have hS:=hS2;clear hS2;go_enter Tryz.func106,Tryz.ntmps106;go_wp2_with fail
 go_loopw [7] (fun v wr=>CaR W (blk xB [.slice la L.length lc,.I last] 186::j7 (.slice la L.length lc) L::blk xb [xv,.P xB,.I n] 183::hdR xv (hdL p)::R) L id who v wr) (fun v _=>L.length-(intOf v).toNat)
 case atStart=>exact⟨0,rfl,Nat.zero_le _,fun x hx=>(by simp at hx),hS⟩
 case round=>
  clear hS;obtain⟨i,rfl,hil,hno,hS⟩:=hrel;by_cases hin:i=L.length
  ·rw[hin,List.take_length]at hno;have hany:L.any (ag4 id who)=false:=by rw[List.any_eq_false];intro x hx;rw[hno x hx];simp
   have E:=jH (show B9 ⟨p,L,n⟩ who id=(7,⟨p,L,n⟩)by unfold B9;rw[if_neg (by rw[hany];simp)]);subst hin;clear hno hany;go_wp2_with(first|refine zl1 hS ?_);go_ret;rw[E.out];have hS1:=aA4 hlast (hS.s (blk xB _ _::j7 _ L::blk xb _ _::hdR _ (hdL p)::R));exact⟨rfl,ah4 (hS1.s (blk xb _ _::hdR _ (hdL p)::xkP xB L n::R))⟩
  ·have hi1:i<L.length:=by omega
   obtain⟨⟨g,rfl⟩,_,_⟩:=St.rowAddr hS.drop (by omega);have q0:(Ord.cells L[i])[0]? = some (.I L[i].id):=rfl;have q1:(Ord.cells L[i])[1]? = some (.string L[i].who):=rfl
   have hstep:ag4 id who L[i]=false->∀x∈L.take (i+1),ag4 id who x=false:=fun h x hx=>by
    rw[List.take_succ_eq_append_getElem hi1]at hx
    rcases List.mem_append.1 hx with hx|hx
    ·exact hno x hx
    ·rw[List.mem_singleton.1 hx];exact h
   have hyes:ag4 id who L[i]=true->L.any (ag4 id who)=true:=fun h=>List.any_eq_true.2 ⟨_,jW hi1,h⟩
   have hd:ag4 id who L[i]=((L[i].id==id)&&(L[i].who.toList==who.toList)):=rfl;generalize hx:L[i]=x at q0 q1 hstep hyes hd;have Hx:=jH hx;clear hx hno hin;obtain⟨xi,xu,xy,xt,xc,xp⟩:=x;simp only at q0 q1 hd;have c0:∀{K K':List HP},Take K (j7 (.S g L.length lc) L) K'->i7 K g (i*6) (.I xi):=fun hu=>i6.elemM (enc:=Ord.cells) Ord.len hu hi1 0 _ (by rw[Hx.out];rfl)
   have c1:∀{K K':List HP},Take K (j7 (.S g L.length lc) L) K'->i7 K g (i*6+1) (.string xu):=fun hu=>i6.elemM (enc:=Ord.cells) Ord.len hu hi1 1 _ (by rw[Hx.out];rfl)
   cases h1:xi==id with
   | false=>
    rw[h1,Bool.false_and]at hd;have Hs:=jH (hstep hd);clear hstep hyes hd q0 q1;go_wp2_with(first|refine zl1 hS ?_|refine zl1 hS ?_ (hc:=by exact c0 (by exact i8)));go_roundw
    case rel=>exact⟨i+1,rfl,hi1,Hs.out,hS⟩
    case measure=>simp[intOf];omega
   | true=>
    cases h2:xu.toList==who.toList with
    | false=>
     rw[h1,h2,Bool.and_false]at hd;have Hs:=jH (hstep hd);clear hstep hyes hd q0 q1;go_wp2_with(first|refine zl1 hS ?_|refine zl1 hS ?_ (hc:=by exact c0 (by exact i8))|refine zl1 hS ?_ (hc:=by exact c1 (by exact i8)));go_roundw
     case rel=>exact⟨i+1,rfl,hi1,Hs.out,hS⟩
     case measure=>simp[intOf];omega
    | true=>
     rw[h1,h2,Bool.and_true]at hd;have hany:=hyes hd;obtain⟨he0,hmem⟩:=Ee7 hany;have hmz:=Hmay.out _ hmem;have e:B9 ⟨p,L,n⟩ who id=(0,⟨cs4 p who (m6 (r7 L id).o),(r7 L id).L,n⟩):=by unfold B9;rw[if_pos hany]
     generalize hCR:r7 L id=CR at he0 hmz e;obtain⟨⟨zi,zu,zy,zt,zc,zp⟩,en,L2⟩:=CR;simp only at he0 hmz e;subst he0;obtain⟨it,hit⟩:∃y,m6 ⟨zi,zu,zy,zt,zc,zp⟩=y:=⟨_,rfl⟩
     have hii:w5 it=true:=by rw[<-hit];exact(EH7 (o:=⟨zi,zu,zy,zt,zc,zp⟩) (As7.2 ⟨show(1:Int)<=1 by decide,show(1:Int)<=1099511627776 by decide,hmz.who0,hmz.who1,hmz.item0,hmz.item1,hmz.cnt0,hmz.cnt1,hmz.price0,hmz.price1⟩)).2
     have hwho:B7 who=true:=by
      have hxw:(⟨xi,xu,xy,xt,xc,xp⟩:Ord)∈L:=by rw[<-Hx.out];exact jW hi1
      have e1:xu=who:=Dy7 (by rw[Lib.toList_data,Lib.toList_data]at h2;simpa using h2);rw[<-e1];exact Eg7 (Hmay.out _ hxw)
     rw[hit]at e;obtain⟨h0,h1',h2',h3'⟩:=it;obtain⟨a0,a1,a2,a3⟩:=Ah7.1 hii;simp only at a0 a1 a2 a3;have HCR:=jH hCR;have Hmz:=jH hmz;have Hit:=jH hit;have E:=jH e;clear hCR hmz hit e hii hstep hyes hd q0 q1 hany hmem;have G1:=jH (show ∀y,w5 (j9 p y)=true from Hp.out);have G2:=jH (show ∀y,w5 (j9 (l9 p who 0 h0) y)=true from Am7 Hp.out _ _ a0.1);have G3:=jH (show ∀y,w5 (j9 (l9 (l9 p who 0 h0) who 1 h1') y)=true from Am7 (Am7 Hp.out _ _ a0.1) _ _ a1.1);have G4:=jH (show ∀y,w5 (j9 (l9 (l9 (l9 p who 0 h0) who 1 h1') who 2 h2') y)=true from Am7 (Am7 (Am7 Hp.out _ _ a0.1) _ _ a1.1) _ _ a2.1);have W1:=jH (show PsW p 1000000 from Al7 Hw.out (by omega));have W2:=jH (show PsW (l9 p who 0 h0) 1000000 from Al7 (AI7 Hw.out hwho _ _) (by omega));have W3:=jH (show PsW (l9 (l9 p who 0 h0) who 1 h1') 1000000 from Al7 (AI7 (AI7 Hw.out hwho _ _) hwho _ _) (by omega));have W4:=jH (show PsW (l9 (l9 (l9 p who 0 h0) who 1 h1') who 2 h2') 1000000 from Al7 (AI7 (AI7 (AI7 Hw.out hwho _ _) hwho _ _) hwho _ _) (by omega));clear hwho;go_wp2_with(first|refine zl1 hS ?_|refine zl1 hS ?_ (hc:=by exact c0 (by exact i8))|refine zl1 hS ?_ (hc:=by exact c1 (by exact i8))|go_at_call 137;refine(FR7 L id xB last _ hl32 W _ _ (hS.s (blk xB _ _::j7 _ L::blk xb _ _::hdR _ (hdL p)::R))).mono ?_;clear hS;rw[HCR.out];simp only[Ord.cells];rintro e w ⟨rfl,v9,hS⟩|go_at_call 119;refine(Fz7 (o:=⟨zi,zu,zy,zt,zc,zp⟩) Hmz.out Hit.out W _ _ hS).mono ?_;clear hS;rintro e w ⟨rfl,hS⟩|(fail_if_success (have:=b8));((with_reducible apply An7 hS);rfl;rfl;exact zsS;clear hS;intro b8 w hS;refine frS ?_)|(have:=b8);(with_reducible apply An7 hS);rfl;rfl;exact zsS;clear hS;intro b10 w hS;refine frS ?_|refine zlN hS ?_|refine zsN hS ?_;clear hS;intro w hS);have hS1:=aA4 hlast (hS.s (blk xB _ _::j7 _ L2::blk xb _ _::hdR _ (hdL p)::blk b10 _ _::R));clear hS
     have hS:=ah4 (hS1.s (blk xb _ _::hdR _ (hdL p)::xkP xB L2 n::blk b10 _ _::R));clear hS1
     go_loopw [11] (fun v wr=>Cn4 W (fun q=>[xvP xb (.P xB) n q,xkP xB L2 n,blk b10 [.I h0,.I h1',.I h2',.I h3'] 34]++R) p who ⟨h0,h1',h2',h3'⟩ v wr) (fun v _=>4-(intOf v).toNat)
     case atStart=>exact .inl ⟨rfl,hS⟩
     case round=>
     clear hS;simp only[Cn4,jK,jN]at hrel
     rcases hrel with ⟨rfl,hS⟩|⟨rfl,hS⟩|⟨rfl,hS⟩|⟨rfl,hS⟩|⟨rfl,hS⟩
     ·skip
      go_wp2_with(first|refine zl1 hS ?_|go_at_call 136;refine(ct4 xb _ n _ 1000000 W _ _ W1.out (Nat.le_refl _) _ _ _ (G1.out _) ⟨by omega,by omega⟩ ⟨by omega,by omega⟩ hS).mono ?_;clear hS;rintro e w ⟨rfl,hS⟩);go_roundw
      case rel=>exact .inr (.inl ⟨rfl,hS⟩)
      case measure=>simp[intOf]
     ·skip
      go_wp2_with(first|refine zl1 hS ?_|go_at_call 136;refine(ct4 xb _ n _ 1000000 W _ _ W2.out (Nat.le_refl _) _ _ _ (G2.out _) ⟨by omega,by omega⟩ ⟨by omega,by omega⟩ hS).mono ?_;clear hS;rintro e w ⟨rfl,hS⟩);go_roundw
      case rel=>exact .inr (.inr (.inl ⟨rfl,hS⟩))
      case measure=>simp[intOf]
     ·skip
      go_wp2_with(first|refine zl1 hS ?_|go_at_call 136;refine(ct4 xb _ n _ 1000000 W _ _ W3.out (Nat.le_refl _) _ _ _ (G3.out _) ⟨by omega,by omega⟩ ⟨by omega,by omega⟩ hS).mono ?_;clear hS;rintro e w ⟨rfl,hS⟩);go_roundw
      case rel=>exact .inr (.inr (.inr (.inl ⟨rfl,hS⟩)))
      case measure=>simp[intOf]
     ·skip
      go_wp2_with(first|refine zl1 hS ?_|go_at_call 136;refine(ct4 xb _ n _ 1000000 W _ _ W4.out (Nat.le_refl _) _ _ _ (G4.out _) ⟨by omega,by omega⟩ ⟨by omega,by omega⟩ hS).mono ?_;clear hS;rintro e w ⟨rfl,hS⟩);go_roundw
      case rel=>exact .inr (.inr (.inr (.inr ⟨rfl,hS⟩)))
      case measure=>simp[intOf]
     ·go_wp2_with(fail);go_ret;rw[E.out];exact⟨rfl,hS.s _⟩
end
def bP4(k:Int):Ps->Int
 | []=>0
 | x::p=>J9 x.2 k+bP4 k p
def fH4(k:Int):List Ord->Int
 | []=>0
 | x::L=>J9 (m6 x) k+fH4 k L
def gC4(k:Int)(t:Trd):Int:=(if k=t.item then t.cnt else 0)+(if k=0 then t.cnt*(t.bid-t.price)+t.cnt*t.price else 0)
def gD4(k:Int):List Trd->Int
 | []=>0
 | t::ts=>gC4 k t+gD4 k ts
def gE4(k:Int):List It->Int
 | []=>0
 | i::l=>J9 i k+gE4 k l
def dY4(V:Vs)(k:Int):Int:=bP4 k V.ps+fH4 k V.L
structure Kx(k:Int):Prop where
 k0:0<=k
 k3:k<=3
theorem GF7(k:Int):J9 it0 k=0:=by
 unfold J9 it0;repeat' split
 all_goals rfl
theorem QM7{i:It}(h:isZ i=true)(k:Int):J9 i k=0:=by rw[OZ7 h,GF7]
theorem Mt7{p:Ps}(h:(p.map (·.1)).Nodup)(k:ByteArray)(i:It):((G6 p k i).map (·.1)).Nodup:=by
 unfold G6;split
 ·exact Ef7 h k
 ·rw[List.map_cons,List.nodup_cons];refine⟨fun hm=>?_,Ef7 h k⟩;obtain⟨x,hx,e⟩:=List.mem_map.1 hm;exact(CP7 hx).2 e
theorem Mu7{p:Ps}(h:(p.map (·.1)).Nodup){x:ByteArray×It}(hx:x∈p):j9 p x.1=x.2:=by have:=BD7 (v:=x.2) h hx;unfold j9;rw[this];rfl
theorem KF7(x:ByteArray×It)(p:Ps)(k:ByteArray):j9 (x::p) k=if x.1=k then x.2 else j9 p k:=by
 unfold j9 j8;split
 ·rename_i h
  rw[List.find?_cons_of_pos (by simpa using h)];rfl
 ·rename_i h
  rw[List.find?_cons_of_neg (by simpa using h)]
theorem JR7(k:Int)(who:ByteArray):∀{p:Ps},(p.map (·.1)).Nodup->bP4 k (j5 p who)=bP4 k p-J9 (j9 p who) k
 | [],_=>by
  show(0:Int)=0-J9 it0 k
  rw[GF7];rfl
 | x::p,h=>by
  rw[List.map_cons,List.nodup_cons]at h;have ih:=JR7 k who h.2;rw[KF7];by_cases hx:x.1=who
  ·rw[if_pos hx]
   have e:j5 (x::p) who=p:=by
    unfold j5;rw[List.filter_cons,if_neg (by simpa using hx)];refine List.filter_eq_self.2 fun y hy=>?_
    have:y.1≠who:=fun e=>h.1 (List.mem_map.2 ⟨y,hy,e.trans hx.symm⟩)
    simpa using this
   rw[e];show bP4 k p=J9 x.2 k+bP4 k p-J9 x.2 k
   omega
  ·rw[if_neg hx];have e:j5 (x::p) who=x::j5 p who:=by unfold j5;rw[List.filter_cons,if_pos (by simpa using hx)]
   rw[e];show J9 x.2 k+bP4 k (j5 p who)=J9 x.2 k+bP4 k p-J9 (j9 p who) k
   omega
theorem Oj7{p:Ps}(h:(p.map (·.1)).Nodup)(k:Int)(who:ByteArray)(i:It):bP4 k (G6 p who i)=bP4 k p-J9 (j9 p who) k+J9 i k:=by
 have hd:=JR7 k who h;unfold G6;split
 ·rename_i hz
  rw[hd,QM7 hz];omega
 ·show J9 i k+bP4 k (j5 p who)=_
  omega
structure PsK(p:Ps):Prop where
 nd:(p.map (·.1)).Nodup
 ok:K6 p
theorem PsK.pos{p:Ps}(h:PsK p)(k:Int):0<=bP4 k p:=by
 have hx:∀x∈p,0<=J9 x.2 k:=fun x hx=>by rw[<-Mu7 h.nd hx];exact(LI7 (h.ok x.1) k).1
 clear h
 induction p with
 | nil=>exact Int.le_refl _
 | cons x p ih=>
  have h1:=hx x (List.mem_cons_self ..);have h2:=ih fun y hy=>hx y (List.mem_cons_of_mem _ hy)
  show 0<=J9 x.2 k+bP4 k p
  omega
theorem PU7:w5 it0=true:=by decide
theorem PsK.le{p:Ps}(h:PsK p)(who:ByteArray)(k:Int):J9 (j9 p who) k<=bP4 k p:=by have h1:=Oj7 h.nd k who it0;have h2:=PsK.pos ⟨Mt7 h.nd who it0,EG7 h.ok who PU7⟩ k;rw[GF7]at h1;omega
def ha4(o:Ord)(c:Int):Ord:=⟨o.id,o.who,o.buy,o.item,c,o.price⟩
def hm4(V:Vs):List It:=(hdL V.ps).map Hd.has++V.L.map m6
def gF4(V:Vs):It:=⟨dY4 V 0,dY4 V 1,dY4 V 2,dY4 V 3⟩
abbrev fI4(v:Value)(l:List It):HP:=row v 4 34 l.length (l.flatMap It.cells)
def TtR(W:World)(F:List HP)(m:Nat)(acc:Nat->List It)(v7 vk:Value)(w:World):Prop:=
 ∃k:Nat,vk=.I k/\k<=m/\St W (fI4 v7 (acc k)::F) w
theorem fJ4(W w:World)(R:List HP)(hS:St W R w):
  Calls Tryz.prog 98 #[] w fun e w'=>∃xb xB,e=.returned (.P xb)/\St W (xvR xb xB [] [] 1 R) w':=by
 go_enter Tryz.func98,Tryz.ntmps98;go_wp2_with(first|(fail_if_success (have:=bA));(with_reducible apply Az7 hS);rfl;rfl;rfl;rfl;clear hS;intro bA w hS;refine frS ?_|(have:=bA);(with_reducible apply Az7 hS);rfl;rfl;rfl;rfl;clear hS;intro bB w hS;refine frS ?_);go_ret;have hS1:=(hS.rowNil (k:=5) (T:=171)).rowNil (k:=6) (T:=173);have e0:hdL []=[]:=List.eq_nil_of_length_eq_zero (by rw[CD7];rfl);have hS2:St W (j7 (.slice none 0 0) []::hdR (.slice none 0 0) []::_) _:=hS1;rw[<-e0]at hS2;have hS3:=aA4 (n:=1) (last:=0) (by decide) (hS2.s (blk bA _ _::j7 _ []::blk bB _ _::hdR _ (hdL [])::R));exact⟨bB,bA,rfl,ah4 (hS3.s (blk bB _ _::hdR _ (hdL [])::xkP bA [] 1::R))⟩
def ho4(W:World)(Lr:List HP)(n:Nat)(v:Value)(w:World):Prop:=∃i:Nat,v=.I i/\i<=n/\St W Lr w
abbrev ltB(x y:ByteArray):Bool:=Op.bytesLess x.toList y.toList
theorem BA7:Ordr ltB:=⟨fun a=>by
  cases h:ltB a a with
  | false=>rfl
  | true=>exact absurd rfl (DE7 h),fun a b c h1 h2=>DD7 h1 h2,fun a b h1 h2=>by
  refine Gf7 ?_ h2;show ¬ltB a b=true
  rw[h1];exact Bool.noConfusion⟩
def rwC(x:ByteArray×(Nat×Vs)):List Value:=[.string x.1,.pointer (some ⟨x.2.1,0,none⟩)]
theorem Bq7(x:ByteArray×(Nat×Vs)):(rwC x).length=2:=rfl
def seC(x:Int×(Int×Rpl)):List Value:=[.I x.1,.I x.2.1,.I x.2.2.err,.I x.2.2.id,.I x.2.2.has.x0,.I x.2.2.has.x1,.I x.2.2.has.x2,.I x.2.2.has.x3]
theorem AK7(x:Int×(Int×Rpl)):(seC x).length=8:=rfl
def mkC(x:(Int×Int)×Unit):List Value:=[.I x.1.1,.I x.1.2]
theorem BK7(x:(Int×Int)×Unit):(mkC x).length=2:=rfl
def dvP(vb:Nat)(V:Vs):HP:=fun f=>∃xB:Nat,sats [xvP vb (.P xB) V.n V.ps,xkP xB V.L V.n] f
def w6(D:Ev):HP:=sats (D.map fun x=>dvP x.2.1 x.2.2)
abbrev xrP(v:Value)(D:Ev):HP:=row v 2 137 D.length (D.flatMap rwC)
abbrev xsP(v:Value)(l:List (Int×(Int×Rpl))):HP:=row v 8 141 l.length (l.flatMap seC)
abbrev xtP(v:Value)(l:List ((Int×Int)×Tns)):HP:=row v 8 97 l.length (l.flatMap tnC)
abbrev xmP(v:Value)(l:List ((Int×Int)×Unit)):HP:=row v 2 144 l.length (l.flatMap mkC)
abbrev xeB(xb:Nat)(v1 v2 v3 v4:Value):HP:=blk xb [v1,v2,v3,v4] 86
def XpR(W:World)(L:List HP)(D:Ev)(k:ByteArray)(v:Value)(w:World):Prop:=
 ∃i:Nat,v=.I i/\i<=D.length/\plI ltB D k=i+plI ltB (D.drop i) k/\plB ltB D k=plB ltB (D.drop i) k/\St W L w
theorem KG7(D:Ev)(k:ByteArray)(xb:Nat)(v1 v2 v3 v4:Value)(W w:World)(R:List HP)(hS:St W (xeB xb v1 v2 v3 v4::xrP v1 D::R) w):
  Calls Tryz.prog 97 #[.P xb,.string k] w fun e w'=>e=.returned (.tuple #[.I (plI ltB D k),.bool (plB ltB D k)])/\St W (xeB xb v1 v2 v3 v4::xrP v1 D::R) w':=by
 obtain⟨a,cap,rfl⟩:=hS.drop.rowVal
 have h63:D.length<=9223372036854775807:=by
  rcases St.rowCase hS.drop with ⟨_,h0,_⟩|⟨_,_,h1,h2⟩
  ·omega
  ·omega
 go_enter Tryz.func97,Tryz.ntmps97;go_wp2_with fail
 go_loopw [6] (fun v wr=>XpR W (xeB xb (.slice a D.length cap) v2 v3 v4::xrP (.slice a D.length cap) D::R) D k v wr) (fun v _=>D.length-(intOf v).toNat)
 case atStart=>exact⟨0,rfl,Nat.zero_le _,by simp,rfl,hS⟩
 case round=>
  clear hS;obtain⟨i,rfl,hil,e1,e2,hS⟩:=hrel;by_cases hin:i=D.length
  ·subst hin;rw[List.drop_length]at e1 e2;have E1:=jH (show plI ltB D k=D.length from e1);have E2:=jH (show plB ltB D k=false from e2);clear e1 e2;go_wp2_with(first|go_big_skip|refine zl1 hS ?_);go_ret2;rw[E1.out,E2.out];exact⟨rfl,hS⟩
  ·have hi1:i<D.length:=by omega
   obtain⟨⟨g,rfl⟩,_,_⟩:=St.rowAddr hS.drop (by omega);have hname:∀{K K':List HP},Take K (xrP (.S g D.length cap) D) K'->i7 K g (i*2) (.string D[i].1):=fun hu=>i6.elemM (enc:=rwC) Bq7 hu hi1 0 _ rfl
   have hdr:D.drop i=D[i]::D.drop (i+1):=List.drop_eq_getElem_cons hi1;rw[hdr]at e1 e2;generalize D[i]=x at hname e1 e2;obtain⟨xw,xi⟩:=x;simp only at hname;rw[plI]at e1;rw[plB]at e2;simp only at e1 e2;clear hdr
   cases hb:Op.bytesLess xw.toList k.toList with
   | true=>
    rw[if_pos hb]at e1 e2;have E1:=jH e1;have E2:=jH e2;clear e1 e2;go_wp2_with(first|go_big_skip|refine zl1 hS ?_|refine zl1 hS ?_ (hc:=by exact hname (by exact i8)));go_roundw
    case rel=>exact⟨i+1,rfl,hi1,by rw[E1.out];omega,E2.out,hS⟩
    case measure=>simp[intOf];omega
   | false=>
    rw[if_neg (by rw[show ltB xw k=false from hb];simp)]at e1 e2
    have e3:plB ltB D k=(xw.toList==k.toList):=by
     rw[e2]
     cases h:(xw.toList==k.toList)with
     | true=>simpa using Fx7.1 h
     | false=>simp only[decide_eq_false_iff_not];intro e;rw[Fx7.2 e]at h;cases h
    have E1:=jH (show plI ltB D k=i from e1);have E2:=jH e3;clear e1 e2 e3;go_wp2_with(first|go_big_skip|refine zl1 hS ?_|refine zl1 hS ?_ (hc:=by exact hname (by exact i8)));refine Aa7 (by kernel_rfl) (by kernel_rfl) hS ?_
    iterate 2 (refine qR ?_)
    (refine zqn ?_);refine qR ?_;refine zq1 ?_
    iterate 3 (refine qR ?_)
    (apply Aq7;rfl;rfl;rfl;decide +kernel;exact hname (by exact i8);refine frS ?_)
    iterate 4 (refine qR ?_)
    clear hS;intro w hS;go_wp2_with fail;go_ret2;rw[E1.out,E2.out];exact⟨rfl,hS⟩
theorem GG7{D:Ev}{k:ByteArray}{p:Nat}{b:Bool}(h1:plI ltB D k=p)(h2:plB ltB D k=b)(xb:Nat)(v1 v2 v3 v4:Value)(W w:World)(R:List HP)(hS:St W (xeB xb v1 v2 v3 v4::xrP v1 D::R) w):
  Calls Tryz.prog 97 #[.P xb,.string k] w fun e w'=>e=.returned (.tuple #[.I p,.bool b])/\St W (xeB xb v1 v2 v3 v4::xrP v1 D::R) w':=
 (KG7 D k xb v1 v2 v3 v4 W w R hS).mono fun e w' ⟨he,hS⟩=>⟨by rw[he,h1,h2],hS⟩
end Go.Proofs.YtienbkdjkjbelaaGreat
end
