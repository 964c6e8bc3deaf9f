/-
  The vault's Order.
-/
import Derived.Test.YtienbkdjkjbelaaGreatJuTM5
import Derived.Test.YtienbkdjkjbelaaGreatJuTM18
set_option maxHeartbeats 16000000
set_option maxRecDepth 100000
set_option linter.unusedSimpArgs false
set_option linter.unusedVariables false
section
namespace Go.Sl
open Go.RowKit
def dp4(v:Value)(i:Nat):Value:=match v with
 | .tuple vs=>vs.getD i undef
 | _=>undef
section
variable{P:Program}{W:World}{ops:Array Oper}{t:List Nat}{toks:List Tok}{fresh:Nat->Bool}{pin:Nat->Option Value}{Qf:Act->Prop}{nd:Nat->Value}{i:Nat}{l:List Oper}{a:Act}{o:Oper}
theorem Ef7{x:Operand}{k:Nat}{v:Value}(hf:fresh i=false)(hn:au4 toks i=true)(ho:o.op=.extract x k)(hg:Region.wanted o (yielded ops a.tmps)=true)(hx:a.eval x=v)
  (hv:∀F w,St W (kpL toks t i nd++F) w->∃vs:Array Value,v=.tuple vs/\vs.size=3) (hk:k<3) (h:l7 P W ops t toks fresh pin Qf nd (i+1) l (a.put o.dst (dp4 v k))):l7 P W ops t toks fresh pin Qf nd i (o::l) a:=
 EZ7 hf hn hg (fun F w hS=>by
  obtain⟨vs,rfl,hs⟩:=hv F w hS;have e:vs[k]? = some (vs[k]'(by omega)):=Array.getElem?_eq_getElem (by omega)
  have e2:dp4 (.tuple vs) k=vs[k]'(by omega):=by
   show vs.getD k undef=_
   simp[Array.getD,hs,hk]
  unfold execOp;simp[ho,hx,Instr.extract,e,e2]) h
end
end Go.Sl
namespace Go.Proofs.YtienbkdjkjbelaaGreat
open Go.RowKit Go.Sl
theorem EI7{o:Ord}{h0 h1 h2 h3:Int}(hm:MayP o)(h:j5 o=⟨h0,h1,h2,h3⟩)(W w:World)(R:List HP)(hS:St W R w):
  Calls Tryz.prog 117 #[.agg o.cells.toArray] w fun e w'=>e=.returned (.agg #[.I h0,.I h1,.I h2,.I h3])/\St W R w':=
 (Kg7 o hm W w R hS).mono fun e w' ⟨he,hS⟩=>⟨by rw[he,h];rfl,hS⟩
def aU4(o:Ord):Bool:=J7 { o with id:=1 }
section
variable(vb mb bb:Nat)(p:Ps)(L:List Ord)(n:Int)(o:Ord)(W w:World)(R:List HP)
theorem LX7(h:aU4 o=false)(hS:St W (w5 vb mb bb p L n R) w):
  Calls Tryz.prog 113 #[.P vb,.agg o.cells.toArray] w fun e w'=>e=.returned (.tuple #[.I 0,.I 1])/\St W (w5 vb mb bb p L n R) w':=by
 obtain⟨i,u,y,t,c,pr⟩:=o;have hm:J7 ⟨1,u,y,t,c,pr⟩=false:=h;clear h;simp only[Ord.cells];go_enter Tryz.func113,Tryz.ntmps113;go_wp2_with(first|(with_reducible apply Be7 (n:=1) (l:=[(⟨1,u,y,t,c,pr⟩:Ord)].flatMap Ord.cells) hS);rfl;rfl;(focus(simp only[fD,fI,fJ,Act.eval,fE,fF,fG,fH,fK];try rfl));exact esS;exact rsS;rfl;rfl;rfl;rfl;rfl;decide;clear hS;intro bv w hS;refine frS ?_|go_at_call 148;refine(Dt7 ⟨1,u,y,t,c,pr⟩ rfl _ W _ _ hS).mono ?_;clear hS;rw[hm];rintro e w ⟨vu,rfl,hS⟩|refine zlN hS ?_|refine zs1 hS ?_;clear hS;intro w hS|refine zbx hS ?_;clear hS;intro b w hS)
 all_goals go_ret2
 all_goals exact⟨rfl,hS.drop⟩
theorem IA7(h:aU4 o=true)(hL:L.length<32)(hn:n<=1099511627776)(ht:p9 p o.who (j5 o)=14)(hS:St W (w5 vb mb bb p L n R) w):
  Calls Tryz.prog 113 #[.P vb,.agg o.cells.toArray] w fun e w'=>e=.returned (.tuple #[.I 0,.I 14])/\St W (w5 vb mb bb p L n R) w':=by
 obtain⟨i,u,y,t,c,pr⟩:=o;have hm:J7 ⟨1,u,y,t,c,pr⟩=true:=h;have ht':p9 p u (j5 ⟨1,u,y,t,c,pr⟩)=14:=ht
 have hp':r8 p u (j5 ⟨1,u,y,t,c,pr⟩)=p:=by
  unfold p9 at ht';unfold r8;split at ht'
  ·rename_i hc
   rw[if_pos hc];split at ht'
   ·cases ht'
   ·rename_i hs;rw[if_neg hs]
  ·cases ht'
 have Hm:=jH hm;clear h ht;have d1:decide ((32:Int)<=(L.length:Int))=false:=by simp;omega
 have d2:decide ((1099511627776:Int)<n)=false:=by simp;omega
 simp only[Ord.cells];obtain⟨it,hit⟩:∃x,j5 ⟨1,u,y,t,c,pr⟩=x:=⟨_,rfl⟩
 rw[hit]at ht' hp';obtain⟨h0,h1,h2,h3⟩:=it;have Hit:=jH hit;have Hte:=jH ht';have Htp:=jH hp';clear hit ht' hp';go_enter Tryz.func113,Tryz.ntmps113;go_wp2_with(first|(with_reducible apply Be7 (n:=1) (l:=[(⟨1,u,y,t,c,pr⟩:Ord)].flatMap Ord.cells) hS);rfl;rfl;(focus(simp only[fD,fI,fJ,Act.eval,fE,fF,fG,fH,fK];try rfl));exact esS;exact rsS;rfl;rfl;rfl;rfl;rfl;decide;clear hS;intro bv w hS;refine frS ?_|go_at_call 148;refine(Dt7 ⟨1,u,y,t,c,pr⟩ rfl _ W _ _ hS).mono ?_;clear hS;rw[hm];rintro e w ⟨vu,rfl,hS⟩|go_at_call 149;refine(Ds7 (hS.s (x9 bb L n::_::blk vb _ _::d9 eS eP mb p::R))).mono ?_;clear hS;rintro e w ⟨rfl,hS⟩|refine zl1 hS ?_|refine zlN hS ?_|refine zs1 hS ?_;clear hS;intro w hS|refine zbx hS ?_;clear hS;intro b w hS);refine rt 5 hS ?_
 repeat(first|refine zq1 ?_|refine zqN ?_|apply At7;rfl;intro w;apply Ah7;rfl;decide +kernel;(focus(simp only[fD,fI,fJ,Act.eval,fE,fF,fG,fH,fK];try rfl));intro w hS;exact EI7 (Ao7.1 Hm.out) Hit.out W w _ hS;refine frS ?_|refine qR ?_)
 clear hS;intro w hS;simp only[jD,List.drop_zero];go_wp2_with(first|go_at_call 112;refine(Fd7 vb mb p u _ _ ⟨h0,h1,h2,h3⟩ W _ _ (hS.s (blk vb _ _::d9 eS eP mb p::x9 bb L n::blk b _ _::R))).mono ?_;clear hS;rw[Hte.out,Htp.out];rintro e w ⟨rfl,hS⟩);go_ret2;exact⟨rfl,hS.s _⟩
def aM4(L:List Ord)(o:Ord):List Trd:=(m7 (L.length+1) o L []).2.2
def bP4(L:List Ord)(o:Ord):List Ord:=if 0<(m7 (L.length+1) o L []).1.cnt then(m7 (L.length+1) o L []).2.1++[(m7 (L.length+1) o L []).1]else(m7 (L.length+1) o L []).2.1
theorem IB7(hm:MayP o)(hid:o.id=n)(hL:L.length<32)(hS:St W (x9 bb L n::R) w):
  Calls Tryz.prog 150 #[.P bb,.agg o.cells.toArray] w fun e w'=>∃a c left,e=.returned (.tuple #[.slice a (aM4 L o).length c,.I left,.I 0])/\St W (x9 bb (bP4 L o) (n+1)::ag4 (.slice a (aM4 L o).length c) (aM4 L o)::R) w':=by
 obtain⟨b,hr,hl,hS⟩:=aH4 hS;have hno:¬(J7 o=false\/o.id<=b.last):=by rintro(h|h);(rw[Ao7.2 hm]at h;cases h);omega
 refine(Oa7 bb hr o W w R hS).mono ?_;rintro e w' ⟨b',ts,a,c,⟨ht,hla,hrep,_⟩,rfl,hS⟩;unfold F9 at ht hla hrep ⊢;rw[if_neg hno,if_neg (by omega)]at ht hla hrep ⊢;dsimp only at ht hla hrep ⊢;have e1:ts=aM4 L o:=ht;subst e1;exact⟨a,c,_,rfl,be4 hrep (by rw[hla,hid];omega) hS⟩
structure TrB(t:Trd):Prop where
 cnt:0<=t.cnt/\t.cnt<=1048576
 item:0<=t.item/\t.item<=3
 price:0<=t.price/\t.price<=1024
 bid:0<=t.bid-t.price/\t.bid-t.price<=1024
end
theorem eR4{o x:Ord}(hx:MayP x)(ho:0<=o.cnt/\o.cnt<=1048576/\1<=o.item/\o.item<=3/\o.price<=1024)(hm:K9 o x=true):TrB (F5 o x):=by
 unfold K9 at hm;simp only[jB,decide_eq_true_eq]at hm;obtain⟨_,h3⟩:=hm;have hc:0<=I6 o.cnt x.cnt/\I6 o.cnt x.cnt<=1048576:=by have:=hx.cnt0;unfold I6;split <;> omega
 have h1:=hx.price0;have h2:=hx.price1;unfold F5
 cases hb:o.buy
 ·rw[if_neg (by simp)];exact⟨hc,⟨by simp only;omega,by simp only;omega⟩,⟨by simp only;omega,by simp only;omega⟩,by simp only;omega,by simp only;omega⟩
 ·rw[hb]at h3;simp only[if_true,decide_eq_true_eq]at h3;rw[if_pos rfl];exact⟨hc,⟨by simp only;omega,by simp only;omega⟩,⟨by simp only;omega,by simp only;omega⟩,by simp only;omega,by simp only;omega⟩
theorem Cw7:∀(f:Nat) (o:Ord) (L:List Ord) (ts:List Trd),(∀x∈L,MayP x)->(0<=o.cnt/\o.cnt<=1048576/\1<=o.item/\o.item<=3/\o.price<=1024)->(∀t∈ts,TrB t)->∀t∈(m7 f o L ts).2.2,TrB t
 | 0,o,L,ts,_,_,h=>h
 | f+1,o,L,ts,hL,ho,h=>by
  rw[m7];by_cases h0:0<o.cnt
  ·rw[if_pos h0]
   cases hb:s9 o L L.length with
   | none=>exact h
   | some k=>
    obtain⟨hk,hm,_⟩:=AG7 hb;have hx:=hL _ (H8 hk);have hx0:=hx.cnt0;have hmin:=CG7 h0 (show 0<(at' L k).cnt by omega);refine Cw7 f _ _ _ ?_ ⟨by simp only;omega,by simp only;omega,ho.2.2.1,ho.2.2.2.1,ho.2.2.2.2⟩ ?_
    ·unfold aT4;split
     ·exact fun x hx=>hL x (List.mem_of_mem_eraseIdx hx)
     ·intro x hxm
      rcases List.mem_or_eq_of_mem_set hxm with hx'|rfl
      ·exact hL x hx'
      ·exact Eb7 hx (by omega) (by omega)
    ·intro t ht
     rcases List.mem_append.1 ht with ht|ht
     ·exact h t ht
     ·rw[List.mem_singleton.1 ht];exact eR4 hx ho hm
  ·rw[if_neg h0];exact h
def ay4(p:Ps)(t:Trd):Ps:=l5 (l5 (l5 p t.buyer t.item t.cnt) t.buyer 0 (t.cnt*(t.bid-t.price))) t.seller 0 (t.cnt*t.price)
theorem JG7{p:Ps}(h:L7 p){t:Trd}(ht:TrB t):L7 (ay4 p t):=by have h1:=BN7 ht.cnt.1 ht.cnt.2 ht.price.1 ht.price.2;have h2:=BN7 ht.cnt.1 ht.cnt.2 ht.bid.1 ht.bid.2;exact Ak7 (Ak7 (Ak7 h _ _ ht.cnt.1) _ _ h2.1) _ _ h1.1
theorem Du7:∀(ts:List Trd) {p:Ps},L7 p->(∀t∈ts,TrB t)->L7 (ts.foldl ay4 p)
 | [],_,h,_=>h
 | t::ts,_,h,ht=>Du7 ts (JG7 h (ht t (List.mem_cons_self ..))) fun x hx=>ht x (List.mem_cons_of_mem _ hx)
def plR(bb:Nat)(L:List Ord)(m:Int)(ts:List Trd)(v:Value):HP:=fun f=>∃(a:Option Addr) (c:Nat) (left:Int),v=.tuple #[.slice a ts.length c,.I left,.I 0]/\sats [x9 bb L m,ag4 (.slice a ts.length c) ts] f
section
variable{W w:World}{bb:Nat}{L:List Ord}{m n:Int}{ts:List Trd}{v:Value}{R:List HP}
theorem dM4(h:St W (plR bb L m ts v::R) w):∃a c left,v=.tuple #[.slice a ts.length c,.I left,.I 0]/\St W (x9 bb L m::ag4 (.slice a ts.length c) ts::R) w:=by obtain⟨a,h⟩:=St.ex h;obtain⟨c,h⟩:=St.ex h;obtain⟨left,h⟩:=St.ex h;obtain⟨h1,h⟩:=St.and h;refine⟨a,c,left,h1,?_⟩;exact(St.split (St.split h).swap).swap.drop.swap
theorem eS4{a:Option Addr}{c:Nat}{left:Int}(hv:v=.tuple #[.slice a ts.length c,.I left,.I 0])(h:St W (x9 bb L m::ag4 (.slice a ts.length c) ts::R) w):St W (plR bb L m ts v::R) w:=by refine St.mkEx a (St.mkEx c (St.mkEx left (St.mkAnd hv ?_)));refine St.join ?_;refine St.swap (St.imp h.swap ?_);intro f hf;exact⟨fun _=>true,hf,trivial⟩
theorem dN4{L1 R1:List HP}(hS:St W L1 w)(hu:Take L1 (plR bb L m ts v) R1):∃vs:Array Value,v=.tuple vs/\vs.size=3:=by obtain⟨a,c,left,h,_⟩:=dM4 (hS.take hu);exact⟨_,h,rfl⟩
theorem eT4{o:Ord}{L2:List Ord}(hm:MayP o)(hid:o.id=n)(hL:L.length<32)(h1:bP4 L o=L2)(h2:aM4 L o=ts)(hS:St W (x9 bb L n::R) w):
  Calls Tryz.prog 150 #[.P bb,.agg o.cells.toArray] w fun e w'=>∃v,e=.returned v/\St W (plR bb L2 (n+1) ts v::R) w':=by
 subst h1 h2;refine(IB7 bb L n o W w R hm hid hL hS).mono ?_;rintro e w' ⟨a,c,left,rfl,hS⟩;exact⟨_,rfl,eS4 rfl hS⟩
end
def OrR(W:World)(F:Ps->List HP)(p:Ps)(ts:List Trd)(v:Value)(w:World):Prop:=
 ∃(k:Nat),v=.I k/\k<=ts.length/\St W (F ((ts.take k).foldl ay4 p)) w
section
variable(vb mb bb:Nat)(p:Ps)(L:List Ord)(n:Int)(o:Ord)(W w:World)(R:List HP)
theorem Ob7(hp:L7 p)(h:aU4 o=true)(hn0:1<=n)(hn:n<=1099511627776)(hL:L.length<32)(ht:p9 p o.who (j5 o)=0)(hS:St W (w5 vb mb bb p L n R) w):
  Calls Tryz.prog 113 #[.P vb,.agg o.cells.toArray] w fun e w'=>e=.returned (.tuple #[.I n,.I 0]) /\
   St W (w5 vb mb bb ((aM4 L { o with id:=n }).foldl ay4 (r8 p o.who (j5 o))) (bP4 L { o with id:=n }) (n+1) R) w':=by
 have hLm:=Ca7 hS.drop.drop;obtain⟨i,u,y,t,c,pr⟩:=o;have hm:J7 ⟨1,u,y,t,c,pr⟩=true:=h;have hm1:=Ao7.1 hm;have hmn:MayP ⟨n,u,y,t,c,pr⟩:=⟨hn0,hn,hm1.who0,hm1.who1,hm1.item0,hm1.item1,hm1.cnt0,hm1.cnt1,hm1.price0,hm1.price1⟩
 have hok1:L7 (r8 p u (j5 ⟨1,u,y,t,c,pr⟩)):=BF7 hp _ _;have htr:∀x∈aM4 L ⟨n,u,y,t,c,pr⟩,TrB x:=Cw7 _ _ _ _ (fun x hx=>(hLm x hx).1) ⟨by have:=hmn.cnt0;simp only at this ⊢;omega,hmn.cnt1,hmn.item0,hmn.item1,hmn.price1⟩ (fun x hx=>(by cases hx));have ht':p9 p u (j5 ⟨1,u,y,t,c,pr⟩)=0:=ht;have eh:j5 ⟨i,u,y,t,c,pr⟩=j5 ⟨1,u,y,t,c,pr⟩:=rfl;simp only[eh];obtain⟨p1,hp1⟩:∃x,r8 p u (j5 ⟨1,u,y,t,c,pr⟩)=x:=⟨_,rfl⟩
 rw[hp1]at hok1;simp only[hp1];obtain⟨it,hit⟩:∃x,j5 ⟨1,u,y,t,c,pr⟩=x:=⟨_,rfl⟩
 rw[hit]at ht' hp1;obtain⟨h0,h1,h2,h3⟩:=it;obtain⟨ts,hts⟩:∃x,aM4 L ⟨n,u,y,t,c,pr⟩=x:=⟨_,rfl⟩
 obtain⟨L2,hL2⟩:∃x,bP4 L ⟨n,u,y,t,c,pr⟩=x:=⟨_,rfl⟩
 simp only[hts,hL2];rw[hts]at htr;have Hts:=jH hts;have HL2:=jH hL2;clear hts hL2;have Hm:=jH hm;have Hit:=jH hit;have Hte:=jH ht';have Htp:=jH hp1;have Hok:=jH hok1;have Htr:=jH htr;have d1:decide ((32:Int)<=(L.length:Int))=false:=by simp;omega
 have d2:decide ((1099511627776:Int)<n)=false:=by simp;omega
 clear hit ht' hp1 h ht eh hok1 htr hLm hm1 hp;simp only[Ord.cells];go_enter Tryz.func113,Tryz.ntmps113;go_wp2_with(first|(with_reducible apply Be7 (n:=1) (l:=[(⟨1,u,y,t,c,pr⟩:Ord)].flatMap Ord.cells) hS);rfl;rfl;(focus(simp only[fD,fI,fJ,Act.eval,fE,fF,fG,fH,fK];try rfl));exact esS;exact rsS;rfl;rfl;rfl;rfl;rfl;decide;clear hS;intro bv w hS;refine frS ?_|go_at_call 148;refine(Dt7 ⟨1,u,y,t,c,pr⟩ rfl _ W _ _ hS).mono ?_;clear hS;rw[hm];rintro e w ⟨vu,rfl,hS⟩|go_at_call 149;refine(Ds7 (hS.s (x9 bb L n::_::blk vb _ _::d9 eS eP mb p::R))).mono ?_;clear hS;rintro e w ⟨rfl,hS⟩|refine zl1 hS ?_|refine zlN hS ?_|refine zs1 hS ?_;clear hS;intro w hS|refine zbx hS ?_;clear hS;intro b w hS);refine rt 5 hS ?_
 repeat(first|refine zq1 ?_|refine zqN ?_|apply At7;rfl;intro w;apply Ah7;rfl;decide +kernel;(focus(simp only[fD,fI,fJ,Act.eval,fE,fF,fG,fH,fK];try rfl));intro w hS;exact EI7 (Ao7.1 Hm.out) Hit.out W w _ hS;refine frS ?_|refine qR ?_)
 clear hS;intro w hS;simp only[jD,List.drop_zero];go_wp2_with(first|go_at_call 112;refine(Fd7 vb mb p u _ _ ⟨h0,h1,h2,h3⟩ W _ _ (hS.s (blk vb _ _::d9 eS eP mb p::x9 bb L n::blk b _ _::R))).mono ?_;clear hS;rw[Hte.out,Htp.out];rintro e w ⟨rfl,hS⟩|refine zl1 hS ?_|refine zs1 hS ?_;clear hS;intro w hS);have hS:=hS.s (x9 bb L n::blk b _ _::blk vb _ _::d9 eS eP mb p1::R);refine rf3 [0,1,3,7,0,31,63,127,127,127,255,1535,4095] (fun i=>i==5) (fun _=>none) [⟨some 5,none,fun nd=>plR bb L2 (n+1) ts (nd 5)⟩] [some 5,none,none,none] hS ?_;intro nd;refine cR ?_;refine zcn ?_;refine cR ?_;refine zc1 ?_;refine zcN ?_;apply Bb7;rfl;rfl;rfl;decide +kernel;(focus(simp only[fD,fI,fJ,Act.eval,fE,fF,fG,fH,fK];try rfl));(intro _;rfl);(intro F w hS;exact eT4 (o:=⟨n,u,y,t,c,pr⟩) hmn rfl hL HL2.out Hts.out hS);(refine frS ?_);refine cR ?_;apply Ef7 (v:=nd 5);rfl;kernel_rfl;rfl;rfl;rfl;(intro F w hS;exact dN4 hS (by exact A6));decide;(refine frS ?_);apply Ef7 (v:=nd 5);rfl;kernel_rfl;rfl;rfl;rfl;(intro F w hS;exact dN4 hS (by exact A6));decide;(refine frS ?_);apply Ef7 (v:=nd 5);rfl;kernel_rfl;rfl;rfl;rfl;(intro F w hS;exact dN4 hS (by exact A6));decide;(refine frS ?_)
 iterate 3 (refine cR ?_)
 refine Ad7 ?_;clear hS;intro w hS;have hS2:St W [plR bb _ _ _ (nd 5),blk b _ _,blk vb _ _,d9 eS eP mb p1,sats R] w:=hS;clear hS;have hS:=hS2.unpack [_,_,_,_];clear hS2;simp only[jK,jN]at hS;generalize nd 5=v5 at *;obtain⟨ta,tc,left,hv5,hS5⟩:=dM4 hS;clear hS;subst hv5;have hS:=hS5;clear hS5;simp only[dp4,Array.getD_eq_getD_getElem?,List.getElem?_toArray,List.getElem?_cons_zero,List.getElem?_cons_succ,Option.getD_some];have htr:=Htr.out
 have hll:ts.length<=9223372036854775807:=by
  rcases St.rowCase hS.drop with ⟨_,h0,_⟩|⟨_,_,q1,q2⟩
  ·omega
  ·omega
 have hS:=hS.s (blk vb _ _::d9 eS eP mb p1::x9 bb L2 (n+1)::ag4 (.slice ta ts.length tc) ts::blk b _ _::R);go_wp2_with(fail)
 go_loopw [75] (fun v wr=>OrR W (fun q=>[blk vb [.map (some mb),.P bb,.I (n+1)] 215,d9 eS eP mb q,x9 bb L2 (n+1),ag4 (.slice ta ts.length tc) ts,blk b [.I n,.string u,.bool y,.I t,.I c,.I pr] 173]++R) p1 ts v wr) (fun v _=>ts.length-(intOf v).toNat)
 case atStart=>exact⟨0,rfl,Nat.zero_le _,hS⟩
 case round=>
  clear hS;obtain⟨k,rfl,hk,hS⟩:=hrel;simp only[jK,jN]at hS;by_cases hkn:k=ts.length
  ·subst hkn;rw[List.take_length]at hS;go_wp2_with(first|refine zl1 hS ?_);go_ret2;exact⟨rfl,hS.s _⟩
  ·have hk1:k<ts.length:=by omega
   clear hkn hk;obtain⟨⟨g,rfl⟩,_,_⟩:=St.rowAddr hS.drop.drop.drop (by omega);have hcells:∀{K K':List HP},Take K (ag4 (.S g ts.length tc) ts) K'->d8 K g (k*8) (Trd.cells ts[k]):=fun hu=>d8.elemM (enc:=Trd.cells) Trd.len hu hk1
   have hq:L7 ((ts.take k).foldl ay4 p1):=Du7 _ Hok.out fun x hx=>htr x (List.mem_of_mem_take hx)
   have hstep:(ts.take (k+1)).foldl ay4 p1=ay4 ((ts.take k).foldl ay4 p1) ts[k]:=by rw[List.take_succ_eq_append_getElem hk1,List.foldl_append];rfl
   have hb:=htr _ (jW hk1);have Hstep:=jH hstep;have Hq:=jH hq;clear hstep hq;generalize (ts.take k).foldl ay4 p1=q at hS Hstep Hq;generalize ts[k]=x at hcells Hstep hb;obtain⟨xb,xs,xi,xj,xt,xc,xp,xd⟩:=x;obtain⟨⟨c0,c1⟩,⟨t0,t1⟩,⟨p0,p1'⟩,⟨b0,b1⟩⟩:=hb;simp only at c0 c1 t0 t1 p0 p1' b0 b1;have m1:=BN7 c0 c1 b0 b1;have m2:=BN7 c0 c1 p0 p1';have n1:xc*(xd-xp)<=9223372036854775807:=by omega
   have n2 : -9223372036854775808<=xc*(xd-xp):=by omega
   have n3:xc*xp<=9223372036854775807:=by omega
   have n4 : -9223372036854775808<=xc*xp:=by omega
   simp only[Trd.cells]at hcells;have G1:=jH (show ∀y,s6 (j8 q y)=true from Hq.out);have G2:=jH (show ∀y,s6 (j8 (l5 q xb xt xc) y)=true from Ak7 Hq.out _ _ c0);have G3:=jH (show ∀y,s6 (j8 (l5 (l5 q xb xt xc) xb 0 (xc*(xd-xp))) y)=true from Ak7 (Ak7 Hq.out _ _ c0) _ _ m1.1);go_wp2_with(first|refine zlN hS ?_ (hc:=by exact hcells (.tail (.tail (.tail .head))))|refine zsN hS ?_;clear hS;intro w hS|refine zal hS ?_;clear hS;intro b w hS);refine Aa7 (by kernel_rfl) (by kernel_rfl) hS ?_
   repeat(first|refine zq1 ?_|refine qR ?_)
   clear hS;intro w hS;go_wp2_with(first|go_at_call 151;refine(Cs7 vb mb _ _ _ _ _ _ ?_ ?_ ?_ W _ (x9 bb L2 (n+1)::ag4 (.S g ts.length tc) ts::blk _ _ 243::blk _ _ 173::R) (hS.s _)).mono ?_;(focus(with_reducible first|exact G1.out _|exact G2.out _|exact G3.out _));(focus(first|exact⟨t0,t1⟩|decide));(focus(exact⟨by omega,by omega⟩));clear hS;rintro e w ⟨rfl,hS⟩|refine zl1 hS ?_);go_roundw
   case rel=>
    refine⟨k+1,rfl,hk1,?_⟩;rw[Hstep.out];have hS3:St W (blk vb [.map (some mb),.P bb,.I (n+1)] 215::d9 eS eP mb (ay4 q ⟨xb,xs,xi,xj,xt,xc,xp,xd⟩)::_) w:=hS;exact hS3.s _
   case measure=>simp[intOf];omega
end
section
variable(k:ByteArray)(W w:World)(R:List HP)
theorem PW7(hS:St W R w):Calls Tryz.prog 155 #[.pointer none,.string k] w fun e w'=>e=.returned (.agg #[.I 0,.I 0,.I 0,.I 0])/\St W R w':=by go_enter Tryz.func155,Tryz.ntmps155;go_wp2_with(first|refine zsN hS ?_;clear hS;intro w hS|refine zal hS ?_;clear hS;intro b w hS);apply Ap7;rfl;rfl;rfl;exact hS;decide +kernel;(exact r6);kernel_rfl;exact⟨rfl,hS.drop⟩
def ka:ByteArray:=⟨#[97]⟩
def kaO:Ord:=⟨0,ka,false,1,3,2⟩
end
def an4(id:Int)(who:ByteArray)(x:Ord):Bool:=(x.id==id)&&(x.who.toList==who.toList)
theorem Ew7(x:Ord)(B C:Nat)(id:Int)(who:ByteArray)(W w:World)(L:List HP)(hS:St W (blk B [.I id] 3::blk C [.string who] 9::L) w):
  Calls Tryz.prog 153 #[.agg x.cells.toArray,.P B,.P C] w fun e w'=>e=.returned (.bool (an4 id who x))/\St W (blk B [.I id] 3::blk C [.string who] 9::L) w':=by
 obtain⟨i,u,y,t,c,p⟩:=x;unfold an4;simp only[Ord.cells]
 cases hi:i==id with
 | true=>
  rw[Bool.true_and];go_enter Tryz.func153,Tryz.ntmps153;go_wp2_with(first|refine zl1 hS ?_|refine zbx hS ?_;clear hS;intro b w hS);go_ret;exact⟨rfl,hS.drop⟩
 | false=>
  rw[Bool.false_and];go_enter Tryz.func153,Tryz.ntmps153;go_wp2_with(first|go_big_skip|refine zl1 hS ?_|refine zbx hS ?_;clear hS;intro b w hS);go_ret;exact⟨rfl,hS.drop⟩
def cV4(id:Int)(who:ByteArray)(p:List Ord):Int:=match p.findIdx? (an4 id who)with
 | some i=>i
 | none => -1
def gq4(W:World)(L:List HP)(p:List Ord)(id:Int)(who:ByteArray)(v8:Value)(w:World):Prop:=
 ∃k:Nat,v8=.I k/\k<=p.length/\(∀j,j<k->∀x,p[j]? = some x->an4 id who x=false)/\St W L w
theorem Oc7(p:List Ord)(id:Int)(who:ByteArray)(h:∀j,j<p.length->∀x,p[j]? = some x->an4 id who x=false):cV4 id who p = -1:=by unfold cV4;rw[List.findIdx?_eq_none_iff.2];intro x hx;obtain⟨j,hj,rfl⟩:=List.mem_iff_getElem.1 hx;exact h j hj _ (jG hj)
theorem PX7(p:List Ord)(id:Int)(who:ByteArray)(k:Nat)(hk:k<p.length)(h:∀j,j<k->∀x,p[j]? = some x->an4 id who x=false)(hx:an4 id who p[k]=true):cV4 id who p=k:=by unfold cV4;rw[List.findIdx?_eq_some_iff_getElem.2 ⟨hk,hx,fun j hj=>by rw[h j hj _ (jG (by omega))];exact Bool.false_ne_true⟩]
theorem IC7(p:List Ord)(v:Value)(B C:Nat)(id:Int)(who:ByteArray)(h63:p.length<=4294967296)(W w:World)(L:List HP)(hS:St W (blk B [.I id] 3::blk C [.string who] 9::j7 v p::L) w):
  Calls Tryz.prog 193 #[v,.func (.func 153) #[] #[.P B,.P C]] w fun e w'=>e=.returned (.I (cV4 id who p))/\St W (blk B [.I id] 3::blk C [.string who] 9::j7 v p::L) w':=by
 obtain⟨a,cap,rfl⟩:=hS.drop.drop.rowVal;go_enter Tryz.func193,Tryz.ntmps193;go_wp2_with fail
 go_loopw [8] (fun v wr=>gq4 W (blk B [.I id] 3::blk C [.string who] 9::j7 (.slice a p.length cap) p::L) p id who v wr) (fun v _=>p.length-(intOf v).toNat)
 case atStart=>exact⟨0,rfl,by omega,fun j hj=>by omega,hS⟩
 case round=>
  clear hS;obtain⟨k,rfl,hk,hno,hS⟩:=hrel;by_cases hkn:k=p.length
  ·have Hr:=jH (Oc7 p id who (hkn▸hno));clear hno;subst hkn;go_wp2_with fail;go_ret;rw[Hr.out];exact⟨rfl,hS⟩
  ·have hkl:k<p.length:=by omega
   clear hkn hk;obtain⟨⟨g,rfl⟩,_,_⟩:=St.rowAddr hS.drop.drop (by omega);have Hno:=jH hno;clear hno
   cases hb:an4 id who p[k]with
   | false=>
    go_wp2_with(first|refine zlN hS ?_ (hc:=by exact d8.there (d8.there (d8.rowE Ord.len hkl)))|go_at_call 153;refine(Ew7 p[k] B C id who W _ _ hS).mono ?_;clear hS;rw[hb];rintro e w ⟨rfl,hS⟩);go_roundw
    case rel=>
     refine⟨k+1,rfl,hkl,?_,hS⟩;intro j hj x hx;by_cases hjk:j=k
     ·subst hjk;rw[jG hkl]at hx
      cases hx
      exact hb
     ·exact Hno.out j (by omega) x hx
    case measure=>simp[intOf];omega
   | true=>
    go_wp2_with(first|refine zlN hS ?_ (hc:=by exact d8.there (d8.there (d8.rowE Ord.len hkl)))|go_at_call 153;refine(Ew7 p[k] B C id who W _ _ hS).mono ?_;clear hS;rw[hb];rintro e w ⟨rfl,hS⟩);go_ret;rw[PX7 p id who k hkl Hno.out hb];exact⟨rfl,hS⟩
theorem Od7(id:Int)(who:ByteArray)(p:List Ord):decide (0<=cV4 id who p)=p.any (an4 id who):=by
 unfold cV4
 cases h:p.findIdx? (an4 id who)with
 | none=>
  have:=List.findIdx?_eq_none_iff.1 h;have e:p.any (an4 id who)=false:=by rw[List.any_eq_false];intro x hx;rw[this x hx];exact Bool.false_ne_true
  rw[e];rfl
 | some i=>
  obtain⟨hi,hx,_⟩:=List.findIdx?_eq_some_iff_getElem.1 h;have e:p.any (an4 id who)=true:=List.any_eq_true.2 ⟨_,jW hi,hx⟩;rw[e];simp
theorem CR7(p:List Ord)(v:Value)(B C:Nat)(id:Int)(who:ByteArray){r:Bool}(hr:p.any (an4 id who)=r)(h63:p.length<=4294967296)(W w:World)(L:List HP)(hS:St W (blk B [.I id] 3::blk C [.string who] 9::j7 v p::L) w):
  Calls Tryz.prog 152 #[v,.func (.func 153) #[] #[.P B,.P C]] w fun e w'=>e=.returned (.bool r)/\St W (blk B [.I id] 3::blk C [.string who] 9::j7 v p::L) w':=by
 have hz:=Od7 id who p;rw[hr]at hz;obtain⟨q,hq⟩:∃q,cV4 id who p=q:=⟨_,rfl⟩
 rw[hq]at hz;have Hq:=jH hq;clear hq hr;go_enter Tryz.func152,Tryz.ntmps152;go_wp2_with(first|go_at_call 193;refine(IC7 p v B C id who h63 W _ _ hS).mono ?_;clear hS;rw[Hq.out];rintro e w ⟨rfl,hS⟩);go_ret;exact⟨by first|rfl|(rw[<-hz];rfl),hS⟩
section
variable{W w:World}{R:List HP}{bb:Nat}{L:List Ord}{n:Int}
theorem Eg7(hS:St W (x9 bb L n::R) w):
  Calls Tryz.prog 124 #[.P bb] w fun e w'=>∃a c,e=.returned (.slice a L.length c)/\St W (x9 bb L n::j7 (.slice a L.length c) L::R) w':=by
 obtain⟨b,hr,hl,hS⟩:=aH4 hS;refine(PR7 bb hr W w R hS).mono ?_;rintro e w' ⟨a,c,rfl,hS⟩;exact⟨a,c,rfl,be4 hr hl hS⟩
theorem Ht7{id:Int}{x:Ord}{L2:List Ord}(h1:(m9 L id).o=x)(h2:(m9 L id).errno=0)(h3:(m9 L id).L=L2)(hS:St W (x9 bb L n::R) w):
  Calls Tryz.prog 154 #[.P bb,.I id] w fun e w'=>e=.returned (.tuple #[.agg x.cells.toArray,.I 0])/\St W (x9 bb L2 n::R) w':=by
 obtain⟨b,hr,hl,hS⟩:=aH4 hS;refine(LP7 bb hr id W w R hS).mono ?_;rintro e w' ⟨b',⟨hla,hrep⟩,rfl,hS⟩;rw[h1,h2];rw[h3]at hrep;exact⟨rfl,be4 hrep (by omega) hS⟩
end
def bY4(p:Ps)(who:ByteArray)(i:It):Ps:=l5 (l5 (l5 (l5 p who 0 i.x0) who 1 i.x1) who 2 i.x2) who 3 i.x3
def Cn4(W:World)(F:Ps->List HP)(p:Ps)(who:ByteArray)(i:It)(v:Value)(w:World):Prop:=
 (v=.I 0/\St W (F p) w)\/(v=.I 1/\St W (F (l5 p who 0 i.x0)) w)\/(v=.I 2/\St W (F (l5 (l5 p who 0 i.x0) who 1 i.x1)) w)\/(v=.I 3/\St W (F (l5 (l5 (l5 p who 0 i.x0) who 1 i.x1) who 2 i.x2)) w)\/(v=.I 4/\St W (F (bY4 p who i)) w)
section
variable(vb mb bb:Nat)(p:Ps)(L:List Ord)(n:Int)(who:ByteArray)(id:Int)(W w:World)(R:List HP)
theorem Kx7(hr:L.any (an4 id who)=false)(hS:St W (w5 vb mb bb p L n R) w):
  Calls Tryz.prog 114 #[.P vb,.string who,.I id] w fun e w'=>e=.returned (.I 7)/\St W (w5 vb mb bb p L n R) w':=by
 have hL:=Cv7 hS.drop.drop;go_enter Tryz.func114,Tryz.ntmps114;go_wp2_with(first|go_at_call 124;refine(Eg7 (hS.s (x9 bb L n::blk bQ2 _ _::blk bQ1 _ _::blk vb _ _::d9 eS eP mb p::R))).mono ?_;clear hS;rintro e w ⟨la,lc,rfl,hS⟩|go_at_call 152;(try simp only[Act.eval,Array.getD_eq_getD_getElem?,List.getElem?_toArray,List.getElem?_cons_succ,List.getElem?_cons_zero,Option.getD_some]at hS);refine(CR7 L _ bQ2 bQ1 id who hr (by omega) W _ _ (hS.s (blk bQ2 _ _::blk bQ1 _ _::j7 (.slice la L.length lc) L::x9 bb L n::blk vb _ _::d9 eS eP mb p::R))).mono ?_;clear hS;rintro e w ⟨rfl,hS⟩|(fail_if_success (have:=bQ1));(with_reducible apply Ay7 hS);rfl;rfl;rfl;rfl;clear hS;intro bQ1 w hS;refine frS ?_|(fail_if_success (have:=bQ2));(with_reducible apply Ay7 hS);rfl;rfl;rfl;rfl;clear hS;intro bQ2 w hS;refine frS ?_|refine zl1 hS ?_);go_ret;exact⟨rfl,hS.s _⟩
theorem ID7(hp:L7 p)(x:Ord)(L2:List Ord)(hx:MayP x)(hr:L.any (an4 id who)=true)(h1:(m9 L id).o=x)(h2:(m9 L id).errno=0)(h3:(m9 L id).L=L2)(hS:St W (w5 vb mb bb p L n R) w):
  Calls Tryz.prog 114 #[.P vb,.string who,.I id] w fun e w'=>e=.returned (.I 0)/\St W (w5 vb mb bb (bY4 p who (j5 x)) L2 n R) w':=by
 have hL:=Cv7 hS.drop.drop;have hm:=BN7 (by have:=hx.cnt0;omega) hx.cnt1 (by have:=hx.price0;omega) hx.price1
 have hit:s6 (j5 x)=true:=by
  unfold j5;split
  ·exact Ag7.2 ⟨⟨hm.1,by simp only;omega⟩,⟨by simp only;omega,by simp only;omega⟩,⟨by simp only;omega,by simp only;omega⟩,by simp only;omega,by simp only;omega⟩
  ·exact Gv7 (by rfl) _ ⟨by have:=hx.cnt0;omega,by have:=hx.cnt1;omega⟩
 clear hm;obtain⟨i,hi⟩:∃i,j5 x=i:=⟨_,rfl⟩
 rw[hi]at hit ⊢;obtain⟨h0,h1',h2',h3'⟩:=i;obtain⟨xi,xu,xy,xt,xc,xp⟩:=x;have Hi:=jH hi;have Hx:=jH hx;have H1:=jH h1;have H2:=jH h2;have H3:=jH h3;obtain⟨a0,a1,a2,a3⟩:=Ag7.1 hit;simp only at a0 a1 a2 a3;have G0:=jH (show ∀y,s6 (j8 p y)=true from hp);have G1:=jH (show ∀y,s6 (j8 (l5 p who 0 h0) y)=true from Ak7 hp _ _ a0.1);have G2:=jH (show ∀y,s6 (j8 (l5 (l5 p who 0 h0) who 1 h1') y)=true from Ak7 (Ak7 hp _ _ a0.1) _ _ a1.1);have G3:=jH (show ∀y,s6 (j8 (l5 (l5 (l5 p who 0 h0) who 1 h1') who 2 h2') y)=true from Ak7 (Ak7 (Ak7 hp _ _ a0.1) _ _ a1.1) _ _ a2.1);clear hi hx h1 h2 h3 hit hp;go_enter Tryz.func114,Tryz.ntmps114;go_wp2_with(first|go_at_call 124;refine(Eg7 (hS.s (x9 bb L n::blk bQ2 _ _::blk bQ1 _ _::blk vb _ _::d9 eS eP mb p::R))).mono ?_;clear hS;rintro e w ⟨la,lc,rfl,hS⟩|go_at_call 152;(try simp only[Act.eval,Array.getD_eq_getD_getElem?,List.getElem?_toArray,List.getElem?_cons_succ,List.getElem?_cons_zero,Option.getD_some]at hS);refine(CR7 L _ bQ2 bQ1 id who hr (by omega) W _ _ (hS.s (blk bQ2 _ _::blk bQ1 _ _::j7 (.slice la L.length lc) L::x9 bb L n::blk vb _ _::d9 eS eP mb p::R))).mono ?_;clear hS;rintro e w ⟨rfl,hS⟩|(fail_if_success (have:=bQ1));(with_reducible apply Ay7 hS);rfl;rfl;rfl;rfl;clear hS;intro bQ1 w hS;refine frS ?_|(fail_if_success (have:=bQ2));(with_reducible apply Ay7 hS);rfl;rfl;rfl;rfl;clear hS;intro bQ2 w hS;refine frS ?_|refine zl1 hS ?_);have hS:=hS.s (x9 bb L n::blk bQ2 _ _::blk bQ1 _ _::blk vb _ _::d9 eS eP mb p::R)
 refine rf3 [0,1,3,7,0,31,63,127,127,0,767,2047] (fun i=>i==9) (fun i=>if i==5 then some (.tuple #[.agg #[.I xi,.string xu,.bool xy,.I xt,.I xc,.I xp],.I 0])else none) [⟨some 5,none,fun _=>x9 bb L2 n⟩,⟨some 9,some 10,fun nd=>i8 (nd 9) [.I 0,.string ⟨#[]⟩,.bool false,.I 0,.I 0,.I 0] 173⟩,⟨some 10,none,fun nd=>i8 (nd 9) [.I xi,.string xu,.bool xy,.I xt,.I xc,.I xp] 173⟩] [some 5,none,none,none,none] hS ?_;intro nd;refine cR ?_;refine zcn ?_;refine cR ?_;refine zc1 ?_;refine zc1 ?_;refine zcv ?_ (hs:=by(intro F w hS;(try clear hS0);exact Ht7 H1.out H2.out H3.out hS))
 iterate 3 (refine cR ?_)
 (refine zca ?_);refine zct ?_;refine cR ?_;refine Ad7 ?_;clear hS;intro w hS;have hS2:St W [x9 bb L2 n,i8 (nd 9) _ _,blk bQ2 _ _,blk bQ1 _ _,blk vb _ _,d9 eS eP mb p,sats R] w:=hS;clear hS;have hS:=hS2.unpack [_,_,_,_,_,_];clear hS2;simp only[jK,jN]at hS;generalize nd 9=v9 at *;have hS7:=hS.swap;clear hS;have h1:=hS7.ptr;clear hS7;obtain⟨b9,rfl,hS⟩:=h1;go_wp2_with(first|go_at_call 117;refine(EI7 Hx.out Hi.out W _ _ hS).mono ?_;clear hS;rintro e w ⟨rfl,hS⟩|refine zl1 hS ?_|refine zlN hS ?_);have hS:=hS.s (blk vb _ _::d9 eS eP mb p::x9 bb L2 n::R)
 go_loopw [37] (fun v wr=>Cn4 W (fun q=>[blk vb [.map (some mb),.P bb,.I n] 215,d9 eS eP mb q,x9 bb L2 n]++R) p who ⟨h0,h1',h2',h3'⟩ v wr) (fun v _=>4-(intOf v).toNat)
 case atStart=>exact .inl ⟨rfl,hS⟩
 case round=>
  clear hS;simp only[Cn4,bY4,jK,jN]at hrel
  rcases hrel with ⟨rfl,hS⟩|⟨rfl,hS⟩|⟨rfl,hS⟩|⟨rfl,hS⟩|⟨rfl,hS⟩
  ·go_wp2_with(first|(with_reducible apply Aw7);rfl;rfl;rfl;rfl;(first|exact N6 _ _ _ _|exact N7 _ _ _ _|exact N8 _ _ _ _|exact N9 _ _ _ _);refine frS ?_|go_at_call 151;refine(Cs7 vb mb _ _ _ _ _ _ ?_ ?_ ?_ W _ _ hS).mono ?_;(focus(exact G0.out _));(focus decide);(focus(exact⟨by omega,by omega⟩));clear hS;rintro e w ⟨rfl,hS⟩);go_roundw
   case rel=>exact .inr (.inl ⟨rfl,hS⟩)
   case measure=>simp[intOf]
  ·go_wp2_with(first|(with_reducible apply Aw7);rfl;rfl;rfl;rfl;(first|exact N6 _ _ _ _|exact N7 _ _ _ _|exact N8 _ _ _ _|exact N9 _ _ _ _);refine frS ?_|go_at_call 151;refine(Cs7 vb mb _ _ _ _ _ _ ?_ ?_ ?_ W _ _ hS).mono ?_;(focus(exact G1.out _));(focus decide);(focus(exact⟨by omega,by omega⟩));clear hS;rintro e w ⟨rfl,hS⟩);go_roundw
   case rel=>exact .inr (.inr (.inl ⟨rfl,hS⟩))
   case measure=>simp[intOf]
  ·go_wp2_with(first|(with_reducible apply Aw7);rfl;rfl;rfl;rfl;(first|exact N6 _ _ _ _|exact N7 _ _ _ _|exact N8 _ _ _ _|exact N9 _ _ _ _);refine frS ?_|go_at_call 151;refine(Cs7 vb mb _ _ _ _ _ _ ?_ ?_ ?_ W _ _ hS).mono ?_;(focus(exact G2.out _));(focus decide);(focus(exact⟨by omega,by omega⟩));clear hS;rintro e w ⟨rfl,hS⟩);go_roundw
   case rel=>exact .inr (.inr (.inr (.inl ⟨rfl,hS⟩)))
   case measure=>simp[intOf]
  ·go_wp2_with(first|(with_reducible apply Aw7);rfl;rfl;rfl;rfl;(first|exact N6 _ _ _ _|exact N7 _ _ _ _|exact N8 _ _ _ _|exact N9 _ _ _ _);refine frS ?_|go_at_call 151;refine(Cs7 vb mb _ _ _ _ _ _ ?_ ?_ ?_ W _ _ hS).mono ?_;(focus(exact G3.out _));(focus decide);(focus(exact⟨by omega,by omega⟩));clear hS;rintro e w ⟨rfl,hS⟩);go_roundw
   case rel=>exact .inr (.inr (.inr (.inr ⟨rfl,hS⟩)))
   case measure=>simp[intOf]
  ·go_wp2_with(fail);go_ret;exact⟨rfl,hS⟩
end
end Go.Proofs.YtienbkdjkjbelaaGreat
end
