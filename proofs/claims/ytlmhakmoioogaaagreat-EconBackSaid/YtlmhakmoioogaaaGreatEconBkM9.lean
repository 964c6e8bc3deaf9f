/-
  The vault's Order.
-/
import Derived.Test.YtlmhakmoioogaaaGreatEconBkM8
import Derived.Shelf.SlIter.Nil
import Derived.Shelf.SlIterI.Nil
import Derived.Shelf.SortM.Plain
import Derived.Shelf.SortM.SortNone
import Derived.Ground.GgzProg
import Derived.Ground.SlgmProg
import Derived.Sort.Walk0
set_option maxHeartbeats 16000000
set_option maxRecDepth 100000
set_option linter.unusedSimpArgs false
set_option linter.unusedVariables false
section
namespace Go.Sl
open Go.RowKit
def eh4(v:Value)(i:Nat):Value:=match v with
 | .tuple vs=>vs.getD i undef
 | _=>undef
section
variable{P:Program}{W:World}{ops:Array Oper}{t:List Nat}{toks:List Tok}{fresh:Nat->Bool}{pin:Nat->Option Value}{Qf:Act->Prop}{nd:Nat->Value}{i:Nat}{l:List Oper}{a:Act}{o:Oper}
theorem Ff7{x:Operand}{k:Nat}{v:Value}(hf:fresh i=false)(hn:ay4 toks i=true)(ho:o.op=.extract x k)(hg:Region.wanted o (yielded ops a.tmps)=true)(hx:a.eval x=v)
  (hv:∀F w,St W (kpL toks t i nd++F) w->∃vs:Array Value,v=.tuple vs/\vs.size=3) (hk:k<3) (h:t8 P W ops t toks fresh pin Qf nd (i+1) l (a.put o.dst (eh4 v k))):t8 P W ops t toks fresh pin Qf nd i (o::l) a:=
 Ft7 hf hn hg (fun F w hS=>by
  obtain⟨vs,rfl,hs⟩:=hv F w hS;have e:vs[k]? = some (vs[k]'(by omega)):=Array.getElem?_eq_getElem (by omega)
  have e2:eh4 (.tuple vs) k=vs[k]'(by omega):=by
   show vs.getD k undef=_
   simp[Array.getD,hs,hk]
  unfold execOp;simp[ho,hx,Instr.extract,e,e2]) h
end
end Go.Sl
namespace Go.Proofs.YtlmhakmoioogaaaGreat
open Go.RowKit Go.Sl
theorem FM7{o:Ord}{h0 h1 h2 h3:Int}(hm:MayP o)(h:l8 o=⟨h0,h1,h2,h3⟩)(W w:World)(R:List HP)(hS:St W R w):
  Calls Tryz.prog 125 #[.agg o.cells.toArray] w fun e w'=>e=.returned (.agg #[.I h0,.I h1,.I h2,.I h3])/\St W R w':=
 (MD7 o hm W w R hS).mono fun e w' ⟨he,hS⟩=>⟨by rw[he,h];rfl,hS⟩
def bA4(o:Ord):Bool:=P9 { o with id:=1 }
section
variable(vb mb bb:Nat)(p:Ps)(L:List Ord)(n:Int)(o:Ord)(W w:World)(R:List HP)
theorem Ow7(h:bA4 o=false)(hS:St W (B7 vb mb bb p L n R) w):
  Calls Tryz.prog 105 #[.P vb,.agg o.cells.toArray] w fun e w'=>e=.returned (.tuple #[.I 0,.I 1])/\St W (B7 vb mb bb p L n R) w':=by
 obtain⟨i,u,y,t,c,pr⟩:=o;have hm:P9 ⟨1,u,y,t,c,pr⟩=false:=h;clear h;simp only[Ord.cells];go_enter Tryz.func105,Tryz.ntmps105;go_wp2_with(first|(with_reducible apply Bq7 (n:=1) (l:=[(⟨1,u,y,t,c,pr⟩:Ord)].flatMap Ord.cells) hS);rfl;rfl;(focus(simp only[fD,fI,fJ,Act.eval,fE,fF,fG,fH,fK];try rfl));exact esS;exact rsS;rfl;rfl;rfl;rfl;rfl;decide;clear hS;intro bv w hS;refine frS ?_|go_at_call 167;refine(En7 ⟨1,u,y,t,c,pr⟩ rfl _ W _ _ hS).mono ?_;clear hS;rw[hm];rintro e w ⟨vu,rfl,hS⟩|refine zlN hS ?_|refine zs1 hS ?_;clear hS;intro w hS|refine zbx hS ?_;clear hS;intro b w hS)
 all_goals go_ret2
 all_goals exact⟨rfl,hS.drop⟩
theorem Ku7(h:bA4 o=true)(hL:L.length<32)(hn:n<=1099511627776)(ht:A5 p o.who (l8 o)=14)(hS:St W (B7 vb mb bb p L n R) w):
  Calls Tryz.prog 105 #[.P vb,.agg o.cells.toArray] w fun e w'=>e=.returned (.tuple #[.I 0,.I 14])/\St W (B7 vb mb bb p L n R) w':=by
 obtain⟨i,u,y,t,c,pr⟩:=o;have hm:P9 ⟨1,u,y,t,c,pr⟩=true:=h;have ht':A5 p u (l8 ⟨1,u,y,t,c,pr⟩)=14:=ht
 have hp':A8 p u (l8 ⟨1,u,y,t,c,pr⟩)=p:=by
  unfold A5 at ht';unfold A8;split at ht'
  ·rename_i hc
   rw[if_pos hc];split at ht'
   ·cases ht'
   ·rename_i hs;rw[if_neg hs]
  ·cases ht'
 have Hm:=jH hm;clear h ht;have d1:decide ((32:Int)<=(L.length:Int))=false:=by simp;omega
 have d2:decide ((1099511627776:Int)<n)=false:=by simp;omega
 simp only[Ord.cells];obtain⟨it,hit⟩:∃x,l8 ⟨1,u,y,t,c,pr⟩=x:=⟨_,rfl⟩
 rw[hit]at ht' hp';obtain⟨h0,h1,h2,h3⟩:=it;have Hit:=jH hit;have Hte:=jH ht';have Htp:=jH hp';clear hit ht' hp';go_enter Tryz.func105,Tryz.ntmps105;go_wp2_with(first|(with_reducible apply Bq7 (n:=1) (l:=[(⟨1,u,y,t,c,pr⟩:Ord)].flatMap Ord.cells) hS);rfl;rfl;(focus(simp only[fD,fI,fJ,Act.eval,fE,fF,fG,fH,fK];try rfl));exact esS;exact rsS;rfl;rfl;rfl;rfl;rfl;decide;clear hS;intro bv w hS;refine frS ?_|go_at_call 167;refine(En7 ⟨1,u,y,t,c,pr⟩ rfl _ W _ _ hS).mono ?_;clear hS;rw[hm];rintro e w ⟨vu,rfl,hS⟩|go_at_call 168;refine(Em7 (hS.s (w7 bb L n::_::blk vb _ _::d8 eS eP mb p::R))).mono ?_;clear hS;rintro e w ⟨rfl,hS⟩|refine zl1 hS ?_|refine zlN hS ?_|refine zs1 hS ?_;clear hS;intro w hS|refine zbx hS ?_;clear hS;intro b w hS);refine rt 5 hS ?_
 repeat(first|refine zq1 ?_|refine zqN ?_|apply At7;rfl;intro w;apply Ag7;rfl;decide +kernel;(focus(simp only[fD,fI,fJ,Act.eval,fE,fF,fG,fH,fK];try rfl));intro w hS;exact FM7 (Ao7.1 Hm.out) Hit.out W w _ hS;refine frS ?_|refine qR ?_)
 clear hS;intro w hS;simp only[jD,List.drop_zero];go_wp2_with(first|go_at_call 104;refine(Gm7 vb mb p u _ _ ⟨h0,h1,h2,h3⟩ W _ _ (hS.s (blk vb _ _::d8 eS eP mb p::w7 bb L n::blk b _ _::R))).mono ?_;clear hS;rw[Hte.out,Htp.out];rintro e w ⟨rfl,hS⟩);go_ret2;exact⟨rfl,hS.s _⟩
def bg4(L:List Ord)(o:Ord):List Trd:=(w6 (L.length+1) o L []).2.2
def cJ4(L:List Ord)(o:Ord):List Ord:=if 0<(w6 (L.length+1) o L []).1.cnt then(w6 (L.length+1) o L []).2.1++[(w6 (L.length+1) o L []).1]else(w6 (L.length+1) o L []).2.1
theorem Kv7(hm:MayP o)(hid:o.id=n)(hL:L.length<32)(hS:St W (w7 bb L n::R) w):
  Calls Tryz.prog 169 #[.P bb,.agg o.cells.toArray] w fun e w'=>∃a c left,e=.returned (.tuple #[.slice a (bg4 L o).length c,.I left,.I 0])/\St W (w7 bb (cJ4 L o) (n+1)::as4 (.slice a (bg4 L o).length c) (bg4 L o)::R) w':=by
 obtain⟨b,hr,hl,hS⟩:=aD4 hS;have hno:¬(P9 o=false\/o.id<=b.last):=by rintro(h|h);(rw[Ao7.2 hm]at h;cases h);omega
 refine(QU7 bb hr o W w R hS).mono ?_;rintro e w' ⟨b',ts,a,c,⟨ht,hla,hrep,_⟩,rfl,hS⟩;unfold L7 at ht hla hrep ⊢;rw[if_neg hno,if_neg (by omega)]at ht hla hrep ⊢;dsimp only at ht hla hrep ⊢;have e1:ts=bg4 L o:=ht;subst e1;exact⟨a,c,_,rfl,ba4 hrep (by rw[hla,hid];omega) hS⟩
structure TrB(t:Trd):Prop where
 cnt:0<=t.cnt/\t.cnt<=1048576
 item:0<=t.item/\t.item<=3
 price:0<=t.price/\t.price<=1024
 bid:0<=t.bid-t.price/\t.bid-t.price<=1024
end
theorem fJ4{o x:Ord}(hx:MayP x)(ho:0<=o.cnt/\o.cnt<=1048576/\1<=o.item/\o.item<=3/\o.price<=1024)(hm:K5 o x=true):TrB (L6 o x):=by
 unfold K5 at hm;simp only[jB,decide_eq_true_eq]at hm;obtain⟨_,h3⟩:=hm;have hc:0<=O9 o.cnt x.cnt/\O9 o.cnt x.cnt<=1048576:=by have:=hx.cnt0;unfold O9;split <;> omega
 have h1:=hx.price0;have h2:=hx.price1;unfold L6
 cases hb:o.buy
 ·rw[if_neg (by simp)];exact⟨hc,⟨by simp only;omega,by simp only;omega⟩,⟨by simp only;omega,by simp only;omega⟩,by simp only;omega,by simp only;omega⟩
 ·rw[hb]at h3;simp only[if_true,decide_eq_true_eq]at h3;rw[if_pos rfl];exact⟨hc,⟨by simp only;omega,by simp only;omega⟩,⟨by simp only;omega,by simp only;omega⟩,by simp only;omega,by simp only;omega⟩
theorem Dg7:∀(f:Nat) (o:Ord) (L:List Ord) (ts:List Trd),(∀x∈L,MayP x)->(0<=o.cnt/\o.cnt<=1048576/\1<=o.item/\o.item<=3/\o.price<=1024)->(∀t∈ts,TrB t)->∀t∈(w6 f o L ts).2.2,TrB t
 | 0,o,L,ts,_,_,h=>h
 | f+1,o,L,ts,hL,ho,h=>by
  rw[w6];by_cases h0:0<o.cnt
  ·rw[if_pos h0]
   cases hb:B8 o L L.length with
   | none=>exact h
   | some k=>
    obtain⟨hk,hm,_⟩:=AK7 hb;have hx:=hL _ (L8 hk);have hx0:=hx.cnt0;have hmin:=Du7 h0 (show 0<(at' L k).cnt by omega);refine Dg7 f _ _ _ ?_ ⟨by simp only;omega,by simp only;omega,ho.2.2.1,ho.2.2.2.1,ho.2.2.2.2⟩ ?_
    ·unfold bf4;split
     ·exact fun x hx=>hL x (List.mem_of_mem_eraseIdx hx)
     ·intro x hxm
      rcases List.mem_or_eq_of_mem_set hxm with hx'|rfl
      ·exact hL x hx'
      ·exact HY7 hx (by omega) (by omega)
    ·intro t ht
     rcases List.mem_append.1 ht with ht|ht
     ·exact h t ht
     ·rw[List.mem_singleton.1 ht];exact fJ4 hx ho hm
  ·rw[if_neg h0];exact h
def aL4(p:Ps)(t:Trd):Ps:=r8 (r8 (r8 p t.buyer t.item t.cnt) t.buyer 0 (t.cnt*(t.bid-t.price))) t.seller 0 (t.cnt*t.price)
theorem LK7{p:Ps}(h:N5 p){t:Trd}(ht:TrB t):N5 (aL4 p t):=by have h1:=Cp7 ht.cnt.1 ht.cnt.2 ht.price.1 ht.price.2;have h2:=Cp7 ht.cnt.1 ht.cnt.2 ht.bid.1 ht.bid.2;exact An7 (An7 (An7 h _ _ ht.cnt.1) _ _ h2.1) _ _ h1.1
theorem Eo7:∀(ts:List Trd) {p:Ps},N5 p->(∀t∈ts,TrB t)->N5 (ts.foldl aL4 p)
 | [],_,h,_=>h
 | t::ts,_,h,ht=>Eo7 ts (LK7 h (ht t (List.mem_cons_self ..))) fun x hx=>ht x (List.mem_cons_of_mem _ hx)
def plR(bb:Nat)(L:List Ord)(m:Int)(ts:List Trd)(v:Value):HP:=fun f=>∃(a:Option Addr) (c:Nat) (left:Int),v=.tuple #[.slice a ts.length c,.I left,.I 0]/\sats [w7 bb L m,as4 (.slice a ts.length c) ts] f
section
variable{W w:World}{bb:Nat}{L:List Ord}{m n:Int}{ts:List Trd}{v:Value}{R:List HP}
theorem eB4(h:St W (plR bb L m ts v::R) w):∃a c left,v=.tuple #[.slice a ts.length c,.I left,.I 0]/\St W (w7 bb L m::as4 (.slice a ts.length c) ts::R) w:=by obtain⟨a,h⟩:=St.ex h;obtain⟨c,h⟩:=St.ex h;obtain⟨left,h⟩:=St.ex h;obtain⟨h1,h⟩:=St.and h;refine⟨a,c,left,h1,?_⟩;exact(St.split (St.split h).swap).swap.drop.swap
theorem fK4{a:Option Addr}{c:Nat}{left:Int}(hv:v=.tuple #[.slice a ts.length c,.I left,.I 0])(h:St W (w7 bb L m::as4 (.slice a ts.length c) ts::R) w):St W (plR bb L m ts v::R) w:=by refine St.mkEx a (St.mkEx c (St.mkEx left (St.mkAnd hv ?_)));refine St.join ?_;refine St.swap (St.imp h.swap ?_);intro f hf;exact⟨fun _=>true,hf,trivial⟩
theorem eC4{L1 R1:List HP}(hS:St W L1 w)(hu:Take L1 (plR bb L m ts v) R1):∃vs:Array Value,v=.tuple vs/\vs.size=3:=by obtain⟨a,c,left,h,_⟩:=eB4 (hS.take hu);exact⟨_,h,rfl⟩
theorem fL4{o:Ord}{L2:List Ord}(hm:MayP o)(hid:o.id=n)(hL:L.length<32)(h1:cJ4 L o=L2)(h2:bg4 L o=ts)(hS:St W (w7 bb L n::R) w):
  Calls Tryz.prog 169 #[.P bb,.agg o.cells.toArray] w fun e w'=>∃v,e=.returned v/\St W (plR bb L2 (n+1) ts v::R) w':=by
 subst h1 h2;refine(Kv7 bb L n o W w R hm hid hL hS).mono ?_;rintro e w' ⟨a,c,left,rfl,hS⟩;exact⟨_,rfl,fK4 rfl hS⟩
end
def OrR(W:World)(F:Ps->List HP)(p:Ps)(ts:List Trd)(v:Value)(w:World):Prop:=
 ∃(k:Nat),v=.I k/\k<=ts.length/\St W (F ((ts.take k).foldl aL4 p)) w
section
variable(vb mb bb:Nat)(p:Ps)(L:List Ord)(n:Int)(o:Ord)(W w:World)(R:List HP)
theorem QV7(hp:N5 p)(h:bA4 o=true)(hn0:1<=n)(hn:n<=1099511627776)(hL:L.length<32)(ht:A5 p o.who (l8 o)=0)(hS:St W (B7 vb mb bb p L n R) w):
  Calls Tryz.prog 105 #[.P vb,.agg o.cells.toArray] w fun e w'=>e=.returned (.tuple #[.I n,.I 0]) /\
   St W (B7 vb mb bb ((bg4 L { o with id:=n }).foldl aL4 (A8 p o.who (l8 o))) (cJ4 L { o with id:=n }) (n+1) R) w':=by
 have hLm:=Bn7 hS.drop.drop;obtain⟨i,u,y,t,c,pr⟩:=o;have hm:P9 ⟨1,u,y,t,c,pr⟩=true:=h;have hm1:=Ao7.1 hm;have hmn:MayP ⟨n,u,y,t,c,pr⟩:=⟨hn0,hn,hm1.who0,hm1.who1,hm1.item0,hm1.item1,hm1.cnt0,hm1.cnt1,hm1.price0,hm1.price1⟩
 have hok1:N5 (A8 p u (l8 ⟨1,u,y,t,c,pr⟩)):=CI7 hp _ _;have htr:∀x∈bg4 L ⟨n,u,y,t,c,pr⟩,TrB x:=Dg7 _ _ _ _ (fun x hx=>(hLm x hx).1) ⟨by have:=hmn.cnt0;simp only at this ⊢;omega,hmn.cnt1,hmn.item0,hmn.item1,hmn.price1⟩ (fun x hx=>(by cases hx));have ht':A5 p u (l8 ⟨1,u,y,t,c,pr⟩)=0:=ht;have eh:l8 ⟨i,u,y,t,c,pr⟩=l8 ⟨1,u,y,t,c,pr⟩:=rfl;simp only[eh];obtain⟨p1,hp1⟩:∃x,A8 p u (l8 ⟨1,u,y,t,c,pr⟩)=x:=⟨_,rfl⟩
 rw[hp1]at hok1;simp only[hp1];obtain⟨it,hit⟩:∃x,l8 ⟨1,u,y,t,c,pr⟩=x:=⟨_,rfl⟩
 rw[hit]at ht' hp1;obtain⟨h0,h1,h2,h3⟩:=it;obtain⟨ts,hts⟩:∃x,bg4 L ⟨n,u,y,t,c,pr⟩=x:=⟨_,rfl⟩
 obtain⟨L2,hL2⟩:∃x,cJ4 L ⟨n,u,y,t,c,pr⟩=x:=⟨_,rfl⟩
 simp only[hts,hL2];rw[hts]at htr;have Hts:=jH hts;have HL2:=jH hL2;clear hts hL2;have Hm:=jH hm;have Hit:=jH hit;have Hte:=jH ht';have Htp:=jH hp1;have Hok:=jH hok1;have Htr:=jH htr;have d1:decide ((32:Int)<=(L.length:Int))=false:=by simp;omega
 have d2:decide ((1099511627776:Int)<n)=false:=by simp;omega
 clear hit ht' hp1 h ht eh hok1 htr hLm hm1 hp;simp only[Ord.cells];go_enter Tryz.func105,Tryz.ntmps105;go_wp2_with(first|(with_reducible apply Bq7 (n:=1) (l:=[(⟨1,u,y,t,c,pr⟩:Ord)].flatMap Ord.cells) hS);rfl;rfl;(focus(simp only[fD,fI,fJ,Act.eval,fE,fF,fG,fH,fK];try rfl));exact esS;exact rsS;rfl;rfl;rfl;rfl;rfl;decide;clear hS;intro bv w hS;refine frS ?_|go_at_call 167;refine(En7 ⟨1,u,y,t,c,pr⟩ rfl _ W _ _ hS).mono ?_;clear hS;rw[hm];rintro e w ⟨vu,rfl,hS⟩|go_at_call 168;refine(Em7 (hS.s (w7 bb L n::_::blk vb _ _::d8 eS eP mb p::R))).mono ?_;clear hS;rintro e w ⟨rfl,hS⟩|refine zl1 hS ?_|refine zlN hS ?_|refine zs1 hS ?_;clear hS;intro w hS|refine zbx hS ?_;clear hS;intro b w hS);refine rt 5 hS ?_
 repeat(first|refine zq1 ?_|refine zqN ?_|apply At7;rfl;intro w;apply Ag7;rfl;decide +kernel;(focus(simp only[fD,fI,fJ,Act.eval,fE,fF,fG,fH,fK];try rfl));intro w hS;exact FM7 (Ao7.1 Hm.out) Hit.out W w _ hS;refine frS ?_|refine qR ?_)
 clear hS;intro w hS;simp only[jD,List.drop_zero];go_wp2_with(first|go_at_call 104;refine(Gm7 vb mb p u _ _ ⟨h0,h1,h2,h3⟩ W _ _ (hS.s (blk vb _ _::d8 eS eP mb p::w7 bb L n::blk b _ _::R))).mono ?_;clear hS;rw[Hte.out,Htp.out];rintro e w ⟨rfl,hS⟩|refine zl1 hS ?_|refine zs1 hS ?_;clear hS;intro w hS);have hS:=hS.s (w7 bb L n::blk b _ _::blk vb _ _::d8 eS eP mb p1::R);refine rf3 [0,1,3,7,0,31,63,127,127,127,255,1535,4095] (fun i=>i==5) (fun _=>none) [⟨some 5,none,fun nd=>plR bb L2 (n+1) ts (nd 5)⟩] [some 5,none,none,none] hS ?_;intro nd;refine cR ?_;refine zcn ?_;refine cR ?_;refine zc1 ?_;refine zcN ?_;apply AP7;rfl;rfl;rfl;decide +kernel;(focus(simp only[fD,fI,fJ,Act.eval,fE,fF,fG,fH,fK];try rfl));(intro _;rfl);(intro F w hS;exact fL4 (o:=⟨n,u,y,t,c,pr⟩) hmn rfl hL HL2.out Hts.out hS);(refine frS ?_);refine cR ?_;apply Ff7 (v:=nd 5);rfl;kernel_rfl;rfl;rfl;rfl;(intro F w hS;exact eC4 hS (by exact D5));decide;(refine frS ?_);apply Ff7 (v:=nd 5);rfl;kernel_rfl;rfl;rfl;rfl;(intro F w hS;exact eC4 hS (by exact D5));decide;(refine frS ?_);apply Ff7 (v:=nd 5);rfl;kernel_rfl;rfl;rfl;rfl;(intro F w hS;exact eC4 hS (by exact D5));decide;(refine frS ?_)
 iterate 3 (refine cR ?_)
 refine Ad7 ?_;clear hS;intro w hS;have hS2:St W [plR bb _ _ _ (nd 5),blk b _ _,blk vb _ _,d8 eS eP mb p1,sats R] w:=hS;clear hS;have hS:=hS2.unpack [_,_,_,_];clear hS2;simp only[jK,jN]at hS;generalize nd 5=v5 at *;obtain⟨ta,tc,left,hv5,hS5⟩:=eB4 hS;clear hS;subst hv5;have hS:=hS5;clear hS5;simp only[eh4,Array.getD_eq_getD_getElem?,List.getElem?_toArray,List.getElem?_cons_zero,List.getElem?_cons_succ,Option.getD_some];have htr:=Htr.out
 have hll:ts.length<=9223372036854775807:=by
  rcases St.rowCase hS.drop with ⟨_,h0,_⟩|⟨_,_,q1,q2⟩
  ·omega
  ·omega
 have hS:=hS.s (blk vb _ _::d8 eS eP mb p1::w7 bb L2 (n+1)::as4 (.slice ta ts.length tc) ts::blk b _ _::R);go_wp2_with(fail)
 go_loopw [75] (fun v wr=>OrR W (fun q=>[blk vb [.map (some mb),.P bb,.I (n+1)] 176,d8 eS eP mb q,w7 bb L2 (n+1),as4 (.slice ta ts.length tc) ts,blk b [.I n,.string u,.bool y,.I t,.I c,.I pr] 166]++R) p1 ts v wr) (fun v _=>ts.length-(intOf v).toNat)
 case atStart=>exact⟨0,rfl,Nat.zero_le _,hS⟩
 case round=>
  clear hS;obtain⟨k,rfl,hk,hS⟩:=hrel;simp only[jK,jN]at hS;by_cases hkn:k=ts.length
  ·subst hkn;rw[List.take_length]at hS;go_wp2_with(first|refine zl1 hS ?_);go_ret2;exact⟨rfl,hS.s _⟩
  ·have hk1:k<ts.length:=by omega
   clear hkn hk;obtain⟨⟨g,rfl⟩,_,_⟩:=St.rowAddr hS.drop.drop.drop (by omega);have hcells:∀{K K':List HP},Take K (as4 (.S g ts.length tc) ts) K'->i8 K g (k*8) (Trd.cells ts[k]):=fun hu=>i8.elemM (enc:=Trd.cells) Trd.len hu hk1
   have hq:N5 ((ts.take k).foldl aL4 p1):=Eo7 _ Hok.out fun x hx=>htr x (List.mem_of_mem_take hx)
   have hstep:(ts.take (k+1)).foldl aL4 p1=aL4 ((ts.take k).foldl aL4 p1) ts[k]:=by rw[List.take_succ_eq_append_getElem hk1,List.foldl_append];rfl
   have hb:=htr _ (jW hk1);have Hstep:=jH hstep;have Hq:=jH hq;clear hstep hq;generalize (ts.take k).foldl aL4 p1=q at hS Hstep Hq;generalize ts[k]=x at hcells Hstep hb;obtain⟨xb,xs,xi,xj,xt,xc,xp,xd⟩:=x;obtain⟨⟨c0,c1⟩,⟨t0,t1⟩,⟨p0,p1'⟩,⟨b0,b1⟩⟩:=hb;simp only at c0 c1 t0 t1 p0 p1' b0 b1;have m1:=Cp7 c0 c1 b0 b1;have m2:=Cp7 c0 c1 p0 p1';have n1:xc*(xd-xp)<=9223372036854775807:=by omega
   have n2 : -9223372036854775808<=xc*(xd-xp):=by omega
   have n3:xc*xp<=9223372036854775807:=by omega
   have n4 : -9223372036854775808<=xc*xp:=by omega
   simp only[Trd.cells]at hcells;have G1:=jH (show ∀y,x8 (m5 q y)=true from Hq.out);have G2:=jH (show ∀y,x8 (m5 (r8 q xb xt xc) y)=true from An7 Hq.out _ _ c0);have G3:=jH (show ∀y,x8 (m5 (r8 (r8 q xb xt xc) xb 0 (xc*(xd-xp))) y)=true from An7 (An7 Hq.out _ _ c0) _ _ m1.1);go_wp2_with(first|refine zlN hS ?_ (hc:=by exact hcells (.tail (.tail (.tail .head))))|refine zsN hS ?_;clear hS;intro w hS|refine zal hS ?_;clear hS;intro b w hS);refine Aa7 (by kernel_rfl) (by kernel_rfl) hS ?_
   repeat(first|refine zq1 ?_|refine qR ?_)
   clear hS;intro w hS;go_wp2_with(first|go_at_call 170;refine(Dd7 vb mb _ _ _ _ _ _ ?_ ?_ ?_ W _ (w7 bb L2 (n+1)::as4 (.S g ts.length tc) ts::blk _ _ 231::blk _ _ 166::R) (hS.s _)).mono ?_;(focus(with_reducible first|exact G1.out _|exact G2.out _|exact G3.out _));(focus(first|exact⟨t0,t1⟩|decide));(focus(exact⟨by omega,by omega⟩));clear hS;rintro e w ⟨rfl,hS⟩|refine zl1 hS ?_);go_roundw
   case rel=>
    refine⟨k+1,rfl,hk1,?_⟩;rw[Hstep.out];have hS3:St W (blk vb [.map (some mb),.P bb,.I (n+1)] 176::d8 eS eP mb (aL4 q ⟨xb,xs,xi,xj,xt,xc,xp,xd⟩)::_) w:=hS;exact hS3.s _
   case measure=>simp[intOf];omega
end
section
variable(k:ByteArray)(W w:World)(R:List HP)
theorem Tp7(hS:St W R w):Calls Tryz.prog 47 #[.pointer none,.string k] w fun e w'=>e=.returned (.agg #[.I 0,.I 0,.I 0,.I 0])/\St W R w':=by go_enter Tryz.func47,Tryz.ntmps47;go_wp2_with(first|refine zsN hS ?_;clear hS;intro w hS|refine zal hS ?_;clear hS;intro b w hS);apply Au7;rfl;rfl;rfl;exact hS;decide +kernel;(exact x9);kernel_rfl;exact⟨rfl,hS.drop⟩
def ka:ByteArray:=⟨#[97]⟩
def kaO:Ord:=⟨0,ka,false,1,3,2⟩
end
def aE4(id:Int)(who:ByteArray)(x:Ord):Bool:=(x.id==id)&&(x.who.toList==who.toList)
theorem Fx7(x:Ord)(B C:Nat)(id:Int)(who:ByteArray)(W w:World)(L:List HP)(hS:St W (blk B [.I id] 3::blk C [.string who] 9::L) w):
  Calls Tryz.prog 173 #[.agg x.cells.toArray,.P B,.P C] w fun e w'=>e=.returned (.bool (aE4 id who x))/\St W (blk B [.I id] 3::blk C [.string who] 9::L) w':=by
 obtain⟨i,u,y,t,c,p⟩:=x;unfold aE4;simp only[Ord.cells]
 cases hi:i==id with
 | true=>
  rw[Bool.true_and];go_enter Tryz.func173,Tryz.ntmps173;go_wp2_with(first|refine zl1 hS ?_|refine zbx hS ?_;clear hS;intro b w hS);go_ret;exact⟨rfl,hS.drop⟩
 | false=>
  rw[Bool.false_and];go_enter Tryz.func173,Tryz.ntmps173;go_wp2_with(first|go_big_skip|refine zl1 hS ?_|refine zbx hS ?_;clear hS;intro b w hS);go_ret;exact⟨rfl,hS.drop⟩
def dJ4(id:Int)(who:ByteArray)(p:List Ord):Int:=match p.findIdx? (aE4 id who)with
 | some i=>i
 | none => -1
def hh4(W:World)(L:List HP)(p:List Ord)(id:Int)(who:ByteArray)(v8:Value)(w:World):Prop:=
 ∃k:Nat,v8=.I k/\k<=p.length/\(∀j,j<k->∀x,p[j]? = some x->aE4 id who x=false)/\St W L w
theorem QW7(p:List Ord)(id:Int)(who:ByteArray)(h:∀j,j<p.length->∀x,p[j]? = some x->aE4 id who x=false):dJ4 id who p = -1:=by unfold dJ4;rw[List.findIdx?_eq_none_iff.2];intro x hx;obtain⟨j,hj,rfl⟩:=List.mem_iff_getElem.1 hx;exact h j hj _ (jG hj)
theorem Tq7(p:List Ord)(id:Int)(who:ByteArray)(k:Nat)(hk:k<p.length)(h:∀j,j<k->∀x,p[j]? = some x->aE4 id who x=false)(hx:aE4 id who p[k]=true):dJ4 id who p=k:=by unfold dJ4;rw[List.findIdx?_eq_some_iff_getElem.2 ⟨hk,hx,fun j hj=>by rw[h j hj _ (jG (by omega))];exact Bool.false_ne_true⟩]
theorem Kw7(p:List Ord)(v:Value)(B C:Nat)(id:Int)(who:ByteArray)(h63:p.length<=4294967296)(W w:World)(L:List HP)(hS:St W (blk B [.I id] 3::blk C [.string who] 9::j8 v p::L) w):
  Calls Tryz.prog 210 #[v,.func (.func 173) #[] #[.P B,.P C]] w fun e w'=>e=.returned (.I (dJ4 id who p))/\St W (blk B [.I id] 3::blk C [.string who] 9::j8 v p::L) w':=by
 obtain⟨a,cap,rfl⟩:=hS.drop.drop.rowVal;go_enter Tryz.func210,Tryz.ntmps210;go_wp2_with fail
 go_loopw [8] (fun v wr=>hh4 W (blk B [.I id] 3::blk C [.string who] 9::j8 (.slice a p.length cap) p::L) p id who v wr) (fun v _=>p.length-(intOf v).toNat)
 case atStart=>exact⟨0,rfl,by omega,fun j hj=>by omega,hS⟩
 case round=>
  clear hS;obtain⟨k,rfl,hk,hno,hS⟩:=hrel;by_cases hkn:k=p.length
  ·have Hr:=jH (QW7 p id who (hkn▸hno));clear hno;subst hkn;go_wp2_with fail;go_ret;rw[Hr.out];exact⟨rfl,hS⟩
  ·have hkl:k<p.length:=by omega
   clear hkn hk;obtain⟨⟨g,rfl⟩,_,_⟩:=St.rowAddr hS.drop.drop (by omega);have Hno:=jH hno;clear hno
   cases hb:aE4 id who p[k]with
   | false=>
    go_wp2_with(first|refine zlN hS ?_ (hc:=by exact i8.there (i8.there (i8.rowE Ord.len hkl)))|go_at_call 173;refine(Fx7 p[k] B C id who W _ _ hS).mono ?_;clear hS;rw[hb];rintro e w ⟨rfl,hS⟩);go_roundw
    case rel=>
     refine⟨k+1,rfl,hkl,?_,hS⟩;intro j hj x hx;by_cases hjk:j=k
     ·subst hjk;rw[jG hkl]at hx
      cases hx
      exact hb
     ·exact Hno.out j (by omega) x hx
    case measure=>simp[intOf];omega
   | true=>
    go_wp2_with(first|refine zlN hS ?_ (hc:=by exact i8.there (i8.there (i8.rowE Ord.len hkl)))|go_at_call 173;refine(Fx7 p[k] B C id who W _ _ hS).mono ?_;clear hS;rw[hb];rintro e w ⟨rfl,hS⟩);go_ret;rw[Tq7 p id who k hkl Hno.out hb];exact⟨rfl,hS⟩
theorem QX7(id:Int)(who:ByteArray)(p:List Ord):decide (0<=dJ4 id who p)=p.any (aE4 id who):=by
 unfold dJ4
 cases h:p.findIdx? (aE4 id who)with
 | none=>
  have:=List.findIdx?_eq_none_iff.1 h;have e:p.any (aE4 id who)=false:=by rw[List.any_eq_false];intro x hx;rw[this x hx];exact Bool.false_ne_true
  rw[e];rfl
 | some i=>
  obtain⟨hi,hx,_⟩:=List.findIdx?_eq_some_iff_getElem.1 h;have e:p.any (aE4 id who)=true:=List.any_eq_true.2 ⟨_,jW hi,hx⟩;rw[e];simp
theorem DK7(p:List Ord)(v:Value)(B C:Nat)(id:Int)(who:ByteArray){r:Bool}(hr:p.any (aE4 id who)=r)(h63:p.length<=4294967296)(W w:World)(L:List HP)(hS:St W (blk B [.I id] 3::blk C [.string who] 9::j8 v p::L) w):
  Calls Tryz.prog 171 #[v,.func (.func 173) #[] #[.P B,.P C]] w fun e w'=>e=.returned (.bool r)/\St W (blk B [.I id] 3::blk C [.string who] 9::j8 v p::L) w':=by
 have hz:=QX7 id who p;rw[hr]at hz;obtain⟨q,hq⟩:∃q,dJ4 id who p=q:=⟨_,rfl⟩
 rw[hq]at hz;have Hq:=jH hq;clear hq hr;go_enter Tryz.func171,Tryz.ntmps171;go_wp2_with(first|go_at_call 210;refine(Kw7 p v B C id who h63 W _ _ hS).mono ?_;clear hS;rw[Hq.out];rintro e w ⟨rfl,hS⟩);go_ret;exact⟨by first|rfl|(rw[<-hz];rfl),hS⟩
section
variable{W w:World}{R:List HP}{bb:Nat}{L:List Ord}{n:Int}
theorem Fg7(hS:St W (w7 bb L n::R) w):
  Calls Tryz.prog 172 #[.P bb] w fun e w'=>∃a c,e=.returned (.slice a L.length c)/\St W (w7 bb L n::j8 (.slice a L.length c) L::R) w':=by
 obtain⟨b,hr,hl,hS⟩:=aD4 hS;refine(Tm7 bb hr W w R hS).mono ?_;rintro e w' ⟨a,c,rfl,hS⟩;exact⟨a,c,rfl,ba4 hr hl hS⟩
theorem Jh7{id:Int}{x:Ord}{L2:List Ord}(h1:(A6 L id).o=x)(h2:(A6 L id).errno=0)(h3:(A6 L id).L=L2)(hS:St W (w7 bb L n::R) w):
  Calls Tryz.prog 174 #[.P bb,.I id] w fun e w'=>e=.returned (.tuple #[.agg x.cells.toArray,.I 0])/\St W (w7 bb L2 n::R) w':=by
 obtain⟨b,hr,hl,hS⟩:=aD4 hS;refine(Oo7 bb hr id W w R hS).mono ?_;rintro e w' ⟨b',⟨hla,hrep⟩,rfl,hS⟩;rw[h1,h2];rw[h3]at hrep;exact⟨rfl,ba4 hrep (by omega) hS⟩
end
def cw4(p:Ps)(who:ByteArray)(i:It):Ps:=r8 (r8 (r8 (r8 p who 0 i.x0) who 1 i.x1) who 2 i.x2) who 3 i.x3
def Cn4(W:World)(F:Ps->List HP)(p:Ps)(who:ByteArray)(i:It)(v:Value)(w:World):Prop:=
 (v=.I 0/\St W (F p) w)\/(v=.I 1/\St W (F (r8 p who 0 i.x0)) w)\/(v=.I 2/\St W (F (r8 (r8 p who 0 i.x0) who 1 i.x1)) w)\/(v=.I 3/\St W (F (r8 (r8 (r8 p who 0 i.x0) who 1 i.x1) who 2 i.x2)) w)\/(v=.I 4/\St W (F (cw4 p who i)) w)
section
variable(vb mb bb:Nat)(p:Ps)(L:List Ord)(n:Int)(who:ByteArray)(id:Int)(W w:World)(R:List HP)
theorem MU7(hr:L.any (aE4 id who)=false)(hS:St W (B7 vb mb bb p L n R) w):
  Calls Tryz.prog 106 #[.P vb,.string who,.I id] w fun e w'=>e=.returned (.I 7)/\St W (B7 vb mb bb p L n R) w':=by
 have hL:=Cd7 hS.drop.drop;go_enter Tryz.func106,Tryz.ntmps106;go_wp2_with(first|go_at_call 172;refine(Fg7 (hS.s (w7 bb L n::blk bQ2 _ _::blk bQ1 _ _::blk vb _ _::d8 eS eP mb p::R))).mono ?_;clear hS;rintro e w ⟨la,lc,rfl,hS⟩|go_at_call 171;(try simp only[Act.eval,Array.getD_eq_getD_getElem?,List.getElem?_toArray,List.getElem?_cons_succ,List.getElem?_cons_zero,Option.getD_some]at hS);refine(DK7 L _ bQ2 bQ1 id who hr (by omega) W _ _ (hS.s (blk bQ2 _ _::blk bQ1 _ _::j8 (.slice la L.length lc) L::w7 bb L n::blk vb _ _::d8 eS eP mb p::R))).mono ?_;clear hS;rintro e w ⟨rfl,hS⟩|(fail_if_success (have:=bQ1));(with_reducible apply AH7 hS);rfl;rfl;rfl;rfl;clear hS;intro bQ1 w hS;refine frS ?_|(fail_if_success (have:=bQ2));(with_reducible apply AH7 hS);rfl;rfl;rfl;rfl;clear hS;intro bQ2 w hS;refine frS ?_|refine zl1 hS ?_);go_ret;exact⟨rfl,hS.s _⟩
theorem Kx7(hp:N5 p)(x:Ord)(L2:List Ord)(hx:MayP x)(hr:L.any (aE4 id who)=true)(h1:(A6 L id).o=x)(h2:(A6 L id).errno=0)(h3:(A6 L id).L=L2)(hS:St W (B7 vb mb bb p L n R) w):
  Calls Tryz.prog 106 #[.P vb,.string who,.I id] w fun e w'=>e=.returned (.I 0)/\St W (B7 vb mb bb (cw4 p who (l8 x)) L2 n R) w':=by
 have hL:=Cd7 hS.drop.drop;have hm:=Cp7 (by have:=hx.cnt0;omega) hx.cnt1 (by have:=hx.price0;omega) hx.price1
 have hit:x8 (l8 x)=true:=by
  unfold l8;split
  ·exact Af7.2 ⟨⟨hm.1,by simp only;omega⟩,⟨by simp only;omega,by simp only;omega⟩,⟨by simp only;omega,by simp only;omega⟩,by simp only;omega,by simp only;omega⟩
  ·exact Id7 (by rfl) _ ⟨by have:=hx.cnt0;omega,by have:=hx.cnt1;omega⟩
 clear hm;obtain⟨i,hi⟩:∃i,l8 x=i:=⟨_,rfl⟩
 rw[hi]at hit ⊢;obtain⟨h0,h1',h2',h3'⟩:=i;obtain⟨xi,xu,xy,xt,xc,xp⟩:=x;have Hi:=jH hi;have Hx:=jH hx;have H1:=jH h1;have H2:=jH h2;have H3:=jH h3;obtain⟨a0,a1,a2,a3⟩:=Af7.1 hit;simp only at a0 a1 a2 a3;have G0:=jH (show ∀y,x8 (m5 p y)=true from hp);have G1:=jH (show ∀y,x8 (m5 (r8 p who 0 h0) y)=true from An7 hp _ _ a0.1);have G2:=jH (show ∀y,x8 (m5 (r8 (r8 p who 0 h0) who 1 h1') y)=true from An7 (An7 hp _ _ a0.1) _ _ a1.1);have G3:=jH (show ∀y,x8 (m5 (r8 (r8 (r8 p who 0 h0) who 1 h1') who 2 h2') y)=true from An7 (An7 (An7 hp _ _ a0.1) _ _ a1.1) _ _ a2.1);clear hi hx h1 h2 h3 hit hp;go_enter Tryz.func106,Tryz.ntmps106;go_wp2_with(first|go_at_call 172;refine(Fg7 (hS.s (w7 bb L n::blk bQ2 _ _::blk bQ1 _ _::blk vb _ _::d8 eS eP mb p::R))).mono ?_;clear hS;rintro e w ⟨la,lc,rfl,hS⟩|go_at_call 171;(try simp only[Act.eval,Array.getD_eq_getD_getElem?,List.getElem?_toArray,List.getElem?_cons_succ,List.getElem?_cons_zero,Option.getD_some]at hS);refine(DK7 L _ bQ2 bQ1 id who hr (by omega) W _ _ (hS.s (blk bQ2 _ _::blk bQ1 _ _::j8 (.slice la L.length lc) L::w7 bb L n::blk vb _ _::d8 eS eP mb p::R))).mono ?_;clear hS;rintro e w ⟨rfl,hS⟩|(fail_if_success (have:=bQ1));(with_reducible apply AH7 hS);rfl;rfl;rfl;rfl;clear hS;intro bQ1 w hS;refine frS ?_|(fail_if_success (have:=bQ2));(with_reducible apply AH7 hS);rfl;rfl;rfl;rfl;clear hS;intro bQ2 w hS;refine frS ?_|refine zl1 hS ?_);have hS:=hS.s (w7 bb L n::blk bQ2 _ _::blk bQ1 _ _::blk vb _ _::d8 eS eP mb p::R)
 refine rf3 [0,1,3,7,0,31,63,127,127,0,767,2047] (fun i=>i==9) (fun i=>if i==5 then some (.tuple #[.agg #[.I xi,.string xu,.bool xy,.I xt,.I xc,.I xp],.I 0])else none) [⟨some 5,none,fun _=>w7 bb L2 n⟩,⟨some 9,some 10,fun nd=>k8 (nd 9) [.I 0,.string ⟨#[]⟩,.bool false,.I 0,.I 0,.I 0] 166⟩,⟨some 10,none,fun nd=>k8 (nd 9) [.I xi,.string xu,.bool xy,.I xt,.I xc,.I xp] 166⟩] [some 5,none,none,none,none] hS ?_;intro nd;refine cR ?_;refine zcn ?_;refine cR ?_;refine zc1 ?_;refine zc1 ?_;refine zcv ?_ (hs:=by(intro F w hS;(try clear hS0);exact Jh7 H1.out H2.out H3.out hS))
 iterate 3 (refine cR ?_)
 (refine zca ?_);refine zct ?_;refine cR ?_;refine Ad7 ?_;clear hS;intro w hS;have hS2:St W [w7 bb L2 n,k8 (nd 9) _ _,blk bQ2 _ _,blk bQ1 _ _,blk vb _ _,d8 eS eP mb p,sats R] w:=hS;clear hS;have hS:=hS2.unpack [_,_,_,_,_,_];clear hS2;simp only[jK,jN]at hS;generalize nd 9=v9 at *;have hS7:=hS.swap;clear hS;have h1:=hS7.ptr;clear hS7;obtain⟨b9,rfl,hS⟩:=h1;go_wp2_with(first|go_at_call 125;refine(FM7 Hx.out Hi.out W _ _ hS).mono ?_;clear hS;rintro e w ⟨rfl,hS⟩|refine zl1 hS ?_|refine zlN hS ?_);have hS:=hS.s (blk vb _ _::d8 eS eP mb p::w7 bb L2 n::R)
 go_loopw [37] (fun v wr=>Cn4 W (fun q=>[blk vb [.map (some mb),.P bb,.I n] 176,d8 eS eP mb q,w7 bb L2 n]++R) p who ⟨h0,h1',h2',h3'⟩ v wr) (fun v _=>4-(intOf v).toNat)
 case atStart=>exact .inl ⟨rfl,hS⟩
 case round=>
  clear hS;simp only[Cn4,cw4,jK,jN]at hrel
  rcases hrel with ⟨rfl,hS⟩|⟨rfl,hS⟩|⟨rfl,hS⟩|⟨rfl,hS⟩|⟨rfl,hS⟩
  ·go_wp2_with(first|(with_reducible apply AE7);rfl;rfl;rfl;rfl;(first|exact U5 _ _ _ _|exact U6 _ _ _ _|exact U7 _ _ _ _|exact U8 _ _ _ _);refine frS ?_|go_at_call 170;refine(Dd7 vb mb _ _ _ _ _ _ ?_ ?_ ?_ W _ _ hS).mono ?_;(focus(exact G0.out _));(focus decide);(focus(exact⟨by omega,by omega⟩));clear hS;rintro e w ⟨rfl,hS⟩);go_roundw
   case rel=>exact .inr (.inl ⟨rfl,hS⟩)
   case measure=>simp[intOf]
  ·go_wp2_with(first|(with_reducible apply AE7);rfl;rfl;rfl;rfl;(first|exact U5 _ _ _ _|exact U6 _ _ _ _|exact U7 _ _ _ _|exact U8 _ _ _ _);refine frS ?_|go_at_call 170;refine(Dd7 vb mb _ _ _ _ _ _ ?_ ?_ ?_ W _ _ hS).mono ?_;(focus(exact G1.out _));(focus decide);(focus(exact⟨by omega,by omega⟩));clear hS;rintro e w ⟨rfl,hS⟩);go_roundw
   case rel=>exact .inr (.inr (.inl ⟨rfl,hS⟩))
   case measure=>simp[intOf]
  ·go_wp2_with(first|(with_reducible apply AE7);rfl;rfl;rfl;rfl;(first|exact U5 _ _ _ _|exact U6 _ _ _ _|exact U7 _ _ _ _|exact U8 _ _ _ _);refine frS ?_|go_at_call 170;refine(Dd7 vb mb _ _ _ _ _ _ ?_ ?_ ?_ W _ _ hS).mono ?_;(focus(exact G2.out _));(focus decide);(focus(exact⟨by omega,by omega⟩));clear hS;rintro e w ⟨rfl,hS⟩);go_roundw
   case rel=>exact .inr (.inr (.inr (.inl ⟨rfl,hS⟩)))
   case measure=>simp[intOf]
  ·go_wp2_with(first|(with_reducible apply AE7);rfl;rfl;rfl;rfl;(first|exact U5 _ _ _ _|exact U6 _ _ _ _|exact U7 _ _ _ _|exact U8 _ _ _ _);refine frS ?_|go_at_call 170;refine(Dd7 vb mb _ _ _ _ _ _ ?_ ?_ ?_ W _ _ hS).mono ?_;(focus(exact G3.out _));(focus decide);(focus(exact⟨by omega,by omega⟩));clear hS;rintro e w ⟨rfl,hS⟩);go_roundw
   case rel=>exact .inr (.inr (.inr (.inr ⟨rfl,hS⟩)))
   case measure=>simp[intOf]
  ·go_wp2_with(fail);go_ret;exact⟨rfl,hS⟩
end
section
variable(vb mb bb:Nat)(p:Ps)(L:List Ord)(n:Int)(o:Ord)(W w:World)(R:List HP)
theorem MV7(h:bA4 o=true)(hf:32<=L.length\/1099511627776<n)(hS:St W (B7 vb mb bb p L n R) w):
  Calls Tryz.prog 105 #[.P vb,.agg o.cells.toArray] w fun e w'=>e=.returned (.tuple #[.I 0,.I 6])/\St W (B7 vb mb bb p L n R) w':=by
 obtain⟨i,u,y,t,c,pr⟩:=o;have hm:P9 ⟨1,u,y,t,c,pr⟩=true:=h;clear h;simp only[Ord.cells];by_cases hl:32<=L.length
 ·have d1:(32:Int)<=(L.length:Int):=by omega
  clear hf;go_enter Tryz.func105,Tryz.ntmps105;go_wp2_with(first|(with_reducible apply Bq7 (n:=1) (l:=[(⟨1,u,y,t,c,pr⟩:Ord)].flatMap Ord.cells) hS);rfl;rfl;(focus(simp only[fD,fI,fJ,Act.eval,fE,fF,fG,fH,fK];try rfl));exact esS;exact rsS;rfl;rfl;rfl;rfl;rfl;decide;clear hS;intro bv w hS;refine frS ?_|go_at_call 167;refine(En7 ⟨1,u,y,t,c,pr⟩ rfl _ W _ _ hS).mono ?_;clear hS;rw[hm];rintro e w ⟨vu,rfl,hS⟩|go_at_call 168;refine(Em7 (hS.s (w7 bb L n::_::blk vb _ _::d8 eS eP mb p::R))).mono ?_;clear hS;rintro e w ⟨rfl,hS⟩|refine zl1 hS ?_|refine zlN hS ?_|refine zs1 hS ?_;clear hS;intro w hS|refine zbx hS ?_;clear hS;intro b w hS);go_ret2;exact⟨rfl,hS.s _⟩
 ·have d1:decide ((32:Int)<=(L.length:Int))=false:=by simp;omega
  have d2:1099511627776<n:=hf.resolve_left hl;clear hf hl;go_enter Tryz.func105,Tryz.ntmps105;go_wp2_with(first|(with_reducible apply Bq7 (n:=1) (l:=[(⟨1,u,y,t,c,pr⟩:Ord)].flatMap Ord.cells) hS);rfl;rfl;(focus(simp only[fD,fI,fJ,Act.eval,fE,fF,fG,fH,fK];try rfl));exact esS;exact rsS;rfl;rfl;rfl;rfl;rfl;decide;clear hS;intro bv w hS;refine frS ?_|go_at_call 167;refine(En7 ⟨1,u,y,t,c,pr⟩ rfl _ W _ _ hS).mono ?_;clear hS;rw[hm];rintro e w ⟨vu,rfl,hS⟩|go_at_call 168;refine(Em7 (hS.s (w7 bb L n::_::blk vb _ _::d8 eS eP mb p::R))).mono ?_;clear hS;rintro e w ⟨rfl,hS⟩|refine zl1 hS ?_|refine zlN hS ?_|refine zs1 hS ?_;clear hS;intro w hS|refine zbx hS ?_;clear hS;intro b w hS);go_ret2;exact⟨rfl,hS.s _⟩
end
structure Vs where
 ps:Ps
 L:List Ord
 n:Int
def E6(V:Vs)(o:Ord):Int×Int×Vs:=
 if bA4 o=false then(0,1,V)
 else if 32<=V.L.length\/1099511627776<V.n then(0,6,V)
 else if A5 V.ps o.who (l8 o)=0 then(V.n,0,⟨(bg4 V.L { o with id:=V.n }).foldl aL4 (A8 V.ps o.who (l8 o)),cJ4 V.L { o with id:=V.n },V.n+1⟩)
 else(0,14,V)
theorem CR7{o:Ord}(h:bA4 o=true):C8 o.who=true/\x8 (l8 o)=true:=by
 have hm:=Ao7.1 h;have w0:1<=o.who.size:=hm.who0;have w1:o.who.size<=16:=hm.who1;have c0:1<=o.cnt:=hm.cnt0;have c1:o.cnt<=1048576:=hm.cnt1;have p0:1<=o.price:=hm.price0;have p1:o.price<=1024:=hm.price1;have m:=Cp7 (show 0<=o.cnt by omega) c1 (show 0<=o.price by omega) p1;refine⟨by unfold C8;simp;omega,?_⟩;have z:(0:Int)<=0/\(0:Int)<=1152921504606846976:=⟨by decide,by decide⟩
 unfold l8;split
 ·exact Af7.2 ⟨⟨m.1,show o.cnt*o.price<=1152921504606846976 by omega⟩,z,z,z⟩
 ·exact Id7 rfl _ ⟨by omega,by omega⟩
theorem Ox7(vb mb bb:Nat)(V:Vs)(o:Ord)(hp:N5 V.ps)(hn:1<=V.n)(W w:World)(R:List HP)(hS:St W (B7 vb mb bb V.ps V.L V.n R) w):
  Calls Tryz.prog 105 #[.P vb,.agg o.cells.toArray] w fun e w'=>e=.returned (.tuple #[.I (E6 V o).1,.I (E6 V o).2.1]) /\
   St W (B7 vb mb bb (E6 V o).2.2.ps (E6 V o).2.2.L (E6 V o).2.2.n R) w':=by
 unfold E6;by_cases h1:bA4 o=false
 ·rw[if_pos h1];exact Ow7 vb mb bb V.ps V.L V.n o W w R h1 hS
 ·rw[if_neg h1];have h1':bA4 o=true:=by simpa using h1
  by_cases h2:32<=V.L.length\/1099511627776<V.n
  ·rw[if_pos h2];exact MV7 vb mb bb V.ps V.L V.n o W w R h1' h2 hS
  ·rw[if_neg h2];by_cases h3:A5 V.ps o.who (l8 o)=0
   ·rw[if_pos h3];exact QV7 vb mb bb V.ps V.L V.n o W w R hp h1' hn (by omega) (by omega) h3 hS
   ·rw[if_neg h3]
    have h14:A5 V.ps o.who (l8 o)=14:=by
     have hh:=CR7 h1';unfold A5 at h3 ⊢;rw[if_pos hh]at h3 ⊢;split
     ·rename_i hs;rw[if_pos hs]at h3;exact absurd rfl h3
     ·rfl
    exact Ku7 vb mb bb V.ps V.L V.n o W w R h1' (by omega) (by omega) h14 hS
def F6(V:Vs)(who:ByteArray)(id:Int):Int×Vs:=
 if V.L.any (aE4 id who)=true then(0,⟨cw4 V.ps who (l8 (A6 V.L id).o),(A6 V.L id).L,V.n⟩)else(7,V)
theorem Dx7{L:List Ord}{who:ByteArray}{id:Int}(h:L.any (aE4 id who)=true):(A6 L id).errno=0/\(A6 L id).o∈L:=by
 obtain⟨x,hx,hh⟩:=List.any_eq_true.1 h;have hid:(x.id==id)=true:=by unfold aE4 at hh;exact(jB _ _▸hh).1
 unfold A6
 cases hf:L.findIdx? (fun o=>o.id==id)with
 | none=>
  have:=List.findIdx?_eq_none_iff.1 hf x hx;rw[hid]at this
  cases this
 | some i=>
  obtain⟨hi,_⟩:=List.findIdx?_eq_some_iff_getElem.1 hf;exact⟨rfl,L8 hi⟩
theorem Oy7(vb mb bb:Nat)(V:Vs)(who:ByteArray)(id:Int)(hp:N5 V.ps)(W w:World)(R:List HP)(hS:St W (B7 vb mb bb V.ps V.L V.n R) w):
  Calls Tryz.prog 106 #[.P vb,.string who,.I id] w fun e w'=>e=.returned (.I (F6 V who id).1) /\
   St W (B7 vb mb bb (F6 V who id).2.ps (F6 V who id).2.L (F6 V who id).2.n R) w':=by
 unfold F6;by_cases h:V.L.any (aE4 id who)=true
 ·rw[if_pos h];obtain⟨h1,h2⟩:=Dx7 h;exact Kx7 vb mb bb V.ps V.L V.n who id W w R hp (A6 V.L id).o (A6 V.L id).L (Bn7 hS.drop.drop _ h2).1 h rfl h1 rfl hS
 ·rw[if_neg h];exact MU7 vb mb bb V.ps V.L V.n who id W w R (by simpa using h) hS
theorem Oz7{p:Ps}(h:N5 p)(who:ByteArray){i:It}(hi:x8 i=true):N5 (cw4 p who i):=by obtain⟨a0,a1,a2,a3⟩:=Af7.1 hi;exact An7 (An7 (An7 (An7 h _ _ a0.1) _ _ a1.1) _ _ a2.1) _ _ a3.1
theorem Tr7{V:Vs}{o:Ord}(hp:N5 V.ps)(hn:1<=V.n)(hL:∀x∈V.L,MayP x):N5 (E6 V o).2.2.ps/\1<=(E6 V o).2.2.n:=by
 unfold E6;split
 ·exact⟨hp,hn⟩
 ·rename_i h1
  have hm:=Ao7.1 (show P9 { o with id:=1 }=true by simpa[bA4]using h1);split
  ·exact⟨hp,hn⟩
  ·split
   ·refine⟨Eo7 _ (CI7 hp _ _) ?_,by show 1<=V.n+1;omega⟩;have c0:1<=o.cnt:=hm.cnt0;have c1:o.cnt<=1048576:=hm.cnt1;exact Dg7 _ _ _ _ hL ⟨show 0<=o.cnt by omega,c1,hm.item0,hm.item1,hm.price1⟩ fun t ht=>(by cases ht)
   ·exact⟨hp,hn⟩
theorem Ts7{V:Vs}{who:ByteArray}{id:Int}(hp:N5 V.ps)(hn:1<=V.n)(hL:∀x∈V.L,MayP x):N5 (F6 V who id).2.ps/\1<=(F6 V who id).2.n:=by
 unfold F6;split
 ·rename_i h
  have hx:=hL _ (Dx7 h).2;have h1:bA4 (A6 V.L id).o=true:=Ao7.2 ⟨show(1:Int)<=1 by decide,show(1:Int)<=1099511627776 by decide,hx.who0,hx.who1,hx.item0,hx.item1,hx.cnt0,hx.cnt1,hx.price0,hx.price1⟩;exact⟨Oz7 hp who (CR7 h1).2,hn⟩
 ·exact⟨hp,hn⟩
end Go.Proofs.YtlmhakmoioogaaaGreat
end
section
namespace Go.Sl
open Go.RowKit
section
variable{P:Program}{W w w':World}{L:List HP}
theorem St.called{v:Value}{k n:Nat}{T:TypeId}{cs:List Value}(h:St W L w)(hb:Below w.heap.size w w')(hr:w'.ownsRow w.heap.size T k v n cs):St W (row v k T n cs::L) w':=by
 refine⟨hb.os.trans h.os,hb.tape.trans h.tape,hb.output.trans h.output,fun b=>decide (w.heap.size<=b),?_,?_⟩
 ·obtain⟨hl,h1⟩:=hr;refine⟨hl,?_⟩
  rcases h1 with ⟨hv,hn⟩|⟨g,cap,cur,hv,hg,hh,h3,h4,h5,h6⟩
  ·exact .inl ⟨hv,hn⟩
  ·have e:cs++cur.toList.drop (n*k)=cur.toList:=by rw[<-h6,List.take_append_drop]
   refine .inr ⟨g,cap,cur.toList.drop (n*k),hv,h3,h4,?_,?_⟩
   ·rw[e];simpa using h5
   ·show cond (decide (w.heap.size<=g)) (w'.heap[g]?) none=_
    rw[decide_eq_true hg,e];show w'.heap[g]? = _
    rw[hh]
 ·have e:A9 (fun b=>decide (w.heap.size<=b)) (fun b=>w'.heap[b]?)=fun b=>w.heap[b]? := by
   funext b
   show cond (decide (w.heap.size<=b)) none (w'.heap[b]?)=w.heap[b]?
   by_cases hb':w.heap.size<=b
   ·rw[decide_eq_true hb',Array.getElem?_eq_none hb'];rfl
   ·rw[decide_eq_false hb',hb.block b (by omega)];rfl
  rw[e];exact h.sat
def R1:Value->Option (DataW Unit×List MemPlace):=fun _=>some (.lit (.bool true),[])
theorem Ji7{α β:Type}(f:α->β)(hf:∀x y,f x=f y->x=y):∀l:List α,l.Nodup->(l.map f).Nodup
 | [],_=>List.nodup_nil
 | x::l,h=>by rw[List.nodup_cons]at h;rw[List.map_cons,List.nodup_cons];refine⟨fun hx=>?_,Ji7 f hf l h.2⟩;obtain⟨y,hy,e⟩:=List.mem_map.1 hx;exact h.1 (hf y x e▸hy)
section
variable{ι:Type}{enc:ι->MapEntry}{K:TypeId}{b c:Nat}{l:List ι}
theorem ep4(hst:bP4 (l.map enc))(hc:∀x∈l,(enc x).born<c)(hk:(l.map fun x=>(enc x).key).Nodup):MapKept.Stamped (l.map enc).toArray c:=by
 refine⟨fun x hx=>?_,?_,?_⟩
 ·have hx':x∈l.map enc:=by simpa using hx
  obtain⟨y,hy,rfl⟩:=List.mem_map.1 hx';exact hc y hy
 ·simpa[bP4]using hst
 ·have:((l.map enc).toArray.toList.map (·.key))=l.map fun x=>(enc x).key:=by simp
  rw[this];exact hk
theorem gh4{kf:ι->ByteArray}(h:St W (bv4 b (l.map enc) c::L) w)(hK:P.underlying K=some .string)(hkf:∀x,(enc x).key=.string (kf x))(hwf:∀x∈l,(kf x).size<=maxLen)
  (hst:bP4 (l.map enc)) (hc:∀x∈l,(enc x).born<c) (hn:(l.map kf).Nodup) (hl:l.length<=maxLen):
  ∃D:DataW Unit,w.ownsMap P K R1 b l.length D/\Maps.size D=l.length/\(strKeys D).Perm (l.map fun x=>(kf x).data.toList):=by
 have hrd:∀x∈l,WideElems.rd P K R1 (enc x)=some (.string (kf x).data.toList,.lit (.bool true)):=fun x hx=>by
  have h1:keyOf P K (.string (kf x))=some (.string (kf x).data.toList):=by unfold keyOf mapKey;simp[hK,hwf x hx]
  unfold WideElems.rd;rw[hkf x,h1];rfl
 have hrg:(l.map enc).map (WideElems.rg P K R1)=l.map fun x=>((.string (kf x).data.toList,.lit (.bool true)):Lit×DataW Unit):=by
  rw[List.map_map];refine List.map_congr_left fun x hx=>?_
  show(WideElems.rd P K R1 (enc x)).getD _=_
  rw[hrd x hx];rfl
 have hp:=WideShapes.sorted_perm (l.map fun x=>((.string (kf x).data.toList,.lit (.bool true)):Lit×DataW Unit));refine⟨.map (((l.map enc).map (WideElems.rg P K R1)).foldr DataW.insert []),⟨_,c,h.get (b:=b) .head,⟨by simpa using hl,ep4 hst hc ?_,fun x hx=>?_⟩,by simp,by simp⟩,?_,?_⟩
 ·have e:(l.map fun x=>(enc x).key)=(l.map kf).map Value.string:=by
   rw[List.map_map];exact List.map_congr_left fun x _=>hkf x
  rw[e];exact Ji7 _ (fun x y h=>by simpa using h) _ hn
 ·have hx':x∈l.map enc:=by simpa using hx
  obtain⟨y,hy,rfl⟩:=List.mem_map.1 hx';exact⟨_,hrd y hy⟩
 ·rw[Maps.size_eq,hrg,hp.length_eq,jM]
 ·rw[hrg];refine(hp.map fun p=>strOf p.1).trans ?_;rw[List.map_map];exact .refl _
end
end
end Go.Sl
end
section
namespace Go.Proofs.YtlmhakmoioogaaaGreat
open Go.Shelf
def Tryz.keysS_ren:Go.Shelf.Ren:=⟨fun|7=>187|10=>229|n=>n,fun|23=>173|26=>9|3=>29|28=>115|0=>0|27=>114|33=>178|4=>4|n=>n,fun|n=>n⟩
theorem Tryz.keysS:Go.Proofs.SlLaysZ.n7 Tryz.prog Tryz.keysS_ren:={
 mixed:=by kernel_rfl
 f7:=⟨Tryz.f187.name,by decide,Tryz.func187.trans (congrArg some (by kernel_rfl))⟩
 f10:=⟨Tryz.f229.name,by decide,Tryz.func229.trans (congrArg some (by kernel_rfl))⟩
 t0:=Tryz.underlying0
 a0:=Tryz.isAgg0
 z0:=Tryz.sizeOf0
 v0:=Tryz.zeroValue0
 t4:=Tryz.underlying4
 a4:=Tryz.isAgg4
 z4:=Tryz.sizeOf4
 v4:=Tryz.zeroValue4
 t23:=Tryz.underlying173
 a23:=Tryz.isAgg173
 z23:=Tryz.sizeOf173
 v23:=Tryz.zeroValue173
 t26:=Tryz.underlying9
 a26:=Tryz.isAgg9
 z26:=Tryz.sizeOf9
 v26:=Tryz.zeroValue9
 t27:=Tryz.underlying114
 a27:=Tryz.isAgg114
 z27:=Tryz.sizeOf114
 v27:=Tryz.zeroValue114
 t28:=Tryz.underlying115
 a28:=Tryz.isAgg115
 z28:=Tryz.sizeOf115
 v28:=Tryz.zeroValue115
 t33:=Tryz.underlying178
 a33:=Tryz.isAgg178
 z33:=Tryz.sizeOf178
 v33:=Tryz.zeroValue178 }
def Tryz.sortedS_ren:Go.Shelf.Ren:=⟨fun|6=>62|8=>129|9=>130|11=>188|13=>177|12=>189|23=>224|24=>225|14=>230|15=>231|16=>232|17=>233|18=>234|19=>235|20=>236|21=>237|22=>238|25=>257|26=>252|27=>253|28=>258|29=>259|30=>260|31=>273|n=>n,fun|26=>9|28=>115|24=>58|0=>0|3=>3|37=>195|48=>295|50=>194|4=>4|40=>289|39=>288|45=>134|5=>5|9=>9|51=>318|55=>262|57=>332|58=>181|33=>178|n=>n,fun|n=>n⟩
theorem Tryz.sortedS:Go.Proofs.SlLaysZ.n6 Tryz.prog Tryz.sortedS_ren:={
 mixed:=by kernel_rfl
 f6:=⟨Tryz.f62.name,by decide,Tryz.func62.trans (congrArg some (by kernel_rfl))⟩
 f8:=⟨Tryz.f129.name,by decide,Tryz.func129.trans (congrArg some (by kernel_rfl))⟩
 f11:=⟨Tryz.f188.name,by decide,Tryz.func188.trans (congrArg some (by kernel_rfl))⟩
 t0:=Tryz.underlying0
 a0:=Tryz.isAgg0
 z0:=Tryz.sizeOf0
 v0:=Tryz.zeroValue0
 t24:=Tryz.underlying58
 a24:=Tryz.isAgg58
 z24:=Tryz.sizeOf58
 v24:=Tryz.zeroValue58
 t26:=Tryz.underlying9
 a26:=Tryz.isAgg9
 z26:=Tryz.sizeOf9
 v26:=Tryz.zeroValue9
 t28:=Tryz.underlying115
 a28:=Tryz.isAgg115
 z28:=Tryz.sizeOf115
 v28:=Tryz.zeroValue115
 i26:=by kernel_rfl }
def Tryz.sortS_ren:Go.Shelf.Ren:=⟨fun|6=>130|8=>177|9=>189|19=>224|20=>225|21=>230|22=>231|23=>232|24=>233|25=>234|26=>235|27=>236|28=>237|29=>238|36=>257|31=>252|32=>253|37=>258|38=>259|39=>260|41=>273|n=>n,fun|27=>58|29=>9|3=>3|32=>195|26=>58|0=>0|44=>295|46=>194|4=>4|36=>289|35=>288|41=>134|5=>5|9=>9|53=>318|57=>262|63=>332|64=>181|n=>n,fun|n=>n⟩
theorem Tryz.sortS:Go.Proofs.SlLaysM.n6 Tryz.prog Tryz.sortS_ren:={
 mixed:=by kernel_rfl
 f6:=⟨Tryz.f130.name,by decide,Tryz.func130.trans (congrArg some (by kernel_rfl))⟩
 f8:=Tryz.func177.trans (congrArg some (by kernel_rfl))
 f9:=⟨Tryz.f189.name,by decide,Tryz.func189.trans (congrArg some (by kernel_rfl))⟩
 f19:=Tryz.func224.trans (congrArg some (by kernel_rfl))
 f20:=Tryz.func225.trans (congrArg some (by kernel_rfl))
 f21:=⟨Tryz.f230.name,by decide,Tryz.func230.trans (congrArg some (by kernel_rfl))⟩
 f22:=⟨Tryz.f231.name,by decide,Tryz.func231.trans (congrArg some (by kernel_rfl))⟩
 f23:=⟨Tryz.f232.name,by decide,Tryz.func232.trans (congrArg some (by kernel_rfl))⟩
 f24:=⟨Tryz.f233.name,by decide,Tryz.func233.trans (congrArg some (by kernel_rfl))⟩
 f25:=⟨Tryz.f234.name,by decide,Tryz.func234.trans (congrArg some (by kernel_rfl))⟩
 f26:=⟨Tryz.f235.name,by decide,Tryz.func235.trans (congrArg some (by kernel_rfl))⟩
 f27:=⟨Tryz.f236.name,by decide,Tryz.func236.trans (congrArg some (by kernel_rfl))⟩
 f28:=⟨Tryz.f237.name,by decide,Tryz.func237.trans (congrArg some (by kernel_rfl))⟩
 f29:=⟨Tryz.f238.name,by decide,Tryz.func238.trans (congrArg some (by kernel_rfl))⟩
 f31:=Tryz.func252.trans (congrArg some (by kernel_rfl))
 f32:=Tryz.func253.trans (congrArg some (by kernel_rfl))
 f36:=⟨Tryz.f257.name,by decide,Tryz.func257.trans (congrArg some (by kernel_rfl))⟩
 f37:=⟨Tryz.f258.name,by decide,Tryz.func258.trans (congrArg some (by kernel_rfl))⟩
 f38:=⟨Tryz.f259.name,by decide,Tryz.func259.trans (congrArg some (by kernel_rfl))⟩
 f39:=⟨Tryz.f260.name,by decide,Tryz.func260.trans (congrArg some (by kernel_rfl))⟩
 f41:=⟨Tryz.f273.name,by decide,Tryz.func273.trans (congrArg some (by kernel_rfl))⟩
 t0:=Tryz.underlying0
 a0:=Tryz.isAgg0
 z0:=Tryz.sizeOf0
 v0:=Tryz.zeroValue0
 t3:=Tryz.underlying3
 a3:=Tryz.isAgg3
 z3:=Tryz.sizeOf3
 v3:=Tryz.zeroValue3
 t4:=Tryz.underlying4
 a4:=Tryz.isAgg4
 z4:=Tryz.sizeOf4
 v4:=Tryz.zeroValue4
 t5:=Tryz.underlying5
 a5:=Tryz.isAgg5
 z5:=Tryz.sizeOf5
 v5:=Tryz.zeroValue5
 t9:=Tryz.underlying9
 a9:=Tryz.isAgg9
 z9:=Tryz.sizeOf9
 v9:=Tryz.zeroValue9
 t26:=Tryz.underlying58
 a26:=Tryz.isAgg58
 z26:=Tryz.sizeOf58
 v26:=Tryz.zeroValue58
 t27:=Tryz.underlying58
 a27:=Tryz.isAgg58
 z27:=Tryz.sizeOf58
 v27:=Tryz.zeroValue58
 t29:=Tryz.underlying9
 a29:=Tryz.isAgg9
 z29:=Tryz.sizeOf9
 v29:=Tryz.zeroValue9
 t32:=Tryz.underlying195
 a32:=Tryz.isAgg195
 z32:=Tryz.sizeOf195
 v32:=Tryz.zeroValue195
 t35:=Tryz.underlying288
 a35:=Tryz.isAgg288
 z35:=Tryz.sizeOf288
 v35:=Tryz.zeroValue288
 t36:=Tryz.underlying289
 a36:=Tryz.isAgg289
 z36:=Tryz.sizeOf289
 v36:=Tryz.zeroValue289
 t41:=Tryz.underlying134
 a41:=Tryz.isAgg134
 z41:=Tryz.sizeOf134
 v41:=Tryz.zeroValue134
 t44:=Tryz.underlying295
 a44:=Tryz.isAgg295
 z44:=Tryz.sizeOf295
 v44:=Tryz.zeroValue295
 t46:=Tryz.underlying194
 a46:=Tryz.isAgg194
 z46:=Tryz.sizeOf194
 v46:=Tryz.zeroValue194
 t53:=Tryz.underlying318
 a53:=Tryz.isAgg318
 z53:=Tryz.sizeOf318
 v53:=Tryz.zeroValue318
 t57:=Tryz.underlying262
 a57:=Tryz.isAgg262
 z57:=Tryz.sizeOf262
 v57:=Tryz.zeroValue262
 t63:=Tryz.underlying332
 a63:=Tryz.isAgg332
 z63:=Tryz.sizeOf332
 v63:=Tryz.zeroValue332
 t64:=Tryz.underlying181
 a64:=Tryz.isAgg181
 z64:=Tryz.sizeOf181
 v64:=Tryz.zeroValue181 }
end Go.Proofs.YtlmhakmoioogaaaGreat
end
section
namespace Go.Proofs.YtlmhakmoioogaaaGreat
open Go.RowKit Go.Maps Go.Sort Go.Shelf Go.Sl
def leB(x y:ByteArray):Bool:=decide (x.data.toList<=y.data.toList)
def bj4(l:List ByteArray):List ByteArray:=l.mergeSort leB
theorem Ax7(l:List ByteArray):(bj4 l).Perm l:=List.mergeSort_perm _ _
theorem eD4 (m : Nat) : AnyZ.SortsIn Tryz.prog Tryz.sortedS_ren Fence.wide m :=
  ⟨fun blk off cap ss W hH hblk hsz => callsIn_wide.2 (AnyM.slices_Sort_string Tryz.sortS blk off cap ss W hH hblk hsz),
   fun p cap W => callsIn_wide.2 (AnyM.slices_Sort_string_none Tryz.sortS p cap W)⟩
theorem MW7(mb:Option Nat)(W w:World)(L:List HP)(hS:St W L w):
  Calls Tryz.prog 187 #[.map mb] w fun e w'=>∃g,e=.returned (.func (.func 229) #[] #[.P g])/\St W (blk g [.map mb] 173::L) w':=by
 have cK:CallsIn Fence.wide 5 Tryz.prog 187 #[.map mb] w fun e w'=>e=.returned (.func (.func 229) #[] #[.pointer (some ⟨w.heap.size,0,none⟩)])/\w'=w.alloc (.cells #[.map mb] 173):=AnyZ.keys_in Tryz.keysS Fence.wide 5 trivial rfl mb w
 refine((callsIn_wide (n:=5)).1 cK).mono ?_;rintro e w' ⟨rfl,rfl⟩;exact⟨_,rfl,hS.alloc _⟩
section
variable{ν:Type}{ev:ν->Value}{W w:World}{L:List HP}{b g:Nat}
theorem eE4{l:List (ByteArray×ν)}(h:St W (d8 eS ev b l::L) w)(hwf:∀x∈l,x.1.size<=maxLen)(hl:l.length<=maxLen):
  ∃D:DataW Unit,w.ownsMap Tryz.prog 9 R1 b l.length D/\Maps.size D=l.length/\(strKeys D).Perm (l.map fun x=>x.1.data.toList):=by
 obtain⟨ps,c,h1,h2,h3⟩:=ao4 h;have hll:(ps.map (evs ev)).length=l.length:=by have:=h1.length_eq;rwa [jM]at this ⊢
 have hk:(ps.map (evs ev)).map (·.1)=(ps.map prj).map (·.1):=by rw[Ec7,Lt7]
 have hp:((ps.map (evs ev)).map (·.1)).Perm (l.map (·.1)):=by rw[hk];exact h1.map _
 obtain⟨D,hD1,hD2,hD3⟩:=gh4 (P:=Tryz.prog) (K:=9) (kf:=fun x:ByteArray×Value×Nat=>x.1) h3 Tryz.underlying9 (fun x=>rfl) (fun x hx=>by have hx1:x.1∈l.map (·.1):=hp.mem_iff.1 (List.mem_map_of_mem hx);obtain⟨y,hy,hxy⟩:=List.mem_map.1 hx1;rw[<-hxy];exact hwf y hy) (by unfold bP4;rw[List.map_map,List.map_map];exact h2.st) (fun x hx=>by obtain⟨y,hy,rfl⟩:=List.mem_map.1 hx;exact h2.old y hy) (by rw[Ec7];exact h2.ks) (by omega);rw[hll]at hD1 hD2;have e1:(ps.map (evs ev)).map (fun x=>x.1.data.toList)=((ps.map (evs ev)).map (·.1)).map (fun k=>k.data.toList):=by simp only[List.map_map];rfl
 have e2:l.map (fun x=>x.1.data.toList)=(l.map (·.1)).map (fun k=>k.data.toList):=by rw[List.map_map];rfl
 refine⟨D,hD1,hD2,hD3.trans ?_⟩;rw[e1,e2];exact hp.map _
theorem OA7(a b c:ByteArray)(h1:leB a b=true)(h2:leB b c=true):leB a c=true:=by unfold leB at *;simp only[decide_eq_true_eq]at *;exact List.le_trans h1 h2
theorem OB7(a b:ByteArray):(leB a b||leB b a)=true:=by unfold leB;simp only[Bool.or_eq_true,decide_eq_true_eq];exact List.le_total _ _
theorem FN7{a b:ByteArray}(h1:leB a b=true)(h2:leB b a=true):a=b:=by unfold leB at *;simp only[decide_eq_true_eq]at *;have h:=List.le_antisymm h1 h2;obtain⟨⟨a⟩⟩:=a;obtain⟨⟨b⟩⟩:=b;simp at h;rw[h]
theorem AR7(l:List ByteArray):(bj4 l).Pairwise fun x y=>leB x y=true:=List.pairwise_mergeSort OA7 OB7 l
theorem LL7{l:List ByteArray}{ss:List (List UInt8)}(h:ss.Perm (l.map fun k=>k.data.toList)):(ss.mergeSort (fun x y=>decide (x<=y))).map encStr=(bj4 l).map eS:=by
 have e:ss.mergeSort (fun x y=>decide (x<=y))=(bj4 l).map fun k=>k.data.toList:=by
  refine List.Perm.eq_of_pairwise (le:=fun a b=>decide (a<=b)=true) (fun a b _ _ h1 h2=>?_) (List.pairwise_mergeSort ?_ ?_ _) ?_ (((List.mergeSort_perm _ _).trans h).trans ((Ax7 l).map _).symm)
  ·simp only[decide_eq_true_eq]at h1 h2;exact List.le_antisymm h1 h2
  ·intro a b c h1 h2;simp only[decide_eq_true_eq]at *;exact List.le_trans h1 h2
  ·intro a b;simp only[Bool.or_eq_true,decide_eq_true_eq];exact List.le_total _ _
  ·exact List.pairwise_map.2 (AR7 l)
 rw[e,List.map_map];refine List.map_congr_left fun k _=>?_
 show Value.string ⟨k.data.toList.toArray⟩=Value.string k
 rfl
theorem Jj7{l:List (ByteArray×ν)}(hwf:∀x∈l,x.1.size<=maxLen)(hl:l.length<=1000000000)(hS:St W (blk g [.map (some b)] 173::d8 eS ev b l::L) w):
  Calls Tryz.prog 62 #[.func (.func 229) #[] #[.P g]] w fun e w'=>∃v,e=.returned v/\St W (row v 1 9 l.length ((bj4 (l.map (·.1))).map eS)::d8 eS ev b l::L) w':=by
 obtain⟨D,hD1,hD2,hD3⟩:=eE4 hS.drop hwf (by unfold maxLen;omega)
 have hseq:SeqGives Fence.wide 2 Tryz.prog 229 #[.P g] encStr (fun ss=>ss.Perm (strKeys D)) (Maps.size D) w:=
  AnyZ.keys_gives (ρ:=Tryz.keysS_ren) { Tryz.keysS with } Fence.wide _ trivial rfl (by omega) g b l.length D _ (Array.getElem?_eq_some_iff.1 (hS.get (b:=g) .head)).1 (hS.cell (b:=g) (off:=0) .head rfl) hD1
 have cS:=AnyZ.sorted_in Tryz.sortedS Fence.wide 5 trivial trivial trivial trivial rfl (by omega) (eD4 _) (enters_of Tryz.func130 (by kernel_rfl) rfl) 229 #[.P g] trivial (enters_of Tryz.func229 (by kernel_rfl) rfl) _ _ (by rw[hD2];unfold maxLen;omega) (by rw[hD2];omega) _ hseq;change CallsIn _ _ Tryz.prog 62 _ _ _ at cS;refine((callsIn_wide (n:=5)).1 cS).mono ?_;rintro e w' ⟨v,ss,rfl,hP,hrow,hnil,hb⟩;refine⟨v,rfl,?_⟩;have hp:=hP.trans hD3;have e:=LL7 (l:=l.map (·.1)) (ss:=ss) (by rw[List.map_map];exact hp);rw[e,show ss.length=l.length by rw[hp.length_eq,jM]]at hrow;exact(hS.drop).called hb hrow
end
end Go.Proofs.YtlmhakmoioogaaaGreat
end
section
namespace Go.Proofs.YtlmhakmoioogaaaGreat
open Go.RowKit Go.Sl
structure PsW(p:Ps)(N:Nat):Prop where
 nd:(p.map (·.1)).Nodup
 nz:∀x∈p,isZ x.2=false
 who:∀x∈p,C8 x.1=true
 len:p.length<=N
theorem Ky7(N:Nat):PsW [] N:=⟨List.nodup_nil,fun _ h=>(by cases h),fun _ h=>(by cases h),Nat.zero_le _⟩
theorem Ap7{p:Ps}{N M:Nat}(h:PsW p N)(hm:N<=M):PsW p M:=⟨h.nd,h.nz,h.who,Nat.le_trans h.len hm⟩
theorem Cs7{p:Ps}{k:ByteArray}{x:ByteArray×It}(hx:x∈j9 p k):x∈p/\x.1≠k:=by have h:=List.mem_filter.1 hx;exact⟨h.1,by simpa using h.2⟩
theorem Fh7{p:Ps}(h:(p.map (·.1)).Nodup)(k:ByteArray):((j9 p k).map (·.1)).Nodup:=h.sublist (List.filter_sublist.map _)
theorem Ie7{p:Ps}{N:Nat}(h:PsW p N){k:ByteArray}(hk:C8 k=true)(i:It):PsW (K7 p k i) (N+1):=by
 have hnd:=Fh7 h.nd k;have hl:(j9 p k).length<=N:=Nat.le_trans (List.length_filter_le _ _) h.len;unfold K7;split
 ·exact⟨hnd,fun x hx=>h.nz x (Cs7 hx).1,fun x hx=>h.who x (Cs7 hx).1,by omega⟩
 ·rename_i hz
  refine⟨?_,?_,?_,by simpa using hl⟩
  ·rw[List.map_cons,List.nodup_cons];refine⟨fun hm=>?_,hnd⟩;obtain⟨x,hx,e⟩:=List.mem_map.1 hm;exact(Cs7 hx).2 e
  ·intro x hx
   rcases List.mem_cons.1 hx with rfl|hx
   ·simpa using hz
   ·exact h.nz x (Cs7 hx).1
  ·intro x hx
   rcases List.mem_cons.1 hx with rfl|hx
   ·exact hk
   ·exact h.who x (Cs7 hx).1
theorem Fi7{o:Ord}(h:MayP o):C8 o.who=true:=by unfold C8;simp;exact⟨h.who0,h.who1⟩
theorem Dh7{k:ByteArray}(h:C8 k=true):k.size<=16:=by unfold C8 at h;simp at h;omega
section
variable{p:Ps}{N:Nat}
theorem AU7(h:PsW p N){who:ByteArray}(hk:C8 who=true)(k n:Int):PsW (r8 p who k n) (N+1):=Ie7 h hk _
theorem Kz7(h:PsW p N)(k:ByteArray)(i:It):PsW (M5 p k i) (N+1):=by
 unfold M5;split
 ·rename_i hc
  split
  ·exact Ie7 h hc.1 _
  ·exact Ap7 h (by omega)
 ·exact Ap7 h (by omega)
theorem FO7(h:PsW p N)(k:ByteArray)(i:It):PsW (A8 p k i) (N+1):=by
 unfold A8;split
 ·rename_i hc
  split
  ·exact Ie7 h hc.1 _
  ·exact Ap7 h (by omega)
 ·exact Ap7 h (by omega)
theorem QY7(h:PsW p N){who:ByteArray}(hk:C8 who=true)(i:It):PsW (cw4 p who i) (N+4):=
 AU7 (AU7 (AU7 (AU7 h hk _ _) hk _ _) hk _ _) hk _ _
theorem Tt7(h:PsW p N){t:Trd}(ht:C8 t.buyer=true/\C8 t.seller=true):PsW (aL4 p t) (N+3):=
 AU7 (AU7 (AU7 h ht.1 _ _) ht.1 _ _) ht.2 _ _
end
theorem If7:∀(ts:List Trd) {p:Ps} {N:Nat},PsW p N->(∀t∈ts,C8 t.buyer=true/\C8 t.seller=true)->PsW (ts.foldl aL4 p) (N+3*ts.length)
 | [],_,_,h,_=>h
 | t::ts,_,_,h,ht=>Ap7 (If7 ts (Tt7 h (ht t (List.mem_cons_self ..))) fun x hx=>ht x (List.mem_cons_of_mem _ hx)) (by rw[jC];omega)
theorem Fj7:∀(f:Nat) (o:Ord) (L:List Ord) (ts:List Trd),(w6 f o L ts).2.2.length<=ts.length+f
 | 0,o,L,ts=>by rw[w6];exact Nat.le_refl _
 | f+1,o,L,ts=>by
  rw[w6];split
  ·split
   ·show ts.length<=_;omega
   ·refine Nat.le_trans (Fj7 f _ _ _) ?_;rw[jA,List.length_singleton];omega
  ·show ts.length<=_;omega
theorem QZ7{L:List Ord}{k:Nat}{c:Int}(hk:k<L.length)(h:∀x∈L,C8 x.who=true):∀x∈bf4 L k c,C8 x.who=true:=by
 unfold bf4;split
 ·exact fun x hx=>h x (List.mem_of_mem_eraseIdx hx)
 ·intro x hxm
  rcases List.mem_or_eq_of_mem_set hxm with hx'|rfl
  ·exact h x hx'
  ·exact h (at' L k) (L8 hk)
theorem Fk7:∀(f:Nat) (o:Ord) (L:List Ord) (ts:List Trd),(∀x∈L,C8 x.who=true)->C8 o.who=true->(∀t∈ts,C8 t.buyer=true/\C8 t.seller=true)->∀t∈(w6 f o L ts).2.2,C8 t.buyer=true/\C8 t.seller=true
 | 0,o,L,ts,_,_,h=>h
 | f+1,o,L,ts,hL,ho,h=>by
  rw[w6];by_cases h0:0<o.cnt
  ·rw[if_pos h0]
   cases hb:B8 o L L.length with
   | none=>exact h
   | some k=>
    obtain⟨hk,hm,_⟩:=AK7 hb;have hx:=hL _ (L8 hk);refine Fk7 f _ _ _ (QZ7 hk hL) ho ?_;intro t ht
    rcases List.mem_append.1 ht with ht|ht
    ·exact h t ht
    ·rw[List.mem_singleton.1 ht];unfold L6;split
     ·exact⟨ho,hx⟩
     ·exact⟨hx,ho⟩
  ·rw[if_neg h0];exact h
theorem SI7{V:Vs}{o:Ord}{N:Nat}(h:PsW V.ps N)(hL:∀x∈V.L,MayP x)(hl:V.L.length<=32):PsW (E6 V o).2.2.ps (N+100):=by
 unfold E6;split
 ·exact Ap7 h (by omega)
 ·rename_i h1
  have hm:=Ao7.1 (show P9 { o with id:=1 }=true by simpa[bA4]using h1);split
  ·exact Ap7 h (by omega)
  ·split
   ·have hlen:=Fj7 (V.L.length+1) { o with id:=V.n } V.L [];refine Ap7 (If7 _ (FO7 h _ _) (Fk7 _ _ _ _ (fun x hx=>Fi7 (hL x hx)) (by have h9:=Fi7 hm;exact h9) fun t ht=>(by cases ht))) ?_;unfold bg4;rw[List.length_nil]at hlen;omega
   ·exact Ap7 h (by omega)
theorem Ep7{a b:ByteArray}(h:a.data.toList=b.data.toList):a=b:=by obtain⟨⟨a⟩⟩:=a;obtain⟨⟨b⟩⟩:=b;simp at h;rw[h]
theorem SJ7{V:Vs}{who:ByteArray}{id:Int}{N:Nat}(h:PsW V.ps N)(hL:∀x∈V.L,MayP x):PsW (F6 V who id).2.ps (N+100):=by
 unfold F6;split
 ·rename_i hh
  obtain⟨x,hx,hx2⟩:=List.any_eq_true.1 hh;unfold aE4 at hx2;have e:x.who=who:=by have e1:=(jB _ _▸hx2).2;rw[Lib.toList_data,Lib.toList_data]at e1;exact Ep7 (by simpa using e1)
  exact Ap7 (QY7 h (e▸Fi7 (hL x hx)) _) (by omega)
 ·exact Ap7 h (by omega)
structure Hd where
 who:ByteArray
 has:It
def Hd.cells(h:Hd):List Value:=.string h.who::h.has.cells
theorem Hd.len(h:Hd):h.cells.length=5:=rfl
def kL(p:Ps):List ByteArray:=bj4 (p.map (·.1))
def hdL(p:Ps):List Hd:=(kL p).map fun k=>⟨k,m5 p k⟩
theorem SK7(p:Ps):(kL p).length=p.length:=by unfold kL;rw[(Ax7 _).length_eq,jM]
theorem Bl7(p:Ps):(hdL p).length=p.length:=by unfold hdL;rw[jM,SK7]
theorem Hz7{p:Ps}{k:ByteArray}(h:k∈kL p):∃x∈p,x.1=k:=List.mem_map.1 ((Ax7 _).mem_iff.1 h)
section
variable{p:Ps}{N:Nat}
theorem fr4(hw:PsW p N){k:ByteArray}(h:k∈kL p):isZ (m5 p k)=false:=by obtain⟨x,hx,rfl⟩:=Hz7 h;have:=Br7 (v:=x.2) hw.nd hx;unfold m5;rw[this];exact hw.nz x hx
theorem Jk7{x y:ByteArray}(h:leB x y=true)(hne:x≠y):Op.bytesLess x.toList y.toList=true:=by
 rw[bytesLess_eq,Lib.toList_data,Lib.toList_data,decide_eq_true_eq];refine(List.le_iff_lt_or_eq.1 (by simpa[leB]using h)).resolve_right fun e=>hne ?_
 obtain⟨⟨a⟩⟩:=x;obtain⟨⟨b⟩⟩:=y;simp at e;rw[e]
theorem gi4(hw:PsW p N){i j:Nat}(hij:i<j)(hj:j<(kL p).length):Op.bytesLess ((kL p)[i]'(Nat.lt_trans hij hj)).toList (kL p)[j].toList=true:=by
 have hnd:(kL p).Nodup:=(Ax7 _).nodup_iff.2 hw.nd;refine Jk7 (List.pairwise_iff_getElem.1 (AR7 _) i j (Nat.lt_trans hij hj) hj hij) fun e=>?_
 have:=(List.getElem_inj hnd).1 e;omega
theorem UN7(hw:PsW p N){j:Nat}(hj:j<(hdL p).length):(hdL p)[j].has=m5 p (hdL p)[j].who/\isZ (hdL p)[j].has=false/\∀i, ∀hi:i<j,Op.bytesLess ((hdL p)[i]'(Nat.lt_trans hi hj)).who.toList (hdL p)[j].who.toList=true:=by
 have hj2:j<(kL p).length:=by unfold hdL at hj;rwa [jM]at hj
 have e:(hdL p)[j]=⟨(kL p)[j],m5 p (kL p)[j]⟩:=by simp[hdL]
 refine⟨by rw[e],by rw[e];exact fr4 hw (jW hj2),fun i hi=>?_⟩;have e2:(hdL p)[i]'(Nat.lt_trans hi hj)=⟨(kL p)[i]'(Nat.lt_trans hi hj2),m5 p ((kL p)[i]'(Nat.lt_trans hi hj2))⟩:=by simp[hdL]
 rw[e,e2];exact gi4 hw hi hj2
end
def HvR(W:World)(L:List HP)(n:Nat)(v:Value)(w:World):Prop:=∃i:Nat,v=.I i/\i<=n/\i<=100/\St W L w
abbrev hdR(v:Value)(l:List Hd):HP:=row v 5 189 l.length (l.flatMap Hd.cells)
def LhR(W:World)(F:List HP)(p:Ps)(v5 v17:Value)(w:World):Prop:=
 ∃k:Nat,v17=.I k/\k<=p.length/\St W (row v5 5 189 k (((hdL p).take k).flatMap Hd.cells)::F) w
def liR(bb:Nat)(L:List Ord)(n:Int)(v:Value):HP:=fun f=>∃(a:Option Addr) (c:Nat),v=.slice a L.length c/\sats [w7 bb L n,j8 (.slice a L.length c) L] f
section
variable{W w:World}{bb:Nat}{L:List Ord}{n:Int}{v:Value}{R:List HP}
theorem fM4(h:St W (liR bb L n v::R) w):∃a c,v=.slice a L.length c/\St W (w7 bb L n::j8 (.slice a L.length c) L::R) w:=by obtain⟨a,h⟩:=St.ex h;obtain⟨c,h⟩:=St.ex h;obtain⟨h1,h⟩:=St.and h;exact⟨a,c,h1,(St.split (St.split h).swap).swap.drop.swap⟩
theorem fN4{a:Option Addr}{c:Nat}(hv:v=.slice a L.length c)(h:St W (w7 bb L n::j8 (.slice a L.length c) L::R) w):St W (liR bb L n v::R) w:=by refine St.mkEx a (St.mkEx c (St.mkAnd hv ?_));refine St.join ?_;refine St.swap (St.imp h.swap ?_);intro f hf;exact⟨fun _=>true,hf,trivial⟩
theorem gj4(hS:St W (w7 bb L n::R) w):
  Calls Tryz.prog 172 #[.P bb] w fun e w'=>∃v,e=.returned v/\St W (liR bb L n v::R) w':=by
 refine(Fg7 hS).mono ?_;rintro e w' ⟨a,c,rfl,hS⟩;exact⟨_,rfl,fN4 rfl hS⟩
end
theorem Dy7(vb mb bb:Nat)(p:Ps)(L:List Ord)(n:Int){N:Nat}(hw:PsW p N)(hN:N<=1000000000)(W w:World)(R:List HP)(hS:St W (B7 vb mb bb p L n R) w):
  Calls Tryz.prog 124 #[.P vb] w fun e w'=>∃a c a2 c2,e=.returned (.tuple #[.slice a (hdL p).length c,.slice a2 L.length c2,.I n]) /\
   St W (B7 vb mb bb p L n (hdR (.slice a (hdL p).length c) (hdL p)::j8 (.slice a2 L.length c2) L::R)) w':=by
 have hlen:=hw.len;have Hw:=jH hw;clear hw;go_enter Tryz.func124,Tryz.ntmps124;go_wp2_with(first|go_at_call 187;refine(MW7 (some mb) W _ _ (hS.s (d8 eS eP mb p::blk vb _ _::w7 bb L n::R))).mono ?_;clear hS;rintro e w ⟨g,rfl,hS⟩|go_at_call 62;refine(Jj7 (fun x hx=>by have:=Dh7 (Hw.out.who x hx);unfold maxLen;omega) (by omega) hS).mono ?_;clear hS;rintro e w ⟨v,rfl,hS⟩;(have hv:=hS.rowVal;obtain⟨sa,sc,rfl⟩:=hv)|refine zl1 hS ?_);have hS1:=hS.rowNil (k:=5) (T:=189);clear hS;have hS:=hS1;clear hS1
 go_loopw [5,17] (fun v5 v17 wr=>LhR W (row (.slice sa p.length sc) 1 9 p.length ((bj4 (p.map (·.1))).map eS)::d8 eS eP mb p::blk vb [.map (some mb),.P bb,.I n] 176::w7 bb L n::R) p v5 v17 wr) (fun _ v17 _=>p.length-(intOf v17).toNat)
 case atStart=>exact⟨0,rfl,Nat.zero_le _,hS⟩
 case round=>
  clear hS;obtain⟨k,rfl,hkl,hS⟩:=hrel;have hlk:=SK7 p;have hlh:=Bl7 p;by_cases hkn:k=p.length
  ·have e1:(hdL p).take k=hdL p:=List.take_of_length_le (by omega);rw[e1]at hS;have e2:k=(hdL p).length:=by omega
   have hd1:decide (k<p.length)=false:=by simp;omega
   clear e1 hkl hlk;clear hkn hlh;subst e2;go_wp2_with(fail);have hS:=hS.s (w7 bb L n::blk vb _ _::d8 eS eP mb p::row u5 5 _ _ _::R);refine rf3 [0,0,2,6,14,30,0,64,192,448,63,1087,4095] (fun i=>i==5) (fun _=>none) [⟨some 5,none,fun nd=>liR bb L n (nd 5)⟩] [some 5,none,none,none] hS ?_;intro nd
   iterate 2 (refine cR ?_)
   (refine zcn ?_);refine cR ?_;refine zc1 ?_;apply AP7;rfl;rfl;rfl;decide +kernel;(focus(simp only[fD,fI,fJ,Act.eval,fE,fF,fG,fH,fK];try rfl));(intro _;rfl);(intro F w hS;exact gj4 hS);(refine frS ?_);refine cR ?_;refine zcn ?_;refine cR ?_;refine zc1 ?_
   iterate 3 (refine cR ?_)
   refine Ad7 ?_;clear hS;intro w hS;have hS2:St W [liR bb L n (nd 5),blk vb _ _,d8 eS eP mb p,row u5 5 _ _ _,sats R] w:=hS;clear hS;have hS:=hS2.unpack [_,_,_,_];clear hS2;simp only[jK,jN]at hS;generalize nd 5=v5 at *;obtain⟨a2,c2,rfl,hS5⟩:=fM4 hS;clear hS;have hv:=hS5.drop.drop.drop.drop.rowVal;obtain⟨a,c,rfl⟩:=hv;clear hS;have hS:=hS5;clear hS5;go_wp2_with fail;go_ret3;exact⟨a,c,a2,c2,rfl,hS.s _⟩
  ·have hk1:k<p.length:=by omega
   have hks:k<(hdL p).length:=by omega
   have hkk:k<(kL p).length:=by omega
   have hx1:((bj4 (p.map (·.1))).map eS)[k]? = some (.string (kL p)[k]):=by
    rw[List.getElem?_map];show((kL p)[k]?).map eS=_
    rw[jG hkk];rfl
   have htk:((hdL p).take (k+1)).flatMap Hd.cells=((hdL p).take k).flatMap Hd.cells++(Hd.mk (kL p)[k] (m5 p (kL p)[k])).cells:=by rw[List.take_succ_eq_append_getElem hks,List.flatMap_append];simp[hdL]
   obtain⟨⟨g2,rfl⟩,_,_⟩:=St.rowAddr hS.drop (by omega);obtain⟨x,hx⟩:∃x,m5 p (kL p)[k]=x:=⟨_,rfl⟩
   rw[hx]at htk;generalize (kL p)[k]=key at hx htk hx1;obtain⟨x0,x1,x2,x3⟩:=x;have Hx:=jH hx;have Htk:=jH htk;have HX:=jH hx1;clear hx htk hx1 hkn hkl hlk hlh hks hkk;go_wp2_with(first|refine zl1 hS ?_ (hc:=by exact i9.there (i9.row (by omega) HX.out))|(with_reducible apply IS7 (ek:=eS) (ev:=eP) (k:=key) it0 ⟨x0,x1,x2,x3⟩ hS);rfl;rfl;rfl;rfl;exact j5;exact mP;exact kS;exact zP;rfl;exact Hx.out;simp only[Act.put,fA,fB,fC,Nat.reduceAdd,eP,It.cells]|refine zbs hS ?_;clear hS;intro bS w hS|refine zap hS ?_ (h63:=by unfold maxLen;omega) (hb:=by omega);clear hS;intro v w hS|refine zl1 hS ?_);go_roundw
   case rel=>
    refine⟨k+1,rfl,hk1,?_⟩;rw[Htk.out];have h0:St W (row v 5 189 (k+1) (((hdL p).take k).flatMap Hd.cells++(Hd.mk key ⟨x0,x1,x2,x3⟩).cells)::_) w:=hS;exact h0.s _
   case measure=>simp[intOf];omega
end Go.Proofs.YtlmhakmoioogaaaGreat
end
