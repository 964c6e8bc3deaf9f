/-
  The vault's Order. For every vault and order.
  A nil vault; the law's own known.
  The vault's Cancel: who looks for an order. For every vault.
  The vault's Cancel: the walk. For every vault.
-/
import Derived.Test.YtlmhakmoioogaaaGreatEconPlaysM5
import Derived.Test.YtlmhakmoioogaaaGreatEconPlaysM19
set_option maxHeartbeats 16000000
set_option maxRecDepth 100000
set_option linter.unusedSimpArgs false
set_option linter.unusedVariables false
section
namespace Go.Sl
open Go.RowKit
def extrV(v:Value)(i:Nat):Value:=match v with
 | .tuple vs=>vs.getD i undef
 | _=>undef
section
variable{P:Program}{W:World}{ops:Array Oper}{t:List Nat}{toks:List Tok}{fresh:Nat→Bool}{pin:Nat→Option Value}{Qf:Act→Prop}{nd:Nat→Value}{i:Nat}{l:List Oper}{a:Act}{o:Oper}
theorem Em7{x:Operand}{k:Nat}{v:Value}(hf:fresh i=false)(hn:noTok toks i=true)(ho:o.op=.extract x k)(hg:Region.wanted o (yielded ops a.tmps)=true)(hx:a.eval x=v)
  (hv:∀F w,St W (kpL toks t i nd++F) w→∃vs:Array Value,v=.tuple vs∧vs.size=3) (hk:k<3) (h:Chain P W ops t toks fresh pin Qf nd (i+1) l (a.put o.dst (extrV v k))):Chain P W ops t toks fresh pin Qf nd i (o::l) a:=
 Ey7 hf hn hg (fun F w hS=>by
  obtain⟨vs,rfl,hs⟩:=hv F w hS
  have e:vs[k]? = some (vs[k]'(by omega)):=Array.getElem?_eq_getElem (by omega)
  have e2:extrV (.tuple vs) k=vs[k]'(by omega):=by
   show vs.getD k undef=_
   simp[Array.getD,hs,hk]
  unfold execOp
  simp[ho,hx,Instr.extract,e,e2]) h
end
end Go.Sl
namespace Go.Proofs.YtlmhakmoioogaaaGreat
open Go.RowKit Go.Sl
theorem EP7{o:Ord}{h0 h1 h2 h3:Int}(hm:MayP o)(h:holdsF o=⟨h0,h1,h2,h3⟩)(W w:World)(R:List HP)(hS:St W R w):
  Calls Tryz.prog 125 #[.agg o.cells.toArray] w fun e w'=>e=.returned (.agg #[.int .i64 h0,.int .i64 h1,.int .i64 h2,.int .i64 h3])∧St W R w':=
 (KE7 o hm W w R hS).mono fun e w' ⟨he,hS⟩=>⟨by rw[he,h];rfl,hS⟩
def may1(o:Ord):Bool:=mayB { o with id:=1 }
section
variable(vb mb bb:Nat)(p:Ps)(L:List Ord)(n:Int)(o:Ord)(W w:World)(R:List HP)
theorem Mp7(h:may1 o=false)(hS:St W (vaultL vb mb bb p L n R) w):
  Calls Tryz.prog 105 #[.pointer (some ⟨vb,0,none⟩),.agg o.cells.toArray] w fun e w'=>e=.returned (.tuple #[.int .i64 0,.int .i64 1])∧St W (vaultL vb mb bb p L n R) w':=by
 obtain⟨i,u,y,t,c,pr⟩:=o
 have hm:mayB ⟨1,u,y,t,c,pr⟩=false:=h
 clear h
 simp only[Ord.cells]
 go_enter Tryz.func105,Tryz.ntmps105
 go_wp2_with(first|((with_reducible apply Bo7 (n:=1) (l:=[(⟨1,u,y,t,c,pr⟩:Ord)].flatMap Ord.cells) hS);(with_reducible rfl);rfl;(focus(simp only[fD,fI,fJ,Act.eval,fE,fF,fG,fH,fK];try rfl));(exact esS);(exact rsS);rfl;rfl;rfl;rfl;rfl;decide;clear hS;intro bv w hS;(refine frS ?_))|(go_at_call 167;refine(DD7 ⟨1,u,y,t,c,pr⟩ rfl _ W _ _ hS).mono ?_;clear hS;rw[hm];rintro e w ⟨vu,rfl,hS⟩)|(refine zlN hS ?_)|(refine zs1 hS ?_;clear hS;intro w hS)|(refine zbx hS ?_;clear hS;intro b w hS))
 all_goals go_ret2
 all_goals exact⟨rfl,hS.drop⟩
theorem IT7(h:may1 o=true)(hL:L.length<32)(hn:n≤1099511627776)(ht:takeE p o.who (holdsF o)=14)(hS:St W (vaultL vb mb bb p L n R) w):
  Calls Tryz.prog 105 #[.pointer (some ⟨vb,0,none⟩),.agg o.cells.toArray] w fun e w'=>e=.returned (.tuple #[.int .i64 0,.int .i64 14])∧St W (vaultL vb mb bb p L n R) w':=by
 obtain⟨i,u,y,t,c,pr⟩:=o
 have hm:mayB ⟨1,u,y,t,c,pr⟩=true:=h
 have ht':takeE p u (holdsF ⟨1,u,y,t,c,pr⟩)=14:=ht
 have hp':takeP p u (holdsF ⟨1,u,y,t,c,pr⟩)=p:=by
  unfold takeE at ht'
  unfold takeP
  split at ht'
  ·rename_i hc
   rw[if_pos hc]
   split at ht'
   ·cases ht'
   ·rename_i hs;rw[if_neg hs]
  ·cases ht'
 have Hm:=Lib.hid hm
 clear h ht
 have d1:decide ((32:Int)≤(L.length:Int))=false:=by simp;omega
 have d2:decide ((1099511627776:Int)<n)=false:=by simp;omega
 simp only[Ord.cells]
 obtain⟨it,hit⟩:∃x,holdsF ⟨1,u,y,t,c,pr⟩=x:=⟨_,rfl⟩
 rw[hit]at ht' hp'
 obtain⟨h0,h1,h2,h3⟩:=it
 have Hit:=Lib.hid hit
 have Hte:=Lib.hid ht'
 have Htp:=Lib.hid hp'
 clear hit ht' hp'
 go_enter Tryz.func105,Tryz.ntmps105
 go_wp2_with(first|((with_reducible apply Bo7 (n:=1) (l:=[(⟨1,u,y,t,c,pr⟩:Ord)].flatMap Ord.cells) hS);(with_reducible rfl);rfl;(focus(simp only[fD,fI,fJ,Act.eval,fE,fF,fG,fH,fK];try rfl));(exact esS);(exact rsS);rfl;rfl;rfl;rfl;rfl;decide;clear hS;intro bv w hS;(refine frS ?_))|(go_at_call 167;refine(DD7 ⟨1,u,y,t,c,pr⟩ rfl _ W _ _ hS).mono ?_;clear hS;rw[hm];rintro e w ⟨vu,rfl,hS⟩)|(go_at_call 168;refine(DC7 (hS.s (bookL bb L n::_::blk vb _ _::amap eS eP mb p::R))).mono ?_;clear hS;rintro e w ⟨rfl,hS⟩)|(refine zl1 hS ?_)|(refine zlN hS ?_)|(refine zs1 hS ?_;clear hS;intro w hS)|(refine zbx hS ?_;clear hS;intro b w hS))
 refine rt 5 hS ?_
 repeat(first|(refine zq1 ?_)|(refine zqN ?_)|(apply As7;rfl;(intro w;apply Af7;(with_reducible rfl);decide +kernel;(focus(simp only[fD,fI,fJ,Act.eval,fE,fF,fG,fH,fK];try rfl)));(intro w hS;exact EP7 (Ar7.1 Hm.out) Hit.out W w _ hS);(refine frS ?_))|(refine qR ?_))
 clear hS
 intro w hS
 simp only[List.drop_succ_cons,List.drop_zero]
 go_wp2_with(first|(go_at_call 104;refine(Fn7 vb mb p u _ _ ⟨h0,h1,h2,h3⟩ W _ _ (hS.s (blk vb _ _::amap eS eP mb p::bookL bb L n::blk b _ _::R))).mono ?_;clear hS;rw[Hte.out,Htp.out];rintro e w ⟨rfl,hS⟩))
 go_ret2
 exact⟨rfl,hS.s _⟩
def runT(L:List Ord)(o:Ord):List Trd:=(refLoop (L.length+1) o L []).2.2
def runL(L:List Ord)(o:Ord):List Ord:=if 0<(refLoop (L.length+1) o L []).1.cnt then(refLoop (L.length+1) o L []).2.1++[(refLoop (L.length+1) o L []).1]else(refLoop (L.length+1) o L []).2.1
theorem IU7(hm:MayP o)(hid:o.id=n)(hL:L.length<32)(hS:St W (bookL bb L n::R) w):
  Calls Tryz.prog 169 #[.pointer (some ⟨bb,0,none⟩),.agg o.cells.toArray] w fun e w'=>∃a c left,e=.returned (.tuple #[.slice a (runT L o).length c,.int .i64 left,.int .i64 0])∧St W (bookL bb (runL L o) (n+1)::tradesR (.slice a (runT L o).length c) (runT L o)::R) w':=by
 obtain⟨b,hr,hl,hS⟩:=bookLOpen hS
 have hno:¬(mayB o=false∨o.id≤b.last):=by rintro(h|h);(rw[Ar7.2 hm]at h;cases h);omega
 refine(NZ7 bb hr o W w R hS).mono ?_
 rintro e w' ⟨b',ts,a,c,⟨ht,hla,hrep,_⟩,rfl,hS⟩
 unfold placeR at ht hla hrep ⊢
 rw[if_neg hno,if_neg (by omega)]at ht hla hrep ⊢
 dsimp only at ht hla hrep ⊢
 have e1:ts=runT L o:=ht
 subst e1
 exact⟨a,c,_,rfl,bookLShut hrep (by rw[hla,hid];omega) hS⟩
structure TrB(t:Trd):Prop where
 cnt:0≤t.cnt∧t.cnt≤1048576
 item:0≤t.item∧t.item≤3
 price:0≤t.price∧t.price≤1024
 bid:0≤t.bid-t.price∧t.bid-t.price≤1024
end
theorem tradeB{o x:Ord}(hx:MayP x)(ho:0≤o.cnt∧o.cnt≤1048576∧1≤o.item∧o.item≤3∧o.price≤1024)(hm:meetR o x=true):TrB (tradeR o x):=by
 unfold meetR at hm
 simp only[Bool.and_eq_true,decide_eq_true_eq]at hm
 obtain⟨_,h3⟩:=hm
 have hc:0≤minI o.cnt x.cnt∧minI o.cnt x.cnt≤1048576:=by
  have:=hx.cnt0
  unfold minI
  split <;> omega
 have h1:=hx.price0
 have h2:=hx.price1
 unfold tradeR
 cases hb:o.buy
 ·rw[if_neg (by simp)]
  exact⟨hc,⟨by simp only;omega,by simp only;omega⟩,⟨by simp only;omega,by simp only;omega⟩,by simp only;omega,by simp only;omega⟩
 ·rw[hb]at h3
  simp only[if_true,decide_eq_true_eq]at h3
  rw[if_pos rfl]
  exact⟨hc,⟨by simp only;omega,by simp only;omega⟩,⟨by simp only;omega,by simp only;omega⟩,by simp only;omega,by simp only;omega⟩
theorem CI7:∀(f:Nat) (o:Ord) (L:List Ord) (ts:List Trd),(∀x∈L,MayP x)→(0≤o.cnt∧o.cnt≤1048576∧1≤o.item∧o.item≤3∧o.price≤1024)→(∀t∈ts,TrB t)→∀t∈(refLoop f o L ts).2.2,TrB t
 | 0,o,L,ts,_,_,h=>h
 | f+1,o,L,ts,hL,ho,h=>by
  rw[refLoop]
  by_cases h0:0<o.cnt
  ·rw[if_pos h0]
   cases hb:bestTo o L L.length with
   | none=>exact h
   | some k=>
    obtain⟨hk,hm,_⟩:=AQ7 hb
    have hx:=hL _ (at'_mem hk)
    have hx0:=hx.cnt0
    have hmin:=Dz7 h0 (show 0<(at' L k).cnt by omega)
    refine CI7 f _ _ _ ?_ ⟨by simp only;omega,by simp only;omega,ho.2.2.1,ho.2.2.2.1,ho.2.2.2.2⟩ ?_
    ·unfold cutR
     split
     ·exact fun x hx=>hL x (List.mem_of_mem_eraseIdx hx)
     ·intro x hxm
      rcases List.mem_or_eq_of_mem_set hxm with hx'|rfl
      ·exact hL x hx'
      ·exact GJ7 hx (by omega) (by omega)
    ·intro t ht
     rcases List.mem_append.1 ht with ht|ht
     ·exact h t ht
     ·rw[List.mem_singleton.1 ht]
      exact tradeB hx ho hm
  ·rw[if_neg h0]
   exact h
def payT(p:Ps)(t:Trd):Ps:=giveP (giveP (giveP p t.buyer t.item t.cnt) t.buyer 0 (t.cnt*(t.bid-t.price))) t.seller 0 (t.cnt*t.price)
theorem Ke7{p:Ps}(h:PsOk p){t:Trd}(ht:TrB t):PsOk (payT p t):=by
 have h1:=BV7 ht.cnt.1 ht.cnt.2 ht.price.1 ht.price.2
 have h2:=BV7 ht.cnt.1 ht.cnt.2 ht.bid.1 ht.bid.2
 exact An7 (An7 (An7 h _ _ ht.cnt.1) _ _ h2.1) _ _ h1.1
theorem DE7:∀(ts:List Trd) {p:Ps},PsOk p→(∀t∈ts,TrB t)→PsOk (ts.foldl payT p)
 | [],_,h,_=>h
 | t::ts,_,h,ht=>DE7 ts (Ke7 h (ht t (List.mem_cons_self ..))) fun x hx=>ht x (List.mem_cons_of_mem _ hx)
def plR(bb:Nat)(L:List Ord)(m:Int)(ts:List Trd)(v:Value):HP:=fun f=>∃(a:Option Addr) (c:Nat) (left:Int),v=.tuple #[.slice a ts.length c,.int .i64 left,.int .i64 0]∧sats [bookL bb L m,tradesR (.slice a ts.length c) ts] f
section
variable{W w:World}{bb:Nat}{L:List Ord}{m n:Int}{ts:List Trd}{v:Value}{R:List HP}
theorem plOpen(h:St W (plR bb L m ts v::R) w):∃a c left,v=.tuple #[.slice a ts.length c,.int .i64 left,.int .i64 0]∧St W (bookL bb L m::tradesR (.slice a ts.length c) ts::R) w:=by
 obtain⟨a,h⟩:=St.ex h
 obtain⟨c,h⟩:=St.ex h
 obtain⟨left,h⟩:=St.ex h
 obtain⟨h1,h⟩:=St.and h
 refine⟨a,c,left,h1,?_⟩
 exact(St.split (St.split h).swap).swap.drop.swap
theorem plShut{a:Option Addr}{c:Nat}{left:Int}(hv:v=.tuple #[.slice a ts.length c,.int .i64 left,.int .i64 0])(h:St W (bookL bb L m::tradesR (.slice a ts.length c) ts::R) w):St W (plR bb L m ts v::R) w:=by
 refine St.mkEx a (St.mkEx c (St.mkEx left (St.mkAnd hv ?_)))
 refine St.join ?_
 refine St.swap (St.imp h.swap ?_)
 intro f hf
 exact⟨fun _=>true,hf,trivial⟩
theorem plTup{L1 R1:List HP}(hS:St W L1 w)(hu:Take L1 (plR bb L m ts v) R1):∃vs:Array Value,v=.tuple vs∧vs.size=3:=by
 obtain⟨a,c,left,h,_⟩:=plOpen (hS.take hu)
 exact⟨_,h,rfl⟩
theorem placeF{o:Ord}{L2:List Ord}(hm:MayP o)(hid:o.id=n)(hL:L.length<32)(h1:runL L o=L2)(h2:runT L o=ts)(hS:St W (bookL bb L n::R) w):
  Calls Tryz.prog 169 #[.pointer (some ⟨bb,0,none⟩),.agg o.cells.toArray] w fun e w'=>∃v,e=.returned v∧St W (plR bb L2 (n+1) ts v::R) w':=by
 subst h1 h2
 refine(IU7 bb L n o W w R hm hid hL hS).mono ?_
 rintro e w' ⟨a,c,left,rfl,hS⟩
 exact⟨_,rfl,plShut rfl hS⟩
end
def OrR(W:World)(F:Ps→List HP)(p:Ps)(ts:List Trd)(v:Value)(w:World):Prop:=
 ∃(k:Nat),v=.int .i64 k∧k≤ts.length∧St W (F ((ts.take k).foldl payT p)) w
section
variable(vb mb bb:Nat)(p:Ps)(L:List Ord)(n:Int)(o:Ord)(W w:World)(R:List HP)
theorem Oa7(hp:PsOk p)(h:may1 o=true)(hn0:1≤n)(hn:n≤1099511627776)(hL:L.length<32)(ht:takeE p o.who (holdsF o)=0)(hS:St W (vaultL vb mb bb p L n R) w):
  Calls Tryz.prog 105 #[.pointer (some ⟨vb,0,none⟩),.agg o.cells.toArray] w fun e w'=>e=.returned (.tuple #[.int .i64 n,.int .i64 0]) ∧
   St W (vaultL vb mb bb ((runT L { o with id:=n }).foldl payT (takeP p o.who (holdsF o))) (runL L { o with id:=n }) (n+1) R) w':=by
 have hLm:=Bj7 hS.drop.drop
 obtain⟨i,u,y,t,c,pr⟩:=o
 have hm:mayB ⟨1,u,y,t,c,pr⟩=true:=h
 have hm1:=Ar7.1 hm
 have hmn:MayP ⟨n,u,y,t,c,pr⟩:=⟨hn0,hn,hm1.who0,hm1.who1,hm1.item0,hm1.item1,hm1.cnt0,hm1.cnt1,hm1.price0,hm1.price1⟩
 have hok1:PsOk (takeP p u (holdsF ⟨1,u,y,t,c,pr⟩)):=Co7 hp _ _
 have htr:∀x∈runT L ⟨n,u,y,t,c,pr⟩,TrB x:=CI7 _ _ _ _ (fun x hx=>(hLm x hx).1) ⟨by have:=hmn.cnt0;simp only at this ⊢;omega,hmn.cnt1,hmn.item0,hmn.item1,hmn.price1⟩ (fun x hx=>(by cases hx))
 have ht':takeE p u (holdsF ⟨1,u,y,t,c,pr⟩)=0:=ht
 have eh:holdsF ⟨i,u,y,t,c,pr⟩=holdsF ⟨1,u,y,t,c,pr⟩:=rfl
 simp only[eh]
 obtain⟨p1,hp1⟩:∃x,takeP p u (holdsF ⟨1,u,y,t,c,pr⟩)=x:=⟨_,rfl⟩
 rw[hp1]at hok1
 simp only[hp1]
 obtain⟨it,hit⟩:∃x,holdsF ⟨1,u,y,t,c,pr⟩=x:=⟨_,rfl⟩
 rw[hit]at ht' hp1
 obtain⟨h0,h1,h2,h3⟩:=it
 obtain⟨ts,hts⟩:∃x,runT L ⟨n,u,y,t,c,pr⟩=x:=⟨_,rfl⟩
 obtain⟨L2,hL2⟩:∃x,runL L ⟨n,u,y,t,c,pr⟩=x:=⟨_,rfl⟩
 simp only[hts,hL2]
 rw[hts]at htr
 have Hts:=Lib.hid hts
 have HL2:=Lib.hid hL2
 clear hts hL2
 have Hm:=Lib.hid hm
 have Hit:=Lib.hid hit
 have Hte:=Lib.hid ht'
 have Htp:=Lib.hid hp1
 have Hok:=Lib.hid hok1
 have Htr:=Lib.hid htr
 have d1:decide ((32:Int)≤(L.length:Int))=false:=by simp;omega
 have d2:decide ((1099511627776:Int)<n)=false:=by simp;omega
 clear hit ht' hp1 h ht eh hok1 htr hLm hm1 hp
 simp only[Ord.cells]
 go_enter Tryz.func105,Tryz.ntmps105
 go_wp2_with(first|((with_reducible apply Bo7 (n:=1) (l:=[(⟨1,u,y,t,c,pr⟩:Ord)].flatMap Ord.cells) hS);(with_reducible rfl);rfl;(focus(simp only[fD,fI,fJ,Act.eval,fE,fF,fG,fH,fK];try rfl));(exact esS);(exact rsS);rfl;rfl;rfl;rfl;rfl;decide;clear hS;intro bv w hS;(refine frS ?_))|(go_at_call 167;refine(DD7 ⟨1,u,y,t,c,pr⟩ rfl _ W _ _ hS).mono ?_;clear hS;rw[hm];rintro e w ⟨vu,rfl,hS⟩)|(go_at_call 168;refine(DC7 (hS.s (bookL bb L n::_::blk vb _ _::amap eS eP mb p::R))).mono ?_;clear hS;rintro e w ⟨rfl,hS⟩)|(refine zl1 hS ?_)|(refine zlN hS ?_)|(refine zs1 hS ?_;clear hS;intro w hS)|(refine zbx hS ?_;clear hS;intro b w hS))
 refine rt 5 hS ?_
 repeat(first|(refine zq1 ?_)|(refine zqN ?_)|(apply As7;rfl;(intro w;apply Af7;(with_reducible rfl);decide +kernel;(focus(simp only[fD,fI,fJ,Act.eval,fE,fF,fG,fH,fK];try rfl)));(intro w hS;exact EP7 (Ar7.1 Hm.out) Hit.out W w _ hS);(refine frS ?_))|(refine qR ?_))
 clear hS
 intro w hS
 simp only[List.drop_succ_cons,List.drop_zero]
 go_wp2_with(first|(go_at_call 104;refine(Fn7 vb mb p u _ _ ⟨h0,h1,h2,h3⟩ W _ _ (hS.s (blk vb _ _::amap eS eP mb p::bookL bb L n::blk b _ _::R))).mono ?_;clear hS;rw[Hte.out,Htp.out];rintro e w ⟨rfl,hS⟩)|(refine zl1 hS ?_)|(refine zs1 hS ?_;clear hS;intro w hS))
 have hS:=hS.s (bookL bb L n::blk b _ _::blk vb _ _::amap eS eP mb p1::R)
 refine rf3 [0,1,3,7,0,31,63,127,127,127,255,1535,4095] (fun i=>i==5) (fun _=>none) [⟨some 5,none,fun nd=>plR bb L2 (n+1) ts (nd 5)⟩] [some 5,none,none,none] hS ?_
 intro nd
 (refine cR ?_)
 (refine zcn ?_)
 (refine cR ?_)
 (refine zc1 ?_)
 (refine zcN ?_)
 (apply AC7;rfl;rfl;(with_reducible rfl);decide +kernel;(focus(simp only[fD,fI,fJ,Act.eval,fE,fF,fG,fH,fK];try rfl));(intro _;rfl);(intro F w hS;exact placeF (o:=⟨n,u,y,t,c,pr⟩) hmn rfl hL HL2.out Hts.out hS);(refine frS ?_))
 (refine cR ?_)
 (apply Em7 (v:=nd 5);rfl;kernel_rfl;(with_reducible rfl);rfl;rfl;(intro F w hS;exact plTup hS (by exact takO));decide;(refine frS ?_))
 (apply Em7 (v:=nd 5);rfl;kernel_rfl;(with_reducible rfl);rfl;rfl;(intro F w hS;exact plTup hS (by exact takO));decide;(refine frS ?_))
 (apply Em7 (v:=nd 5);rfl;kernel_rfl;(with_reducible rfl);rfl;rfl;(intro F w hS;exact plTup hS (by exact takO));decide;(refine frS ?_))
 iterate 3 (refine cR ?_)
 refine Ad7 ?_
 clear hS
 intro w hS
 have hS2:St W [plR bb _ _ _ (nd 5),blk b _ _,blk vb _ _,amap eS eP mb p1,sats R] w:=hS
 clear hS
 have hS:=hS2.unpack [_,_,_,_]
 clear hS2
 simp only[List.cons_append,List.nil_append]at hS
 generalize nd 5=v5 at *
 obtain⟨ta,tc,left,hv5,hS5⟩:=plOpen hS
 clear hS
 subst hv5
 have hS:=hS5
 clear hS5
 simp only[extrV,Array.getD_eq_getD_getElem?,List.getElem?_toArray,List.getElem?_cons_zero,List.getElem?_cons_succ,Option.getD_some]
 have htr:=Htr.out
 have hll:ts.length≤9223372036854775807:=by
  rcases St.rowCase hS.drop with ⟨_,h0,_⟩|⟨_,_,q1,q2⟩
  ·omega
  ·omega
 have hS:=hS.s (blk vb _ _::amap eS eP mb p1::bookL bb L2 (n+1)::tradesR (.slice ta ts.length tc) ts::blk b _ _::R)
 go_wp2_with(fail)
 go_loopw [75] (fun v wr=>OrR W (fun q=>[blk vb [.map (some mb),.pointer (some ⟨bb,0,none⟩),.int .i64 (n+1)] 176,amap eS eP mb q,bookL bb L2 (n+1),tradesR (.slice ta ts.length tc) ts,blk b [.int .i64 n,.string u,.bool y,.int .i64 t,.int .i64 c,.int .i64 pr] 166]++R) p1 ts v wr) (fun v _=>ts.length-(intOf v).toNat)
 case atStart=>exact⟨0,rfl,Nat.zero_le _,hS⟩
 case round=>
  clear hS
  obtain⟨k,rfl,hk,hS⟩:=hrel
  simp only[List.cons_append,List.nil_append]at hS
  by_cases hkn:k=ts.length
  ·subst hkn
   rw[List.take_length]at hS
   go_wp2_with(first|(refine zl1 hS ?_))
   go_ret2
   exact⟨rfl,hS.s _⟩
  ·have hk1:k<ts.length:=by omega
   clear hkn hk
   obtain⟨⟨g,rfl⟩,hcap,hcn⟩:=St.rowAddr hS.drop.drop.drop (by omega)
   have hcells:∀{K K':List HP},Take K (tradesR (.slice (some ⟨g,0,none⟩) ts.length tc) ts) K'→Cells K g (k*8) (Trd.cells ts[k]):=fun hu=>Cells.elemM (enc:=Trd.cells) Trd.len hu hk1
   have hq:PsOk ((ts.take k).foldl payT p1):=DE7 _ Hok.out fun x hx=>htr x (List.mem_of_mem_take hx)
   have hstep:(ts.take (k+1)).foldl payT p1=payT ((ts.take k).foldl payT p1) ts[k]:=by
    rw[List.take_succ_eq_append_getElem hk1,List.foldl_append];rfl
   have hb:=htr _ (List.getElem_mem hk1)
   have Hstep:=Lib.hid hstep
   have Hq:=Lib.hid hq
   clear hstep hq
   generalize (ts.take k).foldl payT p1=q at hS Hstep Hq
   generalize ts[k]=x at hcells Hstep hb
   obtain⟨xb,xs,xi,xj,xt,xc,xp,xd⟩:=x
   obtain⟨⟨c0,c1⟩,⟨t0,t1⟩,⟨p0,p1'⟩,⟨b0,b1⟩⟩:=hb
   simp only at c0 c1 t0 t1 p0 p1' b0 b1
   have m1:=BV7 c0 c1 b0 b1
   have m2:=BV7 c0 c1 p0 p1'
   have n1:xc*(xd-xp)≤9223372036854775807:=by omega
   have n2 : -9223372036854775808≤xc*(xd-xp):=by omega
   have n3:xc*xp≤9223372036854775807:=by omega
   have n4 : -9223372036854775808≤xc*xp:=by omega
   simp only[Trd.cells]at hcells
   have G1:=Lib.hid (show ∀y,isIt (purseA q y)=true from Hq.out)
   have G2:=Lib.hid (show ∀y,isIt (purseA (giveP q xb xt xc) y)=true from An7 Hq.out _ _ c0)
   have G3:=Lib.hid (show ∀y,isIt (purseA (giveP (giveP q xb xt xc) xb 0 (xc*(xd-xp))) y)=true from An7 (An7 Hq.out _ _ c0) _ _ m1.1)
   go_wp2_with(first|(refine zlN hS ?_ (hc:=by exact hcells (.tail (.tail (.tail .head)))))|(refine zsN hS ?_;clear hS;intro w hS)|(refine zal hS ?_;clear hS;intro b w hS))
   refine Aa7 (by kernel_rfl) (by kernel_rfl) hS ?_
   repeat(first|(refine zq1 ?_)|(refine qR ?_))
   clear hS
   intro w hS
   go_wp2_with(first|(go_at_call 170;refine(CF7 vb mb _ _ _ _ _ _ ?_ ?_ ?_ W _ (bookL bb L2 (n+1)::tradesR (.slice (some ⟨g,0,none⟩) ts.length tc) ts::blk _ _ 231::blk _ _ 166::R) (hS.s _)).mono ?_;(focus(with_reducible first|exact G1.out _|exact G2.out _|exact G3.out _));(focus(first|exact⟨t0,t1⟩|decide));(focus(exact⟨by omega,by omega⟩));clear hS;rintro e w ⟨rfl,hS⟩)|(refine zl1 hS ?_))
   go_roundw
   case rel=>
    refine⟨k+1,rfl,hk1,?_⟩
    rw[Hstep.out]
    have hS3:St W (blk vb [.map (some mb),.pointer (some ⟨bb,0,none⟩),.int .i64 (n+1)] 176::amap eS eP mb (payT q ⟨xb,xs,xi,xj,xt,xc,xp,xd⟩)::_) w:=hS
    exact hS3.s _
   case measure=>simp[intOf];omega
end
section
variable(k:ByteArray)(W w:World)(R:List HP)
theorem PG7(hS:St W R w):Calls Tryz.prog 47 #[.pointer none,.string k] w fun e w'=>e=.returned (.agg #[.int .i64 0,.int .i64 0,.int .i64 0,.int .i64 0])∧St W R w':=by
 go_enter Tryz.func47,Tryz.ntmps47
 go_wp2_with(first|(refine zsN hS ?_;clear hS;intro w hS)|(refine zal hS ?_;clear hS;intro b w hS))
 (apply Ao7;rfl;rfl;rfl;exact hS;decide +kernel;(exact cesS);kernel_rfl)
 exact⟨rfl,hS.drop⟩
def ka:ByteArray:=⟨#[97]⟩
def kaO:Ord:=⟨0,ka,false,1,3,2⟩
end
def hitC(id:Int)(who:ByteArray)(x:Ord):Bool:=(x.id==id)&&(x.who.toList==who.toList)
theorem EC7(x:Ord)(B C:Nat)(id:Int)(who:ByteArray)(W w:World)(L:List HP)(hS:St W (blk B [.int .i64 id] 3::blk C [.string who] 9::L) w):
  Calls Tryz.prog 173 #[.agg x.cells.toArray,.pointer (some ⟨B,0,none⟩),.pointer (some ⟨C,0,none⟩)] w fun e w'=>e=.returned (.bool (hitC id who x))∧St W (blk B [.int .i64 id] 3::blk C [.string who] 9::L) w':=by
 obtain⟨i,u,y,t,c,p⟩:=x
 unfold hitC
 simp only[Ord.cells]
 cases hi:i==id with
 | true=>
  rw[Bool.true_and]
  go_enter Tryz.func173,Tryz.ntmps173
  go_wp2_with(first|(refine zl1 hS ?_)|(refine zbx hS ?_;clear hS;intro b w hS))
  go_ret
  exact⟨rfl,hS.drop⟩
 | false=>
  rw[Bool.false_and]
  go_enter Tryz.func173,Tryz.ntmps173
  go_wp2_with(first|go_big_skip|(refine zl1 hS ?_)|(refine zbx hS ?_;clear hS;intro b w hS))
  go_ret
  exact⟨rfl,hS.drop⟩
def idxC(id:Int)(who:ByteArray)(p:List Ord):Int:=match p.findIdx? (hitC id who)with
 | some i=>i
 | none => -1
def IdxC(W:World)(L:List HP)(p:List Ord)(id:Int)(who:ByteArray)(v8:Value)(w:World):Prop:=
 ∃k:Nat,v8=.int .i64 k∧k≤p.length∧(∀j,j<k→∀x,p[j]? = some x→hitC id who x=false)∧St W L w
theorem Ob7(p:List Ord)(id:Int)(who:ByteArray)(h:∀j,j<p.length→∀x,p[j]? = some x→hitC id who x=false):idxC id who p = -1:=by
 unfold idxC
 rw[List.findIdx?_eq_none_iff.2]
 intro x hx
 obtain⟨j,hj,rfl⟩:=List.mem_iff_getElem.1 hx
 exact h j hj _ (List.getElem?_eq_getElem hj)
theorem PH7(p:List Ord)(id:Int)(who:ByteArray)(k:Nat)(hk:k<p.length)(h:∀j,j<k→∀x,p[j]? = some x→hitC id who x=false)(hx:hitC id who p[k]=true):idxC id who p=k:=by
 unfold idxC
 rw[List.findIdx?_eq_some_iff_getElem.2 ⟨hk,hx,fun j hj=>by rw[h j hj _ (List.getElem?_eq_getElem (by omega))];exact Bool.false_ne_true⟩]
theorem IV7(p:List Ord)(v:Value)(B C:Nat)(id:Int)(who:ByteArray)(h63:p.length≤4294967296)(W w:World)(L:List HP)(hS:St W (blk B [.int .i64 id] 3::blk C [.string who] 9::pileR v p::L) w):
  Calls Tryz.prog 210 #[v,.func (.func 173) #[] #[.pointer (some ⟨B,0,none⟩),.pointer (some ⟨C,0,none⟩)]] w fun e w'=>e=.returned (.int .i64 (idxC id who p))∧St W (blk B [.int .i64 id] 3::blk C [.string who] 9::pileR v p::L) w':=by
 obtain⟨a,cap,rfl⟩:=hS.drop.drop.rowVal
 go_enter Tryz.func210,Tryz.ntmps210
 go_wp2_with fail
 go_loopw [8] (fun v wr=>IdxC W (blk B [.int .i64 id] 3::blk C [.string who] 9::pileR (.slice a p.length cap) p::L) p id who v wr) (fun v _=>p.length-(intOf v).toNat)
 case atStart=>exact⟨0,rfl,by omega,fun j hj=>by omega,hS⟩
 case round=>
  clear hS
  obtain⟨k,rfl,hk,hno,hS⟩:=hrel
  by_cases hkn:k=p.length
  ·have Hr:=Lib.hid (Ob7 p id who (hkn▸hno))
   clear hno
   subst hkn
   go_wp2_with fail
   go_ret
   rw[Hr.out]
   exact⟨rfl,hS⟩
  ·have hkl:k<p.length:=by omega
   clear hkn hk
   obtain⟨⟨g,rfl⟩,hcap,hcn⟩:=St.rowAddr hS.drop.drop (by omega)
   have Hno:=Lib.hid hno
   clear hno
   cases hb:hitC id who p[k]with
   | false=>
    go_wp2_with(first|(refine zlN hS ?_ (hc:=by exact Cells.there (Cells.there (Cells.rowE Ord.len hkl))))|(go_at_call 173;refine(EC7 p[k] B C id who W _ _ hS).mono ?_;clear hS;rw[hb];rintro e w ⟨rfl,hS⟩))
    go_roundw
    case rel=>
     refine⟨k+1,rfl,hkl,?_,hS⟩
     intro j hj x hx
     by_cases hjk:j=k
     ·subst hjk
      rw[List.getElem?_eq_getElem hkl]at hx
      cases hx
      exact hb
     ·exact Hno.out j (by omega) x hx
    case measure=>simp[intOf];omega
   | true=>
    go_wp2_with(first|(refine zlN hS ?_ (hc:=by exact Cells.there (Cells.there (Cells.rowE Ord.len hkl))))|(go_at_call 173;refine(EC7 p[k] B C id who W _ _ hS).mono ?_;clear hS;rw[hb];rintro e w ⟨rfl,hS⟩))
    go_ret
    rw[PH7 p id who k hkl Hno.out hb]
    exact⟨rfl,hS⟩
theorem Oc7(id:Int)(who:ByteArray)(p:List Ord):decide (0≤idxC id who p)=p.any (hitC id who):=by
 unfold idxC
 cases h:p.findIdx? (hitC id who)with
 | none=>
  have:=List.findIdx?_eq_none_iff.1 h
  have e:p.any (hitC id who)=false:=by
   rw[List.any_eq_false]
   intro x hx
   rw[this x hx];exact Bool.false_ne_true
  rw[e];rfl
 | some i=>
  obtain⟨hi,hx,_⟩:=List.findIdx?_eq_some_iff_getElem.1 h
  have e:p.any (hitC id who)=true:=List.any_eq_true.2 ⟨_,List.getElem_mem hi,hx⟩
  rw[e];simp
theorem De7(p:List Ord)(v:Value)(B C:Nat)(id:Int)(who:ByteArray){r:Bool}(hr:p.any (hitC id who)=r)(h63:p.length≤4294967296)(W w:World)(L:List HP)(hS:St W (blk B [.int .i64 id] 3::blk C [.string who] 9::pileR v p::L) w):
  Calls Tryz.prog 171 #[v,.func (.func 173) #[] #[.pointer (some ⟨B,0,none⟩),.pointer (some ⟨C,0,none⟩)]] w fun e w'=>e=.returned (.bool r)∧St W (blk B [.int .i64 id] 3::blk C [.string who] 9::pileR v p::L) w':=by
 have hz:=Oc7 id who p
 rw[hr]at hz
 obtain⟨q,hq⟩:∃q,idxC id who p=q:=⟨_,rfl⟩
 rw[hq]at hz
 have Hq:=Lib.hid hq
 clear hq hr
 go_enter Tryz.func171,Tryz.ntmps171
 go_wp2_with(first|(go_at_call 210;refine(IV7 p v B C id who h63 W _ _ hS).mono ?_;clear hS;rw[Hq.out];rintro e w ⟨rfl,hS⟩))
 go_ret
 exact⟨by first|rfl|(rw[←hz];rfl),hS⟩
section
variable{W w:World}{R:List HP}{bb:Nat}{L:List Ord}{n:Int}
theorem En7(hS:St W (bookL bb L n::R) w):
  Calls Tryz.prog 172 #[.pointer (some ⟨bb,0,none⟩)] w fun e w'=>∃a c,e=.returned (.slice a L.length c)∧St W (bookL bb L n::pileR (.slice a L.length c) L::R) w':=by
 obtain⟨b,hr,hl,hS⟩:=bookLOpen hS
 refine(PC7 bb hr W w R hS).mono ?_
 rintro e w' ⟨a,c,rfl,hS⟩
 exact⟨a,c,rfl,bookLShut hr hl hS⟩
theorem HO7{id:Int}{x:Ord}{L2:List Ord}(h1:(cancelR L id).o=x)(h2:(cancelR L id).errno=0)(h3:(cancelR L id).L=L2)(hS:St W (bookL bb L n::R) w):
  Calls Tryz.prog 174 #[.pointer (some ⟨bb,0,none⟩),.int .i64 id] w fun e w'=>e=.returned (.tuple #[.agg x.cells.toArray,.int .i64 0])∧St W (bookL bb L2 n::R) w':=by
 obtain⟨b,hr,hl,hS⟩:=bookLOpen hS
 refine(Mh7 bb hr id W w R hS).mono ?_
 rintro e w' ⟨b',⟨hla,hrep⟩,rfl,hS⟩
 rw[h1,h2]
 rw[h3]at hrep
 exact⟨rfl,bookLShut hrep (by omega) hS⟩
end
def backP(p:Ps)(who:ByteArray)(i:It):Ps:=giveP (giveP (giveP (giveP p who 0 i.x0) who 1 i.x1) who 2 i.x2) who 3 i.x3
def Cn4(W:World)(F:Ps→List HP)(p:Ps)(who:ByteArray)(i:It)(v:Value)(w:World):Prop:=
 (v=.int .i64 0∧St W (F p) w)∨(v=.int .i64 1∧St W (F (giveP p who 0 i.x0)) w)∨(v=.int .i64 2∧St W (F (giveP (giveP p who 0 i.x0) who 1 i.x1)) w)∨(v=.int .i64 3∧St W (F (giveP (giveP (giveP p who 0 i.x0) who 1 i.x1) who 2 i.x2)) w)∨(v=.int .i64 4∧St W (F (backP p who i)) w)
section
variable(vb mb bb:Nat)(p:Ps)(L:List Ord)(n:Int)(who:ByteArray)(id:Int)(W w:World)(R:List HP)
theorem KV7(hr:L.any (hitC id who)=false)(hS:St W (vaultL vb mb bb p L n R) w):
  Calls Tryz.prog 106 #[.pointer (some ⟨vb,0,none⟩),.string who,.int .i64 id] w fun e w'=>e=.returned (.int .i64 7)∧St W (vaultL vb mb bb p L n R) w':=by
 have hL:=BM7 hS.drop.drop
 go_enter Tryz.func106,Tryz.ntmps106
 go_wp2_with(first|(go_at_call 172;refine(En7 (hS.s (bookL bb L n::blk bQ2 _ _::blk bQ1 _ _::blk vb _ _::amap eS eP mb p::R))).mono ?_;clear hS;rintro e w ⟨la,lc,rfl,hS⟩)|(go_at_call 171;(try simp only[Act.eval,Array.getD_eq_getD_getElem?,List.getElem?_toArray,List.getElem?_cons_succ,List.getElem?_cons_zero,Option.getD_some]at hS);refine(De7 L _ bQ2 bQ1 id who hr (by omega) W _ _ (hS.s (blk bQ2 _ _::blk bQ1 _ _::pileR (.slice la L.length lc) L::bookL bb L n::blk vb _ _::amap eS eP mb p::R))).mono ?_;clear hS;rintro e w ⟨rfl,hS⟩)|((fail_if_success (have:=bQ1));(with_reducible apply Az7 hS);(with_reducible rfl);rfl;rfl;rfl;clear hS;intro bQ1 w hS;(refine frS ?_))|((fail_if_success (have:=bQ2));(with_reducible apply Az7 hS);(with_reducible rfl);rfl;rfl;rfl;clear hS;intro bQ2 w hS;(refine frS ?_))|(refine zl1 hS ?_))
 go_ret
 exact⟨rfl,hS.s _⟩
theorem IW7(hp:PsOk p)(x:Ord)(L2:List Ord)(hx:MayP x)(hr:L.any (hitC id who)=true)(h1:(cancelR L id).o=x)(h2:(cancelR L id).errno=0)(h3:(cancelR L id).L=L2)(hS:St W (vaultL vb mb bb p L n R) w):
  Calls Tryz.prog 106 #[.pointer (some ⟨vb,0,none⟩),.string who,.int .i64 id] w fun e w'=>e=.returned (.int .i64 0)∧St W (vaultL vb mb bb (backP p who (holdsF x)) L2 n R) w':=by
 have hL:=BM7 hS.drop.drop
 have hm:=BV7 (by have:=hx.cnt0;omega) hx.cnt1 (by have:=hx.price0;omega) hx.price1
 have hit:isIt (holdsF x)=true:=by
  unfold holdsF
  split
  ·exact Ag7.2 ⟨⟨hm.1,by simp only;omega⟩,⟨by simp only;omega,by simp only;omega⟩,⟨by simp only;omega,by simp only;omega⟩,by simp only;omega,by simp only;omega⟩
  ·exact GO7 (by rfl) _ ⟨by have:=hx.cnt0;omega,by have:=hx.cnt1;omega⟩
 clear hm
 obtain⟨i,hi⟩:∃i,holdsF x=i:=⟨_,rfl⟩
 rw[hi]at hit ⊢
 obtain⟨h0,h1',h2',h3'⟩:=i
 obtain⟨xi,xu,xy,xt,xc,xp⟩:=x
 have Hi:=Lib.hid hi
 have Hx:=Lib.hid hx
 have H1:=Lib.hid h1
 have H2:=Lib.hid h2
 have H3:=Lib.hid h3
 obtain⟨a0,a1,a2,a3⟩:=Ag7.1 hit
 simp only at a0 a1 a2 a3
 have G0:=Lib.hid (show ∀y,isIt (purseA p y)=true from hp)
 have G1:=Lib.hid (show ∀y,isIt (purseA (giveP p who 0 h0) y)=true from An7 hp _ _ a0.1)
 have G2:=Lib.hid (show ∀y,isIt (purseA (giveP (giveP p who 0 h0) who 1 h1') y)=true from An7 (An7 hp _ _ a0.1) _ _ a1.1)
 have G3:=Lib.hid (show ∀y,isIt (purseA (giveP (giveP (giveP p who 0 h0) who 1 h1') who 2 h2') y)=true from An7 (An7 (An7 hp _ _ a0.1) _ _ a1.1) _ _ a2.1)
 clear hi hx h1 h2 h3 hit hp
 go_enter Tryz.func106,Tryz.ntmps106
 go_wp2_with(first|(go_at_call 172;refine(En7 (hS.s (bookL bb L n::blk bQ2 _ _::blk bQ1 _ _::blk vb _ _::amap eS eP mb p::R))).mono ?_;clear hS;rintro e w ⟨la,lc,rfl,hS⟩)|(go_at_call 171;(try simp only[Act.eval,Array.getD_eq_getD_getElem?,List.getElem?_toArray,List.getElem?_cons_succ,List.getElem?_cons_zero,Option.getD_some]at hS);refine(De7 L _ bQ2 bQ1 id who hr (by omega) W _ _ (hS.s (blk bQ2 _ _::blk bQ1 _ _::pileR (.slice la L.length lc) L::bookL bb L n::blk vb _ _::amap eS eP mb p::R))).mono ?_;clear hS;rintro e w ⟨rfl,hS⟩)|((fail_if_success (have:=bQ1));(with_reducible apply Az7 hS);(with_reducible rfl);rfl;rfl;rfl;clear hS;intro bQ1 w hS;(refine frS ?_))|((fail_if_success (have:=bQ2));(with_reducible apply Az7 hS);(with_reducible rfl);rfl;rfl;rfl;clear hS;intro bQ2 w hS;(refine frS ?_))|(refine zl1 hS ?_))
 have hS:=hS.s (bookL bb L n::blk bQ2 _ _::blk bQ1 _ _::blk vb _ _::amap eS eP mb p::R)
 refine rf3 [0,1,3,7,0,31,63,127,127,0,767,2047] (fun i=>i==9) (fun i=>if i==5 then some (.tuple #[.agg #[.int .i64 xi,.string xu,.bool xy,.int .i64 xt,.int .i64 xc,.int .i64 xp],.int .i64 0])else none) [⟨some 5,none,fun _=>bookL bb L2 n⟩,⟨some 9,some 10,fun nd=>ptrTo (nd 9) [.int .i64 0,.string ⟨#[]⟩,.bool false,.int .i64 0,.int .i64 0,.int .i64 0] 166⟩,⟨some 10,none,fun nd=>ptrTo (nd 9) [.int .i64 xi,.string xu,.bool xy,.int .i64 xt,.int .i64 xc,.int .i64 xp] 166⟩] [some 5,none,none,none,none] hS ?_
 intro nd
 (refine cR ?_)
 (refine zcn ?_)
 (refine cR ?_)
 (refine zc1 ?_)
 (refine zc1 ?_)
 (refine zcv ?_ (hs:=by(intro F w hS;(try clear hS0);exact HO7 H1.out H2.out H3.out hS)))
 iterate 3 (refine cR ?_)
 (refine zca ?_)
 (refine zct ?_)
 (refine cR ?_)
 refine Ad7 ?_
 clear hS
 intro w hS
 have hS2:St W [bookL bb L2 n,ptrTo (nd 9) _ _,blk bQ2 _ _,blk bQ1 _ _,blk vb _ _,amap eS eP mb p,sats R] w:=hS
 clear hS
 have hS:=hS2.unpack [_,_,_,_,_,_]
 clear hS2
 simp only[List.cons_append,List.nil_append]at hS
 generalize nd 9=v9 at *
 have hS7:=hS.swap
 clear hS
 have h1:=hS7.ptr
 clear hS7
 obtain⟨b9,rfl,hS⟩:=h1
 go_wp2_with(first|(go_at_call 125;refine(EP7 Hx.out Hi.out W _ _ hS).mono ?_;clear hS;rintro e w ⟨rfl,hS⟩)|(refine zl1 hS ?_)|(refine zlN hS ?_))
 have hS:=hS.s (blk vb _ _::amap eS eP mb p::bookL bb L2 n::R)
 go_loopw [37] (fun v wr=>Cn4 W (fun q=>[blk vb [.map (some mb),.pointer (some ⟨bb,0,none⟩),.int .i64 n] 176,amap eS eP mb q,bookL bb L2 n]++R) p who ⟨h0,h1',h2',h3'⟩ v wr) (fun v _=>4-(intOf v).toNat)
 case atStart=>exact .inl ⟨rfl,hS⟩
 case round=>
  clear hS
  simp only[Cn4,backP,List.cons_append,List.nil_append]at hrel
  rcases hrel with ⟨rfl,hS⟩|⟨rfl,hS⟩|⟨rfl,hS⟩|⟨rfl,hS⟩|⟨rfl,hS⟩
  ·go_wp2_with(first|((with_reducible apply Ay7);(with_reducible rfl);rfl;rfl;rfl;(first|exact idx0 _ _ _ _|exact idx1 _ _ _ _|exact idx2 _ _ _ _|exact idx3 _ _ _ _);(refine frS ?_))|(go_at_call 170;refine(CF7 vb mb _ _ _ _ _ _ ?_ ?_ ?_ W _ _ hS).mono ?_;(focus(exact G0.out _));(focus decide);(focus(exact⟨by omega,by omega⟩));clear hS;rintro e w ⟨rfl,hS⟩))
   go_roundw
   case rel=>exact .inr (.inl ⟨rfl,hS⟩)
   case measure=>simp[intOf]
  ·go_wp2_with(first|((with_reducible apply Ay7);(with_reducible rfl);rfl;rfl;rfl;(first|exact idx0 _ _ _ _|exact idx1 _ _ _ _|exact idx2 _ _ _ _|exact idx3 _ _ _ _);(refine frS ?_))|(go_at_call 170;refine(CF7 vb mb _ _ _ _ _ _ ?_ ?_ ?_ W _ _ hS).mono ?_;(focus(exact G1.out _));(focus decide);(focus(exact⟨by omega,by omega⟩));clear hS;rintro e w ⟨rfl,hS⟩))
   go_roundw
   case rel=>exact .inr (.inr (.inl ⟨rfl,hS⟩))
   case measure=>simp[intOf]
  ·go_wp2_with(first|((with_reducible apply Ay7);(with_reducible rfl);rfl;rfl;rfl;(first|exact idx0 _ _ _ _|exact idx1 _ _ _ _|exact idx2 _ _ _ _|exact idx3 _ _ _ _);(refine frS ?_))|(go_at_call 170;refine(CF7 vb mb _ _ _ _ _ _ ?_ ?_ ?_ W _ _ hS).mono ?_;(focus(exact G2.out _));(focus decide);(focus(exact⟨by omega,by omega⟩));clear hS;rintro e w ⟨rfl,hS⟩))
   go_roundw
   case rel=>exact .inr (.inr (.inr (.inl ⟨rfl,hS⟩)))
   case measure=>simp[intOf]
  ·go_wp2_with(first|((with_reducible apply Ay7);(with_reducible rfl);rfl;rfl;rfl;(first|exact idx0 _ _ _ _|exact idx1 _ _ _ _|exact idx2 _ _ _ _|exact idx3 _ _ _ _);(refine frS ?_))|(go_at_call 170;refine(CF7 vb mb _ _ _ _ _ _ ?_ ?_ ?_ W _ _ hS).mono ?_;(focus(exact G3.out _));(focus decide);(focus(exact⟨by omega,by omega⟩));clear hS;rintro e w ⟨rfl,hS⟩))
   go_roundw
   case rel=>exact .inr (.inr (.inr (.inr ⟨rfl,hS⟩)))
   case measure=>simp[intOf]
  ·go_wp2_with(fail)
   go_ret
   exact⟨rfl,hS⟩
end
end Go.Proofs.YtlmhakmoioogaaaGreat
end
