/-
  The document's At, Peek, Arrived over its economy as one resource; both economies go on alike. For every economy, all requests.
  The library's contracts laid at this program: written by the kit's tool lay-plain.
  Requests go on in both economies, and both say the same. For every two that are alike, all requests.
  The keys of an economy, sorted: of the program, and of the document. For every economy.
  The document's economy: Keys. For every economy.
-/
import Derived.Test.YtlmhakmoioogaaaGreatEconPlaysM5
import Derived.Test.YtlmhakmoioogaaaGreatEconPlaysM21
import Derived.Test.YtlmhakmoioogaaaGreatEconPlaysM37
import Derived.Test.YtlmhakmoioogaaaGreatEconPlaysM47
import Derived.Test.YtlmhakmoioogaaaGreatProg
import Derived.Shelf.SlIter.Nil
import Derived.Shelf.SlIterI.Nil
import Derived.Shelf.SortM.Plain
import Derived.Shelf.SortM.SortNone
import Derived.Ground.GgzProg
import Derived.Ground.SlgmProg
set_option maxHeartbeats 16000000
set_option maxRecDepth 100000
set_option linter.unusedSimpArgs false
set_option linter.unusedVariables false
section
namespace Go.Proofs.YtlmhakmoioogaaaGreat
open Go.RowKit Go.Sl
section
variable{W w:World}{R:List HP}{xb eb:Nat}{d e:Ec}{i:Nat}
theorem Ql7(hk:TsK d.ts){kd cl sq:Int}{ak aw tk tw:ByteArray}{it ct pr:Int}{bu:Bool}{id:Int}{r0 r1 r2 r3 r4 r5:Int}{b:Bool}(hp:peekD d ⟨kd,cl,sq,ak,aw,tk,tw,it,ct,pr,bu,id⟩=(⟨r0,r1,⟨r2,r3,r4,r5⟩⟩,b))(hS:St W (xecP xb d::R) w):
  Calls Tryz.prog 48 #[.pointer (some ⟨xb,0,none⟩),oV kd cl sq ak aw tk tw it ct pr bu id] w fun e w'=>e=.returned (.tuple #[rV r0 r1 r2 r3 r4 r5,.bool b])∧St W (xecP xb d::R) w':=by
 obtain⟨v1,v2,v3,v4,D,hd,hS⟩:=xecOpen hS
 refine(peek8 (d:=d) hk hp (hS.s (xeB xb v1 v2 v3 v4::xsP v2 d.ss::xtP v3 d.ts::xmP v4 d.ar::xrP v1 D::dvaP D::R))).mono ?_
 rintro e w' ⟨rfl,hS⟩
 exact⟨rfl,xecShut hd (hS.s _)⟩
theorem Lo7(cl sq:Int){b:Bool}(hb:(getL d.ar (cl,sq)).isSome=b)(hS:St W (xecP xb d::R) w):
  Calls Tryz.prog 82 #[.pointer (some ⟨xb,0,none⟩),.int .i64 cl,.int .i64 sq] w fun e w'=>e=.returned (.bool b)∧St W (xecP xb d::R) w':=by
 obtain⟨v1,v2,v3,v4,D,hd,hS⟩:=xecOpen hS
 refine(DT7 d.ar cl sq hb xb v1 v2 v3 v4 W _ _ (hS.s (xeB xb v1 v2 v3 v4::xmP v4 d.ar::xsP v2 d.ss::xtP v3 d.ts::xrP v1 D::dvaP D::R))).mono ?_
 rintro e w' ⟨rfl,hS⟩
 exact⟨rfl,xecShut hd (hS.s _)⟩
theorem at8_x(hA0:Asc ltB d.vs)(k u:ByteArray)(hok:VOk (atV d k).ps (atV d k).n i){x0 x1 x2 x3:Int}(hx:purseA (atV d k).ps u=⟨x0,x1,x2,x3⟩)(hS:St W (xecP xb d::R) w):
  Calls Tryz.prog 84 #[.pointer (some ⟨xb,0,none⟩),.agg #[.string k,.string u]] w fun e w'=>e=.returned (.agg #[.int .i64 x0,.int .i64 x1,.int .i64 x2,.int .i64 x3])∧St W (xecP xb d::R) w':=by
 obtain⟨v1,v2,v3,v4,D,hd,hS⟩:=xecOpen hS
 have hA:Asc ltB D:=Ir7 (hd.symm▸hA0)
 have hV:atV d k=vAt D k:=(vAt_d hA0 hd k).symm
 rw[hV]at hok hx
 clear hV
 have Hd:=Lib.hid hd
 obtain⟨p,hp⟩:∃p,plI ltB D k=p:=⟨_,rfl⟩
 have Hp:=Lib.hid hp
 cases hb:plB ltB D k with
 | false=>
  rw[Kv7 hA hb]at hx
  cases hx
  have Hb:=Lib.hid hb
  clear hb hp hd hok hA0 hA
  go_enter Tryz.func84,Tryz.ntmps84
  go_wp2_with(first|(refine zbx hS ?_;clear hS;intro bO w hS)|(refine zal hS ?_;clear hS;intro bR w hS)|(refine zl1 hS ?_)|(refine zsN hS ?_;clear hS;intro w hS)|(go_at_call 80;refine(DR7 Hp.out Hb.out xb v1 v2 v3 v4 W _ _ (hS.s (xeB xb v1 v2 v3 v4::xrP v1 D::blk bR _ _::blk bO _ _::dvaP D::xsP v2 d.ss::xtP v3 d.ts::xmP v4 d.ar::R))).mono ?_;clear hS;rintro e w ⟨rfl,hS⟩))
  (apply Ao7;rfl;rfl;rfl;exact hS;decide +kernel;(exact cesS);kernel_rfl)
  exact⟨rfl,xecShut Hd.out (hS.s _)⟩
 | true=>
  obtain⟨hpl,vb,V,hxx,hv,hD⟩:=Ku7 hA hb
  rw[hv]at hok hx
  obtain⟨a,cap,rfl⟩:=hS.drop.rowVal
  obtain⟨⟨g,rfl⟩,hcap,hcn⟩:=St.rowAddr hS.drop (by omega)
  have hc:∀{K K':List HP},Take K (xrP (.slice (some ⟨g,0,none⟩) D.length cap) D) K'→Cell K g (plI ltB D k*2+1) (.pointer (some ⟨vb,0,none⟩)):=fun hu=>Cells.elemM (enc:=rwC) Bb7 hu hpl 1 _ (by rw[hxx];rfl)
  rw[hp]at hc hpl
  have h1:=hS.s (dvaP D::xeB xb (.slice (some ⟨g,0,none⟩) D.length cap) v2 v3 v4::xrP (.slice (some ⟨g,0,none⟩) D.length cap) D::xsP v2 d.ss::xtP v3 d.ts::xmP v4 d.ar::R)
  clear hS
  obtain⟨A,hA1⟩:∃A,loA D k=A:=⟨_,rfl⟩
  obtain⟨B,hB1⟩:∃B,hiA D k=B:=⟨_,rfl⟩
  rw[hA1,hB1]at hD
  have hback:∀w' K,St W (dvP vb V::dvaP (A++B)::K) w'→St W (dvaP D::K) w':=by
   intro w' K h
   have h3:=dvaShut (x:=(k,(vb,V))) h
   rw[←hD]at h3
   exact h3
  have h2:St W (dvP vb V::dvaP (A++B)::xeB xb (.slice (some ⟨g,0,none⟩) D.length cap) v2 v3 v4::xrP (.slice (some ⟨g,0,none⟩) D.length cap) D::xsP v2 d.ss::xtP v3 d.ts::xmP v4 d.ar::R) w:=by
   have h4:St W (dvaP (A++(k,(vb,V))::B)::xeB xb (.slice (some ⟨g,0,none⟩) D.length cap) v2 v3 v4::xrP (.slice (some ⟨g,0,none⟩) D.length cap) D::xsP v2 d.ss::xtP v3 d.ts::xmP v4 d.ar::R) w:=by rw[←hD];exact h1
   exact dvaOpen h4
  obtain⟨xB,hS⟩:=dvOpen h2
  have Hb:=Lib.hid hb
  have Hback:=Lib.hid hback
  have Hx:=Lib.hid hx
  have Hok:=Lib.hid hok
  clear h1 h2 hback hD hA1 hB1 hxx hv hb hp hd hx hok hA0 hA
  go_enter Tryz.func84,Tryz.ntmps84
  go_wp2_with(first|(refine zbx hS ?_;clear hS;intro bO w hS)|(refine zal hS ?_;clear hS;intro bR w hS)|(refine zl1 hS ?_)|(go_at_call 80;refine(DR7 Hp.out Hb.out xb _ v2 v3 v4 W _ _ (hS.s (xeB xb (.slice (some ⟨g,0,none⟩) D.length cap) v2 v3 v4::xrP (.slice (some ⟨g,0,none⟩) D.length cap) D::xvP vb _ V.n V.ps::xkP xB V.L V.n::blk bR _ _::blk bO _ _::dvaP (A++B)::xsP v2 d.ss::xtP v3 d.ts::xmP v4 d.ar::R))).mono ?_;clear hS;rintro e w ⟨rfl,hS⟩))
  have hS1:=hS.s (xvP vb (.pointer (some ⟨xB,0,none⟩)) V.n V.ps::xkP xB V.L V.n::xeB xb (.slice (some ⟨g,0,none⟩) D.length cap) v2 v3 v4::xrP (.slice (some ⟨g,0,none⟩) D.length cap) D::blk bR _ _::blk bO _ _::dvaP (A++B)::xsP v2 d.ss::xtP v3 d.ts::xmP v4 d.ar::R)
  clear hS
  refine rt 11 hS1 ?_
  repeat(first|(refine zq1 ?_)|(refine zqn ?_)|(apply Aq7;(with_reducible rfl);rfl;rfl;decide +kernel;(exact hc (by exact takeS));(refine frS ?_))|(apply As7;rfl;(intro w;apply Af7;(with_reducible rfl);decide +kernel;(focus(simp only[fD,fI,fJ,Act.eval,fE,fF,fG,fH,fK];try rfl)));(intro w hS;exact has8P Hok.out.w Hx.out hS);(refine frS ?_))|(refine qR ?_))
  clear hS1
  intro w hS
  simp only[List.drop_succ_cons,List.drop_zero]
  go_wp2_with(first|(refine zsN hS ?_;clear hS;intro w hS))
  (apply Ao7;rfl;rfl;rfl;exact hS;decide +kernel;(exact cesS);kernel_rfl)
  have h1:=dvShut (V:=V) (hS.s (xvP vb (.pointer (some ⟨xB,0,none⟩)) V.n V.ps::xkP xB V.L V.n::dvaP (A++B)::xeB xb (.slice (some ⟨g,0,none⟩) D.length cap) v2 v3 v4::xrP (.slice (some ⟨g,0,none⟩) D.length cap) D::xsP v2 d.ss::xtP v3 d.ts::xmP v4 d.ar::R))
  have h2:=Hback.out _ _ h1
  exact⟨rfl,xecShut Hd.out (h2.s _)⟩
theorem Qm7{kd cl sq:Int}{ak aw tk tw:ByteArray}{it ct pr:Int}{bu:Bool}{id:Int}{r0 r1 r2 r3 r4 r5:Int}{b:Bool}(hp:peekE e ⟨kd,cl,sq,ak,aw,tk,tw,it,ct,pr,bu,id⟩=(⟨r0,r1,⟨r2,r3,r4,r5⟩⟩,b))(hS:St W (ecP eb e::R) w):
  Calls Tryz.prog 33 #[.pointer (some ⟨eb,0,none⟩),oV kd cl sq ak aw tk tw it ct pr bu id] w fun x w'=>x=.returned (.tuple #[rV r0 r1 r2 r3 r4 r5,.bool b])∧St W (ecP eb e::R) w':=by
 obtain⟨m1,m2,m3,m4,E,h1,hn,hS⟩:=ecOpenR hS
 refine(Ba7 (vs:=e.vs) hp W _ _ hS).mono ?_
 rintro x w' ⟨rfl,hS⟩
 exact⟨rfl,ecShut h1 (evOpen hS)⟩
theorem Kx7:∀{E:Ev} {R:List HP},St W (vauP E::R) w→∀x∈E,(∀o∈x.2.2.L,MayP o)∧x.2.2.L.length≤32
 | [],_,_,_,hx=>by cases hx
 | y::E,R,h,x,hx=>by
  have h1:=vauOpen (E:=E) h
  rcases List.mem_cons.1 hx with rfl|hx
  ·obtain⟨mb,bb,h2⟩:=vaultOpen h1
   exact⟨fun o ho=>(Bj7 h2.drop.drop o ho).1,BM7 h2.drop.drop⟩
  ·exact Kx7 h1.drop x hx
theorem FU7(h:St W (ecP eb e::R) w):∀x∈e.vs,(∀o∈x.2.L,MayP o)∧x.2.L.length≤32:=by
 obtain⟨m1,m2,m3,m4,E,hp,h⟩:=ecOpen h
 have h1:St W (vauP E::R) w:=h.s _
 intro x hx
 obtain⟨y,hy,rfl⟩:=List.mem_map.1 (hp.mem_iff.2 hx)
 exact Kx7 h1 y hy
end
theorem vOk_i(i:Nat):VOk [] 1 i:=⟨EN7,Mv7 _,by decide,by omega⟩
structure GOk(d e:Ec)(n:Nat):Prop where
 sim:SimE d e
 ok:EOk e n
 lv:d.vs.length≤n
 ls:d.ss.length≤n
 lt:d.ts.length≤n
 la:d.ar.length≤n
theorem gOk0:GOk ec0 ec0 0:=⟨sim0,eOk0 0,Nat.le_refl _,Nat.le_refl _,Nat.le_refl _,Nat.le_refl _⟩
theorem GOk.dok{d e:Ec}{n:Nat}(h:GOk d e n)(hn:n≤5000)(he:∀x∈e.vs,(∀o∈x.2.L,MayP o)∧x.2.L.length≤32)(k:ByteArray):DOk d k n:=by
 have h1:VOk (atV d k).ps (atV d k).n n∧(∀x∈(atV d k).L,MayP x)∧(atV d k).L.length≤32:=by
  rw[h.sim.at]
  unfold atV
  cases hg:getL e.vs k with
  | none=>exact⟨vOk_i n,fun x hx=>(by cases hx),Nat.zero_le _⟩
  | some V=>
   have h2:=AK7 hg
   exact⟨h.ok _ h2,(he _ h2).1,(he _ h2).2⟩
 have:=h.lv;have:=h.ls;have:=h.lt;have:=h.la
 exact⟨h.sim.va,h.sim.sn,h.sim.tk,by omega,by omega,by omega,by omega,h1.1,h1.2.1,h1.2.2⟩
section
variable{κ ν:Type}[DecidableEq κ]
theorem Nh7{lt:κ→κ→Bool}(l:List (κ×ν))(k:κ)(v:ν):(plS lt l k v).length≤l.length+1:=by
 have h:=Im7 lt k l
 unfold plS
 rw[List.length_append,List.length_cons,List.length_take,List.length_drop]
 split <;> omega
theorem Ky7(l:List ((Int×Int)×ν))(k:Int×Int)(v:ν):(insW l k v).length≤l.length+1:=by
 have h:=Im7 ltW k l
 unfold insW
 rw[List.length_append,List.length_cons,List.length_take,List.length_drop]
 omega
theorem Qn7{α:Type}(l:List α)(i:Int):(rmI l i).length≤l.length:=by
 unfold rmI
 rw[List.length_append,List.length_take,List.length_drop]
 omega
end
theorem Qo7(l:List (ByteArray×Vs)):(clV l).length≤l.length:=List.length_filter_le _ _
theorem OF7(d:Ec)(o:Opn):(appD d o).2.2.vs.length≤d.vs.length+1∧(appD d o).2.2.ss.length≤d.ss.length+1∧(appD d o).2.2.ts.length≤d.ts.length+1∧(appD d o).2.2.ar.length≤d.ar.length+1:=by
 unfold appD
 split
 ·exact⟨Nat.le_succ _,Nat.le_succ _,Nat.le_succ _,Nat.le_succ _⟩
 ·refine⟨?_,?_,?_,?_⟩
  ·show(vsD d o).length≤_
   unfold vsD
   refine Nat.le_trans (Qo7 _) ?_
   split
   ·omega
   ·exact Nh7 _ _ _
  ·show(ssD d o _).length≤_
   unfold ssD
   split
   ·omega
   ·exact Nh7 _ _ _
  ·show(tsD d o _).length≤_
   unfold tsD
   split
   ·exact Ky7 _ _ _
   ·split
    ·exact Nat.le_trans (Qn7 _ _) (by omega)
    ·omega
  ·show(arD d o).length≤_
   unfold arD
   split
   ·exact Ky7 _ _ _
   ·omega
theorem GOk.app{d e:Ec}{n:Nat}(h:GOk d e n)(o:Opn)(hok:EOk (appE e o).2.2 (n+1)):GOk (appD d o).2.2 (appE e o).2.2 (n+1):=by
 obtain⟨h1,h2,h3,h4⟩:=OF7 d o
 have:=h.lv;have:=h.ls;have:=h.lt;have:=h.la
 exact⟨(Jt7 h.sim o).2.2,hok,by omega,by omega,by omega,by omega⟩
end Go.Proofs.YtlmhakmoioogaaaGreat
end
section
namespace Go.Proofs.YtlmhakmoioogaaaGreat
open Go.Shelf
def Tryz.keysV_ren:Go.Shelf.Ren:=⟨fun|7=>63|10=>131|n=>n,fun|23=>79|26=>9|3=>100|28=>115|0=>0|27=>114|33=>178|4=>4|n=>n,fun|n=>n⟩
theorem Tryz.keysV:Go.Proofs.SlLaysZ.n7 Tryz.prog Tryz.keysV_ren:={
 mixed:=by kernel_rfl
 f7:=⟨Tryz.f63.name,by decide,Tryz.func63.trans (congrArg some (by kernel_rfl))⟩
 f10:=⟨Tryz.f131.name,by decide,Tryz.func131.trans (congrArg some (by kernel_rfl))⟩
 t0:=Tryz.underlying0
 a0:=Tryz.isAgg0
 z0:=Tryz.sizeOf0
 v0:=Tryz.zeroValue0
 t4:=Tryz.underlying4
 a4:=Tryz.isAgg4
 z4:=Tryz.sizeOf4
 v4:=Tryz.zeroValue4
 t23:=Tryz.underlying79
 a23:=Tryz.isAgg79
 z23:=Tryz.sizeOf79
 v23:=Tryz.zeroValue79
 t26:=Tryz.underlying9
 a26:=Tryz.isAgg9
 z26:=Tryz.sizeOf9
 v26:=Tryz.zeroValue9
 t27:=Tryz.underlying114
 a27:=Tryz.isAgg114
 z27:=Tryz.sizeOf114
 v27:=Tryz.zeroValue114
 t28:=Tryz.underlying115
 a28:=Tryz.isAgg115
 z28:=Tryz.sizeOf115
 v28:=Tryz.zeroValue115
 t33:=Tryz.underlying178
 a33:=Tryz.isAgg178
 z33:=Tryz.sizeOf178
 v33:=Tryz.zeroValue178 }
end Go.Proofs.YtlmhakmoioogaaaGreat
end
section
namespace Go.Proofs.YtlmhakmoioogaaaGreat
open Go.RowKit Go.Sl
def runD(l:List Opn)(d:Ec):Ec:=l.foldl (fun d o=>(appD d o).2.2) d
theorem Qp7{xs:List Opn}{i:Nat}(h:i<xs.length)(e:Ec):runE (xs.take (i+1)) e=(appE (runE (xs.take i) e) xs[i]).2.2:=by
 unfold runE
 rw[List.take_succ_eq_append_getElem h,List.foldl_append]
 rfl
theorem Qq7{xs:List Opn}{i:Nat}(h:i<xs.length)(d:Ec):runD (xs.take (i+1)) d=(appD (runD (xs.take i) d) xs[i]).2.2:=by
 unfold runD
 rw[List.take_succ_eq_append_getElem h,List.foldl_append]
 rfl
theorem Qr7(e:Ec)(o:Opn):(appE e o).2.1=!(peekE e o).2:=by
 unfold appE
 by_cases h:(peekE e o).2=true
 ·rw[if_pos h,h];rfl
 ·rw[if_neg h]
  have:(peekE e o).2=false:=by simpa using h
  rw[this];rfl
theorem GOk.vok{d e:Ec}{n:Nat}(h:GOk d e n)(k:ByteArray):VOk (atV d k).ps (atV d k).n n:=by
 rw[h.sim.at]
 unfold atV
 cases hg:getL e.vs k with
 | none=>exact vOk_i n
 | some V=>exact h.ok _ (AK7 hg)
def KeepE(I:Ec→Nat→Prop):Prop:=∀(e:Ec) (n:Nat) (o:Opn),I e n→(∀x∈e.vs,(∀o∈x.2.L,MayP o)∧x.2.L.length≤32)→(∀x∈(appE e o).2.2.vs,(∀o∈x.2.L,MayP o)∧x.2.L.length≤32)→EOk (appE e o).2.2 (n+1)→I (appE e o).2.2 (n+1)
def GoR(I:Ec→Nat→Prop)(W:World)(Lr:List HP)(eb xb:Nat)(xs:List Opn)(d e:Ec)(n:Nat)(v:Value)(w:World):Prop:=
 ∃i:Nat,v=.int .i64 i∧i≤xs.length∧GOk (runD (xs.take i) d) (runE (xs.take i) e) (n+i)∧I (runE (xs.take i) e) (n+i)∧St W (ecP eb (runE (xs.take i) e)::xecP xb (runD (xs.take i) d)::Lr) w
section
variable{W w:World}{L R:List HP}{eb xb:Nat}{d e:Ec}{i:Nat}{k u:ByteArray}{x0 x1 x2 x3 cl sq:Int}{b:Bool}
theorem atA(ht:Take L (ecP eb e) R)(hx:purseA (atV e k).ps u=⟨x0,x1,x2,x3⟩)(hS:St W L w):
  Calls Tryz.prog 18 #[.pointer (some ⟨eb,0,none⟩),.agg #[.string k,.string u]] w fun x w'=>x=.returned (.agg #[.int .i64 x0,.int .i64 x1,.int .i64 x2,.int .i64 x3])∧St W L w':=by
 refine(Ks7 k u hx W w R (hS.take ht)).mono ?_
 rintro x w' ⟨rfl,hS⟩
 exact⟨rfl,hS.back ht⟩
theorem at8A(ht:Take L (xecP xb d) R)(hA:Asc ltB d.vs)(hok:VOk (atV d k).ps (atV d k).n i)(hx:purseA (atV d k).ps u=⟨x0,x1,x2,x3⟩)(hS:St W L w):
  Calls Tryz.prog 84 #[.pointer (some ⟨xb,0,none⟩),.agg #[.string k,.string u]] w fun x w'=>x=.returned (.agg #[.int .i64 x0,.int .i64 x1,.int .i64 x2,.int .i64 x3])∧St W L w':=by
 refine(at8_x hA k u hok hx (hS.take ht)).mono ?_
 rintro x w' ⟨rfl,hS⟩
 exact⟨rfl,hS.back ht⟩
theorem arrA(ht:Take L (ecP eb e) R)(hb:(getL e.ar (cl,sq)).isSome=b)(hS:St W L w):
  Calls Tryz.prog 19 #[.pointer (some ⟨eb,0,none⟩),.int .i64 cl,.int .i64 sq] w fun x w'=>x=.returned (.bool b)∧St W L w':=by
 refine(Il7 cl sq hb W w R (hS.take ht)).mono ?_
 rintro x w' ⟨rfl,hS⟩
 exact⟨rfl,hS.back ht⟩
theorem arr8A(ht:Take L (xecP xb d) R)(hb:(getL d.ar (cl,sq)).isSome=b)(hS:St W L w):
  Calls Tryz.prog 82 #[.pointer (some ⟨xb,0,none⟩),.int .i64 cl,.int .i64 sq] w fun x w'=>x=.returned (.bool b)∧St W L w':=by
 refine(Lo7 cl sq hb (hS.take ht)).mono ?_
 rintro x w' ⟨rfl,hS⟩
 exact⟨rfl,hS.back ht⟩
end
theorem Ni7{xb:Nat}{d d2:Ec}{i:Nat}(hi:i≤5000){kd cl sq:Int}{ak aw tk tw:ByteArray}{it ct pr:Int}{bu:Bool}{id:Int}(hd0:DOk d ak i){r0 r1 r2 r3 r4 r5:Int}{b:Bool}(h:appD d ⟨kd,cl,sq,ak,aw,tk,tw,it,ct,pr,bu,id⟩=(⟨r0,r1,⟨r2,r3,r4,r5⟩⟩,b,d2))(W w:World)(R:List HP)(hS:St W (xecP xb d::R) w):
  Calls Tryz.prog 21 #[.pointer (some ⟨xb,0,none⟩),oV kd cl sq ak aw tk tw it ct pr bu id] w fun x w'=>x=.returned (.tuple #[rV r0 r1 r2 r3 r4 r5,.bool b])∧St W (xecP xb d2::R) w':=by
 have h1:=OE7 hi (kd:=kd) (cl:=cl) (sq:=sq) (aw:=aw) (tk:=tk) (tw:=tw) (it:=it) (ct:=ct) (pr:=pr) (bu:=bu) (id:=id) hd0 W w R hS
 rw[h]at h1
 exact h1
theorem Nj7{eb:Nat}{e e2:Ec}{i:Nat}(hE:EOk e i)(hi:i≤1000000){kd cl sq:Int}{ak aw tk tw:ByteArray}{it ct pr:Int}{bu:Bool}{id:Int}{r0 r1 r2 r3 r4 r5:Int}{b:Bool}(h:appE e ⟨kd,cl,sq,ak,aw,tk,tw,it,ct,pr,bu,id⟩=(⟨r0,r1,⟨r2,r3,r4,r5⟩⟩,b,e2))(W w:World)(R:List HP)(hS:St W (ecP eb e::R) w):
  Calls Tryz.prog 16 #[.pointer (some ⟨eb,0,none⟩),oV kd cl sq ak aw tk tw it ct pr bu id] w fun x w'=>EOk e2 (i+1)∧x=.returned (.tuple #[rV r0 r1 r2 r3 r4 r5,.bool b])∧St W (ecP eb e2::R) w':=GX7 hE hi h W w R hS
theorem Nk7(xs:List Opn)(hlen:xs.length≤150)(v:Value)(V:World)(hv:SliceV Opn.cells 12 V v xs){d e:Ec}{n:Nat}(hn:n≤4000)(h:GOk d e n){I:Ec→Nat→Prop}(hI:KeepE I)(hi0:I e n)(eb xb:Nat)(W w:World)(Lr:List HP)(hS:St W (ecP eb e::xecP xb d::Old V::Lr) w):
  Calls Tryz.prog 32 #[.pointer (some ⟨eb,0,none⟩),.pointer (some ⟨xb,0,none⟩),v] w fun r w'=>r=.returned (.bool true)∧GOk (runD xs d) (runE xs e) (n+xs.length)∧I (runE xs e) (n+xs.length)∧St W (ecP eb (runE xs e)::xecP xb (runD xs d)::Old V::Lr) w':=by
 obtain⟨a,cap,rfl,h63,hact⟩:=hv.opn
 have Ha:=Lib.hid hact
 have HG0:=Lib.hid h
 have HI:=Lib.hid hI
 have HI0:=Lib.hid hi0
 clear hact hv h hI hi0
 go_enter Tryz.func32,Tryz.ntmps32
 go_wp2_with(fail)
 go_loopw [7] (fun v wr=>GoR I W (Old V::Lr) eb xb xs d e n v wr) (fun v _=>xs.length-(intOf v).toNat)
 case atStart=>exact⟨0,rfl,Nat.zero_le _,HG0.out,HI0.out,hS⟩
 case round=>
  clear hS
  obtain⟨i,rfl,hi,hG,hi1,hS⟩:=hrel
  by_cases hend:i=xs.length
  ·subst hend
   have d3:decide ((xs.length:Int)<(xs.length:Int))=false:=by simp
   rw[List.take_length]at hS hG hi1
   have HG:=Lib.hid hG
   have HI1:=Lib.hid hi1
   clear hG hi1
   go_wp2_with(fail)
   go_ret
   exact⟨rfl,HG.out,HI1.out,hS⟩
  have hil:i<xs.length:=by omega
  have dil:decide ((i:Int)<(xs.length:Int))=true:=by simp;omega
  have hi6:n+i≤4150:=by omega
  clear hend hi
  obtain⟨pb,poff,rfl,hA⟩:=Ha.out i hil
  have hall:=hA.all
  have hcl:=hA.client
  have hsq:=hA.seq
  have hpl:∀(j:Nat) (v:Value),([.string xs[i].ak,.string xs[i].aw]:List Value)[j]? = some v→V.cell? ⟨pb,poff+i*12+3+j,none⟩=some v:=by
   intro j v hj
   match j,hj with
   | 0,hj=>cases hj;exact hA.ak
   | 1,hj=>cases hj;exact hA.aw
   | j+2,hj=>simp at hj
  clear hA
  have hs1:=Qp7 hil e
  have hs2:=Qq7 hil d
  obtain⟨e1,he⟩:∃z,runE (xs.take i) e=z:=⟨_,rfl⟩
  obtain⟨d1,hd⟩:∃z,runD (xs.take i) d=z:=⟨_,rfl⟩
  rw[he]at hG hS hs1 hi1
  rw[hd]at hG hS hs2
  clear he hd
  generalize xs[i]=x at hall hcl hsq hpl hs1 hs2
  obtain⟨kd,cl,sq,ak,aw,tk,tw,it,ct,pr,bu,id⟩:=x
  simp only[Opn.cells]at hall hcl hsq hpl
  obtain⟨⟨⟨p0,p1,⟨p2,p3,p4,p5⟩⟩,pk⟩,hp⟩:∃z,peekE e1 ⟨kd,cl,sq,ak,aw,tk,tw,it,ct,pr,bu,id⟩=z:=⟨_,rfl⟩
  obtain⟨⟨⟨r0,r1,⟨r2,r3,r4,r5⟩⟩,rb,e2⟩,h1⟩:∃z,appE e1 ⟨kd,cl,sq,ak,aw,tk,tw,it,ct,pr,bu,id⟩=z:=⟨_,rfl⟩
  have hrb:rb=!pk:=by
   have:=Qr7 e1 ⟨kd,cl,sq,ak,aw,tk,tw,it,ct,pr,bu,id⟩
   rw[h1,hp]at this
   exact this
  have hq:peekD d1 ⟨kd,cl,sq,ak,aw,tk,tw,it,ct,pr,bu,id⟩=(⟨p0,p1,⟨p2,p3,p4,p5⟩⟩,pk):=by rw[hG.sim.peek,hp]
  obtain⟨d2,hd2⟩:∃z,(appD d1 ⟨kd,cl,sq,ak,aw,tk,tw,it,ct,pr,bu,id⟩).2.2=z:=⟨_,rfl⟩
  have h2:appD d1 ⟨kd,cl,sq,ak,aw,tk,tw,it,ct,pr,bu,id⟩=(⟨r0,r1,⟨r2,r3,r4,r5⟩⟩,rb,d2):=by
   obtain⟨g1,g2,_⟩:=Jt7 hG.sim ⟨kd,cl,sq,ak,aw,tk,tw,it,ct,pr,bu,id⟩
   rw[h1]at g1 g2
   exact Prod.ext g1 (Prod.ext g2 hd2)
  have hgn:=hG.app ⟨kd,cl,sq,ak,aw,tk,tw,it,ct,pr,bu,id⟩
  have hin:=HI.out e1 (n+i) ⟨kd,cl,sq,ak,aw,tk,tw,it,ct,pr,bu,id⟩ hi1
  rw[h1]at hs1 hgn hin
  rw[h2]at hs2 hgn
  dsimp only at hs1 hs2 hgn hin
  have hsim2:SimE d2 e2:=by
   have:=(Jt7 hG.sim ⟨kd,cl,sq,ak,aw,tk,tw,it,ct,pr,bu,id⟩).2.2
   rw[h1,h2]at this
   exact this
  obtain⟨⟨z0,z1,z2,z3⟩,hz⟩:∃z,purseA (atV e2 ak).ps aw=z:=⟨_,rfl⟩
  have hz2:purseA (atV d2 ak).ps aw=⟨z0,z1,z2,z3⟩:=by rw[hsim2.at];exact hz
  obtain⟨y,hy⟩:∃y,(getL e2.ar (cl,sq)).isSome=y:=⟨_,rfl⟩
  have hy2:(getL d2.ar (cl,sq)).isSome=y:=by rw[AA7 hsim2.an hsim2.a];exact hy
  have Htk:=Lib.hid hG.sim.tk
  have HG:=Lib.hid hG
  have Hp:=Lib.hid hp
  have Hq:=Lib.hid hq
  have H1:=Lib.hid h1
  have H2:=Lib.hid h2
  have G2:=Lib.hid hgn
  have HIn:=Lib.hid hin
  have S1:=Lib.hid hs1
  have S2:=Lib.hid hs2
  have Hz:=Lib.hid hz
  have Hz2:=Lib.hid hz2
  have Hy:=Lib.hid hy
  have Hy2:=Lib.hid hy2
  clear hi1 hin hG hp hq h1 h2 hgn hs1 hs2 hz hz2 hy hy2 hd2 hsim2
  have heq:((z0==z0)&&((z1==z1)&&((z2==z2)&&(z3==z3))))=true:=by simp
  have hep:Rpl.eqB ⟨p0,p1,⟨p2,p3,p4,p5⟩⟩ ⟨p0,p1,⟨p2,p3,p4,p5⟩⟩=true:=by unfold Rpl.eqB;simp
  have her:Rpl.eqB ⟨r0,r1,⟨r2,r3,r4,r5⟩⟩ ⟨r0,r1,⟨r2,r3,r4,r5⟩⟩=true:=by unfold Rpl.eqB;simp
  subst hrb
  cases pk
  all_goals cases y
  all_goals
   go_wp2_with(first|(refine zlN hS ?_ (vs:=[.int .i64 kd,.int .i64 cl,.int .i64 sq,.string ak,.string aw,.string tk,.string tw,.int .i64 it,.int .i64 ct,.int .i64 pr,.bool bu,.int .i64 id]) (hc:=by exact Cells.old (by exact memS) hall))|((fail_if_success (have:=gA));(refine zal hS ?_;clear hS;have gA:Nat:=0;intro bA w hS))|((have:=gA);(fail_if_success (have:=gB));(refine zal hS ?_;clear hS;have gB:Nat:=0;intro bB w hS))|((have:=gB);(fail_if_success (have:=gC));(refine zal hS ?_;clear hS;have gC:Nat:=0;intro bC w hS))|((have:=gC);(refine zal hS ?_;clear hS;intro bD w hS))|(refine zsN hS ?_;clear hS;intro w hS)|(go_at_call 33;refine(Qm7 Hp.out (hS.s (ecP eb e1::xecP xb d1::Old V::Lr))).mono ?_;clear hS;rintro ex w ⟨rfl,hS⟩)|(go_at_call 48;refine(Ql7 Htk.out Hq.out (hS.s (xecP xb d1::ecP eb e1::blk bA _ _::Old V::Lr))).mono ?_;clear hS;rintro ex w ⟨rfl,hS⟩)|(go_at_call 16;have hS9:=hS.s (ecP eb e1::xecP xb d1::blk bB _ _::blk bA _ _::Old V::Lr);clear hS;have hdk:=HG.out.dok (by omega) (FU7 hS9) ak;have Hdk:=Lib.hid hdk;clear hdk;have heE:=FU7 hS9;have HeE:=Lib.hid heE;clear heE;refine(Nj7 HG.out.ok (by omega) H1.out W _ _ hS9).mono ?_;clear hS9;rintro ex w ⟨hok2,rfl,hS⟩;have Hok2:=Lib.hid hok2;clear hok2)|(go_at_call 21;refine(Ni7 (by omega) Hdk.out H2.out W _ _ (hS.s (xecP xb d1::ecP eb e2::blk bC _ _::blk bB _ _::blk bA _ _::Old V::Lr))).mono ?_;clear hS;rintro ex w ⟨rfl,hS⟩))
   have hg2:=G2.out Hok2.out
   have HG2:=Lib.hid hg2
   have HA2:=Lib.hid hg2.sim.va
   have HV2:=Lib.hid (hg2.vok ak)
   clear hg2
   have hS1:=hS.s (ecP eb e2::xecP xb d2::blk bA _ _::blk bB _ _::blk bC _ _::blk bD _ _::Old V::Lr)
   have HI2:=Lib.hid (HIn.out HeE.out (FU7 hS1) Hok2.out)
   clear hS
   refine Aa7 (by kernel_rfl) (by kernel_rfl) hS1 ?_
   repeat(first|(refine zqN ?_)|(refine zqN ?_ (vs:=[.string ak,.string aw]) (hc:=by exact Cells.old (by exact memS) hpl))|(refine zq1 ?_ (hc:=by first|exact Cell.old (by exact memS) hcl|exact Cell.old (by exact memS) hsq))|((apply Kn7);(with_reducible rfl);rfl;rfl;rfl;kernel_rfl;exact GZ7 hep;(simp only[Bool.not_true]);(refine frS ?_))|((apply Kn7);(with_reducible rfl);rfl;rfl;rfl;kernel_rfl;exact GZ7 her;(simp only[Bool.not_true]);(refine frS ?_))|((apply Kn7);(with_reducible rfl);rfl;rfl;rfl;kernel_rfl;exact eqI _ _ _ _ _ _ _ _;(rw[heq]);(simp only[Bool.not_true]);(refine frS ?_))|(apply As7;rfl;(intro w;apply Af7;(with_reducible rfl);decide +kernel;(focus(simp only[fD,fI,fJ,Act.eval,fE,fF,fG,fH,fK];try rfl)));(intro w hS;exact atA .head Hz.out hS);(refine frS ?_))|(apply As7;rfl;(intro w;apply Af7;(with_reducible rfl);decide +kernel;(focus(simp only[fD,fI,fJ,Act.eval,fE,fF,fG,fH,fK];try rfl)));(intro w hS;exact at8A (.tail .head) HA2.out HV2.out Hz2.out hS);(refine frS ?_))|(apply As7;rfl;(intro w;apply Af7;(with_reducible rfl);decide +kernel;(focus(simp only[fD,fI,fJ,Act.eval,fE,fF,fG,fH,fK];try rfl)));(intro w hS;exact arrA .head Hy.out hS);(refine frS ?_))|(apply As7;rfl;(intro w;apply Af7;(with_reducible rfl);decide +kernel;(focus(simp only[fD,fI,fJ,Act.eval,fE,fF,fG,fH,fK];try rfl)));(intro w hS;exact arr8A (.tail .head) Hy2.out hS);(refine frS ?_))|(refine qR ?_))
   clear hS1
   intro w hS
   go_wp2_with(fail)
   go_roundw
   case rel=>exact⟨i+1,rfl,hil,by rw[S1.out,S2.out];exact HG2.out,by rw[S1.out];exact HI2.out,by rw[S1.out,S2.out];exact hS.s _⟩
   case measure=>simp[intOf];try omega
end Go.Proofs.YtlmhakmoioogaaaGreat
end
section
namespace Go.Proofs.YtlmhakmoioogaaaGreat
open Go.RowKit Go.Maps Go.Sort Go.Shelf Go.Sl
theorem Lp7(mb:Option Nat)(W w:World)(L:List HP)(hS:St W L w):
  Calls Tryz.prog 63 #[.map mb] w fun e w'=>∃g,e=.returned (.func (.func 131) #[] #[.pointer (some ⟨g,0,none⟩)])∧St W (blk g [.map mb] 79::L) w':=by
 have cK:CallsIn Fence.wide 5 Tryz.prog 63 #[.map mb] w fun e w'=>e=.returned (.func (.func 131) #[] #[.pointer (some ⟨w.heap.size,0,none⟩)])∧w'=w.alloc (.cells #[.map mb] 79):=AnyZ.keys_in Tryz.keysV Fence.wide 5 trivial rfl mb w
 refine((callsIn_wide (n:=5)).1 cK).mono ?_
 rintro e w' ⟨rfl,rfl⟩
 exact⟨_,rfl,hS.alloc _⟩
section
variable{ν:Type}{ev:ν→Value}{W w:World}{L:List HP}{b g:Nat}
theorem Iu7{l:List (ByteArray×ν)}(hwf:∀x∈l,x.1.size≤maxLen)(hl:l.length≤1000000000)(hS:St W (blk g [.map (some b)] 79::amap eS ev b l::L) w):
  Calls Tryz.prog 62 #[.func (.func 131) #[] #[.pointer (some ⟨g,0,none⟩)]] w fun e w'=>∃v,e=.returned v∧St W (row v 1 9 l.length ((sortB (l.map (·.1))).map eS)::amap eS ev b l::L) w':=by
 obtain⟨D,hD1,hD2,hD3⟩:=ownsAS hS.drop hwf (by unfold maxLen;omega)
 have hseq:SeqGives Fence.wide 2 Tryz.prog 131 #[.pointer (some ⟨g,0,none⟩)] encStr (fun ss=>ss.Perm (strKeys D)) (Maps.size D) w:=
  AnyZ.keys_gives (ρ:=Tryz.keysV_ren) { Tryz.keysV with } Fence.wide _ trivial rfl (by omega) g b l.length D _ (Array.getElem?_eq_some_iff.1 (hS.get (b:=g) .head)).1 (hS.cell (b:=g) (off:=0) .head rfl) hD1
 have cS:=AnyZ.sorted_in Tryz.sortedS Fence.wide 5 trivial trivial trivial trivial rfl (by omega) (sortsS _) (enters_of Tryz.func130 (by kernel_rfl) rfl) 131 #[.pointer (some ⟨g,0,none⟩)] trivial (enters_of Tryz.func131 (by kernel_rfl) rfl) _ _ (by rw[hD2];unfold maxLen;omega) (by rw[hD2];omega) _ hseq
 change CallsIn _ _ Tryz.prog 62 _ _ _ at cS
 refine((callsIn_wide (n:=5)).1 cS).mono ?_
 rintro e w' ⟨v,ss,rfl,hP,hrow,hnil,hb⟩
 refine⟨v,rfl,?_⟩
 have hp:=hP.trans hD3
 have e:=Kf7 (l:=l.map (·.1)) (ss:=ss) (by rw[List.map_map];exact hp)
 rw[e,show ss.length=l.length by rw[hp.length_eq,List.length_map]]at hrow
 exact(hS.drop).called hb hrow
end
theorem Dm7{l l':List ByteArray}(h:l.Perm l'):sortB l=sortB l':=
 List.Perm.eq_of_pairwise (fun a b _ _ h1 h2=>EQ7 h1 h2) (AG7 l) (AG7 l') (((Au7 l).trans h).trans (Au7 l').symm)
theorem Rb7{x y:ByteArray}(h:ltB x y=true):leB x y=true:=DH7 h
theorem Iv7{ν:Type}{l:List (ByteArray×ν)}(h:Asc ltB l):sortB (l.map (·.1))=l.map (·.1):=by
 refine List.Perm.eq_of_pairwise (fun a b _ _ h1 h2=>EQ7 h1 h2) (AG7 _) ?_ (Au7 _)
 exact List.pairwise_map.2 (List.Pairwise.imp (fun h=>Rb7 h) h)
def ksE(e:Ec):List ByteArray:=sortB (e.vs.map (·.1))
theorem Hd7(e:Ec):(ksE e).length=e.vs.length:=by unfold ksE;rw[(Au7 _).length_eq,List.length_map]
theorem Qs7{d e:Ec}(h:SimE d e):d.vs.map (·.1)=ksE e:=by
 unfold ksE
 rw[←Iv7 h.va,Dm7 (h.v.map _)]
abbrev strR(v:Value)(l:List ByteArray):HP:=row v 1 9 l.length (l.map eS)
theorem Iw7{eb:Nat}{e:Ec}(hk:∀x∈e.vs,x.1.size≤maxLen)(hl:e.vs.length≤1000000)(W w:World)(R:List HP)(hS:St W (ecP eb e::R) w):
  Calls Tryz.prog 25 #[.pointer (some ⟨eb,0,none⟩)] w fun x w'=>∃v,x=.returned v∧St W (strR v (ksE e)::ecP eb e::R) w':=by
 obtain⟨m1,m2,m3,m4,E,hp,hn,hS0⟩:=ecOpenR hS
 have hS1:=evOpen hS0
 clear hS hS0
 have hpk:((ptrsE E).map (·.1)).Perm (e.vs.map (·.1)):=by rw[AM7,←Bk7];exact hp.map _
 have hks:sortB ((ptrsE E).map (·.1))=ksE e:=Dm7 hpk
 have hlk:(ptrsE E).length=(ksE e).length:=by rw[Hd7];have:=hpk.length_eq;rw[List.length_map,List.length_map]at this;exact this
 have hwf:∀x∈ptrsE E,x.1.size≤maxLen:=fun x hx=>by
  have h1:=hpk.mem_iff.1 (List.mem_map.2 ⟨x,hx,rfl⟩)
  obtain⟨y,hy,hxy⟩:=List.mem_map.1 h1
  rw[←hxy]
  exact hk y hy
 have hl2:(ptrsE E).length≤1000000000:=by rw[hlk,Hd7];omega
 have Hp:=Lib.hid hp
 have Hks:=Lib.hid hks
 have Hlk:=Lib.hid hlk
 have Hwf:=Lib.hid hwf
 have Hl2:=Lib.hid hl2
 clear hp hn hpk hks hlk hwf hl2 hl
 have hS:=hS1
 clear hS1
 go_enter Tryz.func25,Tryz.ntmps25
 go_wp2_with(first|go_big_skip|(refine zl1 hS ?_)|(go_at_call 63;refine(Lp7 (some m1) W _ _ hS).mono ?_;clear hS;rintro x w ⟨g,rfl,hS⟩)|(go_at_call 62;refine(Iu7 (g:=g) (b:=m1) (ev:=eN) (l:=ptrsE E) Hwf.out Hl2.out (hS.s (blk g _ _::amap eS eN m1 (ptrsE E)::ebB eb m1 m2 m3 m4::vauP E::amap eI eSs m2 e.ss::amap eW eTn m3 e.ts::amap eW eU m4 e.ar::R))).mono ?_;clear hS;rintro x w ⟨v,rfl,hS⟩))
 go_ret
 rw[Hks.out,Hlk.out]at hS
 have h1:=hS.s (ebB eb m1 m2 m3 m4::amap eS eN m1 (ptrsE E)::vauP E::amap eI eSs m2 e.ss::amap eW eTn m3 e.ts::amap eW eU m4 e.ar::strR v (ksE e)::R)
 exact⟨v,rfl,(ecShut Hp.out h1).swap⟩
end Go.Proofs.YtlmhakmoioogaaaGreat
end
section
namespace Go.Proofs.YtlmhakmoioogaaaGreat
open Go.RowKit Go.Sl
def K8R(W:World)(L:List HP)(D:Ev)(v3 v4:Value)(w:World):Prop:=
 ∃k:Nat,v4=.int .i64 k∧k≤D.length∧St W (strR v3 ((D.take k).map (·.1))::L) w
theorem Qt7{xb:Nat}{d:Ec}(hl:d.vs.length≤1000000)(W w:World)(R:List HP)(hS:St W (xecP xb d::R) w):
  Calls Tryz.prog 73 #[.pointer (some ⟨xb,0,none⟩)] w fun e w'=>∃v,e=.returned v∧St W (strR v (d.vs.map (·.1))::xecP xb d::R) w':=by
 obtain⟨v1,v2,v3,v4,D,hd,hS0⟩:=xecOpen hS
 clear hS
 have hS:=hS0.s (xeB xb v1 v2 v3 v4::xrP v1 D::dvaP D::xsP v2 d.ss::xtP v3 d.ts::xmP v4 d.ar::R)
 clear hS0
 have hD:D.length≤1000000:=by rw[←CM7,hd];exact hl
 have Hd:=Lib.hid hd
 clear hd hl
 obtain⟨a,cap,rfl⟩:=hS.drop.rowVal
 go_enter Tryz.func73,Tryz.ntmps73
 go_wp2_with(fail)
 have hS1:=hS.rowNil (k:=1) (T:=9)
 clear hS
 have hS:=hS1
 clear hS1
 go_loopw [3,4] (fun v3' v4' wr=>K8R W (xeB xb (.slice a D.length cap) v2 v3 v4::xrP (.slice a D.length cap) D::dvaP D::xsP v2 d.ss::xtP v3 d.ts::xmP v4 d.ar::R) D v3' v4' wr) (fun _ v4' _=>D.length-(intOf v4').toNat)
 case atStart=>exact⟨0,rfl,Nat.zero_le _,hS⟩
 case round=>
  clear hS
  obtain⟨k,rfl,hkl,hS⟩:=hrel
  by_cases hkn:k=D.length
  ·rw[hkn,List.take_length]at hS
   have hd1:decide (k<D.length)=false:=by simp;omega
   clear hkl hkn
   go_wp2_with(first|(refine zl1 hS ?_))
   go_ret
   refine⟨_,rfl,?_⟩
   rw[←Hd.out,Bk7]
   exact(xecShut Hd.out (hS.s (xecR xb (.slice a D.length cap) v2 v3 v4 D d (strR _ (D.map (·.1))::R)))).swap
  ·have hk1:k<D.length:=by omega
   have hd1:decide (k<D.length)=true:=by simp;omega
   obtain⟨⟨g,rfl⟩,hcap,hcn⟩:=St.rowAddr hS.drop.drop (by omega)
   have hname:∀{K K':List HP},Take K (xrP (.slice (some ⟨g,0,none⟩) D.length cap) D) K'→Cell K g (k*2) (.string D[k].1):=fun hu=>Cells.elemM (enc:=rwC) Bb7 hu hk1 0 _ rfl
   have hstep:=Cq7 (fun x:ByteArray×(Nat×Vs)=>x.1) D hk1
   have hbl:((D.take k).map (·.1)).length≤1000000:=by rw[List.length_map,List.length_take];omega
   have Hstep:=Lib.hid hstep
   clear hstep hkn hkl
   generalize (D.take k).map (·.1)=acc at hS Hstep hbl
   generalize D[k]=x at hname Hstep
   obtain⟨xk,xv⟩:=x
   go_wp2_with(first|(refine zl1 hS ?_ (hc:=by exact hname (by exact takeS)))|(refine zl1 hS ?_)|(refine zbs hS ?_;clear hS;intro bS w hS)|(refine zap hS ?_ (h63:=by unfold maxLen;omega) (hb:=by omega);clear hS;intro v w hS))
   go_roundw
   case rel=>
    refine⟨k+1,rfl,hk1,?_⟩
    rw[Hstep.out]
    have h0:St W (row v 1 9 (acc.length+1) (acc.map eS++[xk].map eS)::_) w:=hS
    rw[←List.map_append]at h0
    unfold strR
    rw[List.length_append,List.length_singleton]
    exact h0.s _
   case measure=>simp[intOf];omega
end Go.Proofs.YtlmhakmoioogaaaGreat
end
