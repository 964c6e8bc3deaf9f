/-
  The vault's Cancel.
-/
import Derived.Test.YtienbkdjkjbelaaGreatJuRM5
import Derived.Test.YtienbkdjkjbelaaGreatJuRM7
import Derived.Test.YtienbkdjkjbelaaGreatJuRM8
import Derived.Test.YtienbkdjkjbelaaGreatJuRM20
import Derived.Shelf.SlIter.Nil
import Derived.Shelf.SlIterI.Nil
import Derived.Test.YtienbkdjkjbelaaGreatProg
import Derived.Shelf.SortM.Plain
import Derived.Shelf.SortM.SortNone
import Derived.Ground.GgzProg
import Derived.Ground.SlgmProg
set_option maxHeartbeats 16000000
set_option maxRecDepth 100000
set_option linter.unusedSimpArgs false
set_option linter.unusedVariables false
section
namespace Go.Proofs.YtienbkdjkjbelaaGreat
open Go.RowKit Go.Sl
section
variable{W w:World}{R:List HP}{bb:Nat}{L:List Ord}{n:Int}
theorem DE7(hS:St W (t8 bb L n::R) w):
  Calls Tryz.prog 124 #[.P bb] w fun e w'=>∃a c,e=.returned (.slice a L.length c)/\St W (t8 bb L n::j6 (.slice a L.length c) L::R) w':=by
 obtain⟨b,hr,hl,hS⟩:=am4 hS;refine(Np7 bb hr W w R hS).mono ?_;rintro e w' ⟨a,c,rfl,hS⟩;exact⟨a,c,rfl,aB4 hr hl hS⟩
theorem GG7{id:Int}{x:Ord}{L2:List Ord}(h1:(p9 L id).o=x)(h2:(p9 L id).errno=0)(h3:(p9 L id).L=L2)(hS:St W (t8 bb L n::R) w):
  Calls Tryz.prog 154 #[.P bb,.I id] w fun e w'=>e=.returned (.tuple #[.agg x.cells.toArray,.I 0])/\St W (t8 bb L2 n::R) w':=by
 obtain⟨b,hr,hl,hS⟩:=am4 hS;refine(JT7 bb hr id W w R hS).mono ?_;rintro e w' ⟨b',⟨hla,hrep⟩,rfl,hS⟩;rw[h1,h2];rw[h3]at hrep;exact⟨rfl,aB4 hrep (by omega) hS⟩
end
def bT4(p:Ps)(who:ByteArray)(i:It):Ps:=k9 (k9 (k9 (k9 p who 0 i.x0) who 1 i.x1) who 2 i.x2) who 3 i.x3
def Cn4(W:World)(F:Ps->List HP)(p:Ps)(who:ByteArray)(i:It)(v:Value)(w:World):Prop:=
 (v=.I 0/\St W (F p) w)\/(v=.I 1/\St W (F (k9 p who 0 i.x0)) w)\/(v=.I 2/\St W (F (k9 (k9 p who 0 i.x0) who 1 i.x1)) w)\/(v=.I 3/\St W (F (k9 (k9 (k9 p who 0 i.x0) who 1 i.x1) who 2 i.x2)) w)\/(v=.I 4/\St W (F (bT4 p who i)) w)
section
variable(vb mb bb:Nat)(p:Ps)(L:List Ord)(n:Int)(who:ByteArray)(id:Int)(W w:World)(R:List HP)
theorem IZ7(hr:L.any (O9 id who)=false)(hS:St W (w6 vb mb bb p L n R) w):
  Calls Tryz.prog 114 #[.P vb,.string who,.I id] w fun e w'=>e=.returned (.I 7)/\St W (w6 vb mb bb p L n R) w':=by
 have hL:=CX7 hS.drop.drop;go_enter Tryz.func114,Tryz.ntmps114;go_wp2_with(first|go_at_call 124;refine(DE7 (hS.s (t8 bb L n::blk bQ2 _ _::blk bQ1 _ _::blk vb _ _::d9 eS eP mb p::R))).mono ?_;clear hS;rintro e w ⟨la,lc,rfl,hS⟩|go_at_call 152;(try simp only[Act.eval,Array.getD_eq_getD_getElem?,List.getElem?_toArray,List.getElem?_cons_succ,List.getElem?_cons_zero,Option.getD_some]at hS);refine(CA7 L _ bQ2 bQ1 id who hr (by omega) W _ _ (hS.s (blk bQ2 _ _::blk bQ1 _ _::j6 (.slice la L.length lc) L::t8 bb L n::blk vb _ _::d9 eS eP mb p::R))).mono ?_;clear hS;rintro e w ⟨rfl,hS⟩|(fail_if_success (have:=bQ1));(with_reducible apply Au7 hS);rfl;rfl;rfl;rfl;clear hS;intro bQ1 w hS;refine frS ?_|(fail_if_success (have:=bQ2));(with_reducible apply Au7 hS);rfl;rfl;rfl;rfl;clear hS;intro bQ2 w hS;refine frS ?_|refine zl1 hS ?_);go_ret;exact⟨rfl,hS.s _⟩
theorem HA7(hp:K5 p)(x:Ord)(L2:List Ord)(hx:MayP x)(hr:L.any (O9 id who)=true)(h1:(p9 L id).o=x)(h2:(p9 L id).errno=0)(h3:(p9 L id).L=L2)(hS:St W (w6 vb mb bb p L n R) w):
  Calls Tryz.prog 114 #[.P vb,.string who,.I id] w fun e w'=>e=.returned (.I 0)/\St W (w6 vb mb bb (bT4 p who (l5 x)) L2 n R) w':=by
 have hL:=CX7 hS.drop.drop;have hm:=Cz7 (by have:=hx.cnt0;omega) hx.cnt1 (by have:=hx.price0;omega) hx.price1
 have hit:s8 (l5 x)=true:=by
  unfold l5;split
  ·exact Ah7.2 ⟨⟨hm.1,by simp only;omega⟩,⟨by simp only;omega,by simp only;omega⟩,⟨by simp only;omega,by simp only;omega⟩,by simp only;omega,by simp only;omega⟩
  ·exact FF7 (by rfl) _ ⟨by have:=hx.cnt0;omega,by have:=hx.cnt1;omega⟩
 clear hm;obtain⟨i,hi⟩:∃i,l5 x=i:=⟨_,rfl⟩
 rw[hi]at hit ⊢;obtain⟨h0,h1',h2',h3'⟩:=i;obtain⟨xi,xu,xy,xt,xc,xp⟩:=x;have Hi:=jH hi;have Hx:=jH hx;have H1:=jH h1;have H2:=jH h2;have H3:=jH h3;obtain⟨a0,a1,a2,a3⟩:=Ah7.1 hit;simp only at a0 a1 a2 a3;have G0:=jH (show ∀y,s8 (j7 p y)=true from hp);have G1:=jH (show ∀y,s8 (j7 (k9 p who 0 h0) y)=true from Ak7 hp _ _ a0.1);have G2:=jH (show ∀y,s8 (j7 (k9 (k9 p who 0 h0) who 1 h1') y)=true from Ak7 (Ak7 hp _ _ a0.1) _ _ a1.1);have G3:=jH (show ∀y,s8 (j7 (k9 (k9 (k9 p who 0 h0) who 1 h1') who 2 h2') y)=true from Ak7 (Ak7 (Ak7 hp _ _ a0.1) _ _ a1.1) _ _ a2.1);clear hi hx h1 h2 h3 hit hp;go_enter Tryz.func114,Tryz.ntmps114;go_wp2_with(first|go_at_call 124;refine(DE7 (hS.s (t8 bb L n::blk bQ2 _ _::blk bQ1 _ _::blk vb _ _::d9 eS eP mb p::R))).mono ?_;clear hS;rintro e w ⟨la,lc,rfl,hS⟩|go_at_call 152;(try simp only[Act.eval,Array.getD_eq_getD_getElem?,List.getElem?_toArray,List.getElem?_cons_succ,List.getElem?_cons_zero,Option.getD_some]at hS);refine(CA7 L _ bQ2 bQ1 id who hr (by omega) W _ _ (hS.s (blk bQ2 _ _::blk bQ1 _ _::j6 (.slice la L.length lc) L::t8 bb L n::blk vb _ _::d9 eS eP mb p::R))).mono ?_;clear hS;rintro e w ⟨rfl,hS⟩|(fail_if_success (have:=bQ1));(with_reducible apply Au7 hS);rfl;rfl;rfl;rfl;clear hS;intro bQ1 w hS;refine frS ?_|(fail_if_success (have:=bQ2));(with_reducible apply Au7 hS);rfl;rfl;rfl;rfl;clear hS;intro bQ2 w hS;refine frS ?_|refine zl1 hS ?_);have hS:=hS.s (t8 bb L n::blk bQ2 _ _::blk bQ1 _ _::blk vb _ _::d9 eS eP mb p::R)
 refine rf3 [0,1,3,7,0,31,63,127,127,0,767,2047] (fun i=>i==9) (fun i=>if i==5 then some (.tuple #[.agg #[.I xi,.string xu,.bool xy,.I xt,.I xc,.I xp],.I 0])else none) [⟨some 5,none,fun _=>t8 bb L2 n⟩,⟨some 9,some 10,fun nd=>i8 (nd 9) [.I 0,.string ⟨#[]⟩,.bool false,.I 0,.I 0,.I 0] 173⟩,⟨some 10,none,fun nd=>i8 (nd 9) [.I xi,.string xu,.bool xy,.I xt,.I xc,.I xp] 173⟩] [some 5,none,none,none,none] hS ?_;intro nd;refine cR ?_;refine zcn ?_;refine cR ?_;refine zc1 ?_;refine zc1 ?_;refine zcv ?_ (hs:=by(intro F w hS;(try clear hS0);exact GG7 H1.out H2.out H3.out hS))
 iterate 3 (refine cR ?_)
 (refine zca ?_);refine zct ?_;refine cR ?_;refine Ad7 ?_;clear hS;intro w hS;have hS2:St W [t8 bb L2 n,i8 (nd 9) _ _,blk bQ2 _ _,blk bQ1 _ _,blk vb _ _,d9 eS eP mb p,sats R] w:=hS;clear hS;have hS:=hS2.unpack [_,_,_,_,_,_];clear hS2;simp only[jK,jN]at hS;generalize nd 9=v9 at *;have hS7:=hS.swap;clear hS;have h1:=hS7.ptr;clear hS7;obtain⟨b9,rfl,hS⟩:=h1;go_wp2_with(first|go_at_call 117;refine(FG7 Hx.out Hi.out W _ _ hS).mono ?_;clear hS;rintro e w ⟨rfl,hS⟩|refine zl1 hS ?_|refine zlN hS ?_);have hS:=hS.s (blk vb _ _::d9 eS eP mb p::t8 bb L2 n::R)
 go_loopw [37] (fun v wr=>Cn4 W (fun q=>[blk vb [.map (some mb),.P bb,.I n] 215,d9 eS eP mb q,t8 bb L2 n]++R) p who ⟨h0,h1',h2',h3'⟩ v wr) (fun v _=>4-(intOf v).toNat)
 case atStart=>exact .inl ⟨rfl,hS⟩
 case round=>
  clear hS;simp only[Cn4,bT4,jK,jN]at hrel
  rcases hrel with ⟨rfl,hS⟩|⟨rfl,hS⟩|⟨rfl,hS⟩|⟨rfl,hS⟩|⟨rfl,hS⟩
  ·go_wp2_with(first|(with_reducible apply At7);rfl;rfl;rfl;rfl;(first|exact L5 _ _ _ _|exact L6 _ _ _ _|exact L7 _ _ _ _|exact L8 _ _ _ _);refine frS ?_|go_at_call 151;refine(Cf7 vb mb _ _ _ _ _ _ ?_ ?_ ?_ W _ _ hS).mono ?_;(focus(exact G0.out _));(focus decide);(focus(exact⟨by omega,by omega⟩));clear hS;rintro e w ⟨rfl,hS⟩);go_roundw
   case rel=>exact .inr (.inl ⟨rfl,hS⟩)
   case measure=>simp[intOf]
  ·go_wp2_with(first|(with_reducible apply At7);rfl;rfl;rfl;rfl;(first|exact L5 _ _ _ _|exact L6 _ _ _ _|exact L7 _ _ _ _|exact L8 _ _ _ _);refine frS ?_|go_at_call 151;refine(Cf7 vb mb _ _ _ _ _ _ ?_ ?_ ?_ W _ _ hS).mono ?_;(focus(exact G1.out _));(focus decide);(focus(exact⟨by omega,by omega⟩));clear hS;rintro e w ⟨rfl,hS⟩);go_roundw
   case rel=>exact .inr (.inr (.inl ⟨rfl,hS⟩))
   case measure=>simp[intOf]
  ·go_wp2_with(first|(with_reducible apply At7);rfl;rfl;rfl;rfl;(first|exact L5 _ _ _ _|exact L6 _ _ _ _|exact L7 _ _ _ _|exact L8 _ _ _ _);refine frS ?_|go_at_call 151;refine(Cf7 vb mb _ _ _ _ _ _ ?_ ?_ ?_ W _ _ hS).mono ?_;(focus(exact G2.out _));(focus decide);(focus(exact⟨by omega,by omega⟩));clear hS;rintro e w ⟨rfl,hS⟩);go_roundw
   case rel=>exact .inr (.inr (.inr (.inl ⟨rfl,hS⟩)))
   case measure=>simp[intOf]
  ·go_wp2_with(first|(with_reducible apply At7);rfl;rfl;rfl;rfl;(first|exact L5 _ _ _ _|exact L6 _ _ _ _|exact L7 _ _ _ _|exact L8 _ _ _ _);refine frS ?_|go_at_call 151;refine(Cf7 vb mb _ _ _ _ _ _ ?_ ?_ ?_ W _ _ hS).mono ?_;(focus(exact G3.out _));(focus decide);(focus(exact⟨by omega,by omega⟩));clear hS;rintro e w ⟨rfl,hS⟩);go_roundw
   case rel=>exact .inr (.inr (.inr (.inr ⟨rfl,hS⟩)))
   case measure=>simp[intOf]
  ·go_wp2_with(fail);go_ret;exact⟨rfl,hS⟩
end
section
variable(vb mb bb:Nat)(p:Ps)(L:List Ord)(n:Int)(o:Ord)(W w:World)(R:List HP)
theorem Ja7(h:aI4 o=true)(hf:32<=L.length\/1099511627776<n)(hS:St W (w6 vb mb bb p L n R) w):
  Calls Tryz.prog 113 #[.P vb,.agg o.cells.toArray] w fun e w'=>e=.returned (.tuple #[.I 0,.I 6])/\St W (w6 vb mb bb p L n R) w':=by
 obtain⟨i,u,y,t,c,pr⟩:=o;have hm:H5 ⟨1,u,y,t,c,pr⟩=true:=h;clear h;simp only[Ord.cells];by_cases hl:32<=L.length
 ·have d1:(32:Int)<=(L.length:Int):=by omega
  clear hf;go_enter Tryz.func113,Tryz.ntmps113;go_wp2_with(first|(with_reducible apply Bj7 (n:=1) (l:=[(⟨1,u,y,t,c,pr⟩:Ord)].flatMap Ord.cells) hS);rfl;rfl;(focus(simp only[fD,fI,fJ,Act.eval,fE,fF,fG,fH,fK];try rfl));exact esS;exact rsS;rfl;rfl;rfl;rfl;rfl;decide;clear hS;intro bv w hS;refine frS ?_|go_at_call 148;refine(CZ7 ⟨1,u,y,t,c,pr⟩ rfl _ W _ _ hS).mono ?_;clear hS;rw[hm];rintro e w ⟨vu,rfl,hS⟩|go_at_call 149;refine(CY7 (hS.s (t8 bb L n::_::blk vb _ _::d9 eS eP mb p::R))).mono ?_;clear hS;rintro e w ⟨rfl,hS⟩|refine zl1 hS ?_|refine zlN hS ?_|refine zs1 hS ?_;clear hS;intro w hS|refine zbx hS ?_;clear hS;intro b w hS);go_ret2;exact⟨rfl,hS.s _⟩
 ·have d1:decide ((32:Int)<=(L.length:Int))=false:=by simp;omega
  have d2:1099511627776<n:=hf.resolve_left hl;clear hf hl;go_enter Tryz.func113,Tryz.ntmps113;go_wp2_with(first|(with_reducible apply Bj7 (n:=1) (l:=[(⟨1,u,y,t,c,pr⟩:Ord)].flatMap Ord.cells) hS);rfl;rfl;(focus(simp only[fD,fI,fJ,Act.eval,fE,fF,fG,fH,fK];try rfl));exact esS;exact rsS;rfl;rfl;rfl;rfl;rfl;decide;clear hS;intro bv w hS;refine frS ?_|go_at_call 148;refine(CZ7 ⟨1,u,y,t,c,pr⟩ rfl _ W _ _ hS).mono ?_;clear hS;rw[hm];rintro e w ⟨vu,rfl,hS⟩|go_at_call 149;refine(CY7 (hS.s (t8 bb L n::_::blk vb _ _::d9 eS eP mb p::R))).mono ?_;clear hS;rintro e w ⟨rfl,hS⟩|refine zl1 hS ?_|refine zlN hS ?_|refine zs1 hS ?_;clear hS;intro w hS|refine zbx hS ?_;clear hS;intro b w hS);go_ret2;exact⟨rfl,hS.s _⟩
end
structure Vs where
 ps:Ps
 L:List Ord
 n:Int
def w9(V:Vs)(o:Ord):Int×Int×Vs:=
 if aI4 o=false then(0,1,V)
 else if 32<=V.L.length\/1099511627776<V.n then(0,6,V)
 else if m9 V.ps o.who (l5 o)=0 then(V.n,0,⟨(aJ4 V.L { o with id:=V.n }).foldl av4 (s5 V.ps o.who (l5 o)),bF4 V.L { o with id:=V.n },V.n+1⟩)
 else(0,14,V)
theorem Ed7{o:Ord}(h:aI4 o=true):x9 o.who=true/\s8 (l5 o)=true:=by
 have hm:=Aq7.1 h;have w0:1<=o.who.size:=hm.who0;have w1:o.who.size<=16:=hm.who1;have c0:1<=o.cnt:=hm.cnt0;have c1:o.cnt<=1048576:=hm.cnt1;have p0:1<=o.price:=hm.price0;have p1:o.price<=1024:=hm.price1;have m:=Cz7 (show 0<=o.cnt by omega) c1 (show 0<=o.price by omega) p1;refine⟨by unfold x9;simp;omega,?_⟩;have z:(0:Int)<=0/\(0:Int)<=1152921504606846976:=⟨by decide,by decide⟩
 unfold l5;split
 ·exact Ah7.2 ⟨⟨m.1,show o.cnt*o.price<=1152921504606846976 by omega⟩,z,z,z⟩
 ·exact FF7 rfl _ ⟨by omega,by omega⟩
theorem Kd7(vb mb bb:Nat)(V:Vs)(o:Ord)(hp:K5 V.ps)(hn:1<=V.n)(W w:World)(R:List HP)(hS:St W (w6 vb mb bb V.ps V.L V.n R) w):
  Calls Tryz.prog 113 #[.P vb,.agg o.cells.toArray] w fun e w'=>e=.returned (.tuple #[.I (w9 V o).1,.I (w9 V o).2.1]) /\
   St W (w6 vb mb bb (w9 V o).2.2.ps (w9 V o).2.2.L (w9 V o).2.2.n R) w':=by
 unfold w9;by_cases h1:aI4 o=false
 ·rw[if_pos h1];exact Kc7 vb mb bb V.ps V.L V.n o W w R h1 hS
 ·rw[if_neg h1];have h1':aI4 o=true:=by simpa using h1
  by_cases h2:32<=V.L.length\/1099511627776<V.n
  ·rw[if_pos h2];exact Ja7 vb mb bb V.ps V.L V.n o W w R h1' h2 hS
  ·rw[if_neg h2];by_cases h3:m9 V.ps o.who (l5 o)=0
   ·rw[if_pos h3];exact LT7 vb mb bb V.ps V.L V.n o W w R hp h1' hn (by omega) (by omega) h3 hS
   ·rw[if_neg h3]
    have h14:m9 V.ps o.who (l5 o)=14:=by
     have hh:=Ed7 h1';unfold m9 at h3 ⊢;rw[if_pos hh]at h3 ⊢;split
     ·rename_i hs;rw[if_pos hs]at h3;exact absurd rfl h3
     ·rfl
    exact Hx7 vb mb bb V.ps V.L V.n o W w R h1' (by omega) (by omega) h14 hS
def A6(V:Vs)(who:ByteArray)(id:Int):Int×Vs:=
 if V.L.any (O9 id who)=true then(0,⟨bT4 V.ps who (l5 (p9 V.L id).o),(p9 V.L id).L,V.n⟩)else(7,V)
theorem DF7{L:List Ord}{who:ByteArray}{id:Int}(h:L.any (O9 id who)=true):(p9 L id).errno=0/\(p9 L id).o∈L:=by
 obtain⟨x,hx,hh⟩:=List.any_eq_true.1 h;have hid:(x.id==id)=true:=by unfold O9 at hh;exact(jB _ _▸hh).1
 unfold p9
 cases hf:L.findIdx? (fun o=>o.id==id)with
 | none=>
  have:=List.findIdx?_eq_none_iff.1 hf x hx;rw[hid]at this
  cases this
 | some i=>
  obtain⟨hi,_⟩:=List.findIdx?_eq_some_iff_getElem.1 hf;exact⟨rfl,H9 hi⟩
theorem Ke7(vb mb bb:Nat)(V:Vs)(who:ByteArray)(id:Int)(hp:K5 V.ps)(W w:World)(R:List HP)(hS:St W (w6 vb mb bb V.ps V.L V.n R) w):
  Calls Tryz.prog 114 #[.P vb,.string who,.I id] w fun e w'=>e=.returned (.I (A6 V who id).1) /\
   St W (w6 vb mb bb (A6 V who id).2.ps (A6 V who id).2.L (A6 V who id).2.n R) w':=by
 unfold A6;by_cases h:V.L.any (O9 id who)=true
 ·rw[if_pos h];obtain⟨h1,h2⟩:=DF7 h;exact HA7 vb mb bb V.ps V.L V.n who id W w R hp (p9 V.L id).o (p9 V.L id).L (Cs7 hS.drop.drop _ h2).1 h rfl h1 rfl hS
 ·rw[if_neg h];exact IZ7 vb mb bb V.ps V.L V.n who id W w R (by simpa using h) hS
theorem Kf7{p:Ps}(h:K5 p)(who:ByteArray){i:It}(hi:s8 i=true):K5 (bT4 p who i):=by obtain⟨a0,a1,a2,a3⟩:=Ah7.1 hi;exact Ak7 (Ak7 (Ak7 (Ak7 h _ _ a0.1) _ _ a1.1) _ _ a2.1) _ _ a3.1
theorem Kg7{V:Vs}{o:Ord}(hp:K5 V.ps)(hn:1<=V.n)(hL:∀x∈V.L,MayP x):K5 (w9 V o).2.2.ps/\1<=(w9 V o).2.2.n:=by
 unfold w9;split
 ·exact⟨hp,hn⟩
 ·rename_i h1
  have hm:=Aq7.1 (show H5 { o with id:=1 }=true by simpa[aI4]using h1);split
  ·exact⟨hp,hn⟩
  ·split
   ·refine⟨Db7 _ (Ci7 hp _ _) ?_,by show 1<=V.n+1;omega⟩;have c0:1<=o.cnt:=hm.cnt0;have c1:o.cnt<=1048576:=hm.cnt1;exact Da7 _ _ _ _ hL ⟨show 0<=o.cnt by omega,c1,hm.item0,hm.item1,hm.price1⟩ fun t ht=>(by cases ht)
   ·exact⟨hp,hn⟩
theorem Kh7{V:Vs}{who:ByteArray}{id:Int}(hp:K5 V.ps)(hn:1<=V.n)(hL:∀x∈V.L,MayP x):K5 (A6 V who id).2.ps/\1<=(A6 V who id).2.n:=by
 unfold A6;split
 ·rename_i h
  have hx:=hL _ (DF7 h).2;have h1:aI4 (p9 V.L id).o=true:=Aq7.2 ⟨show(1:Int)<=1 by decide,show(1:Int)<=1099511627776 by decide,hx.who0,hx.who1,hx.item0,hx.item1,hx.cnt0,hx.cnt1,hx.price0,hx.price1⟩;exact⟨Kf7 hp who (Ed7 h1).2,hn⟩
 ·exact⟨hp,hn⟩
end Go.Proofs.YtienbkdjkjbelaaGreat
end
section
namespace Go.Sl
open Go.RowKit
section
variable{P:Program}{W w w':World}{L:List HP}
theorem St.called{v:Value}{k n:Nat}{T:TypeId}{cs:List Value}(h:St W L w)(hb:Below w.heap.size w w')(hr:w'.ownsRow w.heap.size T k v n cs):St W (row v k T n cs::L) w':=by
 refine⟨hb.os.trans h.os,hb.tape.trans h.tape,hb.output.trans h.output,fun b=>decide (w.heap.size<=b),?_,?_⟩
 ·obtain⟨hl,h1⟩:=hr;refine⟨hl,?_⟩
  rcases h1 with ⟨hv,hn⟩|⟨g,cap,cur,hv,hg,hh,h3,h4,h5,h6⟩
  ·exact .inl ⟨hv,hn⟩
  ·have e:cs++cur.toList.drop (n*k)=cur.toList:=by rw[<-h6,List.take_append_drop]
   refine .inr ⟨g,cap,cur.toList.drop (n*k),hv,h3,h4,?_,?_⟩
   ·rw[e];simpa using h5
   ·show cond (decide (w.heap.size<=g)) (w'.heap[g]?) none=_
    rw[decide_eq_true hg,e];show w'.heap[g]? = _
    rw[hh]
 ·have e:l6 (fun b=>decide (w.heap.size<=b)) (fun b=>w'.heap[b]?)=fun b=>w.heap[b]? := by
   funext b
   show cond (decide (w.heap.size<=b)) none (w'.heap[b]?)=w.heap[b]?
   by_cases hb':w.heap.size<=b
   ·rw[decide_eq_true hb',Array.getElem?_eq_none hb'];rfl
   ·rw[decide_eq_false hb',hb.block b (by omega)];rfl
  rw[e];exact h.sat
def R1:Value->Option (DataW Unit×List MemPlace):=fun _=>some (.lit (.bool true),[])
theorem GH7{α β:Type}(f:α->β)(hf:∀x y,f x=f y->x=y):∀l:List α,l.Nodup->(l.map f).Nodup
 | [],_=>List.nodup_nil
 | x::l,h=>by rw[List.nodup_cons]at h;rw[List.map_cons,List.nodup_cons];refine⟨fun hx=>?_,GH7 f hf l h.2⟩;obtain⟨y,hy,e⟩:=List.mem_map.1 hx;exact h.1 (hf y x e▸hy)
section
variable{ι:Type}{enc:ι->MapEntry}{K:TypeId}{b c:Nat}{l:List ι}
theorem cM4(hst:cf4 (l.map enc))(hc:∀x∈l,(enc x).born<c)(hk:(l.map fun x=>(enc x).key).Nodup):MapKept.Stamped (l.map enc).toArray c:=by
 refine⟨fun x hx=>?_,?_,?_⟩
 ·have hx':x∈l.map enc:=by simpa using hx
  obtain⟨y,hy,rfl⟩:=List.mem_map.1 hx';exact hc y hy
 ·simpa[cf4]using hst
 ·have:((l.map enc).toArray.toList.map (·.key))=l.map fun x=>(enc x).key:=by simp
  rw[this];exact hk
theorem et4{kf:ι->ByteArray}(h:St W (bp4 b (l.map enc) c::L) w)(hK:P.underlying K=some .string)(hkf:∀x,(enc x).key=.string (kf x))(hwf:∀x∈l,(kf x).size<=maxLen)
  (hst:cf4 (l.map enc)) (hc:∀x∈l,(enc x).born<c) (hn:(l.map kf).Nodup) (hl:l.length<=maxLen):
  ∃D:DataW Unit,w.ownsMap P K R1 b l.length D/\Maps.size D=l.length/\(strKeys D).Perm (l.map fun x=>(kf x).data.toList):=by
 have hrd:∀x∈l,WideElems.rd P K R1 (enc x)=some (.string (kf x).data.toList,.lit (.bool true)):=fun x hx=>by
  have h1:keyOf P K (.string (kf x))=some (.string (kf x).data.toList):=by unfold keyOf mapKey;simp[hK,hwf x hx]
  unfold WideElems.rd;rw[hkf x,h1];rfl
 have hrg:(l.map enc).map (WideElems.rg P K R1)=l.map fun x=>((.string (kf x).data.toList,.lit (.bool true)):Lit×DataW Unit):=by
  rw[List.map_map];refine List.map_congr_left fun x hx=>?_
  show(WideElems.rd P K R1 (enc x)).getD _=_
  rw[hrd x hx];rfl
 have hp:=WideShapes.sorted_perm (l.map fun x=>((.string (kf x).data.toList,.lit (.bool true)):Lit×DataW Unit));refine⟨.map (((l.map enc).map (WideElems.rg P K R1)).foldr DataW.insert []),⟨_,c,h.get (b:=b) .head,⟨by simpa using hl,cM4 hst hc ?_,fun x hx=>?_⟩,by simp,by simp⟩,?_,?_⟩
 ·have e:(l.map fun x=>(enc x).key)=(l.map kf).map Value.string:=by
   rw[List.map_map];exact List.map_congr_left fun x _=>hkf x
  rw[e];exact GH7 _ (fun x y h=>by simpa using h) _ hn
 ·have hx':x∈l.map enc:=by simpa using hx
  obtain⟨y,hy,rfl⟩:=List.mem_map.1 hx';exact⟨_,hrd y hy⟩
 ·rw[Maps.size_eq,hrg,hp.length_eq,jM]
 ·rw[hrg];refine(hp.map fun p=>strOf p.1).trans ?_;rw[List.map_map];exact .refl _
end
end
end Go.Sl
end
section
namespace Go.Proofs.YtienbkdjkjbelaaGreat
open Go.Shelf
def Tryz.keysS_ren:Go.Shelf.Ren:=⟨fun|7=>123|10=>158|n=>n,fun|23=>212|26=>9|3=>34|28=>158|0=>0|27=>157|33=>191|4=>4|n=>n,fun|n=>n⟩
theorem Tryz.keysS:Go.Proofs.SlLaysZ.n7 Tryz.prog Tryz.keysS_ren:={
 mixed:=by kernel_rfl
 f7:=⟨Tryz.f123.name,by decide,Tryz.func123.trans (congrArg some (by kernel_rfl))⟩
 f10:=⟨Tryz.f158.name,by decide,Tryz.func158.trans (congrArg some (by kernel_rfl))⟩
 t0:=Tryz.underlying0
 a0:=Tryz.isAgg0
 z0:=Tryz.sizeOf0
 v0:=Tryz.zeroValue0
 t4:=Tryz.underlying4
 a4:=Tryz.isAgg4
 z4:=Tryz.sizeOf4
 v4:=Tryz.zeroValue4
 t23:=Tryz.underlying212
 a23:=Tryz.isAgg212
 z23:=Tryz.sizeOf212
 v23:=Tryz.zeroValue212
 t26:=Tryz.underlying9
 a26:=Tryz.isAgg9
 z26:=Tryz.sizeOf9
 v26:=Tryz.zeroValue9
 t27:=Tryz.underlying157
 a27:=Tryz.isAgg157
 z27:=Tryz.sizeOf157
 v27:=Tryz.zeroValue157
 t28:=Tryz.underlying158
 a28:=Tryz.isAgg158
 z28:=Tryz.sizeOf158
 v28:=Tryz.zeroValue158
 t33:=Tryz.underlying191
 a33:=Tryz.isAgg191
 z33:=Tryz.sizeOf191
 v33:=Tryz.zeroValue191 }
def Tryz.sortedS_ren:Go.Shelf.Ren:=⟨fun|6=>78|8=>120|9=>121|11=>156|13=>127|12=>157|23=>171|24=>172|14=>197|15=>198|16=>199|17=>200|18=>201|19=>202|20=>203|21=>204|22=>205|25=>218|26=>208|27=>209|28=>219|29=>220|30=>221|31=>232|n=>n,fun|26=>9|28=>158|24=>101|0=>0|3=>3|37=>163|48=>265|50=>162|4=>4|40=>259|39=>258|45=>188|5=>5|9=>9|51=>296|55=>300|57=>317|58=>196|33=>191|n=>n,fun|n=>n⟩
theorem Tryz.sortedS:Go.Proofs.SlLaysZ.n6 Tryz.prog Tryz.sortedS_ren:={
 mixed:=by kernel_rfl
 f6:=⟨Tryz.f78.name,by decide,Tryz.func78.trans (congrArg some (by kernel_rfl))⟩
 f8:=⟨Tryz.f120.name,by decide,Tryz.func120.trans (congrArg some (by kernel_rfl))⟩
 f11:=⟨Tryz.f156.name,by decide,Tryz.func156.trans (congrArg some (by kernel_rfl))⟩
 t0:=Tryz.underlying0
 a0:=Tryz.isAgg0
 z0:=Tryz.sizeOf0
 v0:=Tryz.zeroValue0
 t24:=Tryz.underlying101
 a24:=Tryz.isAgg101
 z24:=Tryz.sizeOf101
 v24:=Tryz.zeroValue101
 t26:=Tryz.underlying9
 a26:=Tryz.isAgg9
 z26:=Tryz.sizeOf9
 v26:=Tryz.zeroValue9
 t28:=Tryz.underlying158
 a28:=Tryz.isAgg158
 z28:=Tryz.sizeOf158
 v28:=Tryz.zeroValue158
 i26:=by kernel_rfl }
def Tryz.sortS_ren:Go.Shelf.Ren:=⟨fun|6=>121|8=>127|9=>157|19=>171|20=>172|21=>197|22=>198|23=>199|24=>200|25=>201|26=>202|27=>203|28=>204|29=>205|36=>218|31=>208|32=>209|37=>219|38=>220|39=>221|41=>232|n=>n,fun|27=>101|29=>9|3=>3|32=>163|26=>101|0=>0|44=>265|46=>162|4=>4|36=>259|35=>258|41=>188|5=>5|9=>9|53=>296|57=>300|63=>317|64=>196|n=>n,fun|n=>n⟩
theorem Tryz.sortS:Go.Proofs.SlLaysM.n6 Tryz.prog Tryz.sortS_ren:={
 mixed:=by kernel_rfl
 f6:=⟨Tryz.f121.name,by decide,Tryz.func121.trans (congrArg some (by kernel_rfl))⟩
 f8:=Tryz.func127.trans (congrArg some (by kernel_rfl))
 f9:=⟨Tryz.f157.name,by decide,Tryz.func157.trans (congrArg some (by kernel_rfl))⟩
 f19:=Tryz.func171.trans (congrArg some (by kernel_rfl))
 f20:=Tryz.func172.trans (congrArg some (by kernel_rfl))
 f21:=⟨Tryz.f197.name,by decide,Tryz.func197.trans (congrArg some (by kernel_rfl))⟩
 f22:=⟨Tryz.f198.name,by decide,Tryz.func198.trans (congrArg some (by kernel_rfl))⟩
 f23:=⟨Tryz.f199.name,by decide,Tryz.func199.trans (congrArg some (by kernel_rfl))⟩
 f24:=⟨Tryz.f200.name,by decide,Tryz.func200.trans (congrArg some (by kernel_rfl))⟩
 f25:=⟨Tryz.f201.name,by decide,Tryz.func201.trans (congrArg some (by kernel_rfl))⟩
 f26:=⟨Tryz.f202.name,by decide,Tryz.func202.trans (congrArg some (by kernel_rfl))⟩
 f27:=⟨Tryz.f203.name,by decide,Tryz.func203.trans (congrArg some (by kernel_rfl))⟩
 f28:=⟨Tryz.f204.name,by decide,Tryz.func204.trans (congrArg some (by kernel_rfl))⟩
 f29:=⟨Tryz.f205.name,by decide,Tryz.func205.trans (congrArg some (by kernel_rfl))⟩
 f31:=Tryz.func208.trans (congrArg some (by kernel_rfl))
 f32:=Tryz.func209.trans (congrArg some (by kernel_rfl))
 f36:=⟨Tryz.f218.name,by decide,Tryz.func218.trans (congrArg some (by kernel_rfl))⟩
 f37:=⟨Tryz.f219.name,by decide,Tryz.func219.trans (congrArg some (by kernel_rfl))⟩
 f38:=⟨Tryz.f220.name,by decide,Tryz.func220.trans (congrArg some (by kernel_rfl))⟩
 f39:=⟨Tryz.f221.name,by decide,Tryz.func221.trans (congrArg some (by kernel_rfl))⟩
 f41:=⟨Tryz.f232.name,by decide,Tryz.func232.trans (congrArg some (by kernel_rfl))⟩
 t0:=Tryz.underlying0
 a0:=Tryz.isAgg0
 z0:=Tryz.sizeOf0
 v0:=Tryz.zeroValue0
 t3:=Tryz.underlying3
 a3:=Tryz.isAgg3
 z3:=Tryz.sizeOf3
 v3:=Tryz.zeroValue3
 t4:=Tryz.underlying4
 a4:=Tryz.isAgg4
 z4:=Tryz.sizeOf4
 v4:=Tryz.zeroValue4
 t5:=Tryz.underlying5
 a5:=Tryz.isAgg5
 z5:=Tryz.sizeOf5
 v5:=Tryz.zeroValue5
 t9:=Tryz.underlying9
 a9:=Tryz.isAgg9
 z9:=Tryz.sizeOf9
 v9:=Tryz.zeroValue9
 t26:=Tryz.underlying101
 a26:=Tryz.isAgg101
 z26:=Tryz.sizeOf101
 v26:=Tryz.zeroValue101
 t27:=Tryz.underlying101
 a27:=Tryz.isAgg101
 z27:=Tryz.sizeOf101
 v27:=Tryz.zeroValue101
 t29:=Tryz.underlying9
 a29:=Tryz.isAgg9
 z29:=Tryz.sizeOf9
 v29:=Tryz.zeroValue9
 t32:=Tryz.underlying163
 a32:=Tryz.isAgg163
 z32:=Tryz.sizeOf163
 v32:=Tryz.zeroValue163
 t35:=Tryz.underlying258
 a35:=Tryz.isAgg258
 z35:=Tryz.sizeOf258
 v35:=Tryz.zeroValue258
 t36:=Tryz.underlying259
 a36:=Tryz.isAgg259
 z36:=Tryz.sizeOf259
 v36:=Tryz.zeroValue259
 t41:=Tryz.underlying188
 a41:=Tryz.isAgg188
 z41:=Tryz.sizeOf188
 v41:=Tryz.zeroValue188
 t44:=Tryz.underlying265
 a44:=Tryz.isAgg265
 z44:=Tryz.sizeOf265
 v44:=Tryz.zeroValue265
 t46:=Tryz.underlying162
 a46:=Tryz.isAgg162
 z46:=Tryz.sizeOf162
 v46:=Tryz.zeroValue162
 t53:=Tryz.underlying296
 a53:=Tryz.isAgg296
 z53:=Tryz.sizeOf296
 v53:=Tryz.zeroValue296
 t57:=Tryz.underlying300
 a57:=Tryz.isAgg300
 z57:=Tryz.sizeOf300
 v57:=Tryz.zeroValue300
 t63:=Tryz.underlying317
 a63:=Tryz.isAgg317
 z63:=Tryz.sizeOf317
 v63:=Tryz.zeroValue317
 t64:=Tryz.underlying196
 a64:=Tryz.isAgg196
 z64:=Tryz.sizeOf196
 v64:=Tryz.zeroValue196 }
end Go.Proofs.YtienbkdjkjbelaaGreat
end
section
namespace Go.Proofs.YtienbkdjkjbelaaGreat
open Go.RowKit Go.Maps Go.Sort Go.Shelf Go.Sl
def leB(x y:ByteArray):Bool:=decide (x.data.toList<=y.data.toList)
def br4(l:List ByteArray):List ByteArray:=l.mergeSort leB
theorem AN7(l:List ByteArray):(br4 l).Perm l:=List.mergeSort_perm _ _
theorem dV4 (m : Nat) : AnyZ.SortsIn Tryz.prog Tryz.sortedS_ren Fence.wide m :=
  ⟨fun blk off cap ss W hH hblk hsz => callsIn_wide.2 (AnyM.slices_Sort_string Tryz.sortS blk off cap ss W hH hblk hsz),
   fun p cap W => callsIn_wide.2 (AnyM.slices_Sort_string_none Tryz.sortS p cap W)⟩
theorem Jb7(mb:Option Nat)(W w:World)(L:List HP)(hS:St W L w):
  Calls Tryz.prog 123 #[.map mb] w fun e w'=>∃g,e=.returned (.func (.func 158) #[] #[.P g])/\St W (blk g [.map mb] 212::L) w':=by
 have cK:CallsIn Fence.wide 5 Tryz.prog 123 #[.map mb] w fun e w'=>e=.returned (.func (.func 158) #[] #[.pointer (some ⟨w.heap.size,0,none⟩)])/\w'=w.alloc (.cells #[.map mb] 212):=AnyZ.keys_in Tryz.keysS Fence.wide 5 trivial rfl mb w
 refine((callsIn_wide (n:=5)).1 cK).mono ?_;rintro e w' ⟨rfl,rfl⟩;exact⟨_,rfl,hS.alloc _⟩
section
variable{ν:Type}{ev:ν->Value}{W w:World}{L:List HP}{b g:Nat}
theorem dW4{l:List (ByteArray×ν)}(h:St W (d9 eS ev b l::L) w)(hwf:∀x∈l,x.1.size<=maxLen)(hl:l.length<=maxLen):
  ∃D:DataW Unit,w.ownsMap Tryz.prog 9 R1 b l.length D/\Maps.size D=l.length/\(strKeys D).Perm (l.map fun x=>x.1.data.toList):=by
 obtain⟨ps,c,h1,h2,h3⟩:=ao4 h;have hll:(ps.map (evs ev)).length=l.length:=by have:=h1.length_eq;rwa [jM]at this ⊢
 have hk:(ps.map (evs ev)).map (·.1)=(ps.map prj).map (·.1):=by rw[CP7,Ib7]
 have hp:((ps.map (evs ev)).map (·.1)).Perm (l.map (·.1)):=by rw[hk];exact h1.map _
 obtain⟨D,hD1,hD2,hD3⟩:=et4 (P:=Tryz.prog) (K:=9) (kf:=fun x:ByteArray×Value×Nat=>x.1) h3 Tryz.underlying9 (fun x=>rfl) (fun x hx=>by have hx1:x.1∈l.map (·.1):=hp.mem_iff.1 (List.mem_map_of_mem hx);obtain⟨y,hy,hxy⟩:=List.mem_map.1 hx1;rw[<-hxy];exact hwf y hy) (by unfold cf4;rw[List.map_map,List.map_map];exact h2.st) (fun x hx=>by obtain⟨y,hy,rfl⟩:=List.mem_map.1 hx;exact h2.old y hy) (by rw[CP7];exact h2.ks) (by omega);rw[hll]at hD1 hD2;have e1:(ps.map (evs ev)).map (fun x=>x.1.data.toList)=((ps.map (evs ev)).map (·.1)).map (fun k=>k.data.toList):=by simp only[List.map_map];rfl
 have e2:l.map (fun x=>x.1.data.toList)=(l.map (·.1)).map (fun k=>k.data.toList):=by rw[List.map_map];rfl
 refine⟨D,hD1,hD2,hD3.trans ?_⟩;rw[e1,e2];exact hp.map _
theorem Ki7(a b c:ByteArray)(h1:leB a b=true)(h2:leB b c=true):leB a c=true:=by unfold leB at *;simp only[decide_eq_true_eq]at *;exact List.le_trans h1 h2
theorem Kj7(a b:ByteArray):(leB a b||leB b a)=true:=by unfold leB;simp only[Bool.or_eq_true,decide_eq_true_eq];exact List.le_total _ _
theorem Iq7{a b:ByteArray}(h1:leB a b=true)(h2:leB b a=true):a=b:=by unfold leB at *;simp only[decide_eq_true_eq]at *;have h:=List.le_antisymm h1 h2;obtain⟨⟨a⟩⟩:=a;obtain⟨⟨b⟩⟩:=b;simp at h;rw[h]
theorem Ba7(l:List ByteArray):(br4 l).Pairwise fun x y=>leB x y=true:=List.pairwise_mergeSort Ki7 Kj7 l
theorem LW7{l:List ByteArray}{ss:List (List UInt8)}(h:ss.Perm (l.map fun k=>k.data.toList)):(ss.mergeSort (fun x y=>decide (x<=y))).map encStr=(br4 l).map eS:=by
 have e:ss.mergeSort (fun x y=>decide (x<=y))=(br4 l).map fun k=>k.data.toList:=by
  refine List.Perm.eq_of_pairwise (le:=fun a b=>decide (a<=b)=true) (fun a b _ _ h1 h2=>?_) (List.pairwise_mergeSort ?_ ?_ _) ?_ (((List.mergeSort_perm _ _).trans h).trans ((AN7 l).map _).symm)
  ·simp only[decide_eq_true_eq]at h1 h2;exact List.le_antisymm h1 h2
  ·intro a b c h1 h2;simp only[decide_eq_true_eq]at *;exact List.le_trans h1 h2
  ·intro a b;simp only[Bool.or_eq_true,decide_eq_true_eq];exact List.le_total _ _
  ·exact List.pairwise_map.2 (Ba7 l)
 rw[e,List.map_map];refine List.map_congr_left fun k _=>?_
 show Value.string ⟨k.data.toList.toArray⟩=Value.string k
 rfl
theorem GI7{l:List (ByteArray×ν)}(hwf:∀x∈l,x.1.size<=maxLen)(hl:l.length<=1000000000)(hS:St W (blk g [.map (some b)] 212::d9 eS ev b l::L) w):
  Calls Tryz.prog 78 #[.func (.func 158) #[] #[.P g]] w fun e w'=>∃v,e=.returned v/\St W (row v 1 9 l.length ((br4 (l.map (·.1))).map eS)::d9 eS ev b l::L) w':=by
 obtain⟨D,hD1,hD2,hD3⟩:=dW4 hS.drop hwf (by unfold maxLen;omega)
 have hseq:SeqGives Fence.wide 2 Tryz.prog 158 #[.P g] encStr (fun ss=>ss.Perm (strKeys D)) (Maps.size D) w:=
  AnyZ.keys_gives (ρ:=Tryz.keysS_ren) { Tryz.keysS with } Fence.wide _ trivial rfl (by omega) g b l.length D _ (Array.getElem?_eq_some_iff.1 (hS.get (b:=g) .head)).1 (hS.cell (b:=g) (off:=0) .head rfl) hD1
 have cS:=AnyZ.sorted_in Tryz.sortedS Fence.wide 5 trivial trivial trivial trivial rfl (by omega) (dV4 _) (enters_of Tryz.func121 (by kernel_rfl) rfl) 158 #[.P g] trivial (enters_of Tryz.func158 (by kernel_rfl) rfl) _ _ (by rw[hD2];unfold maxLen;omega) (by rw[hD2];omega) _ hseq;change CallsIn _ _ Tryz.prog 78 _ _ _ at cS;refine((callsIn_wide (n:=5)).1 cS).mono ?_;rintro e w' ⟨v,ss,rfl,hP,hrow,hnil,hb⟩;refine⟨v,rfl,?_⟩;have hp:=hP.trans hD3;have e:=LW7 (l:=l.map (·.1)) (ss:=ss) (by rw[List.map_map];exact hp);rw[e,show ss.length=l.length by rw[hp.length_eq,jM]]at hrow;exact(hS.drop).called hb hrow
end
end Go.Proofs.YtienbkdjkjbelaaGreat
end
