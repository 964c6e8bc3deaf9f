/-
  The vault's purses as they are listed.
-/
import Derived.Test.YtienbkdjkjbelaaGreatJuRM1
import Derived.Test.YtienbkdjkjbelaaGreatJuRM5
import Derived.Test.YtienbkdjkjbelaaGreatJuRM18
import Derived.Test.YtienbkdjkjbelaaGreatJuRM21
import Derived.Sort.Walk0
import Derived.Test.YtienbkdjkjbelaaGreatRows
import Derived.Lib.SmallJoins
import Derived.ChangeArms
import Derived.ProofKit
import Derived.WalkKit
import Derived.OpenShut
import Derived.ChangeSame
import Derived.ReadAgain
set_option maxHeartbeats 16000000
set_option maxRecDepth 100000
set_option linter.unusedSimpArgs false
set_option linter.unusedVariables false
section
namespace Go.Proofs.YtienbkdjkjbelaaGreat
open Go.RowKit Go.Sl
structure PsW(p:Ps)(N:Nat):Prop where
 nd:(p.map (·.1)).Nodup
 nz:∀x∈p,isZ x.2=false
 who:∀x∈p,x9 x.1=true
 len:p.length<=N
theorem Kk7(N:Nat):PsW [] N:=⟨List.nodup_nil,fun _ h=>(by cases h),fun _ h=>(by cases h),Nat.zero_le _⟩
theorem Al7{p:Ps}{N M:Nat}(h:PsW p N)(hm:N<=M):PsW p M:=⟨h.nd,h.nz,h.who,Nat.le_trans h.len hm⟩
theorem Ct7{p:Ps}{k:ByteArray}{x:ByteArray×It}(hx:x∈i9 p k):x∈p/\x.1≠k:=by have h:=List.mem_filter.1 hx;exact⟨h.1,by simpa using h.2⟩
theorem DG7{p:Ps}(h:(p.map (·.1)).Nodup)(k:ByteArray):((i9 p k).map (·.1)).Nodup:=h.sublist (List.filter_sublist.map _)
theorem HB7{p:Ps}{N:Nat}(h:PsW p N){k:ByteArray}(hk:x9 k=true)(i:It):PsW (E7 p k i) (N+1):=by
 have hnd:=DG7 h.nd k;have hl:(i9 p k).length<=N:=Nat.le_trans (List.length_filter_le _ _) h.len;unfold E7;split
 ·exact⟨hnd,fun x hx=>h.nz x (Ct7 hx).1,fun x hx=>h.who x (Ct7 hx).1,by omega⟩
 ·rename_i hz
  refine⟨?_,?_,?_,by simpa using hl⟩
  ·rw[List.map_cons,List.nodup_cons];refine⟨fun hm=>?_,hnd⟩;obtain⟨x,hx,e⟩:=List.mem_map.1 hm;exact(Ct7 hx).2 e
  ·intro x hx
   rcases List.mem_cons.1 hx with rfl|hx
   ·simpa using hz
   ·exact h.nz x (Ct7 hx).1
  ·intro x hx
   rcases List.mem_cons.1 hx with rfl|hx
   ·exact hk
   ·exact h.who x (Ct7 hx).1
theorem DH7{o:Ord}(h:MayP o):x9 o.who=true:=by unfold x9;simp;exact⟨h.who0,h.who1⟩
theorem Kl7{k:ByteArray}(h:x9 k=true):k.size<=16:=by unfold x9 at h;simp at h;omega
section
variable{p:Ps}{N:Nat}
theorem Ax7(h:PsW p N){who:ByteArray}(hk:x9 who=true)(k n:Int):PsW (k9 p who k n) (N+1):=HB7 h hk _
theorem FH7(h:PsW p N)(k:ByteArray)(i:It):PsW (G8 p k i) (N+1):=by
 unfold G8;split
 ·rename_i hc
  split
  ·exact HB7 h hc.1 _
  ·exact Al7 h (by omega)
 ·exact Al7 h (by omega)
theorem Dc7(h:PsW p N)(k:ByteArray)(i:It):PsW (s5 p k i) (N+1):=by
 unfold s5;split
 ·rename_i hc
  split
  ·exact HB7 h hc.1 _
  ·exact Al7 h (by omega)
 ·exact Al7 h (by omega)
theorem LX7(h:PsW p N){who:ByteArray}(hk:x9 who=true)(i:It):PsW (bT4 p who i) (N+4):=
 Ax7 (Ax7 (Ax7 (Ax7 h hk _ _) hk _ _) hk _ _) hk _ _
theorem Nw7(h:PsW p N){t:Trd}(ht:x9 t.buyer=true/\x9 t.seller=true):PsW (av4 p t) (N+3):=
 Ax7 (Ax7 (Ax7 h ht.1 _ _) ht.1 _ _) ht.2 _ _
end
theorem FI7:∀(ts:List Trd) {p:Ps} {N:Nat},PsW p N->(∀t∈ts,x9 t.buyer=true/\x9 t.seller=true)->PsW (ts.foldl av4 p) (N+3*ts.length)
 | [],_,_,h,_=>h
 | t::ts,_,_,h,ht=>Al7 (FI7 ts (Nw7 h (ht t (List.mem_cons_self ..))) fun x hx=>ht x (List.mem_cons_of_mem _ hx)) (by rw[jC];omega)
theorem DI7:∀(f:Nat) (o:Ord) (L:List Ord) (ts:List Trd),(r6 f o L ts).2.2.length<=ts.length+f
 | 0,o,L,ts=>by rw[r6];exact Nat.le_refl _
 | f+1,o,L,ts=>by
  rw[r6];split
  ·split
   ·show ts.length<=_;omega
   ·refine Nat.le_trans (DI7 f _ _ _) ?_;rw[jA,List.length_singleton];omega
  ·show ts.length<=_;omega
theorem LY7{L:List Ord}{k:Nat}{c:Int}(hk:k<L.length)(h:∀x∈L,x9 x.who=true):∀x∈aS4 L k c,x9 x.who=true:=by
 unfold aS4;split
 ·exact fun x hx=>h x (List.mem_of_mem_eraseIdx hx)
 ·intro x hxm
  rcases List.mem_or_eq_of_mem_set hxm with hx'|rfl
  ·exact h x hx'
  ·exact h (at' L k) (H9 hk)
theorem DJ7:∀(f:Nat) (o:Ord) (L:List Ord) (ts:List Trd),(∀x∈L,x9 x.who=true)->x9 o.who=true->(∀t∈ts,x9 t.buyer=true/\x9 t.seller=true)->∀t∈(r6 f o L ts).2.2,x9 t.buyer=true/\x9 t.seller=true
 | 0,o,L,ts,_,_,h=>h
 | f+1,o,L,ts,hL,ho,h=>by
  rw[r6];by_cases h0:0<o.cnt
  ·rw[if_pos h0]
   cases hb:r8 o L L.length with
   | none=>exact h
   | some k=>
    obtain⟨hk,hm,_⟩:=AC7 hb;have hx:=hL _ (H9 hk);refine DJ7 f _ _ _ (LY7 hk hL) ho ?_;intro t ht
    rcases List.mem_append.1 ht with ht|ht
    ·exact h t ht
    ·rw[List.mem_singleton.1 ht];unfold E8;split
     ·exact⟨ho,hx⟩
     ·exact⟨hx,ho⟩
  ·rw[if_neg h0];exact h
theorem Km7{V:Vs}{o:Ord}{N:Nat}(h:PsW V.ps N)(hL:∀x∈V.L,MayP x)(hl:V.L.length<=32):PsW (w9 V o).2.2.ps (N+100):=by
 unfold w9;split
 ·exact Al7 h (by omega)
 ·rename_i h1
  have hm:=Aq7.1 (show H5 { o with id:=1 }=true by simpa[aI4]using h1);split
  ·exact Al7 h (by omega)
  ·split
   ·have hlen:=DI7 (V.L.length+1) { o with id:=V.n } V.L [];refine Al7 (FI7 _ (Dc7 h _ _) (DJ7 _ _ _ _ (fun x hx=>DH7 (hL x hx)) (by have h9:=DH7 hm;exact h9) fun t ht=>(by cases ht))) ?_;unfold aJ4;rw[List.length_nil]at hlen;omega
   ·exact Al7 h (by omega)
theorem Dd7{a b:ByteArray}(h:a.data.toList=b.data.toList):a=b:=by obtain⟨⟨a⟩⟩:=a;obtain⟨⟨b⟩⟩:=b;simp at h;rw[h]
theorem Kn7{V:Vs}{who:ByteArray}{id:Int}{N:Nat}(h:PsW V.ps N)(hL:∀x∈V.L,MayP x):PsW (A6 V who id).2.ps (N+100):=by
 unfold A6;split
 ·rename_i hh
  obtain⟨x,hx,hx2⟩:=List.any_eq_true.1 hh;unfold O9 at hx2;have e:x.who=who:=by have e1:=(jB _ _▸hx2).2;rw[Lib.toList_data,Lib.toList_data]at e1;exact Dd7 (by simpa using e1)
  exact Al7 (LX7 h (e▸DH7 (hL x hx)) _) (by omega)
 ·exact Al7 h (by omega)
structure Hd where
 who:ByteArray
 has:It
def Hd.cells(h:Hd):List Value:=.string h.who::h.has.cells
theorem Hd.len(h:Hd):h.cells.length=5:=rfl
def kL(p:Ps):List ByteArray:=br4 (p.map (·.1))
def hdL(p:Ps):List Hd:=(kL p).map fun k=>⟨k,j7 p k⟩
theorem MU7(p:Ps):(kL p).length=p.length:=by unfold kL;rw[(AN7 _).length_eq,jM]
theorem ED7(p:Ps):(hdL p).length=p.length:=by unfold hdL;rw[jM,MU7]
theorem Om7{p:Ps}{k:ByteArray}(h:k∈kL p):∃x∈p,x.1=k:=List.mem_map.1 ((AN7 _).mem_iff.1 h)
section
variable{p:Ps}{N:Nat}
theorem eu4(hw:PsW p N){k:ByteArray}(h:k∈kL p):isZ (j7 p k)=false:=by obtain⟨x,hx,rfl⟩:=Om7 h;have:=Fy7 (v:=x.2) hw.nd hx;unfold j7;rw[this];exact hw.nz x hx
theorem GJ7{x y:ByteArray}(h:leB x y=true)(hne:x≠y):Op.bytesLess x.toList y.toList=true:=by
 rw[bytesLess_eq,Lib.toList_data,Lib.toList_data,decide_eq_true_eq];refine(List.le_iff_lt_or_eq.1 (by simpa[leB]using h)).resolve_right fun e=>hne ?_
 obtain⟨⟨a⟩⟩:=x;obtain⟨⟨b⟩⟩:=y;simp at e;rw[e]
theorem ev4(hw:PsW p N){i j:Nat}(hij:i<j)(hj:j<(kL p).length):Op.bytesLess ((kL p)[i]'(Nat.lt_trans hij hj)).toList (kL p)[j].toList=true:=by
 have hnd:(kL p).Nodup:=(AN7 _).nodup_iff.2 hw.nd;refine GJ7 (List.pairwise_iff_getElem.1 (Ba7 _) i j (Nat.lt_trans hij hj) hj hij) fun e=>?_
 have:=(List.getElem_inj hnd).1 e;omega
theorem On7(hw:PsW p N){j:Nat}(hj:j<(hdL p).length):(hdL p)[j].has=j7 p (hdL p)[j].who/\isZ (hdL p)[j].has=false/\∀i, ∀hi:i<j,Op.bytesLess ((hdL p)[i]'(Nat.lt_trans hi hj)).who.toList (hdL p)[j].who.toList=true:=by
 have hj2:j<(kL p).length:=by unfold hdL at hj;rwa [jM]at hj
 have e:(hdL p)[j]=⟨(kL p)[j],j7 p (kL p)[j]⟩:=by simp[hdL]
 refine⟨by rw[e],by rw[e];exact eu4 hw (jW hj2),fun i hi=>?_⟩;have e2:(hdL p)[i]'(Nat.lt_trans hi hj)=⟨(kL p)[i]'(Nat.lt_trans hi hj2),j7 p ((kL p)[i]'(Nat.lt_trans hi hj2))⟩:=by simp[hdL]
 rw[e,e2];exact ev4 hw hi hj2
end
def HvR(W:World)(L:List HP)(n:Nat)(v:Value)(w:World):Prop:=∃i:Nat,v=.I i/\i<=n/\i<=100/\St W L w
abbrev hdR(v:Value)(l:List Hd):HP:=row v 5 171 l.length (l.flatMap Hd.cells)
def LhR(W:World)(F:List HP)(p:Ps)(v5 v17:Value)(w:World):Prop:=
 ∃k:Nat,v17=.I k/\k<=p.length/\St W (row v5 5 171 k (((hdL p).take k).flatMap Hd.cells)::F) w
def liR(bb:Nat)(L:List Ord)(n:Int)(v:Value):HP:=fun f=>∃(a:Option Addr) (c:Nat),v=.slice a L.length c/\sats [t8 bb L n,j6 (.slice a L.length c) L] f
section
variable{W w:World}{bb:Nat}{L:List Ord}{n:Int}{v:Value}{R:List HP}
theorem dX4(h:St W (liR bb L n v::R) w):∃a c,v=.slice a L.length c/\St W (t8 bb L n::j6 (.slice a L.length c) L::R) w:=by obtain⟨a,h⟩:=St.ex h;obtain⟨c,h⟩:=St.ex h;obtain⟨h1,h⟩:=St.and h;exact⟨a,c,h1,(St.split (St.split h).swap).swap.drop.swap⟩
theorem dY4{a:Option Addr}{c:Nat}(hv:v=.slice a L.length c)(h:St W (t8 bb L n::j6 (.slice a L.length c) L::R) w):St W (liR bb L n v::R) w:=by refine St.mkEx a (St.mkEx c (St.mkAnd hv ?_));refine St.join ?_;refine St.swap (St.imp h.swap ?_);intro f hf;exact⟨fun _=>true,hf,trivial⟩
theorem ew4(hS:St W (t8 bb L n::R) w):
  Calls Tryz.prog 124 #[.P bb] w fun e w'=>∃v,e=.returned v/\St W (liR bb L n v::R) w':=by
 refine(DE7 hS).mono ?_;rintro e w' ⟨a,c,rfl,hS⟩;exact⟨_,rfl,dY4 rfl hS⟩
end
theorem Fk7(vb mb bb:Nat)(p:Ps)(L:List Ord)(n:Int){N:Nat}(hw:PsW p N)(hN:N<=1000000000)(W w:World)(R:List HP)(hS:St W (w6 vb mb bb p L n R) w):
  Calls Tryz.prog 83 #[.P vb] w fun e w'=>∃a c a2 c2,e=.returned (.tuple #[.slice a (hdL p).length c,.slice a2 L.length c2,.I n]) /\
   St W (w6 vb mb bb p L n (hdR (.slice a (hdL p).length c) (hdL p)::j6 (.slice a2 L.length c2) L::R)) w':=by
 have hlen:=hw.len;have Hw:=jH hw;clear hw;go_enter Tryz.func83,Tryz.ntmps83;go_wp2_with(first|go_at_call 123;refine(Jb7 (some mb) W _ _ (hS.s (d9 eS eP mb p::blk vb _ _::t8 bb L n::R))).mono ?_;clear hS;rintro e w ⟨g,rfl,hS⟩|go_at_call 78;refine(GI7 (fun x hx=>by have:=Kl7 (Hw.out.who x hx);unfold maxLen;omega) (by omega) hS).mono ?_;clear hS;rintro e w ⟨v,rfl,hS⟩;(have hv:=hS.rowVal;obtain⟨sa,sc,rfl⟩:=hv)|refine zl1 hS ?_);have hS1:=hS.rowNil (k:=5) (T:=171);clear hS;have hS:=hS1;clear hS1
 go_loopw [5,17] (fun v5 v17 wr=>LhR W (row (.slice sa p.length sc) 1 9 p.length ((br4 (p.map (·.1))).map eS)::d9 eS eP mb p::blk vb [.map (some mb),.P bb,.I n] 215::t8 bb L n::R) p v5 v17 wr) (fun _ v17 _=>p.length-(intOf v17).toNat)
 case atStart=>exact⟨0,rfl,Nat.zero_le _,hS⟩
 case round=>
  clear hS;obtain⟨k,rfl,hkl,hS⟩:=hrel;have hlk:=MU7 p;have hlh:=ED7 p;by_cases hkn:k=p.length
  ·have e1:(hdL p).take k=hdL p:=List.take_of_length_le (by omega);rw[e1]at hS;have e2:k=(hdL p).length:=by omega
   have hd1:decide (k<p.length)=false:=by simp;omega
   clear e1 hkl hlk;clear hkn hlh;subst e2;go_wp2_with(fail);have hS:=hS.s (t8 bb L n::blk vb _ _::d9 eS eP mb p::row u5 5 _ _ _::R);refine rf3 [0,0,2,6,14,30,0,64,192,448,63,1087,4095] (fun i=>i==5) (fun _=>none) [⟨some 5,none,fun nd=>liR bb L n (nd 5)⟩] [some 5,none,none,none] hS ?_;intro nd
   iterate 2 (refine cR ?_)
   (refine zcn ?_);refine cR ?_;refine zc1 ?_;apply AZ7;rfl;rfl;rfl;decide +kernel;(focus(simp only[fD,fI,fJ,Act.eval,fE,fF,fG,fH,fK];try rfl));(intro _;rfl);(intro F w hS;exact ew4 hS);(refine frS ?_);refine cR ?_;refine zcn ?_;refine cR ?_;refine zc1 ?_
   iterate 3 (refine cR ?_)
   refine Ad7 ?_;clear hS;intro w hS;have hS2:St W [liR bb L n (nd 5),blk vb _ _,d9 eS eP mb p,row u5 5 _ _ _,sats R] w:=hS;clear hS;have hS:=hS2.unpack [_,_,_,_];clear hS2;simp only[jK,jN]at hS;generalize nd 5=v5 at *;obtain⟨a2,c2,rfl,hS5⟩:=dX4 hS;clear hS;have hv:=hS5.drop.drop.drop.drop.rowVal;obtain⟨a,c,rfl⟩:=hv;clear hS;have hS:=hS5;clear hS5;go_wp2_with fail;go_ret3;exact⟨a,c,a2,c2,rfl,hS.s _⟩
  ·have hk1:k<p.length:=by omega
   have hks:k<(hdL p).length:=by omega
   have hkk:k<(kL p).length:=by omega
   have hx1:((br4 (p.map (·.1))).map eS)[k]? = some (.string (kL p)[k]):=by
    rw[List.getElem?_map];show((kL p)[k]?).map eS=_
    rw[jG hkk];rfl
   have htk:((hdL p).take (k+1)).flatMap Hd.cells=((hdL p).take k).flatMap Hd.cells++(Hd.mk (kL p)[k] (j7 p (kL p)[k])).cells:=by rw[List.take_succ_eq_append_getElem hks,List.flatMap_append];simp[hdL]
   obtain⟨⟨g2,rfl⟩,_,_⟩:=St.rowAddr hS.drop (by omega);obtain⟨x,hx⟩:∃x,j7 p (kL p)[k]=x:=⟨_,rfl⟩
   rw[hx]at htk;generalize (kL p)[k]=key at hx htk hx1;obtain⟨x0,x1,x2,x3⟩:=x;have Hx:=jH hx;have Htk:=jH htk;have HX:=jH hx1;clear hx htk hx1 hkn hkl hlk hlh hks hkk;go_wp2_with(first|refine zl1 hS ?_ (hc:=by exact i6.there (i6.row (by omega) HX.out))|(with_reducible apply Gs7 (ek:=eS) (ev:=eP) (k:=key) it0 ⟨x0,x1,x2,x3⟩ hS);rfl;rfl;rfl;rfl;exact i7;exact mP;exact kS;exact zP;rfl;exact Hx.out;simp only[Act.put,fA,fB,fC,Nat.reduceAdd,eP,It.cells]|refine zbs hS ?_;clear hS;intro bS w hS|refine zap hS ?_ (h63:=by unfold maxLen;omega) (hb:=by omega);clear hS;intro v w hS|refine zl1 hS ?_);go_roundw
   case rel=>
    refine⟨k+1,rfl,hk1,?_⟩;rw[Htk.out];have h0:St W (row v 5 171 (k+1) (((hdL p).take k).flatMap Hd.cells++(Hd.mk key ⟨x0,x1,x2,x3⟩).cells)::_) w:=hS;exact h0.s _
   case measure=>simp[intOf];omega
end Go.Proofs.YtienbkdjkjbelaaGreat
end
section
namespace Go.Sl
open Go.RowKit
section
variable{P:Program}{W:World}{L:List HP}{ops:Array Oper}{Q:Act->Prop}{a:Act}{rest:List Oper}{o:Oper}
theorem MV7{t t2:TypeId}{x y:Operand}{xs ys:Array Value}{r:Bool}(ho:o.op=.binOp .eql t x y t2)(hg:Region.wanted o (yielded ops a.tmps)=true)(hx:a.eval x=.agg xs)(hy:a.eval y=.agg ys)(hm:P.eqGuardType P.depth t=false)(hr:∀w:World,(Op.equalIn 10000 t (.agg xs) (.agg ys)).run P w=.ok r w)
  (h:wpQuiet P ops (St W L) Q rest (a.put o.dst (.bool r))):wpQuiet P ops (St W L) Q (o::rest) a:=
 FZ7 hg (fun w _=>by unfold execOp;simp[ho,hx,hy,run_eqGuard_agg w .eql t x y xs ys hm,run_eql_struct,hr]) h
end
end Go.Sl
namespace Go.Proofs.YtienbkdjkjbelaaGreat
open Go.RowKit Go.Sl
structure VOk(p:Ps)(n:Int)(i:Nat):Prop where
 ok:K5 p
 w:PsW p (100*i)
 n0:1<=n
 n1:n<=1+i
theorem ex4:VOk [] 1 0:=⟨FE7,Kk7 _,by decide,by decide⟩
theorem VOk.on{p:Ps}{n:Int}{i:Nat}(h:VOk p n i):VOk p n (i+1):=⟨h.ok,Al7 h.w (by omega),h.n0,by have:=h.n1;omega⟩
section
variable(vb mb bb:Nat){p:Ps}{L:List Ord}{n:Int}{i:Nat}(W w:World)(R:List HP)
theorem Oo7(h:VOk p n i)(who:ByteArray)(it:It)(hS:St W (w6 vb mb bb p L n R) w):
  Calls Tryz.prog 110 #[.P vb,.string who,.agg it.cells.toArray] w fun e w'=>e=.returned (.I (J8 p who it))/\VOk (G8 p who it) n (i+1)/\St W (w6 vb mb bb (G8 p who it) L n R) w':=by
 refine(LG7 vb mb p who _ _ it W w _ hS).mono ?_;rintro e w' ⟨rfl,hS⟩;exact⟨rfl,⟨Ip7 h.ok _ _,Al7 (FH7 h.w _ _) (by omega),h.n0,by have:=h.n1;omega⟩,hS⟩
theorem Nx7(h:VOk p n i)(who:ByteArray)(it:It)(hS:St W (w6 vb mb bb p L n R) w):
  Calls Tryz.prog 112 #[.P vb,.string who,.agg it.cells.toArray] w fun e w'=>e=.returned (.I (m9 p who it))/\VOk (s5 p who it) n (i+1)/\St W (w6 vb mb bb (s5 p who it) L n R) w':=by
 refine(Eo7 vb mb p who _ _ it W w _ hS).mono ?_;rintro e w' ⟨rfl,hS⟩;exact⟨rfl,⟨Ci7 h.ok _ _,Al7 (Dc7 h.w _ _) (by omega),h.n0,by have:=h.n1;omega⟩,hS⟩
theorem Ny7(h:VOk p n i)(o:Ord)(hS:St W (w6 vb mb bb p L n R) w):
  Calls Tryz.prog 113 #[.P vb,.agg o.cells.toArray] w fun e w'=>e=.returned (.tuple #[.I (w9 ⟨p,L,n⟩ o).1,.I (w9 ⟨p,L,n⟩ o).2.1]) /\
   VOk (w9 ⟨p,L,n⟩ o).2.2.ps (w9 ⟨p,L,n⟩ o).2.2.n (i+1)/\St W (w6 vb mb bb (w9 ⟨p,L,n⟩ o).2.2.ps (w9 ⟨p,L,n⟩ o).2.2.L (w9 ⟨p,L,n⟩ o).2.2.n R) w':=by
 have hll:=CX7 hS.drop.drop;have hmay:∀x∈L,MayP x:=fun x hx=>(Cs7 hS.drop.drop x hx).1
 refine(Kd7 vb mb bb ⟨p,L,n⟩ o h.ok h.n0 W w R hS).mono ?_;rintro e w' ⟨rfl,hS⟩;have h1:=Kg7 (V:=⟨p,L,n⟩) (o:=o) h.ok h.n0 hmay;have h2:=Km7 (V:=⟨p,L,n⟩) (o:=o) h.w hmay hll
 have h3:(w9 ⟨p,L,n⟩ o).2.2.n<=n+1:=by
  unfold w9
  repeat' split
  all_goals dsimp only
  all_goals omega
 exact⟨rfl,⟨h1.1,Al7 h2 (by omega),h1.2,by have:=h.n1;omega⟩,hS⟩
theorem Nz7(h:VOk p n i)(who:ByteArray)(id:Int)(hS:St W (w6 vb mb bb p L n R) w):
  Calls Tryz.prog 114 #[.P vb,.string who,.I id] w fun e w'=>e=.returned (.I (A6 ⟨p,L,n⟩ who id).1) /\
   VOk (A6 ⟨p,L,n⟩ who id).2.ps n (i+1)/\St W (w6 vb mb bb (A6 ⟨p,L,n⟩ who id).2.ps (A6 ⟨p,L,n⟩ who id).2.L n R) w':=by
 have hmay:∀x∈L,MayP x:=fun x hx=>(Cs7 hS.drop.drop x hx).1
 refine(Ke7 vb mb bb ⟨p,L,n⟩ who id h.ok W w R hS).mono ?_;rintro e w' ⟨rfl,hS⟩;have h1:=Kh7 (V:=⟨p,L,n⟩) (who:=who) (id:=id) h.ok h.n0 hmay;have h2:=Kn7 (V:=⟨p,L,n⟩) (who:=who) (id:=id) h.w hmay;have h3:(A6 ⟨p,L,n⟩ who id).2.n=n:=by unfold A6;split <;> rfl
 rw[h3]at hS;exact⟨rfl,⟨h1.1,Al7 h2 (by omega),h.n0,by have:=h.n1;omega⟩,hS⟩
theorem Op7(u1 u2:Value){k:ByteArray}{x0 x1 x2 x3:Int}(hx:j7 p k=⟨x0,x1,x2,x3⟩)(hS:St W (blk vb [.map (some mb),u1,u2] 215::d9 eS eP mb p::R) w):
  Calls Tryz.prog 155 #[.P vb,.string k] w fun e w'=>e=.returned (.agg #[.I x0,.I x1,.I x2,.I x3])/\St W (blk vb [.map (some mb),u1,u2] 215::d9 eS eP mb p::R) w':=by
 refine(LD7 vb mb p k u1 u2 W w R hS).mono ?_;rw[hx];exact fun e w' h=>h
end
structure Opn where
 kind:Int
 client:Int
 seq:Int
 ak:ByteArray
 aw:ByteArray
 tk:ByteArray
 tw:ByteArray
 item:Int
 cnt:Int
 price:Int
 buy:Bool
 id:Int
def Opn.cells(o:Opn):List Value:=[.I o.kind,.I o.client,.I o.seq,.string o.ak,.string o.aw,.string o.tk,.string o.tw,.I o.item,.I o.cnt,.I o.price,.bool o.buy,.I o.id]
theorem Opn.len(o:Opn):o.cells.length=12:=rfl
structure Rpl where
 err:Int
 id:Int
 has:It
def Rpl.cells(r:Rpl):List Value:=.I r.err::.I r.id::r.has.cells
abbrev rp0:Rpl:=⟨0,0,it0⟩
structure Tns where
 client:Int
 seq:Int
 ak:ByteArray
 aw:ByteArray
 tk:ByteArray
 tw:ByteArray
 item:Int
 cnt:Int
def Tns.cells(t:Tns):List Value:=[.I t.client,.I t.seq,.string t.ak,.string t.aw,.string t.tk,.string t.tw,.I t.item,.I t.cnt]
theorem Tns.len(t:Tns):t.cells.length=8:=rfl
structure Ec where
 vs:List (ByteArray×Vs)
 ss:List (Int×(Int×Rpl))
 ts:List ((Int×Int)×Tns)
 ar:List ((Int×Int)×Unit)
abbrev ec0:Ec:=⟨[],[],[],[]⟩
abbrev vs0:Vs:=⟨[],[],1⟩
def noB(u:ByteArray):Bool:=decide (u.size=0)
def E9(o:Opn):Bool:=decide (0<=o.item)&&(decide (o.item<4)&&(decide (1<=o.cnt)&&decide (o.cnt<=1048576)))
def cG4(o:Opn):Bool:=noB o.tk&&(noB o.tw&&(decide (o.price=0)&&(!o.buy&&decide (o.id=0))))
def af4(k u:ByteArray):Bool:=x9 k&&x9 u
def r7(o:Opn):Bool:=E9 o&&cG4 o
def K6(o:Opn):Bool:=af4 o.tk o.tw&&(E9 o&&(decide (o.price=0)&&(!o.buy&&decide (o.id=0))))
def F7(o:Opn):Bool:=decide (1<=o.item)&&(decide (1<=o.price)&&(decide (o.price<=1024)&&(E9 o&&(noB o.tk&&(noB o.tw&&decide (o.id=0))))))
def D8(o:Opn):Bool:=decide (1<=o.id)&&(decide (o.id<=1099511627776)&&(noB o.tk&&(noB o.tw&&(decide (o.item=0)&&(decide (o.cnt=0)&&(decide (o.price=0)&&!o.buy))))))
def bs4(o:Opn):Bool:=noB o.tk&&(noB o.tw&&(decide (o.item=0)&&(decide (o.cnt=0)&&(decide (o.price=0)&&(!o.buy&&decide (o.id=0))))))
def G7(o:Opn):Bool:=
 if o.kind=1 then r7 o else if o.kind=2 then K6 o else if o.kind=3 then F7 o else if o.kind=4 then D8 o
 else if o.kind=5 then bs4 o else if o.kind=6 then r7 o else if o.kind=7 then bs4 o else false
def D7(o:Opn):Bool:=decide (1<=o.client)&&(decide (o.client<=1048576)&&(decide (1<=o.seq)&&(decide (o.seq<=1099511627776)&&af4 o.ak o.aw)))
def t6(o:Opn):Bool:=D7 o&&G7 o
def A7(e:Ec)(o:Opn):Rpl×Bool:=
 if t6 o=false then(⟨1,0,it0⟩,true)
 else if o.kind=6 then(rp0,(j5 e.ar (o.client,o.seq)).isSome)
 else if o.kind=7 then(rp0,(j5 e.ts (o.client,o.seq)).isNone)
 else match j5 e.ss o.client with
  | none=>(rp0,false)
  | some (q,r)=>if o.seq<q then(⟨13,0,it0⟩,true)else if o.seq=q then(r,true)else(rp0,false)
def atV(e:Ec)(k:ByteArray):Vs:=(j5 e.vs k).getD vs0
def w7(V:Vs):Bool:=decide (V.ps.length=0)&&(decide (V.L.length=0)&&decide (V.n=1))
def aK4(e:Ec)(k:ByteArray)(V:Vs):Ec:={ e with vs:=if w7 V=true then i9 e.vs k else(k,V)::i9 e.vs k }
def r9(item n:Int):It:=ap4 it0 item n
def cr4(o:Opn):Tns:=⟨o.client,o.seq,o.ak,o.aw,o.tk,o.tw,o.item,o.cnt⟩
def aj4(o:Opn):Ord:=⟨0,o.aw,o.buy,o.item,o.cnt,o.price⟩
def doV(V:Vs)(o:Opn):Rpl×Vs:=
 if o.kind=1 then(⟨J8 V.ps o.aw (r9 o.item o.cnt),0,it0⟩, { V with ps:=G8 V.ps o.aw (r9 o.item o.cnt) })
 else if o.kind=2 then(⟨m9 V.ps o.aw (r9 o.item o.cnt),0,it0⟩, { V with ps:=s5 V.ps o.aw (r9 o.item o.cnt) })
 else if o.kind=3 then(⟨(w9 V (aj4 o)).2.1,(w9 V (aj4 o)).1,it0⟩,(w9 V (aj4 o)).2.2)
 else if o.kind=4 then(⟨(A6 V o.aw o.id).1,0,it0⟩,(A6 V o.aw o.id).2)
 else if o.kind=5 then(⟨0,0,j7 V.ps o.aw⟩,V)
 else if o.kind=6 then(rp0, { V with ps:=G8 V.ps o.aw (r9 o.item o.cnt) })
 else(rp0,V)
def doT(e:Ec)(o:Opn)(r:Rpl):List ((Int×Int)×Tns):=
 if o.kind=2/\r.err=0 then((o.client,o.seq),cr4 o)::i9 e.ts (o.client,o.seq)
 else if o.kind=7 then i9 e.ts (o.client,o.seq)else e.ts
def doA(e:Ec)(o:Opn):List ((Int×Int)×Unit):=if o.kind=6 then((o.client,o.seq),())::i9 e.ar (o.client,o.seq)else e.ar
def doS(e:Ec)(o:Opn)(r:Rpl):List (Int×(Int×Rpl)):=if o.kind=6\/o.kind=7 then e.ss else(o.client,(o.seq,r))::i9 e.ss o.client
def p8(e:Ec)(o:Opn):Rpl×Bool×Ec:=
 if(A7 e o).2=true then((A7 e o).1,false,e)
 else
  let r:=(doV (atV e o.ak) o).1
  (r,true, { aK4 e o.ak (doV (atV e o.ak) o).2 with ss:=doS e o r,ts:=doT e o r,ar:=doA e o })
end Go.Proofs.YtienbkdjkjbelaaGreat
end
section
namespace Go.Proofs.YtienbkdjkjbelaaGreat
open Go.Joins Go.ChangeShapes Go.WideShapes Go.RowKit Go.Deep Go.Sl
theorem EE7{H:Type}{enc:TypeId×Value->H}{w:World}{base:Nat}{spare:Nat->Bool}{held:Bool}{n:Nat}{cs:List Value}{y:DataW H×List MemPlace}
  (h:DataW.trod enc Tryz.prog w base spare held n 29 cs=some y):∃k u:ByteArray,cs=[.string k,.string u]:=by
 obtain⟨xs,n',rfl,hx,hlen,hxl,hg⟩:=DataW.trod_struct Tryz.underlying29 h;have hlen':cs.length=2:=hlen.trans (by kernel_rfl)
 match cs,hlen' with
 | [c0,c1],_=>
  match xs,hxl with
  | [y0,y1],_=>
   have g0:=hg 0 _ rfl;have g1:=hg 1 _ rfl;obtain⟨k,e0,_⟩:=DataW.trod_string Tryz.underlying9 (show DataW.trod enc Tryz.prog w base spare held n' 9 [c0]=some y0 from g0);obtain⟨u,e1,_⟩:=DataW.trod_string Tryz.underlying9 (show DataW.trod enc Tryz.prog w base spare held n' 9 [c1]=some y1 from g1);simp only[List.cons.injEq,and_true]at e0 e1;subst e0 e1;exact⟨k,u,rfl⟩
theorem Ko7{H:Type}{enc:TypeId×Value->H}{w:World}{base:Nat}{spare:Nat->Bool}{held:Bool}{n:Nat}{cs:List Value}{y:DataW H×List MemPlace}
  (h:DataW.trod enc Tryz.prog w base spare held n 31 cs=some y):∃o:Opn,cs=o.cells:=by
 obtain⟨xs,n',rfl,hx,hlen,hxl,hg⟩:=DataW.trod_struct Tryz.underlying31 h;have hlen':cs.length=12:=hlen.trans (by kernel_rfl)
 match cs,hlen' with
 | [c0,c1,c2,c3,c4,c5,c6,c7,c8,c9,c10,c11],_=>
  match xs,hxl with
  | [y0,y1,y2,y3,y4,y5,y6,y7,y8,y9],_=>
   have g0:=hg 0 _ rfl;have g1:=hg 1 _ rfl;have g2:=hg 2 _ rfl;have g3:=hg 3 _ rfl;have g4:=hg 4 _ rfl;have g5:=hg 5 _ rfl;have g6:=hg 6 _ rfl;have g7:=hg 7 _ rfl;have g8:=hg 8 _ rfl;have g9:=hg 9 _ rfl;obtain⟨z0,e0,_⟩:=DataW.trod_int Tryz.underlying3 (show DataW.trod enc Tryz.prog w base spare held n' 3 [c0]=some y0 from g0);obtain⟨z1,e1,_⟩:=DataW.trod_int Tryz.underlying3 (show DataW.trod enc Tryz.prog w base spare held n' 3 [c1]=some y1 from g1);obtain⟨z2,e2,_⟩:=DataW.trod_int Tryz.underlying3 (show DataW.trod enc Tryz.prog w base spare held n' 3 [c2]=some y2 from g2);obtain⟨ak,aw,e3⟩:=EE7 (show DataW.trod enc Tryz.prog w base spare held n' 29 [c3,c4]=some y3 from g3);obtain⟨tk,tw,e4⟩:=EE7 (show DataW.trod enc Tryz.prog w base spare held n' 29 [c5,c6]=some y4 from g4);obtain⟨z5,e5,_⟩:=DataW.trod_int Tryz.underlying3 (show DataW.trod enc Tryz.prog w base spare held n' 3 [c7]=some y5 from g5);obtain⟨z6,e6,_⟩:=DataW.trod_int Tryz.underlying3 (show DataW.trod enc Tryz.prog w base spare held n' 3 [c8]=some y6 from g6);obtain⟨z7,e7,_⟩:=DataW.trod_int Tryz.underlying3 (show DataW.trod enc Tryz.prog w base spare held n' 3 [c9]=some y7 from g7);obtain⟨z8,e8,_⟩:=DataW.trod_bool Tryz.underlying4 (show DataW.trod enc Tryz.prog w base spare held n' 4 [c10]=some y8 from g8);obtain⟨z9,e9,_⟩:=DataW.trod_int Tryz.underlying3 (show DataW.trod enc Tryz.prog w base spare held n' 3 [c11]=some y9 from g9);simp only[List.cons.injEq,and_true]at e0 e1 e2 e3 e4 e5 e6 e7 e8 e9;obtain⟨e3,e3'⟩:=e3;obtain⟨e4,e4'⟩:=e4;subst e0 e1 e2 e3 e3' e4 e4' e5 e6 e7 e8 e9;exact⟨⟨z0,z1,z2,ak,aw,tk,tw,z5,z6,z7,z8,z9⟩,rfl⟩
theorem open_opns{H:Type}{enc:TypeId×Value->H}{w:World}{base:Nat}{spare:Nat->Bool}{held:Bool}{r:Reach}{b0:Nat}{v:Value}{d:DataW H}{p:List MemPlace}
  (hv:Value.okWide Tryz.prog w r b0 22 v) (h:DataW.Trod enc Tryz.prog w base spare held 22 v d p):∃xs,C9 Opn.cells 12 w v xs:=
 Hv7 Opn.cells ⟨0,0,0,⟨#[]⟩,⟨#[]⟩,⟨#[]⟩,⟨#[]⟩,0,0,0,false,0⟩ Opn.len (by decide) Tryz.underlying22 (by kernel_rfl) (fun _ _ _ _ h => Ko7 h) hv h
structure OpnAt(V:World)(b off:Nat)(x:Opn):Prop where
 kind:V.cell? ⟨b,off,none⟩=some (.I x.kind)
 client:V.cell? ⟨b,off+1,none⟩=some (.I x.client)
 seq:V.cell? ⟨b,off+2,none⟩=some (.I x.seq)
 ak:V.cell? ⟨b,off+3,none⟩=some (.string x.ak)
 aw:V.cell? ⟨b,off+4,none⟩=some (.string x.aw)
 tk:V.cell? ⟨b,off+5,none⟩=some (.string x.tk)
 tw:V.cell? ⟨b,off+6,none⟩=some (.string x.tw)
 all:∀(j:Nat) (v:Value),x.cells[j]? = some v->V.cell? ⟨b,off+j,none⟩=some v
theorem C9.opn{V:World}{v:Value}{xs:List Opn}(h:C9 Opn.cells 12 V v xs):∃a cap,v=.slice a xs.length cap/\xs.length<=9223372036854775807/\∀i (h:i<xs.length), ∃b off,a=some ⟨b,off,none⟩/\OpnAt V b (off+i*12) xs[i]:=by obtain⟨a,cap,hv,h63,hc⟩:=h;refine⟨a,cap,hv,h63,fun i hi=>?_⟩;obtain⟨b,off,ha,hj⟩:=hc i hi;exact⟨b,off,ha,hj 0 _ rfl,hj 1 _ rfl,hj 2 _ rfl,hj 3 _ rfl,hj 4 _ rfl,hj 5 _ rfl,hj 6 _ rfl,fun j v hv=>hj j v hv⟩
end Go.Proofs.YtienbkdjkjbelaaGreat
end
section
namespace Go.Sl
open Go.ChangeShapes Go.WideShapes Go.ChangeAt Go.RowKit
section
variable{H:Type}{enc:TypeId×Value->H}{P:Program}
theorem De7{w w':World}{base:Nat}{spare:Nat->Bool}{held:Bool}:∀{ts:List TypeId} {vs:List Value} {ds:List (DataW H)} {ps:List MemPlace},
  DataW.TrodAll enc P w base spare held ts vs ds ps->(∀p∈ps,w.sameAt w' p)->DataW.TrodAll enc P w' base spare held ts vs ds ps
 | [],[],[],_,h,_=>h
 | _::_,_::_,_::_,_,⟨p,q,⟨n,hn⟩,h2,e⟩,hs=>
  ⟨p,q,⟨n,DataW.trod_carry n _ _ _ hn fun x hx=>hs x (by rw[e];exact List.mem_append_left _ hx)⟩,De7 h2 (fun x hx=>hs x (by rw[e];exact List.mem_append_right _ hx)),e⟩
theorem law_post{f:Func}{s:ChangeSpec}{apart fresh handsOn again:Bool}{W W':World}{args:Array Value}{ds gs:List (DataW H)}{before:List MemPlace}{tb:TypeId}
  (hl:laidOutB P=true) (hm:mapsRowed P=true) (hz:((List.range P.types.size).all fun t=>match P.underlying t with|some (.slice e)=>decide (0<P.cellsOf e)|_=>true)=true)
  (hT:f.params.toList.all (·<P.types.size)=true) (hr:f.resultTypes=#[tb]) (hb:P.underlying tb=some .bool) (hv:s.vars=[])
  (hW:DataW.Whole enc P f.params.toList s.vars apart W args.toList ds gs before)
  (hres:(s.fn H (ds++gs)).results=[.lit (.bool true)]) (hargs:(s.fn H (ds++gs)).args=ds) (hvars:(s.fn H (ds++gs)).vars=[])
  (hB:Below W.heap.size W W'):s.post enc P f apart fresh handsOn again W args (.bool true) W':=by
 have hW0:=hW;obtain⟨p,q,hA,hV,rfl,hfz,hnd⟩:=hW;rw[hv]at hV;obtain⟨rfl,rfl⟩:=trodVars_none hV;have hlt:∀x∈p++[],x.block<W.heap.size:=fun x hx=>hW0.lt x hx
 have hA':∀sp:Nat->Bool,(∀x∈p++[],sp x.block=true)->DataW.TrodAll enc P W' 0 sp true f.params.toList args.toList (s.fn H (ds++[])).args p:=fun sp hs=>by rw[hargs];refine De7 (DataW.TrodAll.respare (kids_rows hl hm) (fun t e=>slices_full_of P hz t e) (fun t ht=>by simpa using List.all_eq_true.1 hT t ht) hA fun x hx=>hs x (by simpa using hx)) fun x hx=>hB.same (hlt x (by simpa using hx))
 have hR:∀(b:Nat) (sp:Nat->Bool) (hd:Bool),DataW.TrodAll enc P W' b sp hd f.resultTypes.toList ((Value.bool true).resultList f.resultTypes.size) (s.fn H (ds++[])).results []:=fun b sp hd=>by rw[hres,hr];exact trodAll_cons_mk (shut_bool hb _) trodAll_mk0
 have hU:∀sp:Nat->Bool,DataW.TrodVars enc P W' sp s.vars (s.fn H (ds++[])).vars []:=fun sp=>by rw[hv,hvars];rfl
 have hold:∀x∈p++[],(fun b=>decide (b<W.heap.size)) x.block=true:=fun x hx=>by simpa using hlt x hx
 refine⟨ds,[],p++[],[],p,[],hW0,hR _ _ _,hA' _ hold,hU _,World.keptBut_mono (fun x hx=>⟨hx,?_⟩) (hB.frame (·∈p++[])),fun _=>?_⟩
 ·exact Or.inr (by simpa using hx)
 ·refine⟨ok_one hr rfl (okWide_bool_mk hb _),_,_,([]++p)++[],⟨[]++p,[],trodAll_append (hA' _ (fun _ _=>rfl)) (hR _ _ _),hU _,rfl,?_,?_⟩,?_⟩
  ·intro b off hx;rw[hB.frozen (hlt _ (by simpa using hx))];exact hfz b off (by simpa using hx)
  ·intro ha;simpa using hnd ha
  ·intro x hx _;simpa using hx
end
end Go.Sl
end
