/-
  What requests leave of an economy, for the document's alone.
-/
import Derived.Test.YtienbkdjkjbelaaGreatJuA2M5
import Derived.Test.YtienbkdjkjbelaaGreatJuA2M20
import Derived.Test.YtienbkdjkjbelaaGreatJuA2M27
import Derived.Test.YtienbkdjkjbelaaGreatJuA2M38
set_option maxHeartbeats 16000000
set_option maxRecDepth 100000
set_option linter.unusedSimpArgs false
set_option linter.unusedVariables false
section
namespace Go.Proofs.YtienbkdjkjbelaaGreat
open Go.RowKit Go.Sl
theorem Na7{L:List Ord}{j:Nat}(hj:j<L.length)(hL:∀x∈L,MayP x){c:Int}(h1:0<=c)(h2:c<=(at' L j).cnt):(∀x∈aW4 L j c,MayP x)/\(aW4 L j c).length<=L.length:=by
 have hx:=hL _ (H9 hj);unfold aW4;split
 ·exact⟨fun x hx=>hL x (List.mem_of_mem_eraseIdx hx),List.length_eraseIdx_le ..⟩
 ·refine⟨fun x hxm=>?_,by rw[List.length_set];exact Nat.le_refl _⟩
  rcases List.mem_or_eq_of_mem_set hxm with hx'|rfl
  ·exact hL x hx'
  ·exact EC7 hx (by omega) (by omega)
theorem IO7:∀(f:Nat) (o:Ord) (L:List Ord) (ts:List Trd),(∀x∈L,MayP x)->0<=o.cnt->
  (∀x∈(r6 f o L ts).2.1,MayP x)/\(r6 f o L ts).2.1.length<=L.length/\∃c:Int,(r6 f o L ts).1={ o with cnt:=c }/\c<=o.cnt
 | 0,o,L,ts,hL,h0=>⟨hL,Nat.le_refl _,o.cnt,rfl,Int.le_refl _⟩
 | f+1,o,L,ts,hL,h0=>by
  rw[r6];by_cases hc:0<o.cnt
  ·rw[if_pos hc]
   cases hb:r8 o L L.length with
   | none=>exact⟨hL,Nat.le_refl _,o.cnt,rfl,Int.le_refl _⟩
   | some j=>
    obtain⟨hj,hm,_⟩:=AD7 hb;have hx:=hL _ (H9 hj);have hx0:=hx.cnt0;have hmin:=CV7 hc (show 0<(at' L j).cnt by omega);obtain⟨g1,g2⟩:=Na7 hj hL (c:=(at' L j).cnt-K7 o.cnt (at' L j).cnt) (by omega) (by omega);obtain⟨i1,i2,c,i3,i4⟩:=IO7 f { o with cnt:=o.cnt-K7 o.cnt (at' L j).cnt } _ (ts++[E8 o (at' L j)]) g1 (show 0<=o.cnt-K7 o.cnt (at' L j).cnt by omega);have i5:c<=o.cnt-K7 o.cnt (at' L j).cnt:=i4;exact⟨i1,Nat.le_trans i2 g2,c,i3,by omega⟩
  ·rw[if_neg hc];exact⟨hL,Nat.le_refl _,o.cnt,rfl,Int.le_refl _⟩
theorem Nb7{L:List Ord}{o:Ord}(hL:∀x∈L,MayP x)(ho:MayP o):(∀x∈bG4 L o,MayP x)/\(bG4 L o).length<=L.length+1:=by
 have hc0:=ho.cnt0;obtain⟨h1,h2,c,h3,h4⟩:=IO7 (L.length+1) o L [] hL (by omega);unfold bG4;split
 ·rename_i hc
  rw[h3]at hc ⊢;refine⟨fun x hx=>?_,by rw[jA,List.length_singleton];omega⟩
  rcases List.mem_append.1 hx with hx|hx
  ·exact h1 x hx
  ·rw[List.mem_singleton]at hx;subst hx;exact EC7 ho (by simp only at hc;omega) h4
 ·exact⟨h1,by omega⟩
theorem Ls7{V:Vs}{o:Ord}(hn:1<=V.n)(hL:∀x∈V.L,MayP x)(hl:V.L.length<=32):(∀x∈(x8 V o).2.2.L,MayP x)/\(x8 V o).2.2.L.length<=32:=by
 unfold x8;split
 ·exact⟨hL,hl⟩
 split
 ·exact⟨hL,hl⟩
 split
 ·rename_i h1 h2 _
  have hm:aM4 o=true:=by simpa using h1
  have hm2:=Aq7.1 hm;have hmo:MayP { o with id:=V.n }:=⟨hn,by show V.n<=_;omega,hm2.who0,hm2.who1,hm2.item0,hm2.item1,hm2.cnt0,hm2.cnt1,hm2.price0,hm2.price1⟩
  obtain⟨g1,g2⟩:=Nb7 hL hmo;exact⟨g1,by show(bG4 V.L { o with id:=V.n }).length<=32;omega⟩
 ·exact⟨hL,hl⟩
theorem Lt7{V:Vs}{who:ByteArray}{id:Int}(hL:∀x∈V.L,MayP x)(hl:V.L.length<=32):(∀x∈(A8 V who id).2.L,MayP x)/\(A8 V who id).2.L.length<=32:=by
 unfold A8;split
 ·show(∀x∈(p9 V.L id).L,MayP x)/\(p9 V.L id).L.length<=32
  unfold p9;split
  ·exact⟨hL,hl⟩
  ·exact⟨fun x hx=>hL x (List.mem_of_mem_eraseIdx hx),Nat.le_trans (List.length_eraseIdx_le ..) hl⟩
 ·exact⟨hL,hl⟩
theorem Nc7{V:Vs}{o:Opn}(hn:1<=V.n)(hL:∀x∈V.L,MayP x)(hl:V.L.length<=32):(∀x∈(doV V o).2.L,MayP x)/\(doV V o).2.L.length<=32:=by
 unfold doV;split
 ·exact⟨hL,hl⟩
 split
 ·exact⟨hL,hl⟩
 split
 ·exact Ls7 hn hL hl
 split
 ·exact Lt7 hL hl
 split
 ·exact⟨hL,hl⟩
 split
 ·exact⟨hL,hl⟩
 ·exact⟨hL,hl⟩
theorem OS7{V:Vs}{i:Nat}{o:Opn}(h:VOk V.ps V.n i)(hL:∀x∈V.L,MayP x)(hl:V.L.length<=32):VOk (doV V o).2.ps (doV V o).2.n (i+1):=by
 have hput:∀it,VOk (G8 V.ps o.aw it) V.n (i+1):=fun it=>⟨ID7 h.ok _ _,Al7 (FO7 h.w _ _) (by omega),h.n0,by have:=h.n1;omega⟩
 unfold doV;split
 ·exact hput _
 split
 ·exact⟨Cl7 h.ok _ _,Al7 (Dd7 h.w _ _) (by omega),h.n0,by have:=h.n1;show V.n<=_;omega⟩
 split
 ·have h1:=Kt7 (V:=V) (o:=al4 o) h.ok h.n0 hL;have h2:=Kz7 (V:=V) (o:=al4 o) h.w hL hl
  have h3:(x8 V (al4 o)).2.2.n<=V.n+1:=by
   unfold x8
   repeat' split
   all_goals dsimp only
   all_goals omega
  exact⟨h1.1,Al7 h2 (by omega),h1.2,by have:=h.n1;show(x8 V (al4 o)).2.2.n<=_;omega⟩
 split
 ·have h1:=Ku7 (V:=V) (who:=o.aw) (id:=o.id) h.ok h.n0 hL;have h2:=KA7 (V:=V) (who:=o.aw) (id:=o.id) h.w hL;have h3:(A8 V o.aw o.id).2.n=V.n:=by unfold A8;split <;> rfl
  exact⟨h1.1,Al7 h2 (by omega),h1.2,by have:=h.n1;show(A8 V o.aw o.id).2.n<=_;omega⟩
 split
 ·exact h.on
 split
 ·exact hput _
 ·exact h.on
theorem OT7(e:Ec)(o:Opn):(m7 e o).2.2.vs=e.vs\/(m7 e o).2.2.vs=(aO4 e o.ak (doV (atV e o.ak) o).2).vs:=by
 unfold m7;split
 ·exact .inl rfl
 ·exact .inr rfl
theorem Nd7{e:Ec}{n:Nat}(hE:EOk e n)(he:cx4 e)(k:ByteArray):VOk (atV e k).ps (atV e k).n n/\(∀x∈(atV e k).L,MayP x)/\(atV e k).L.length<=32:=by
 unfold atV
 cases hg:j5 e.vs k with
 | none=>exact⟨dP4 n,fun x hx=>(by cases hx),Nat.zero_le _⟩
 | some V=>
  have h2:=AA7 hg;exact⟨hE _ h2,(he _ h2).1,(he _ h2).2⟩
theorem Ne7{e:Ec}{k:ByteArray}{V:Vs}{x:ByteArray×Vs}(h:x∈(aO4 e k V).vs):x∈e.vs\/x=(k,V):=by
 have h2:x∈(if w8 V=true then i9 e.vs k else(k,V)::i9 e.vs k):=h;split at h2
 ·exact .inl (List.mem_filter.1 h2).1
 ·rcases List.mem_cons.1 h2 with h2|h2
  ·exact .inr h2
  ·exact .inl (List.mem_filter.1 h2).1
theorem Nf7{e:Ec}{n:Nat}(hE:EOk e n)(he:cx4 e)(o:Opn):EOk (m7 e o).2.2 (n+1)/\cx4 (m7 e o).2.2:=by
 obtain⟨g1,g2,g3⟩:=Nd7 hE he o.ak;have d1:=Nc7 (o:=o) g1.n0 g2 g3;have d2:=OS7 (o:=o) g1 g2 g3
 have hx:∀x∈(m7 e o).2.2.vs,x∈e.vs\/x=(o.ak,(doV (atV e o.ak) o).2):=fun x hx=>by
  rcases OT7 e o with h|h
  ·rw[h]at hx;exact .inl hx
  ·rw[h]at hx;exact Ne7 hx
 refine⟨fun x hm=>?_,fun x hm=>?_⟩
 ·rcases hx x hm with h|rfl
  ·exact(hE x h).on
  ·exact d2
 ·rcases hx x hm with h|rfl
  ·exact he x h
  ·exact d1
structure JOk(d e:Ec)(n:Nat):Prop where
 ok:GOk d e n
 each:cx4 e
theorem ga4:JOk ec0 ec0 0:=⟨fQ4,fun _ h=>(by cases h)⟩
theorem JOk.app{d e:Ec}{n:Nat}(h:JOk d e n)(o:Opn):JOk (I8 d o).2.2 (m7 e o).2.2 (n+1):=by obtain⟨h1,h2⟩:=Nf7 h.ok.ok h.each o;exact⟨h.ok.app o h1,h2⟩
theorem JOk.dok{d e:Ec}{n:Nat}(h:JOk d e n)(hn:n<=5000)(k:ByteArray):DOk d k n:=h.ok.dok hn h.each k
theorem ET7(xs:List Opn):∀i,i<=xs.length->JOk (bn4 (xs.take i) ec0) (A5 (xs.take i) ec0) i
 | 0,_=>by rw[List.take_zero];exact ga4
 | i+1,h=>by have:=(ET7 xs i (by omega)).app xs[i];rw[FX7 (by omega),HU7 (by omega)];exact this
theorem JOk.same{d e:Ec}{n:Nat}(h:JOk d e n)(o:Opn):(I8 d o).1=(m7 e o).1/\(I8 d o).2.1=(m7 e o).2.1:=by obtain⟨g1,g2,_⟩:=Lc7 h.ok.sim o;exact⟨g1,g2⟩
theorem HX7{L:List HP}(xs:List Opn)(a:Option Addr)(cap:Nat)(h63:xs.length<=9223372036854775807)(hat:∀i (h:i<xs.length), ∃b off,a=some ⟨b,off,none⟩/\∀j v,(xs[i]).cells[j]? = some v->i6 L b (off+i*12+j) v)(W w:World)(hS:St W L w):
  Calls Tryz.prog 7 #[.slice a xs.length cap] w fun e w'=>∃h:Bool,(h=false->xs.length<=150)/\e=.returned (.bool h)/\St W L w':=by
 have Hat:=jH hat
 clear hat
 go_enter Tryz.func7,Tryz.ntmps7;by_cases h150:150<xs.length
 ·have d0:((150:Nat):Int)<(xs.length:Int):=by omega
  go_wp2_with(first|go_big_skip);go_ret;exact⟨_,fun h=>(by cases h),rfl,hS⟩
 have d0:decide ((150:Int)<(xs.length:Int))=false:=by simp;omega
 go_wp2_with(first|go_big_skip)
 go_loopw [3] (fun v wr=>fG4 W L xs.length v wr) (fun v _=>xs.length-(intOf v).toNat)
 case atStart=>exact⟨0,rfl,by omega,hS⟩
 case round=>
  clear hS;obtain⟨i,rfl,hi,hS⟩:=hrel;by_cases hend:i=xs.length
  ·subst hend;have d1:decide ((xs.length:Int)<(xs.length:Int))=false:=by simp
   go_wp2_with(first|go_big_skip);go_ret;exact⟨_,fun _=>by omega,rfl,hS⟩
  have hil:i<xs.length:=by omega
  clear hend hi;obtain⟨pb,poff,rfl,hA⟩:=Hat.out i hil;have c3:=hA 3 _ rfl;have c4:=hA 4 _ rfl;have c5:=hA 5 _ rfl;have c6:=hA 6 _ rfl;clear hA;generalize xs[i]=x at c3 c4 c5 c6;obtain⟨kd,cl,sq,ak,aw,tk,tw,it,ct,pr,bu,id⟩:=x;simp only at c3 c4 c5 c6;by_cases h1:60<ak.size
  ·have d1:(60:Int)<(ak.size:Int):=by omega
   go_wp2_with(first|go_big_skip|refine zl1 hS ?_);go_ret;exact⟨_,fun h=>(by cases h),rfl,hS⟩
  have d1:decide ((60:Int)<(ak.size:Int))=false:=by simp;omega
  by_cases h2:60<aw.size
  ·have d2:(60:Int)<(aw.size:Int):=by omega
   go_wp2_with(first|go_big_skip|refine zl1 hS ?_);go_ret;exact⟨_,fun h=>(by cases h),rfl,hS⟩
  have d2:decide ((60:Int)<(aw.size:Int))=false:=by simp;omega
  by_cases h3:60<tk.size
  ·have d3:(60:Int)<(tk.size:Int):=by omega
   go_wp2_with(first|go_big_skip|refine zl1 hS ?_);go_ret;exact⟨_,fun h=>(by cases h),rfl,hS⟩
  have d3:decide ((60:Int)<(tk.size:Int))=false:=by simp;omega
  by_cases h4:60<tw.size
  ·have d4:(60:Int)<(tw.size:Int):=by omega
   go_wp2_with(first|go_big_skip|refine zl1 hS ?_);go_ret;exact⟨_,fun h=>(by cases h),rfl,hS⟩
  have d4:decide ((60:Int)<(tw.size:Int))=false:=by simp;omega
  go_wp2_with(first|go_big_skip|refine zl1 hS ?_);go_roundw
  case rel=>exact⟨i+1,rfl,hil,hS⟩
  case measure=>simp[intOf];try omega
theorem Ej7{xs:List Opn}{v:Value}{V:World}(hv:w5 Opn.cells 12 V v xs)(W w:World)(Lr:List HP)(hS:St W (Old V::Lr) w):
  Calls Tryz.prog 7 #[v] w fun e w'=>∃h:Bool,(h=false->xs.length<=150)/\e=.returned (.bool h)/\St W (Old V::Lr) w':=by
 obtain⟨a,cap,rfl,h63,hact⟩:=hv.opn;exact HX7 xs a cap h63 (fun i hi=>(hact i hi).imp fun b h=>h.imp fun off h=>⟨h.1,fun j v hj=>i6.old .head (h.2.all j v hj)⟩) W w hS
structure Evn where
 zone:Int
 index:Int
 op:Opn
def Evn.cells(e:Evn):List Value:=.I e.zone::.I e.index::e.op.cells
theorem Evn.len(e:Evn):e.cells.length=14:=rfl
def bi4:List Opn->Nat->List Evn
 | [],_=>[]
 | o::l,i=>⟨1,(i:Int)+1,o⟩::bi4 l (i+1)
def C5(xs:List Opn):List Evn:=bi4 xs 0
theorem Hm7(o:Opn):∀(l:List Opn) (i:Nat),bi4 (l++[o]) i=bi4 l i++[⟨1,((i+l.length:Nat):Int)+1,o⟩]
 | [],i=>rfl
 | x::l,i=>by
  rw[jK,bi4,Hm7 o l (i+1),bi4,jK,jC]
  congr 4
  omega
theorem Hn7:∀(l:List Opn) (i:Nat),(bi4 l i).length=l.length
 | [],_=>rfl
 | _::l,i=>by rw[bi4,jC,jC,Hn7 l]
theorem Ho7:∀(l:List Opn) (i:Nat),(bi4 l i).map (·.op)=l
 | [],_=>rfl
 | _::l,i=>by rw[bi4,List.map_cons,Ho7 l]
theorem Lu7(xs:List Opn):(C5 xs).length=xs.length:=Hn7 xs 0
theorem AF7(xs:List Opn):(C5 xs).map (·.op)=xs:=Ho7 xs 0
theorem Ng7{xs:List Opn}{i:Nat}(h:i<xs.length):C5 (xs.take (i+1))=C5 (xs.take i)++[⟨1,(i:Int)+1,xs[i]⟩]:=by unfold C5;rw[List.take_succ_eq_append_getElem h,Hm7,jT,Nat.min_eq_left (by omega),Nat.zero_add]
def evR(T:TypeId)(v:Value)(l:List Evn):HP:=row v 14 T l.length (l.flatMap Evn.cells)
theorem aw4{α:Type}{enc:α->List Value}{k:Nat}{T:TypeId}{v:Value}{acc:List α}{y:α}{news:List Value}{W w:World}{L:List HP}(h:St W (row v k T (acc.length+1) (acc.flatMap enc++news)::L) w)(hn:news=enc y):St W (row v k T (acc++[y]).length ((acc++[y]).flatMap enc)::L) w:=by subst hn;rw[jA,List.length_singleton,List.flatMap_append,List.flatMap_cons,List.flatMap_nil,List.append_nil];exact h
def ToR(W:World)(L:List HP)(xs:List Opn)(v1 v2 v3:Value)(w:World):Prop:=
 ∃i:Nat,v3=.I i/\i<=xs.length/\St W (evR 76 v1 (C5 (xs.take i))::evR 77 v2 (C5 (xs.take i))::L) w
theorem Hp7(xs:List Opn)(hlen:xs.length<=150)(v:Value)(V:World)(hv:w5 Opn.cells 12 V v xs)(W w:World)(Lr:List HP)(hS:St W (Old V::Lr) w):
  Calls Tryz.prog 8 #[v] w fun e w'=>∃va vb,e=.returned (.tuple #[va,vb])/\St W (evR 76 va (C5 xs)::evR 77 vb (C5 xs)::Old V::Lr) w':=by
 obtain⟨a,cap,rfl,h63,hact⟩:=hv.opn;have Ha:=jH hact;clear hact hv;go_enter Tryz.func8,Tryz.ntmps8;go_wp2_with(first|go_big_skip);have hS0:=(hS.rowNil (k:=14) (T:=77)).rowNil (k:=14) (T:=76);clear hS;have hS:=hS0;clear hS0
 go_loopw [4,5,6] (fun v1 v2 v3 wr=>ToR W (Old V::Lr) xs v1 v2 v3 wr) (fun _ _ v3 _=>xs.length-(intOf v3).toNat)
 case atStart=>exact⟨0,rfl,Nat.zero_le _,hS⟩
 case round=>
  clear hS;obtain⟨i,rfl,hi,hS⟩:=hrel;by_cases hil:i<xs.length
  ·have hd1:decide (i<xs.length)=true:=decide_eq_true hil;obtain⟨pb,poff,rfl,hA⟩:=Ha.out i hil;have hall:=hA.all;clear hA;have hstep:=Ng7 hil;have hal:(C5 (xs.take i)).length=i:=by rw[Lu7,jT];omega
   generalize C5 (xs.take i)=acc at hS hstep hal;generalize xs[i]=x at hall hstep;obtain⟨kd,cl,sq,ak,aw,tk,tw,it,ct,pr,bu,id⟩:=x;simp only[Opn.cells]at hall;have Hstep:=jH hstep;have hal1:acc.length<=i:=by omega
   have hal2:i<=acc.length:=by omega
   clear hstep hal hi;unfold evR at hS;go_wp2_with(first|go_big_skip|refine zlN hS ?_ (vs:=[.I kd,.I cl,.I sq,.string ak,.string aw,.string tk,.string tw,.I it,.I ct,.I pr,.bool bu,.I id]) (hc:=by exact d8.old (by exact ab4) hall)|(fail_if_success (have:=gA));(refine zbs hS ?_;clear hS;have gA:Nat:=0;intro bA w hS)|(have:=gA);refine zbs hS ?_;clear hS;intro bB w hS|(fail_if_success (have:=gP));(refine zap hS ?_ (h63:=by unfold maxLen;omega) (hb:=by omega);clear hS;have gP:Nat:=0;intro va w hS)|(have:=gP);refine zap hS ?_ (h63:=by unfold maxLen;omega) (hb:=by omega);clear hS;intro vb w hS);go_roundw
   case rel=>
    refine⟨i+1,rfl,hil,?_⟩;rw[Hstep.out];have h0:=hS.s (row va 14 76 (acc.length+1) (acc.flatMap Evn.cells++_)::row vb 14 77 (acc.length+1) (acc.flatMap Evn.cells++_)::Old V::Lr);have h1:=aw4 (y:=(⟨1,(i:Int)+1,⟨kd,cl,sq,ak,aw,tk,tw,it,ct,pr,bu,id⟩⟩:Evn)) h0 rfl;have h2:=aw4 (y:=(⟨1,(i:Int)+1,⟨kd,cl,sq,ak,aw,tk,tw,it,ct,pr,bu,id⟩⟩:Evn)) h1.swap rfl;exact h2.swap
   case measure=>simp[intOf];omega
  ·have hd1:decide (i<xs.length)=false:=decide_eq_false hil;have hi2:i=xs.length:=by omega
   rw[hi2,List.take_length]at hS;clear hi hil hi2;go_wp2_with(first|go_big_skip);go_ret2;exact⟨_,_,rfl,hS⟩
theorem Rpl.len6(r:Rpl):r.cells.length=6:=rfl
def aA4(v:Value)(l:List Rpl):HP:=row v 6 36 l.length (l.flatMap Rpl.cells)
theorem DM7{evs:List Evn}{xs:List Opn}(hx:evs.map (·.op)=xs){i:Nat}(h:i<evs.length):∃h2:i<xs.length,evs[i].op=xs[i]:=by subst hx;exact⟨by rw[jM];exact h,by simp⟩
theorem w5.evn{V:World}{v:Value}{evs:List Evn}(h:w5 Evn.cells 14 V v evs):∃a cap,v=.slice a evs.length cap/\∀i (h:i<evs.length), ∃b off,a=some ⟨b,off,none⟩/\∀(j:Nat) (v:Value),evs[i].cells[j]? = some v->V.cell? ⟨b,off+i*14+j,none⟩=some v:=by obtain⟨a,cap,hv,h63,hc⟩:=h;exact⟨a,cap,hv,hc⟩
theorem Lv7{V:World}{b off:Nat}{e:Evn}(h:∀(j:Nat) (v:Value),e.cells[j]? = some v->V.cell? ⟨b,off+j,none⟩=some v):∀(j:Nat) (v:Value),e.op.cells[j]? = some v->V.cell? ⟨b,off+2+j,none⟩=some v:=fun j v hj=>by have:=h (j+2) v (by rw[Evn.cells,List.getElem?_cons_succ,List.getElem?_cons_succ];exact hj);rwa [show off+(j+2)=off+2+j by omega]at this
def gb4(W:World)(L:List HP)(eb:Nat)(xs:List Opn)(v1 v2:Value)(w:World):Prop:=
 ∃i:Nat,v2=.I i/\i<=xs.length/\St W (aA4 v1 (k8 (xs.take i) ec0)::ecP eb (A5 (xs.take i) ec0)::L) w
theorem HY7{evs:List Evn}{xs:List Opn}(hx:evs.map (·.op)=xs)(hlen:xs.length<=150)(v:Value)(V:World)(hv:w5 Evn.cells 14 V v evs)(W w:World)(Lr:List HP)(hS:St W (Old V::Lr) w):
  Calls Tryz.prog 21 #[v] w fun e w'=>∃vr eb,e=.returned (.tuple #[vr,.P eb])/\St W (aA4 vr (k8 xs ec0)::ecP eb (A5 xs ec0)::Old V::Lr) w':=by
 obtain⟨a,cap,rfl,hact⟩:=hv.evn;have hl0:evs.length=xs.length:=by rw[<-hx,jM]
 have Ha:=jH hact;have Hx:=jH hx;rw[hl0];have Hl:=jH hl0;clear hact hv hx hl0;go_enter Tryz.func21,Tryz.ntmps21;go_wp2_with(first|go_big_skip|go_at_call 26;refine(GX7 W _ _ hS).mono ?_;clear hS;rintro e w ⟨eb,rfl,hS⟩);have hS0:=hS.rowNil (k:=6) (T:=36);clear hS;have hS:=hS0;clear hS0
 go_loopw [2,14] (fun v1 v2 wr=>gb4 W (Old V::Lr) eb xs v1 v2 wr) (fun _ v2 _=>xs.length-(intOf v2).toNat)
 case atStart=>exact⟨0,rfl,Nat.zero_le _,hS⟩
 case round=>
  clear hS;obtain⟨i,rfl,hi,hS⟩:=hrel;by_cases hil:i<xs.length
  ·have hd1:decide (i<xs.length)=true:=decide_eq_true hil;obtain⟨pb,poff,rfl,hall⟩:=Ha.out i (by rw[Hl.out];exact hil);obtain⟨_,hop⟩:=DM7 Hx.out (i:=i) (by rw[Hl.out];exact hil);have hok:EOk (A5 (xs.take i) ec0) i:=(ET7 xs i hi).ok.ok;have hstep:=Ga7 hil ec0;have hrun:=FX7 hil ec0;have hal:(k8 (xs.take i) ec0).length=i:=by rw[As7,jT];omega
   generalize k8 (xs.take i) ec0=acc at hS hstep hal;generalize A5 (xs.take i) ec0=e1 at hS hok hstep hrun;rw[<-hop]at hstep hrun;clear hop;generalize evs[i]'(by rw[Hl.out];exact hil)=x at hall hstep hrun;obtain⟨zn,ix,kd,cl,sq,ak,aw,tk,tw,it,ct,pr,bu,id⟩:=x;simp only[Evn.cells,Opn.cells]at hall;obtain⟨⟨⟨r0,r1,⟨r2,r3,r4,r5⟩⟩,rb,e2⟩,h1⟩:∃z,m7 e1 ⟨kd,cl,sq,ak,aw,tk,tw,it,ct,pr,bu,id⟩=z:=⟨_,rfl⟩
   rw[h1]at hstep hrun;have H1:=jH h1;have Hstep:=jH hstep;have Hrun:=jH hrun;have Hok:=jH hok;have hal1:acc.length<=i:=by omega
   have hi9:i<=150:=by omega
   clear hstep hrun hal hi h1 hok;obtain⟨na,nc,rfl⟩:=hS.rowVal;go_wp2_with(first|go_big_skip|refine zlN hS ?_ (vs:=[.I zn,.I ix,.I kd,.I cl,.I sq,.string ak,.string aw,.string tk,.string tw,.I it,.I ct,.I pr,.bool bu,.I id]) (hc:=by exact d8.old (by exact ab4) hall)|(fail_if_success (have:=gA));(refine zal hS ?_;clear hS;have gA:Nat:=0;intro bA w hS)|(have:=gA);refine zal hS ?_;clear hS;intro bB w hS|refine zsN hS ?_;clear hS;intro w hS|go_at_call 27;(have hS9:=hS.s (ecP eb e1::blk bA [.I zn,.I ix,.I kd,.I cl,.I sq,.string ak,.string aw,.string tk,.string tw,.I it,.I ct,.I pr,.bool bu,.I id] 76::aA4 (.slice na acc.length nc) acc::Old V::Lr));clear hS;refine Calls.mono (ES7 Hok.out (by omega) H1.out W _ _ hS9) ?_;clear hS9;rintro ex w ⟨_,rfl,hS⟩|refine zlN hS ?_ (vs:=[.I kd,.I cl,.I sq,.string ak,.string aw,.string tk,.string tw,.I it,.I ct,.I pr,.bool bu,.I id]) (hc:=by exact d8.here rfl)|refine zlN hS ?_|refine zl1 hS ?_|refine zbs hS ?_;clear hS;intro bS w hS|refine zap hS ?_ (h63:=by unfold maxLen;omega) (hb:=by omega);clear hS;intro va w hS);go_roundw
   case rel=>
    refine⟨i+1,rfl,hil,?_⟩;rw[Hstep.out,Hrun.out];have h0:=hS.s (row va 6 36 (acc.length+1) (acc.flatMap Rpl.cells++_)::ecP eb e2::Old V::Lr);have h1:=aw4 (y:=(⟨r0,r1,⟨r2,r3,r4,r5⟩⟩:Rpl)) h0 rfl;exact h1
   case measure=>simp[intOf];omega
  ·have hd1:decide (i<xs.length)=false:=decide_eq_false hil;have hi2:i=xs.length:=by omega
   rw[hi2,List.take_length]at hS;clear hi hil hi2;go_wp2_with(first|go_big_skip);go_ret2;exact⟨_,_,rfl,hS⟩
def gc4(W:World)(L:List HP)(xb:Nat)(xs:List Opn)(v1 v2:Value)(w:World):Prop:=
 ∃i:Nat,v2=.I i/\i<=xs.length/\St W (aA4 v1 (k8 (xs.take i) ec0)::aK4 xb (bn4 (xs.take i) ec0)::L) w
theorem DW7{evs:List Evn}{xs:List Opn}(hx:evs.map (·.op)=xs)(hlen:xs.length<=150)(v:Value)(V:World)(hv:w5 Evn.cells 14 V v evs)(W w:World)(Lr:List HP)(hS:St W (Old V::Lr) w):
  Calls Tryz.prog 12 #[v] w fun e w'=>∃vr xb,e=.returned (.tuple #[vr,.P xb])/\St W (aA4 vr (k8 xs ec0)::aK4 xb (bn4 xs ec0)::Old V::Lr) w':=by
 obtain⟨a,cap,rfl,hact⟩:=hv.evn;have hl0:evs.length=xs.length:=by rw[<-hx,jM]
 have Ha:=jH hact;have Hx:=jH hx;rw[hl0];have Hl:=jH hl0;clear hact hv hx hl0;go_enter Tryz.func12,Tryz.ntmps12;go_wp2_with(first|go_big_skip|refine zbx hS ?_;clear hS;intro xb w hS);have hS0:=(fj4 (hS.s (xeB xb (.slice none 0 0) (.slice none 0 0) (.slice none 0 0) (.slice none 0 0)::Old V::Lr))).rowNil (k:=6) (T:=36);clear hS;have hS:=hS0;clear hS0
 go_loopw [5,6] (fun v1 v2 wr=>gc4 W (Old V::Lr) xb xs v1 v2 wr) (fun _ v2 _=>xs.length-(intOf v2).toNat)
 case atStart=>exact⟨0,rfl,Nat.zero_le _,hS⟩
 case round=>
  clear hS;obtain⟨i,rfl,hi,hS⟩:=hrel;by_cases hil:i<xs.length
  ·have hd1:decide (i<xs.length)=true:=decide_eq_true hil;obtain⟨pb,poff,rfl,hall⟩:=Ha.out i (by rw[Hl.out];exact hil);obtain⟨_,hop0⟩:=DM7 Hx.out (i:=i) (by rw[Hl.out];exact hil);have hj:=ET7 xs i hi;have hsm:=hj.same xs[i];have hok:=fun k=>hj.dok (by omega) k
   have hstep:=Ga7 hil ec0;have hrun:=HU7 hil ec0;have hal:(k8 (xs.take i) ec0).length=i:=by rw[As7,jT];omega
   clear hj;generalize k8 (xs.take i) ec0=acc at hS hstep hal;rw[<-hsm.1]at hstep;clear hsm;generalize bn4 (xs.take i) ec0=d1 at hS hok hstep hrun;rw[<-hop0]at hstep hrun;clear hop0;have hop:=Lv7 hall;clear hall;generalize evs[i]'(by rw[Hl.out];exact hil)=x at hop hstep hrun;obtain⟨zn,ix,kd,cl,sq,ak,aw,tk,tw,it,ct,pr,bu,id⟩:=x;simp only[Opn.cells]at hop;obtain⟨⟨⟨r0,r1,⟨r2,r3,r4,r5⟩⟩,rb,d2⟩,h1⟩:∃z,I8 d1 ⟨kd,cl,sq,ak,aw,tk,tw,it,ct,pr,bu,id⟩=z:=⟨_,rfl⟩
   rw[h1]at hstep hrun;have H1:=jH h1;have Hstep:=jH hstep;have Hrun:=jH hrun;have Hok:=jH (hok ak);have hal1:acc.length<=i:=by omega
   have hi9:i<=150:=by omega
   clear hstep hrun hal hi h1 hok;obtain⟨na,nc,rfl⟩:=hS.rowVal;go_wp2_with(first|go_big_skip|refine zlN hS ?_ (vs:=[.I kd,.I cl,.I sq,.string ak,.string aw,.string tk,.string tw,.I it,.I ct,.I pr,.bool bu,.I id]) (hc:=by exact d8.old (by exact ab4) hop)|go_at_call 25;refine(ER7 (by omega) Hok.out H1.out W _ _ (hS.s (aK4 xb d1::aA4 (.slice na acc.length nc) acc::Old V::Lr))).mono ?_;clear hS;rintro ex w ⟨rfl,hS⟩|refine zal hS ?_;clear hS;intro bB w hS|refine zsN hS ?_;clear hS;intro w hS|refine zlN hS ?_|refine zl1 hS ?_|refine zbs hS ?_;clear hS;intro bS w hS|refine zap hS ?_ (h63:=by unfold maxLen;omega) (hb:=by omega);clear hS;intro va w hS);go_roundw
   case rel=>
    refine⟨i+1,rfl,hil,?_⟩;rw[Hstep.out,Hrun.out];have h0:=hS.s (row va 6 36 (acc.length+1) (acc.flatMap Rpl.cells++_)::aK4 xb d2::Old V::Lr);have h1:=aw4 (y:=(⟨r0,r1,⟨r2,r3,r4,r5⟩⟩:Rpl)) h0 rfl;exact h1
   case measure=>simp[intOf];omega
  ·have hd1:decide (i<xs.length)=false:=decide_eq_false hil;have hi2:i=xs.length:=by omega
   rw[hi2,List.take_length]at hS;clear hi hil hi2;go_wp2_with(first|go_big_skip);go_ret2;exact⟨_,_,rfl,hS⟩
end Go.Proofs.YtienbkdjkjbelaaGreat
end
