/-
  A pile's own methods (how many, which is ahead, exchange, put, take).
-/
import Derived.Test.YtienbkdjkjbelaaGreatJuRM5
import Derived.Test.YtienbkdjkjbelaaGreatJuRM6
set_option maxHeartbeats 16000000
set_option maxRecDepth 100000
set_option linter.unusedSimpArgs false
set_option linter.unusedVariables false
section
namespace Go.Proofs.YtienbkdjkjbelaaGreat
open Go.RowKit Go.Sl
def D5{α:Type}(xs:List α)(i j:Nat)(hi:i<xs.length)(hj:j<xs.length):List α:=(xs.set i xs[j]).set j xs[i]
theorem Cg7(b:Option Addr)(n cap:Nat)(W w:World)(L:List HP)(hS:St W L w):
  Calls Tryz.prog 254 #[.slice b n cap] w fun e w'=>e=.returned (.I n)/\St W L w':=by
 go_enter Tryz.func254,Tryz.ntmps254;go_wp2_with(fail);go_ret;exact⟨rfl,hS⟩
theorem Bl7(xs:List Ord)(junk:List Value)(g n cap i j:Nat)(hn:xs.length=n)(hi:i<xs.length)(hj:j<xs.length)(hcap:n<=cap)(hm:cap<=maxLen)(W w:World)(L:List HP)(hS:St W (blk g (xs.flatMap Ord.cells++junk) 173::L) w):
  Calls Tryz.prog 258 #[.S g n cap,.I i,.I j] w fun e w'=>e=.returned (.tuple #[])/\St W (blk g ((D5 xs i j hi hj).flatMap Ord.cells++junk) 173::L) w':=by
 subst hn;unfold maxLen at hm;go_enter Tryz.func258,Tryz.ntmps258;go_wp2_with(fail)
 refine rf2 [0,0,0,0,0,0,48,112,0,0,768,1792,4083,8179,16383,32767] (fun i=>false) [⟨some 13,some 15,fun nd=>blk g ((xs.set i xs[j]).flatMap Ord.cells++junk) 173⟩,⟨some 15,none,fun nd=>blk g ((D5 xs i j hi hj).flatMap Ord.cells++junk) 173⟩]
  [some 13] hS ?_
 intro nd
 iterate 7 (refine cR ?_)
 (refine zcN ?_ (hc:=by(intro F;exact d8.elem Ord.len hj)))
 iterate 3 (refine cR ?_)
 (refine zcN ?_ (hc:=by(intro F;exact d8.elem Ord.len hi)));refine cR ?_;have hlt:∀k,k<xs.length->k*6+6<=xs.length*6:=fun k hk=>by omega
 have hfl:=Ab7 Ord.len xs;have hfl2:=Ab7 Ord.len (xs.set i xs[j]);rw[List.length_set]at hfl2;(apply cn4 (vs:=xs[j].cells);rfl;rfl;rfl;rfl;(focus((conv=>lhs;whnf);try rfl));rfl;kernel_rfl;rfl;rfl;(rw[jA,hfl,Ord.len];have:=hlt i hi;omega);exact Fr7 Ord.len xs junk i hi xs[j];rfl;try(refine frS ?_));refine cR ?_;(apply cn4 (vs:=xs[i].cells);rfl;rfl;rfl;rfl;(focus((conv=>lhs;whnf);try rfl));rfl;kernel_rfl;rfl;rfl;(rw[jA,hfl2,Ord.len];have:=hlt j hj;omega);exact Fr7 Ord.len (xs.set i xs[j]) junk j (by simpa using hj) xs[i];rfl;try(refine frS ?_));refine Ad7 ?_;clear hS;intro w hS;have hS:St W [blk g ((D5 xs i j hi hj).flatMap Ord.cells++junk) _,sats L] w:=hS;replace hS:=hS.unpack [_];simp only[jK,jN]at hS;go_wp2_with(fail);go_end0;exact⟨rfl,hS⟩
theorem Gt7(xs:List Ord)(junk:List Value)(l:List Value)(T:TypeId)(bb off g n cap:Nat)(hn:xs.length=n+1)(hcap:n+1<=cap)(hm:cap<=maxLen)(hl:l[off]? = some (.S g (n+1) cap))(W w:World)(L:List HP)
  (hS:St W (blk bb l T::blk g (xs.flatMap Ord.cells++junk) 173::L) w):
  Calls Tryz.prog 256 #[.pointer (some ⟨bb,off,none⟩)] w fun e w'=>e=.returned (.iface 173 (.agg (xs[n]'(by omega)).cells.toArray))/\St W (blk bb (l.set off (.S g n cap)) T::blk g (xs.flatMap Ord.cells++junk) 173::L) w':=by
 unfold maxLen at hm;have hn':n<xs.length:=by omega
 have hlt:off<l.length:=(List.getElem?_eq_some_iff.1 hl).1;generalize hx:xs[n]=x;have Hx:=jH hx;clear hx;obtain⟨i1,u1,y1,t1,c1,p1⟩:=x;simp only[Ord.cells];have hS:St W (blk bb l T::blk g (xs.flatMap Ord.cells++junk) 173::L) w:=hS;go_enter Tryz.func256,Tryz.ntmps256;go_wp2_with(first|refine zl1 hS ?_ (hc:=by exact i6.here hl)|refine zlN hS ?_ (hc:=by exact(d8.there (d8.elemEq Ord.len hn' Hx.out):d8 _ _ _ [.I i1,.string u1,.bool y1,.I t1,.I c1,.I p1]))|((with_reducible apply EX7 hS);rfl;rfl;rfl;(focus((conv=>lhs;whnf);try rfl));kernel_rfl;rfl;rfl;exact cy4;exact hlt;rfl;clear hS;intro w hS;try(refine frS ?_))|refine zlN hS ?_|refine zsN hS ?_;clear hS;intro w hS|refine zal hS ?_;clear hS;intro b w hS);go_ret;exact⟨rfl,hS.drop⟩
theorem IJ7(xs:List Ord)(o:Ord)(l:List Value)(T:TypeId)(bb off n:Nat)(v:Value)(hn:xs.length=n)(h63:n<=4294967296)(hl:l[off]? = some v)(W w:World)(L:List HP)
  (hS:St W (blk bb l T::row v 6 173 n (xs.flatMap Ord.cells)::L) w):
  Calls Tryz.prog 257 #[.pointer (some ⟨bb,off,none⟩),.iface 173 (.agg o.cells.toArray)] w fun e w'=>∃v',e=.returned (.tuple #[])/\St W (blk bb (l.set off v') T::row v' 6 173 (n+1) ((xs++[o]).flatMap Ord.cells)::L) w':=by
 have hlt:off<l.length:=(List.getElem?_eq_some_iff.1 hl).1;obtain⟨i1,u1,y1,t1,c1,p1⟩:=o;simp only[Ord.cells];have hta:=MO7;go_enter Tryz.func257,Tryz.ntmps257;go_wp2_with(fail)
 refine rf2 [0,0,2,6,0,16,48,126,255,511] (fun i=>i==6||i==7) [⟨some 6,none,fun nd=>J5 (nd 6) 1 1 [.I i1,.string u1,.bool y1,.I t1,.I c1,.I p1] 173⟩,⟨some 7,none,fun nd=>row (nd 7) 6 173 (n+1) (xs.flatMap Ord.cells++[.I i1,.string u1,.bool y1,.I t1,.I c1,.I p1])⟩,⟨some 9,none,fun nd=>blk bb (l.set off (nd 7)) T⟩]
  [some 9,some 7] hS ?_
 intro nd;refine cR ?_;refine cR ?_;refine zcn ?_;apply MN7;rfl;kernel_rfl;rfl;rfl;rfl;decide +kernel;intro F;exact i6.here hl;refine frS ?_;refine cR ?_;refine cR ?_;apply ai4;rfl;rfl;rfl;(focus(simp only[fD,fI,fJ,Act.eval,fE,fF,fG,fH,fK];try rfl));(exact esS);(exact rsS);rfl;rfl;rfl;rfl;(intro _;rfl);rfl;(intro _;rfl);(refine frS ?_);apply Ag7;rfl;rfl;rfl;(focus((conv=>lhs;whnf);try rfl));(focus((conv=>lhs;whnf);try rfl));(exact esS);(exact rsS);rfl;decide;rfl;(intro F w hS;exact Aw7 hS (by exact w8));(focus(try rfl));rfl;(focus(unfold maxLen;omega));(focus(omega));(intro _;rfl);(intro _;rfl);(refine frS ?_);refine zcn ?_;(apply HZ7;rfl;rfl;rfl;rfl;(focus((conv=>lhs;whnf);try rfl));kernel_rfl;rfl;intro F w hS;exact hS.rowOne (by exact w8);(focus(exact hlt));rfl;rfl;try(refine frS ?_));refine Ad7 ?_;clear hS;intro w hS;have hS:St W [J5 (nd 6) 1 1 _ _,row (nd 7) 6 _ (n+1) _,blk bb (l.set off (nd 7)) T,sats L] w:=hS;generalize nd 7=v7 at *;replace hS:=hS.drop.swap.unpack [_,_];simp only[jK,jN]at hS;go_wp2_with(fail);go_end0;refine⟨v7,rfl,?_⟩;rw[List.flatMap_append];exact hS
def upF:Nat->List Ord->Nat->List Ord
 | 0,xs,_=>xs
 | f+1,xs,j=>
  if h:0<j/\j<xs.length then
   if K8 (xs[j]'h.2) (xs[(j-1) / 2]'(by omega))then upF f (D5 xs ((j-1) / 2) j (by omega) h.2) ((j-1) / 2)else xs
  else xs
theorem Af7{α:Type}(xs:List α)(i j:Nat)(hi:i<xs.length)(hj:j<xs.length):(D5 xs i j hi hj).length=xs.length:=by simp[D5]
theorem BP7:∀(f:Nat) (xs:List Ord) (j:Nat),(upF f xs j).length=xs.length
 | 0,_,_=>rfl
 | f+1,xs,j=>by
  rw[upF];split
  ·split
   ·rw[BP7,Af7]
   ·rfl
  ·rfl
theorem Id7:∀(f f':Nat) (xs:List Ord) (j:Nat),j<=f->j<=f'->upF f xs j=upF f' xs j
 | 0,f',xs,j,h,_=>by
  obtain rfl:j=0:=by omega
  cases f' with
  | zero=>rfl
  | succ f'=>rw[upF,upF,dif_neg (by omega)]
 | f+1,0,xs,j,_,h=>by
  obtain rfl:j=0:=by omega
  rw[upF,upF,dif_neg (by omega)]
 | f+1,f'+1,xs,j,h,h'=>by
  rw[upF,upF];split
  ·split
   ·exact Id7 f f' _ _ (by omega) (by omega)
   ·rfl
  ·rfl
def en4(W:World)(L:List HP)(bb:Nat)(l:List Value)(T:TypeId)(g:Nat)(junk:List Value)(n:Nat)(r:List Ord)(v:Value)(w:World):Prop:=
 ∃(k:Nat) (ys:List Ord),v=.I k/\k<ys.length/\ys.length=n/\upF k ys k=r/\St W (blk bb l T::blk g (ys.flatMap Ord.cells++junk) 173::L) w
theorem JG7(xs:List Ord)(junk l:List Value)(T:TypeId)(bb off g n cap j:Nat)(hn:xs.length=n)(hj:j<n)(hcap:n<=cap)(hm:cap<=maxLen)(hl:l[off]? = some (.S g n cap))(W w:World)(L:List HP)
  (hS:St W (blk bb l T::blk g (xs.flatMap Ord.cells++junk) 173::L) w):
  Calls Tryz.prog 216 #[.iface 253 (.pointer (some ⟨bb,off,none⟩)),.I j] w fun e w'=>e=.returned (.tuple #[])/\St W (blk bb l T::blk g ((upF j xs j).flatMap Ord.cells++junk) 173::L) w':=by
 have hm':cap<=9223372036854775807:=by unfold maxLen at hm;omega
 go_enter Tryz.func216,Tryz.ntmps216;go_wp2_with fail
 go_loopw [1] (fun v wr=>en4 W L bb l T g junk n (upF j xs j) v wr) (fun v _=>(intOf v).toNat)
 case atStart=>exact⟨j,xs,rfl,by omega,hn,rfl,hS⟩
 case round=>
  clear hS;obtain⟨k,ys,rfl,hk,hyn,hr,hS⟩:=hrel;have Hr:=jH hr;have Hyn:=jH hyn;clear hr hyn hn;have hkn:k<n:=by have:=Hyn.out;omega
  by_cases h0:k=0
  ·subst h0;go_wp2_with fail;go_end0;exact⟨rfl,by rw[<-Hr.out];exact hS⟩
  ·obtain⟨i,hi0⟩:∃i,i=(k-1) / 2:=⟨_,rfl⟩
   have hik:i<k:=by omega
   have hi:((k:Int)-1) / 2=(i:Int):=by omega
   have hne:((i:Int)==(k:Int))=false:=by simp;omega
   have hil:i<ys.length:=by omega
   have hu:upF k ys k=if K8 ys[k] ys[i]then upF (k-1) (D5 ys i k hil hk) i else ys:=by
    subst hi0;obtain⟨k',rfl⟩:∃k',k=k'+1:=⟨k-1,by omega⟩
    rw[upF,dif_pos ⟨by omega,hk⟩];rfl
   have hm1:i<=k-1:=by omega
   have Hu:=jH hu;clear hu hi0
   cases hb:K8 ys[k] ys[i]
   ·have Hb:=jH hb;clear hb;go_wp2_with(first|(with_reducible apply Ai7 255 hS);rfl;rfl;rfl;decide +kernel;decide +kernel;decide +kernel;(first|exact i6.here hl|exact aa4);(focus(simp only[fD,fI,fJ,Act.eval,fE,fF,fG,fH,fK];try rfl));simp only[List.append_toArray,jK,jN];(try simp only[hi]);refine Calls.mono (Bh7 Hb.out junk g n cap Hyn.out hcap hm _ _ _ hS.swap) ?_;(clear hS;rintro e w ⟨rfl,hS⟩;refine⟨_,rfl,?_⟩;try(refine frS ?_)));go_end0;have hr:=Hu.out;rw[Hb.out]at hr;exact⟨rfl,by rw[<-Hr.out,hr];exact hS.swap⟩
   ·have Hb:=jH hb;clear hb;go_wp2_with(first|(with_reducible apply Ai7 255 hS);rfl;rfl;rfl;decide +kernel;decide +kernel;decide +kernel;(first|exact i6.here hl|exact aa4);(focus(simp only[fD,fI,fJ,Act.eval,fE,fF,fG,fH,fK];try rfl));simp only[List.append_toArray,jK,jN];(try simp only[hi]);refine Calls.mono (Bh7 Hb.out junk g n cap Hyn.out hcap hm _ _ _ hS.swap) ?_;(clear hS;rintro e w ⟨rfl,hS⟩;refine⟨_,rfl,?_⟩;try(refine frS ?_))|(with_reducible apply Ai7 258 hS);rfl;rfl;rfl;decide +kernel;decide +kernel;decide +kernel;(first|exact i6.there (i6.here hl)|exact aa4);(focus(simp only[fD,fI,fJ,Act.eval,fE,fF,fG,fH,fK];try rfl));simp only[List.append_toArray,jK,jN];(try simp only[hi]);refine Calls.mono (Bl7 ys junk g n cap i k Hyn.out hil hk hcap hm _ _ _ hS) ?_;(clear hS;rintro e w ⟨rfl,hS⟩;refine⟨_,rfl,?_⟩;try(refine frS ?_)));have hr:=Hu.out;rw[Hb.out,if_pos rfl]at hr;have hup:upF i (D5 ys i k hil hk) i=upF (k-1) (D5 ys i k hil hk) i:=Id7 _ _ _ _ (Nat.le_refl _) hm1;go_roundw
    case rel=>exact⟨i,D5 ys i k hil hk,rfl,by rw[Af7];exact hil,by rw[Af7];exact Hyn.out,by rw[<-Hr.out,hr,hup],hS.swap⟩
    case measure=>simp[intOf];omega
def kid(xs:List Ord)(i n:Nat)(hn:n<=xs.length):Nat:=
 if h:2*i+2<n then(if K8 (xs[2*i+2]'(by omega)) (xs[2*i+1]'(by omega))then 2*i+2 else 2*i+1)else 2*i+1
theorem Gu7{xs:List Ord}{i n:Nat}(hn:n<=xs.length)(h:2*i+1<n):kid xs i n hn<n:=by
 unfold kid;split
 ·split <;> omega
 ·omega
theorem Gv7{xs:List Ord}{i n:Nat}(hn:n<=xs.length):i<kid xs i n hn:=by
 unfold kid;split
 ·split <;> omega
 ·omega
def A9:Nat->List Ord->Nat->Nat->List Ord×Nat
 | 0,xs,i,_=>(xs,i)
 | f+1,xs,i,n=>
  if h:2*i+1<n/\n<=xs.length then
   if K8 (xs[kid xs i n h.2]'(by have:=Gu7 h.2 h.1;omega)) (xs[i]'(by omega))then
    A9 f (D5 xs i (kid xs i n h.2) (by omega) (by have:=Gu7 h.2 h.1;omega)) (kid xs i n h.2) n
   else(xs,i)
  else(xs,i)
theorem Bd7:∀(f:Nat) (xs:List Ord) (i n:Nat),(A9 f xs i n).1.length=xs.length
 | 0,_,_,_=>rfl
 | f+1,xs,i,n=>by
  rw[A9];split
  ·split
   ·rw[Bd7,Af7]
   ·rfl
  ·rfl
theorem Fe7:∀(f f':Nat) (xs:List Ord) (i n:Nat),n<=f+i->n<=f'+i->A9 f xs i n=A9 f' xs i n
 | 0,f',xs,i,n,h,_=>by
  cases f' with
  | zero=>rfl
  | succ f'=>rw[A9,A9,dif_neg (by omega)]
 | f+1,0,xs,i,n,_,h=>by rw[A9,A9,dif_neg (by omega)]
 | f+1,f'+1,xs,i,n,h,h'=>by
  rw[A9,A9];split
  ·split
   ·have:=Gv7 (xs:=xs) (i:=i) (n:=n) (by omega);exact Fe7 f f' _ _ _ (by omega) (by omega)
   ·rfl
  ·rfl
theorem Bm7{f:Nat}{xs:List Ord}{i n j:Nat}{b:Bool}(hn:n<=xs.length)(h1:2*i+1<n)(hf:n<=f+i)(hk:kid xs i n hn=j)(hj:j<xs.length)(hb:K8 xs[j] (xs[i]'(by omega))=b):
  A9 f xs i n=if b then A9 f (D5 xs i j (by omega) hj) j n else(xs,i):=by
 subst hk hb;obtain⟨f',rfl⟩:∃f',f=f'+1:=⟨f-1,by omega⟩
 have hg:=Gv7 (xs:=xs) (i:=i) (n:=n) hn;rw[A9,dif_pos ⟨h1,hn⟩];split
 ·exact Fe7 f' (f'+1) _ _ _ (by omega) (by omega)
 ·rfl
theorem IK7{f:Nat}{xs:List Ord}{i n:Nat}(h:n<=2*i+1):A9 f xs i n=(xs,i):=by
 cases f with
 | zero=>rfl
 | succ f=>rw[A9,dif_neg (by omega)]
def dn4(W:World)(L:List HP)(bb:Nat)(l:List Value)(T:TypeId)(g:Nat)(junk:List Value)(len n i0:Nat)(r:List Ord×Nat)(v:Value)(w:World):Prop:=
 ∃(k:Nat) (ys:List Ord),v=.I k/\k<=n+i0/\ys.length=len/\A9 n ys k n=r/\St W (blk bb l T::blk g (ys.flatMap Ord.cells++junk) 173::L) w
theorem Gw7(xs:List Ord)(junk l:List Value)(T:TypeId)(bb off g len cap i0 n:Nat)(hlen:xs.length=len)(hn:n<=len)(hi0:i0<=4294967296)(hn2:n<=4294967296)(hcap:len<=cap)(hm:cap<=maxLen)(hl:l[off]? = some (.S g len cap))(W w:World)(L:List HP)
  (hS:St W (blk bb l T::blk g (xs.flatMap Ord.cells++junk) 173::L) w):
  Calls Tryz.prog 217 #[.iface 253 (.pointer (some ⟨bb,off,none⟩)),.I i0,.I n] w fun e w'=>e=.returned (.bool (decide (i0<(A9 n xs i0 n).2)))/\St W (blk bb l T::blk g ((A9 n xs i0 n).1.flatMap Ord.cells++junk) 173::L) w':=by
 have hm':cap<=9223372036854775807:=by unfold maxLen at hm;omega
 go_enter Tryz.func217,Tryz.ntmps217;go_wp2_with fail
 go_loopw [7] (fun v wr=>dn4 W L bb l T g junk len n i0 (A9 n xs i0 n) v wr) (fun v _=>n+i0-(intOf v).toNat)
 case atStart=>exact⟨i0,xs,rfl,by omega,hlen,rfl,hS⟩
 case round=>
  clear hS;obtain⟨k,ys,rfl,hk,hyn,hr,hS⟩:=hrel;have Hr:=jH hr;have Hyn:=jH hyn;clear hr hyn hlen;by_cases h1:2*k+1<n
  ·obtain⟨j1,hj1⟩:∃j1,j1=2*k+1:=⟨_,rfl⟩
   have e1:2*(k:Int)+1=(j1:Int):=by omega
   obtain⟨j2,hj2⟩:∃j2,j2=j1+1:=⟨_,rfl⟩
   have e2:(j1:Int)+1=(j2:Int):=by omega
   have hyl:n<=ys.length:=by rw[Hyn.out];exact hn
   have h1n:j1<n:=by omega
   have hkl:k<ys.length:=by omega
   have hj1l:j1<ys.length:=by omega
   have hle:k<=n:=by omega
   by_cases h2:j2<n
   ·have hj2l:j2<ys.length:=by omega
    cases hb:K8 ys[j2] ys[j1]
    ·have hkid:kid ys k n hyl=j1:=by
      subst hj1 hj2;unfold kid;rw[dif_pos h2,if_neg (by rw[hb];exact Bool.false_ne_true)]
     have hm2:n+i0-j1<n+i0-k:=by omega
     have Hb:=jH hb;have Hk:=jH hkid;clear hb hkid hj1 hj2
     cases hc:K8 ys[j1] ys[k]
     ·(have hc:=jH hc;have Hc:=hc;clear hc;go_wp2_with(first|(with_reducible apply Ai7 255 hS);rfl;rfl;rfl;decide +kernel;decide +kernel;decide +kernel;(first|exact i6.here hl|exact aa4);(focus(simp only[fD,fI,fJ,Act.eval,fE,fF,fG,fH,fK];try rfl));simp only[List.append_toArray,jK,jN];(try simp only[e1,e2]);refine Calls.mono (Bh7 Hb.out junk g len cap Hyn.out hcap hm _ _ _ hS.swap) ?_;(clear hS;rintro e w ⟨rfl,hS⟩;refine⟨_,rfl,?_⟩;try(refine frS ?_))|(with_reducible apply Ai7 255 hS);rfl;rfl;rfl;decide +kernel;decide +kernel;decide +kernel;(first|exact i6.there (i6.here hl)|exact aa4);(focus(simp only[fD,fI,fJ,Act.eval,fE,fF,fG,fH,fK];try rfl));simp only[List.append_toArray,jK,jN];(try simp only[e1,e2]);refine Calls.mono (Bh7 Hc.out junk g len cap Hyn.out hcap hm _ _ _ hS) ?_;(clear hS;rintro e w ⟨rfl,hS⟩;refine⟨_,rfl,?_⟩;try(refine frS ?_)));go_ret;have hst:=(Bm7 hyl h1 (Nat.le_add_right _ _) Hk.out hj1l Hc.out).symm.trans Hr.out;rw[if_neg Bool.false_ne_true]at hst;exact⟨by rw[<-hst];rfl,by rw[<-hst];exact hS.swap⟩)
     ·(have hc:=jH hc;have Hc:=hc;clear hc;go_wp2_with(first|(with_reducible apply Ai7 255 hS);rfl;rfl;rfl;decide +kernel;decide +kernel;decide +kernel;(first|exact i6.here hl|exact aa4);(focus(simp only[fD,fI,fJ,Act.eval,fE,fF,fG,fH,fK];try rfl));simp only[List.append_toArray,jK,jN];(try simp only[e1,e2]);refine Calls.mono (Bh7 Hb.out junk g len cap Hyn.out hcap hm _ _ _ hS.swap) ?_;(clear hS;rintro e w ⟨rfl,hS⟩;refine⟨_,rfl,?_⟩;try(refine frS ?_))|(with_reducible apply Ai7 255 hS);rfl;rfl;rfl;decide +kernel;decide +kernel;decide +kernel;(first|exact i6.there (i6.here hl)|exact aa4);(focus(simp only[fD,fI,fJ,Act.eval,fE,fF,fG,fH,fK];try rfl));simp only[List.append_toArray,jK,jN];(try simp only[e1,e2]);refine Calls.mono (Bh7 Hc.out junk g len cap Hyn.out hcap hm _ _ _ hS) ?_;(clear hS;rintro e w ⟨rfl,hS⟩;refine⟨_,rfl,?_⟩;try(refine frS ?_))|(with_reducible apply Ai7 258 hS);rfl;rfl;rfl;decide +kernel;decide +kernel;decide +kernel;(first|exact i6.there (i6.here hl)|exact aa4);(focus(simp only[fD,fI,fJ,Act.eval,fE,fF,fG,fH,fK];try rfl));simp only[List.append_toArray,jK,jN];(try simp only[e1,e2]);refine Calls.mono (Bl7 ys junk g len cap k j1 Hyn.out hkl hj1l hcap hm _ _ _ hS) ?_;(clear hS;rintro e w ⟨rfl,hS⟩;refine⟨_,rfl,?_⟩;try(refine frS ?_)));have hst:=(Bm7 hyl h1 (Nat.le_add_right _ _) Hk.out hj1l Hc.out).symm.trans Hr.out;rw[if_pos rfl]at hst;go_roundw;(case rel=>exact⟨j1,D5 ys k j1 hkl hj1l,rfl,by omega,by rw[Af7];exact Hyn.out,hst,hS.swap⟩);(case measure=>(simp[intOf];omega)))
    ·have hkid:kid ys k n hyl=j2:=by
      subst hj1 hj2;unfold kid;rw[dif_pos h2,if_pos hb]
     have hm2:n+i0-j2<n+i0-k:=by omega
     have Hb:=jH hb;have Hk:=jH hkid;clear hb hkid hj1 hj2
     cases hc:K8 ys[j2] ys[k]
     ·(have hc:=jH hc;have Hc:=hc;clear hc;go_wp2_with(first|(with_reducible apply Ai7 255 hS);rfl;rfl;rfl;decide +kernel;decide +kernel;decide +kernel;(first|exact i6.here hl|exact aa4);(focus(simp only[fD,fI,fJ,Act.eval,fE,fF,fG,fH,fK];try rfl));simp only[List.append_toArray,jK,jN];(try simp only[e1,e2]);refine Calls.mono (Bh7 Hb.out junk g len cap Hyn.out hcap hm _ _ _ hS.swap) ?_;(clear hS;rintro e w ⟨rfl,hS⟩;refine⟨_,rfl,?_⟩;try(refine frS ?_))|(with_reducible apply Ai7 255 hS);rfl;rfl;rfl;decide +kernel;decide +kernel;decide +kernel;(first|exact i6.there (i6.here hl)|exact aa4);(focus(simp only[fD,fI,fJ,Act.eval,fE,fF,fG,fH,fK];try rfl));simp only[List.append_toArray,jK,jN];(try simp only[e1,e2]);refine Calls.mono (Bh7 Hc.out junk g len cap Hyn.out hcap hm _ _ _ hS) ?_;(clear hS;rintro e w ⟨rfl,hS⟩;refine⟨_,rfl,?_⟩;try(refine frS ?_)));go_ret;have hst:=(Bm7 hyl h1 (Nat.le_add_right _ _) Hk.out hj2l Hc.out).symm.trans Hr.out;rw[if_neg Bool.false_ne_true]at hst;exact⟨by rw[<-hst];rfl,by rw[<-hst];exact hS.swap⟩)
     ·(have hc:=jH hc;have Hc:=hc;clear hc;go_wp2_with(first|(with_reducible apply Ai7 255 hS);rfl;rfl;rfl;decide +kernel;decide +kernel;decide +kernel;(first|exact i6.here hl|exact aa4);(focus(simp only[fD,fI,fJ,Act.eval,fE,fF,fG,fH,fK];try rfl));simp only[List.append_toArray,jK,jN];(try simp only[e1,e2]);refine Calls.mono (Bh7 Hb.out junk g len cap Hyn.out hcap hm _ _ _ hS.swap) ?_;(clear hS;rintro e w ⟨rfl,hS⟩;refine⟨_,rfl,?_⟩;try(refine frS ?_))|(with_reducible apply Ai7 255 hS);rfl;rfl;rfl;decide +kernel;decide +kernel;decide +kernel;(first|exact i6.there (i6.here hl)|exact aa4);(focus(simp only[fD,fI,fJ,Act.eval,fE,fF,fG,fH,fK];try rfl));simp only[List.append_toArray,jK,jN];(try simp only[e1,e2]);refine Calls.mono (Bh7 Hc.out junk g len cap Hyn.out hcap hm _ _ _ hS) ?_;(clear hS;rintro e w ⟨rfl,hS⟩;refine⟨_,rfl,?_⟩;try(refine frS ?_))|(with_reducible apply Ai7 258 hS);rfl;rfl;rfl;decide +kernel;decide +kernel;decide +kernel;(first|exact i6.there (i6.here hl)|exact aa4);(focus(simp only[fD,fI,fJ,Act.eval,fE,fF,fG,fH,fK];try rfl));simp only[List.append_toArray,jK,jN];(try simp only[e1,e2]);refine Calls.mono (Bl7 ys junk g len cap k j2 Hyn.out hkl hj2l hcap hm _ _ _ hS) ?_;(clear hS;rintro e w ⟨rfl,hS⟩;refine⟨_,rfl,?_⟩;try(refine frS ?_)));have hst:=(Bm7 hyl h1 (Nat.le_add_right _ _) Hk.out hj2l Hc.out).symm.trans Hr.out;rw[if_pos rfl]at hst;go_roundw;(case rel=>exact⟨j2,D5 ys k j2 hkl hj2l,rfl,by omega,by rw[Af7];exact Hyn.out,hst,hS.swap⟩);(case measure=>(simp[intOf];omega)))
   ·have hkid:kid ys k n hyl=j1:=by
     subst hj1 hj2;unfold kid;rw[dif_neg h2]
    have hm2:n+i0-j1<n+i0-k:=by omega
    have Hk:=jH hkid;clear hkid hj1 hj2
    cases hc:K8 ys[j1] ys[k]
    ·(have hc:=jH hc;have Hc:=hc;clear hc;go_wp2_with(first|(with_reducible apply Ai7 255 hS);rfl;rfl;rfl;decide +kernel;decide +kernel;decide +kernel;(first|exact i6.here hl|exact aa4);(focus(simp only[fD,fI,fJ,Act.eval,fE,fF,fG,fH,fK];try rfl));simp only[List.append_toArray,jK,jN];(try simp only[e1,e2]);refine Calls.mono (Bh7 Hc.out junk g len cap Hyn.out hcap hm _ _ _ hS.swap) ?_;(clear hS;rintro e w ⟨rfl,hS⟩;refine⟨_,rfl,?_⟩;try(refine frS ?_)));go_ret;have hst:=(Bm7 hyl h1 (Nat.le_add_right _ _) Hk.out hj1l Hc.out).symm.trans Hr.out;rw[if_neg Bool.false_ne_true]at hst;exact⟨by rw[<-hst];rfl,by rw[<-hst];exact hS.swap⟩)
    ·(have hc:=jH hc;have Hc:=hc;clear hc;go_wp2_with(first|(with_reducible apply Ai7 255 hS);rfl;rfl;rfl;decide +kernel;decide +kernel;decide +kernel;(first|exact i6.here hl|exact aa4);(focus(simp only[fD,fI,fJ,Act.eval,fE,fF,fG,fH,fK];try rfl));simp only[List.append_toArray,jK,jN];(try simp only[e1,e2]);refine Calls.mono (Bh7 Hc.out junk g len cap Hyn.out hcap hm _ _ _ hS.swap) ?_;(clear hS;rintro e w ⟨rfl,hS⟩;refine⟨_,rfl,?_⟩;try(refine frS ?_))|(with_reducible apply Ai7 258 hS);rfl;rfl;rfl;decide +kernel;decide +kernel;decide +kernel;(first|exact i6.there (i6.here hl)|exact aa4);(focus(simp only[fD,fI,fJ,Act.eval,fE,fF,fG,fH,fK];try rfl));simp only[List.append_toArray,jK,jN];(try simp only[e1,e2]);refine Calls.mono (Bl7 ys junk g len cap k j1 Hyn.out hkl hj1l hcap hm _ _ _ hS) ?_;(clear hS;rintro e w ⟨rfl,hS⟩;refine⟨_,rfl,?_⟩;try(refine frS ?_)));have hst:=(Bm7 hyl h1 (Nat.le_add_right _ _) Hk.out hj1l Hc.out).symm.trans Hr.out;rw[if_pos rfl]at hst;go_roundw;(case rel=>exact⟨j1,D5 ys k j1 hkl hj1l,rfl,by omega,by rw[Af7];exact Hyn.out,hst,hS.swap⟩);(case measure=>(simp[intOf];omega)))
  ·go_wp2_with fail;go_ret;have hst:=(IK7 (f:=n) (xs:=ys) (Nat.le_of_not_lt h1)).symm.trans Hr.out;exact⟨by rw[<-hst];rfl,by rw[<-hst];exact hS⟩
end Go.Proofs.YtienbkdjkjbelaaGreat
end
