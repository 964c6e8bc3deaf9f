/-
  A heap of orders.
-/
import Derived.Test.YtienbkdjkjbelaaGreatJuTM5
import Derived.Test.YtienbkdjkjbelaaGreatJuTM9
set_option maxHeartbeats 16000000
set_option maxRecDepth 100000
set_option linter.unusedSimpArgs false
set_option linter.unusedVariables false
section
namespace Go.Proofs.YtienbkdjkjbelaaGreat
open Go.RowKit Go.Sl
def upF:Nat->List Ord->Nat->List Ord
 | 0,xs,_=>xs
 | f+1,xs,j=>
  if h:0<j/\j<xs.length then
   if M8 (xs[j]'h.2) (xs[(j-1) / 2]'(by omega))then upF f (F7 xs ((j-1) / 2) j (by omega) h.2) ((j-1) / 2)else xs
  else xs
theorem Af7{α:Type}(xs:List α)(i j:Nat)(hi:i<xs.length)(hj:j<xs.length):(F7 xs i j hi hj).length=xs.length:=by simp[F7]
theorem BX7:∀(f:Nat) (xs:List Ord) (j:Nat),(upF f xs j).length=xs.length
 | 0,_,_=>rfl
 | f+1,xs,j=>by
  rw[upF];split
  ·split
   ·rw[BX7,Af7]
   ·rfl
  ·rfl
theorem Jv7:∀(f f':Nat) (xs:List Ord) (j:Nat),j<=f->j<=f'->upF f xs j=upF f' xs j
 | 0,f',xs,j,h,_=>by
  obtain rfl:j=0:=by omega
  cases f' with
  | zero=>rfl
  | succ f'=>rw[upF,upF,dif_neg (by omega)]
 | f+1,0,xs,j,_,h=>by
  obtain rfl:j=0:=by omega
  rw[upF,upF,dif_neg (by omega)]
 | f+1,f'+1,xs,j,h,h'=>by
  rw[upF,upF];split
  ·split
   ·exact Jv7 f f' _ _ (by omega) (by omega)
   ·rfl
  ·rfl
def fk4(W:World)(L:List HP)(bb:Nat)(l:List Value)(T:TypeId)(g:Nat)(junk:List Value)(n:Nat)(r:List Ord)(v:Value)(w:World):Prop:=
 ∃(k:Nat) (ys:List Ord),v=.I k/\k<ys.length/\ys.length=n/\upF k ys k=r/\St W (blk bb l T::blk g (ys.flatMap Ord.cells++junk) 173::L) w
theorem LC7(xs:List Ord)(junk l:List Value)(T:TypeId)(bb off g n cap j:Nat)(hn:xs.length=n)(hj:j<n)(hcap:n<=cap)(hm:cap<=maxLen)(hl:l[off]? = some (.S g n cap))(W w:World)(L:List HP)
  (hS:St W (blk bb l T::blk g (xs.flatMap Ord.cells++junk) 173::L) w):
  Calls Tryz.prog 216 #[.iface 253 (.pointer (some ⟨bb,off,none⟩)),.I j] w fun e w'=>e=.returned (.tuple #[])/\St W (blk bb l T::blk g ((upF j xs j).flatMap Ord.cells++junk) 173::L) w':=by
 have hm':cap<=9223372036854775807:=by unfold maxLen at hm;omega
 go_enter Tryz.func216,Tryz.ntmps216;go_wp2_with fail
 go_loopw [1] (fun v wr=>fk4 W L bb l T g junk n (upF j xs j) v wr) (fun v _=>(intOf v).toNat)
 case atStart=>exact⟨j,xs,rfl,by omega,hn,rfl,hS⟩
 case round=>
  clear hS;obtain⟨k,ys,rfl,hk,hyn,hr,hS⟩:=hrel;have Hr:=jH hr;have Hyn:=jH hyn;clear hr hyn hn;have hkn:k<n:=by have:=Hyn.out;omega
  by_cases h0:k=0
  ·subst h0;go_wp2_with fail;go_end0;exact⟨rfl,by rw[<-Hr.out];exact hS⟩
  ·obtain⟨i,hi0⟩:∃i,i=(k-1) / 2:=⟨_,rfl⟩
   have hik:i<k:=by omega
   have hi:((k:Int)-1) / 2=(i:Int):=by omega
   have hne:((i:Int)==(k:Int))=false:=by simp;omega
   have hil:i<ys.length:=by omega
   have hu:upF k ys k=if M8 ys[k] ys[i]then upF (k-1) (F7 ys i k hil hk) i else ys:=by
    subst hi0;obtain⟨k',rfl⟩:∃k',k=k'+1:=⟨k-1,by omega⟩
    rw[upF,dif_pos ⟨by omega,hk⟩];rfl
   have hm1:i<=k-1:=by omega
   have Hu:=jH hu;clear hu hi0
   cases hb:M8 ys[k] ys[i]
   ·have Hb:=jH hb;clear hb;go_wp2_with(first|(with_reducible apply Aj7 255 hS);rfl;rfl;rfl;decide +kernel;decide +kernel;decide +kernel;(first|exact i6.here hl|exact N5);(focus(simp only[fD,fI,fJ,Act.eval,fE,fF,fG,fH,fK];try rfl));simp only[List.append_toArray,jK,jN];(try simp only[hi]);refine Calls.mono (Bl7 Hb.out junk g n cap Hyn.out hcap hm _ _ _ hS.swap) ?_;(clear hS;rintro e w ⟨rfl,hS⟩;refine⟨_,rfl,?_⟩;try(refine frS ?_)));go_end0;have hr:=Hu.out;rw[Hb.out]at hr;exact⟨rfl,by rw[<-Hr.out,hr];exact hS.swap⟩
   ·have Hb:=jH hb;clear hb;go_wp2_with(first|(with_reducible apply Aj7 255 hS);rfl;rfl;rfl;decide +kernel;decide +kernel;decide +kernel;(first|exact i6.here hl|exact N5);(focus(simp only[fD,fI,fJ,Act.eval,fE,fF,fG,fH,fK];try rfl));simp only[List.append_toArray,jK,jN];(try simp only[hi]);refine Calls.mono (Bl7 Hb.out junk g n cap Hyn.out hcap hm _ _ _ hS.swap) ?_;(clear hS;rintro e w ⟨rfl,hS⟩;refine⟨_,rfl,?_⟩;try(refine frS ?_))|(with_reducible apply Aj7 258 hS);rfl;rfl;rfl;decide +kernel;decide +kernel;decide +kernel;(first|exact i6.there (i6.here hl)|exact N5);(focus(simp only[fD,fI,fJ,Act.eval,fE,fF,fG,fH,fK];try rfl));simp only[List.append_toArray,jK,jN];(try simp only[hi]);refine Calls.mono (Bu7 ys junk g n cap i k Hyn.out hil hk hcap hm _ _ _ hS) ?_;(clear hS;rintro e w ⟨rfl,hS⟩;refine⟨_,rfl,?_⟩;try(refine frS ?_)));have hr:=Hu.out;rw[Hb.out,if_pos rfl]at hr;have hup:upF i (F7 ys i k hil hk) i=upF (k-1) (F7 ys i k hil hk) i:=Jv7 _ _ _ _ (Nat.le_refl _) hm1;go_roundw
    case rel=>exact⟨i,F7 ys i k hil hk,rfl,by rw[Af7];exact hil,by rw[Af7];exact Hyn.out,by rw[<-Hr.out,hr,hup],hS.swap⟩
    case measure=>simp[intOf];omega
def kid(xs:List Ord)(i n:Nat)(hn:n<=xs.length):Nat:=
 if h:2*i+2<n then(if M8 (xs[2*i+2]'(by omega)) (xs[2*i+1]'(by omega))then 2*i+2 else 2*i+1)else 2*i+1
theorem Hh7{xs:List Ord}{i n:Nat}(hn:n<=xs.length)(h:2*i+1<n):kid xs i n hn<n:=by
 unfold kid;split
 ·split <;> omega
 ·omega
theorem Hi7{xs:List Ord}{i n:Nat}(hn:n<=xs.length):i<kid xs i n hn:=by
 unfold kid;split
 ·split <;> omega
 ·omega
def C9:Nat->List Ord->Nat->Nat->List Ord×Nat
 | 0,xs,i,_=>(xs,i)
 | f+1,xs,i,n=>
  if h:2*i+1<n/\n<=xs.length then
   if M8 (xs[kid xs i n h.2]'(by have:=Hh7 h.2 h.1;omega)) (xs[i]'(by omega))then
    C9 f (F7 xs i (kid xs i n h.2) (by omega) (by have:=Hh7 h.2 h.1;omega)) (kid xs i n h.2) n
   else(xs,i)
  else(xs,i)
theorem Bf7:∀(f:Nat) (xs:List Ord) (i n:Nat),(C9 f xs i n).1.length=xs.length
 | 0,_,_,_=>rfl
 | f+1,xs,i,n=>by
  rw[C9];split
  ·split
   ·rw[Bf7,Af7]
   ·rfl
  ·rfl
theorem FW7:∀(f f':Nat) (xs:List Ord) (i n:Nat),n<=f+i->n<=f'+i->C9 f xs i n=C9 f' xs i n
 | 0,f',xs,i,n,h,_=>by
  cases f' with
  | zero=>rfl
  | succ f'=>rw[C9,C9,dif_neg (by omega)]
 | f+1,0,xs,i,n,_,h=>by rw[C9,C9,dif_neg (by omega)]
 | f+1,f'+1,xs,i,n,h,h'=>by
  rw[C9,C9];split
  ·split
   ·have:=Hi7 (xs:=xs) (i:=i) (n:=n) (by omega);exact FW7 f f' _ _ _ (by omega) (by omega)
   ·rfl
  ·rfl
theorem Bv7{f:Nat}{xs:List Ord}{i n j:Nat}{b:Bool}(hn:n<=xs.length)(h1:2*i+1<n)(hf:n<=f+i)(hk:kid xs i n hn=j)(hj:j<xs.length)(hb:M8 xs[j] (xs[i]'(by omega))=b):
  C9 f xs i n=if b then C9 f (F7 xs i j (by omega) hj) j n else(xs,i):=by
 subst hk hb;obtain⟨f',rfl⟩:∃f',f=f'+1:=⟨f-1,by omega⟩
 have hg:=Hi7 (xs:=xs) (i:=i) (n:=n) hn;rw[C9,dif_pos ⟨h1,hn⟩];split
 ·exact FW7 f' (f'+1) _ _ _ (by omega) (by omega)
 ·rfl
theorem Ki7{f:Nat}{xs:List Ord}{i n:Nat}(h:n<=2*i+1):C9 f xs i n=(xs,i):=by
 cases f with
 | zero=>rfl
 | succ f=>rw[C9,dif_neg (by omega)]
def eg4(W:World)(L:List HP)(bb:Nat)(l:List Value)(T:TypeId)(g:Nat)(junk:List Value)(len n i0:Nat)(r:List Ord×Nat)(v:Value)(w:World):Prop:=
 ∃(k:Nat) (ys:List Ord),v=.I k/\k<=n+i0/\ys.length=len/\C9 n ys k n=r/\St W (blk bb l T::blk g (ys.flatMap Ord.cells++junk) 173::L) w
theorem Hj7(xs:List Ord)(junk l:List Value)(T:TypeId)(bb off g len cap i0 n:Nat)(hlen:xs.length=len)(hn:n<=len)(hi0:i0<=4294967296)(hn2:n<=4294967296)(hcap:len<=cap)(hm:cap<=maxLen)(hl:l[off]? = some (.S g len cap))(W w:World)(L:List HP)
  (hS:St W (blk bb l T::blk g (xs.flatMap Ord.cells++junk) 173::L) w):
  Calls Tryz.prog 217 #[.iface 253 (.pointer (some ⟨bb,off,none⟩)),.I i0,.I n] w fun e w'=>e=.returned (.bool (decide (i0<(C9 n xs i0 n).2)))/\St W (blk bb l T::blk g ((C9 n xs i0 n).1.flatMap Ord.cells++junk) 173::L) w':=by
 have hm':cap<=9223372036854775807:=by unfold maxLen at hm;omega
 go_enter Tryz.func217,Tryz.ntmps217;go_wp2_with fail
 go_loopw [7] (fun v wr=>eg4 W L bb l T g junk len n i0 (C9 n xs i0 n) v wr) (fun v _=>n+i0-(intOf v).toNat)
 case atStart=>exact⟨i0,xs,rfl,by omega,hlen,rfl,hS⟩
 case round=>
  clear hS;obtain⟨k,ys,rfl,hk,hyn,hr,hS⟩:=hrel;have Hr:=jH hr;have Hyn:=jH hyn;clear hr hyn hlen;by_cases h1:2*k+1<n
  ·obtain⟨j1,hj1⟩:∃j1,j1=2*k+1:=⟨_,rfl⟩
   have e1:2*(k:Int)+1=(j1:Int):=by omega
   obtain⟨j2,hj2⟩:∃j2,j2=j1+1:=⟨_,rfl⟩
   have e2:(j1:Int)+1=(j2:Int):=by omega
   have hyl:n<=ys.length:=by rw[Hyn.out];exact hn
   have h1n:j1<n:=by omega
   have hkl:k<ys.length:=by omega
   have hj1l:j1<ys.length:=by omega
   have hle:k<=n:=by omega
   by_cases h2:j2<n
   ·have hj2l:j2<ys.length:=by omega
    cases hb:M8 ys[j2] ys[j1]
    ·have hkid:kid ys k n hyl=j1:=by
      subst hj1 hj2;unfold kid;rw[dif_pos h2,if_neg (by rw[hb];exact Bool.false_ne_true)]
     have hm2:n+i0-j1<n+i0-k:=by omega
     have Hb:=jH hb;have Hk:=jH hkid;clear hb hkid hj1 hj2
     cases hc:M8 ys[j1] ys[k]
     ·(have hc:=jH hc;have Hc:=hc;clear hc;go_wp2_with(first|(with_reducible apply Aj7 255 hS);rfl;rfl;rfl;decide +kernel;decide +kernel;decide +kernel;(first|exact i6.here hl|exact N5);(focus(simp only[fD,fI,fJ,Act.eval,fE,fF,fG,fH,fK];try rfl));simp only[List.append_toArray,jK,jN];(try simp only[e1,e2]);refine Calls.mono (Bl7 Hb.out junk g len cap Hyn.out hcap hm _ _ _ hS.swap) ?_;(clear hS;rintro e w ⟨rfl,hS⟩;refine⟨_,rfl,?_⟩;try(refine frS ?_))|(with_reducible apply Aj7 255 hS);rfl;rfl;rfl;decide +kernel;decide +kernel;decide +kernel;(first|exact i6.there (i6.here hl)|exact N5);(focus(simp only[fD,fI,fJ,Act.eval,fE,fF,fG,fH,fK];try rfl));simp only[List.append_toArray,jK,jN];(try simp only[e1,e2]);refine Calls.mono (Bl7 Hc.out junk g len cap Hyn.out hcap hm _ _ _ hS) ?_;(clear hS;rintro e w ⟨rfl,hS⟩;refine⟨_,rfl,?_⟩;try(refine frS ?_)));go_ret;have hst:=(Bv7 hyl h1 (Nat.le_add_right _ _) Hk.out hj1l Hc.out).symm.trans Hr.out;rw[if_neg Bool.false_ne_true]at hst;exact⟨by rw[<-hst];rfl,by rw[<-hst];exact hS.swap⟩)
     ·(have hc:=jH hc;have Hc:=hc;clear hc;go_wp2_with(first|(with_reducible apply Aj7 255 hS);rfl;rfl;rfl;decide +kernel;decide +kernel;decide +kernel;(first|exact i6.here hl|exact N5);(focus(simp only[fD,fI,fJ,Act.eval,fE,fF,fG,fH,fK];try rfl));simp only[List.append_toArray,jK,jN];(try simp only[e1,e2]);refine Calls.mono (Bl7 Hb.out junk g len cap Hyn.out hcap hm _ _ _ hS.swap) ?_;(clear hS;rintro e w ⟨rfl,hS⟩;refine⟨_,rfl,?_⟩;try(refine frS ?_))|(with_reducible apply Aj7 255 hS);rfl;rfl;rfl;decide +kernel;decide +kernel;decide +kernel;(first|exact i6.there (i6.here hl)|exact N5);(focus(simp only[fD,fI,fJ,Act.eval,fE,fF,fG,fH,fK];try rfl));simp only[List.append_toArray,jK,jN];(try simp only[e1,e2]);refine Calls.mono (Bl7 Hc.out junk g len cap Hyn.out hcap hm _ _ _ hS) ?_;(clear hS;rintro e w ⟨rfl,hS⟩;refine⟨_,rfl,?_⟩;try(refine frS ?_))|(with_reducible apply Aj7 258 hS);rfl;rfl;rfl;decide +kernel;decide +kernel;decide +kernel;(first|exact i6.there (i6.here hl)|exact N5);(focus(simp only[fD,fI,fJ,Act.eval,fE,fF,fG,fH,fK];try rfl));simp only[List.append_toArray,jK,jN];(try simp only[e1,e2]);refine Calls.mono (Bu7 ys junk g len cap k j1 Hyn.out hkl hj1l hcap hm _ _ _ hS) ?_;(clear hS;rintro e w ⟨rfl,hS⟩;refine⟨_,rfl,?_⟩;try(refine frS ?_)));have hst:=(Bv7 hyl h1 (Nat.le_add_right _ _) Hk.out hj1l Hc.out).symm.trans Hr.out;rw[if_pos rfl]at hst;go_roundw;(case rel=>exact⟨j1,F7 ys k j1 hkl hj1l,rfl,by omega,by rw[Af7];exact Hyn.out,hst,hS.swap⟩);(case measure=>(simp[intOf];omega)))
    ·have hkid:kid ys k n hyl=j2:=by
      subst hj1 hj2;unfold kid;rw[dif_pos h2,if_pos hb]
     have hm2:n+i0-j2<n+i0-k:=by omega
     have Hb:=jH hb;have Hk:=jH hkid;clear hb hkid hj1 hj2
     cases hc:M8 ys[j2] ys[k]
     ·(have hc:=jH hc;have Hc:=hc;clear hc;go_wp2_with(first|(with_reducible apply Aj7 255 hS);rfl;rfl;rfl;decide +kernel;decide +kernel;decide +kernel;(first|exact i6.here hl|exact N5);(focus(simp only[fD,fI,fJ,Act.eval,fE,fF,fG,fH,fK];try rfl));simp only[List.append_toArray,jK,jN];(try simp only[e1,e2]);refine Calls.mono (Bl7 Hb.out junk g len cap Hyn.out hcap hm _ _ _ hS.swap) ?_;(clear hS;rintro e w ⟨rfl,hS⟩;refine⟨_,rfl,?_⟩;try(refine frS ?_))|(with_reducible apply Aj7 255 hS);rfl;rfl;rfl;decide +kernel;decide +kernel;decide +kernel;(first|exact i6.there (i6.here hl)|exact N5);(focus(simp only[fD,fI,fJ,Act.eval,fE,fF,fG,fH,fK];try rfl));simp only[List.append_toArray,jK,jN];(try simp only[e1,e2]);refine Calls.mono (Bl7 Hc.out junk g len cap Hyn.out hcap hm _ _ _ hS) ?_;(clear hS;rintro e w ⟨rfl,hS⟩;refine⟨_,rfl,?_⟩;try(refine frS ?_)));go_ret;have hst:=(Bv7 hyl h1 (Nat.le_add_right _ _) Hk.out hj2l Hc.out).symm.trans Hr.out;rw[if_neg Bool.false_ne_true]at hst;exact⟨by rw[<-hst];rfl,by rw[<-hst];exact hS.swap⟩)
     ·(have hc:=jH hc;have Hc:=hc;clear hc;go_wp2_with(first|(with_reducible apply Aj7 255 hS);rfl;rfl;rfl;decide +kernel;decide +kernel;decide +kernel;(first|exact i6.here hl|exact N5);(focus(simp only[fD,fI,fJ,Act.eval,fE,fF,fG,fH,fK];try rfl));simp only[List.append_toArray,jK,jN];(try simp only[e1,e2]);refine Calls.mono (Bl7 Hb.out junk g len cap Hyn.out hcap hm _ _ _ hS.swap) ?_;(clear hS;rintro e w ⟨rfl,hS⟩;refine⟨_,rfl,?_⟩;try(refine frS ?_))|(with_reducible apply Aj7 255 hS);rfl;rfl;rfl;decide +kernel;decide +kernel;decide +kernel;(first|exact i6.there (i6.here hl)|exact N5);(focus(simp only[fD,fI,fJ,Act.eval,fE,fF,fG,fH,fK];try rfl));simp only[List.append_toArray,jK,jN];(try simp only[e1,e2]);refine Calls.mono (Bl7 Hc.out junk g len cap Hyn.out hcap hm _ _ _ hS) ?_;(clear hS;rintro e w ⟨rfl,hS⟩;refine⟨_,rfl,?_⟩;try(refine frS ?_))|(with_reducible apply Aj7 258 hS);rfl;rfl;rfl;decide +kernel;decide +kernel;decide +kernel;(first|exact i6.there (i6.here hl)|exact N5);(focus(simp only[fD,fI,fJ,Act.eval,fE,fF,fG,fH,fK];try rfl));simp only[List.append_toArray,jK,jN];(try simp only[e1,e2]);refine Calls.mono (Bu7 ys junk g len cap k j2 Hyn.out hkl hj2l hcap hm _ _ _ hS) ?_;(clear hS;rintro e w ⟨rfl,hS⟩;refine⟨_,rfl,?_⟩;try(refine frS ?_)));have hst:=(Bv7 hyl h1 (Nat.le_add_right _ _) Hk.out hj2l Hc.out).symm.trans Hr.out;rw[if_pos rfl]at hst;go_roundw;(case rel=>exact⟨j2,F7 ys k j2 hkl hj2l,rfl,by omega,by rw[Af7];exact Hyn.out,hst,hS.swap⟩);(case measure=>(simp[intOf];omega)))
   ·have hkid:kid ys k n hyl=j1:=by
     subst hj1 hj2;unfold kid;rw[dif_neg h2]
    have hm2:n+i0-j1<n+i0-k:=by omega
    have Hk:=jH hkid;clear hkid hj1 hj2
    cases hc:M8 ys[j1] ys[k]
    ·(have hc:=jH hc;have Hc:=hc;clear hc;go_wp2_with(first|(with_reducible apply Aj7 255 hS);rfl;rfl;rfl;decide +kernel;decide +kernel;decide +kernel;(first|exact i6.here hl|exact N5);(focus(simp only[fD,fI,fJ,Act.eval,fE,fF,fG,fH,fK];try rfl));simp only[List.append_toArray,jK,jN];(try simp only[e1,e2]);refine Calls.mono (Bl7 Hc.out junk g len cap Hyn.out hcap hm _ _ _ hS.swap) ?_;(clear hS;rintro e w ⟨rfl,hS⟩;refine⟨_,rfl,?_⟩;try(refine frS ?_)));go_ret;have hst:=(Bv7 hyl h1 (Nat.le_add_right _ _) Hk.out hj1l Hc.out).symm.trans Hr.out;rw[if_neg Bool.false_ne_true]at hst;exact⟨by rw[<-hst];rfl,by rw[<-hst];exact hS.swap⟩)
    ·(have hc:=jH hc;have Hc:=hc;clear hc;go_wp2_with(first|(with_reducible apply Aj7 255 hS);rfl;rfl;rfl;decide +kernel;decide +kernel;decide +kernel;(first|exact i6.here hl|exact N5);(focus(simp only[fD,fI,fJ,Act.eval,fE,fF,fG,fH,fK];try rfl));simp only[List.append_toArray,jK,jN];(try simp only[e1,e2]);refine Calls.mono (Bl7 Hc.out junk g len cap Hyn.out hcap hm _ _ _ hS.swap) ?_;(clear hS;rintro e w ⟨rfl,hS⟩;refine⟨_,rfl,?_⟩;try(refine frS ?_))|(with_reducible apply Aj7 258 hS);rfl;rfl;rfl;decide +kernel;decide +kernel;decide +kernel;(first|exact i6.there (i6.here hl)|exact N5);(focus(simp only[fD,fI,fJ,Act.eval,fE,fF,fG,fH,fK];try rfl));simp only[List.append_toArray,jK,jN];(try simp only[e1,e2]);refine Calls.mono (Bu7 ys junk g len cap k j1 Hyn.out hkl hj1l hcap hm _ _ _ hS) ?_;(clear hS;rintro e w ⟨rfl,hS⟩;refine⟨_,rfl,?_⟩;try(refine frS ?_)));have hst:=(Bv7 hyl h1 (Nat.le_add_right _ _) Hk.out hj1l Hc.out).symm.trans Hr.out;rw[if_pos rfl]at hst;go_roundw;(case rel=>exact⟨j1,F7 ys k j1 hkl hj1l,rfl,by omega,by rw[Af7];exact Hyn.out,hst,hS.swap⟩);(case measure=>(simp[intOf];omega)))
  ·go_wp2_with fail;go_ret;have hst:=(Ki7 (f:=n) (xs:=ys) (Nat.le_of_not_lt h1)).symm.trans Hr.out;exact⟨by rw[<-hst];rfl,by rw[<-hst];exact hS⟩
theorem Kj7(xs:List Ord)(o:Ord)(l:List Value)(T:TypeId)(bb off n:Nat)(v:Value)(hn:xs.length=n)(h63:n<=4294967296)(hl:l[off]? = some v)(W w:World)(L:List HP)
  (hS:St W (blk bb l T::row v 6 173 n (xs.flatMap Ord.cells)::L) w):
  Calls Tryz.prog 190 #[.iface 253 (.pointer (some ⟨bb,off,none⟩)),.iface 173 (.agg o.cells.toArray)] w fun e w'=>∃v',e=.returned (.tuple #[])/\St W (blk bb (l.set off v') T::row v' 6 173 (n+1) ((upF n (xs++[o]) n).flatMap Ord.cells)::L) w':=by
 have hlt:off<l.length:=(List.getElem?_eq_some_iff.1 hl).1;go_enter Tryz.func190,Tryz.ntmps190;have Hlen:=jH (show(xs++[o]).length=n+1 by simp[hn]);have Hn:=jH hn;have Hl:=jH hl;clear hn hl;go_wp2_with(first|((with_reducible apply BV7 257);rfl;rfl;rfl;decide +kernel;decide +kernel;decide +kernel;(focus(simp only[fD,fI,fJ,Act.eval,fE,fF,fG,fH,fK];try rfl));simp only[List.append_toArray,jK,jN];refine Calls.mono (Kh7 xs o l T bb off n v Hn.out h63 Hl.out W _ L hS) ?_;clear hS;rintro e w ⟨v',rfl,hS⟩;refine⟨_,rfl,?_⟩;refine frS ?_;have h1:=hS.swap.rowOpen;clear hS;rcases h1 with ⟨_,h0,_⟩ | ⟨g,cap,junk,rfl,hn1,hm1,hj1,hl1,hS⟩;exfalso;omega;have hm':cap<=9223372036854775807:=(by unfold maxLen at hm1;omega))|(with_reducible apply Aj7 254 hS);rfl;rfl;rfl;decide +kernel;decide +kernel;decide +kernel;(first | exact i6.there (i6.here (List.getElem?_set_self hlt)) | exact N5);(focus(simp only[fD,fI,fJ,Act.eval,fE,fF,fG,fH,fK];try rfl));simp only[List.append_toArray,jK,jN];refine Calls.mono (Ct7 _ (n+1) cap W _ _ hS) ?_;(clear hS;rintro e w ⟨rfl,hS⟩;refine⟨_,rfl,?_⟩;try(refine frS ?_))|go_at_call 216;refine(LC7 (xs++[o]) junk _ T bb off g (n+1) cap n Hlen.out (by omega) hn1 hm1 (List.getElem?_set_self hlt) W _ L hS.swap).mono ?_;clear hS;rintro e w ⟨rfl,hS⟩);go_end0;refine⟨.S g (n+1) cap,rfl,?_⟩;have hS:=hS.swap;refine(St.rowShut hS hn1 hm1 ?_ ?_).swap
 ·rw[jA,Ab7 Ord.len,BX7,Hlen.out];rw[jA,hl1]at hj1;exact hj1
 ·rw[Ab7 Ord.len,BX7,Hlen.out]
def aS4(xs:List Ord)(n:Nat)(h:xs.length=n+1):List Ord:=(C9 n (F7 xs 0 n (by omega) (by omega)) 0 n).1
theorem AM7{xs:List Ord}{n:Nat}(h:xs.length=n+1):(aS4 xs n h).length=n+1:=by rw[aS4,Bf7,Af7,h]
theorem LD7(xs:List Ord)(junk l:List Value)(T:TypeId)(bb off g n cap:Nat)(hn:xs.length=n+1)(hcap:n+1<=cap)(hm:cap<=maxLen)(h63:n<=4294967296)(hl:l[off]? = some (.S g (n+1) cap))(W w:World)(L:List HP)
  (hS:St W (blk bb l T::blk g (xs.flatMap Ord.cells++junk) 173::L) w):
  Calls Tryz.prog 192 #[.iface 253 (.pointer (some ⟨bb,off,none⟩))] w fun e w'=>e=.returned (.iface 173 (.agg ((aS4 xs n hn)[n]'(by rw[AM7];omega)).cells.toArray)) /\
   St W (blk bb (l.set off (.S g n cap)) T::blk g ((aS4 xs n hn).flatMap Ord.cells++junk) 173::L) w':=by
 have hm':cap<=9223372036854775807:=by unfold maxLen at hm;omega
 have Hn:=jH hn;go_enter Tryz.func192,Tryz.ntmps192;go_wp2_with(first|(with_reducible apply Aj7 254 hS);rfl;rfl;rfl;decide +kernel;decide +kernel;decide +kernel;(first|exact i6.here hl|exact N5);(focus(simp only[fD,fI,fJ,Act.eval,fE,fF,fG,fH,fK];try rfl));simp only[List.append_toArray,jK,jN];refine Calls.mono (Ct7 _ (n+1) cap W _ _ hS) ?_;(clear hS;rintro e w ⟨rfl,hS⟩;refine⟨_,rfl,?_⟩;try(refine frS ?_))|(with_reducible apply Aj7 258 hS);rfl;rfl;rfl;decide +kernel;decide +kernel;decide +kernel;(first|exact i6.here hl|exact N5);(focus(simp only[fD,fI,fJ,Act.eval,fE,fF,fG,fH,fK];try rfl));simp only[List.append_toArray,jK,jN];refine Calls.mono (Bu7 xs junk g (n+1) cap 0 n Hn.out (by omega) (by omega) hcap hm _ _ _ hS.swap) ?_;(clear hS;rintro e w ⟨rfl,hS⟩;refine⟨_,rfl,?_⟩;try(refine frS ?_))|go_at_call 217;refine(Hj7 (F7 xs 0 n (by omega) (by omega)) junk l T bb off g (n+1) cap 0 n (by rw[Af7];exact Hn.out) (by omega) (by omega) h63 hcap hm hl W _ L hS.swap).mono ?_;clear hS;rintro e w ⟨rfl,hS⟩|(with_reducible apply BV7 256);rfl;rfl;rfl;decide +kernel;decide +kernel;decide +kernel;(focus(simp only[fD,fI,fJ,Act.eval,fE,fF,fG,fH,fK];try rfl));simp only[List.append_toArray,jK,jN];refine Calls.mono (Hg7 (aS4 xs n hn) junk l T bb off g n cap (AM7 hn) hcap hm hl W _ L hS) ?_;clear hS;rintro e w ⟨rfl,hS⟩;refine⟨_,rfl,?_⟩;refine frS ?_);go_ret;exact⟨rfl,hS⟩
def bh4(xs:List Ord)(i n:Nat)(h:xs.length=n+1)(hi:i<=n):List Ord:=
 if i=n then xs else
  if i<(C9 n (F7 xs i n (by omega) (by omega)) i n).2 then(C9 n (F7 xs i n (by omega) (by omega)) i n).1
  else upF i (C9 n (F7 xs i n (by omega) (by omega)) i n).1 i
theorem BB7{xs:List Ord}{i n:Nat}(h:xs.length=n+1)(hi:i<=n):(bh4 xs i n h hi).length=n+1:=by
 unfold bh4;split
 ·exact h
 ·split
  ·rw[Bf7,Af7,h]
  ·rw[BX7,Bf7,Af7,h]
theorem It7(xs:List Ord)(x:Ord)(junk:List Value)(l:List Value)(T:TypeId)(bb off g n cap:Nat)(hx:xs[n]? = some x)(hn:xs.length=n+1)(hcap:n+1<=cap)(hm:cap<=maxLen)(hl:l[off]? = some (.S g (n+1) cap))(W w:World)(L:List HP)
  (hS:St W (blk bb l T::blk g (xs.flatMap Ord.cells++junk) 173::L) w):
  Calls Tryz.prog 256 #[.pointer (some ⟨bb,off,none⟩)] w fun e w'=>e=.returned (.iface 173 (.agg x.cells.toArray))/\St W (blk bb (l.set off (.S g n cap)) T::blk g (xs.flatMap Ord.cells++junk) 173::L) w':=by
 have h:n<xs.length:=by omega
 have e:xs[n]=x:=by rw[jG h]at hx;exact Option.some.inj hx
 rw[<-e];exact Hg7 xs junk l T bb off g n cap hn hcap hm hl W w L hS
theorem LE7(xs zs:List Ord)(x:Ord)(junk l:List Value)(T:TypeId)(bb off g i n cap:Nat)(hn:xs.length=n+1)(hi:i<=n)(hr:bh4 xs i n hn hi=zs)(hx:zs[n]? = some x)(hcap:n+1<=cap)(hm:cap<=maxLen)(h63:n<=4294967296)(hl:l[off]? = some (.S g (n+1) cap))(W w:World)(L:List HP)
  (hS:St W (blk bb l T::blk g (xs.flatMap Ord.cells++junk) 173::L) w):
  Calls Tryz.prog 196 #[.iface 253 (.pointer (some ⟨bb,off,none⟩)),.I i] w fun e w'=>e=.returned (.iface 173 (.agg x.cells.toArray)) /\
   St W (blk bb (l.set off (.S g n cap)) T::blk g (zs.flatMap Ord.cells++junk) 173::L) w':=by
 have hm':cap<=9223372036854775807:=by unfold maxLen at hm;omega
 have Hrl:=jH (show zs.length=n+1 from hr▸BB7 hn hi);have Hx:=jH hx;clear hx;have hi63:i<=4294967296:=by omega
 by_cases hin:i=n
 ·unfold bh4 at hr;rw[if_pos hin]at hr;subst hin hr;clear hn;have hne:((i:Int) != (i:Int))=false:=by simp
  obtain⟨n,rfl⟩:∃n,n=i:=⟨_,rfl⟩
  go_enter Tryz.func196,Tryz.ntmps196;go_wp2_with(first|(with_reducible apply Aj7 254 hS);rfl;rfl;rfl;decide +kernel;decide +kernel;decide +kernel;(first|exact i6.here hl|exact N5);(focus(simp only[fD,fI,fJ,Act.eval,fE,fF,fG,fH,fK];try rfl));simp only[List.append_toArray,jK,jN];refine Calls.mono (Ct7 _ (n+1) cap W _ _ hS) ?_;(clear hS;rintro e w ⟨rfl,hS⟩;refine⟨_,rfl,?_⟩;try(refine frS ?_))|(with_reducible apply BV7 256);rfl;rfl;rfl;decide +kernel;decide +kernel;decide +kernel;(focus(simp only[fD,fI,fJ,Act.eval,fE,fF,fG,fH,fK];try rfl));simp only[List.append_toArray,jK,jN];refine Calls.mono (It7 xs x junk l T bb off g n cap Hx.out Hrl.out hcap hm hl W _ L hS) ?_;clear hS;rintro e w ⟨rfl,hS⟩;refine⟨_,rfl,?_⟩;refine frS ?_);go_ret;exact⟨rfl,hS⟩
 ·have hlt:i<n:=by omega
  have hil:i<xs.length:=by omega
  have hnl:n<xs.length:=by omega
  have hne:((n:Int) != (i:Int))=true:=by simp;omega
  unfold bh4 at hr;rw[if_neg hin]at hr;have Hsw:=jH (fun w L hS=>Bu7 xs junk g (n+1) cap i n hn hil hnl hcap hm W w L hS);have hds:=Hj7 (F7 xs i n hil hnl) junk l T bb off g (n+1) cap i n (by rw[Af7];exact hn) (by omega) hi63 h63 hcap hm hl;have hdl:=Bf7 n (F7 xs i n hil hnl) i n;rw[Af7,hn]at hdl;generalize C9 n (F7 xs i n hil hnl) i n=d at hr hdl hds;obtain⟨ys,k⟩:=d;have Hdl:=jH hdl;have Hds:=jH hds;clear hdl hn hds;by_cases hk:i<k
  ·rw[if_pos hk]at hr;subst hr;have hkd:decide (i<k)=true:=by simpa using hk
   go_enter Tryz.func196,Tryz.ntmps196;go_wp2_with(first|(with_reducible apply Aj7 254 hS);rfl;rfl;rfl;decide +kernel;decide +kernel;decide +kernel;(first|exact i6.here hl|exact N5);(focus(simp only[fD,fI,fJ,Act.eval,fE,fF,fG,fH,fK];try rfl));simp only[List.append_toArray,jK,jN];refine Calls.mono (Ct7 _ (n+1) cap W _ _ hS) ?_;(clear hS;rintro e w ⟨rfl,hS⟩;refine⟨_,rfl,?_⟩;try(refine frS ?_))|(with_reducible apply Aj7 258 hS);rfl;rfl;rfl;decide +kernel;decide +kernel;decide +kernel;(first|exact i6.here hl|exact N5);(focus(simp only[fD,fI,fJ,Act.eval,fE,fF,fG,fH,fK];try rfl));simp only[List.append_toArray,jK,jN];refine Calls.mono (Hsw.out _ _ hS.swap) ?_;(clear hS;rintro e w ⟨rfl,hS⟩;refine⟨_,rfl,?_⟩;try(refine frS ?_))|go_at_call 217;refine(Hds.out W _ L hS.swap).mono ?_;clear hS;rintro e w ⟨rfl,hS⟩|(with_reducible apply BV7 256);rfl;rfl;rfl;decide +kernel;decide +kernel;decide +kernel;(focus(simp only[fD,fI,fJ,Act.eval,fE,fF,fG,fH,fK];try rfl));simp only[List.append_toArray,jK,jN];refine Calls.mono (It7 ys x junk l T bb off g n cap Hx.out Hrl.out hcap hm hl W _ L hS) ?_;clear hS;rintro e w ⟨rfl,hS⟩;refine⟨_,rfl,?_⟩;refine frS ?_);go_ret;exact⟨rfl,hS⟩
  ·rw[if_neg hk]at hr;subst hr;have hkd:decide (i<k)=false:=by simpa using hk
   go_enter Tryz.func196,Tryz.ntmps196;go_wp2_with(first|(with_reducible apply Aj7 254 hS);rfl;rfl;rfl;decide +kernel;decide +kernel;decide +kernel;(first|exact i6.here hl|exact N5);(focus(simp only[fD,fI,fJ,Act.eval,fE,fF,fG,fH,fK];try rfl));simp only[List.append_toArray,jK,jN];refine Calls.mono (Ct7 _ (n+1) cap W _ _ hS) ?_;(clear hS;rintro e w ⟨rfl,hS⟩;refine⟨_,rfl,?_⟩;try(refine frS ?_))|(with_reducible apply Aj7 258 hS);rfl;rfl;rfl;decide +kernel;decide +kernel;decide +kernel;(first|exact i6.here hl|exact N5);(focus(simp only[fD,fI,fJ,Act.eval,fE,fF,fG,fH,fK];try rfl));simp only[List.append_toArray,jK,jN];refine Calls.mono (Hsw.out _ _ hS.swap) ?_;(clear hS;rintro e w ⟨rfl,hS⟩;refine⟨_,rfl,?_⟩;try(refine frS ?_))|go_at_call 217;refine(Hds.out W _ L hS.swap).mono ?_;clear hS;rintro e w ⟨rfl,hS⟩|go_at_call 216;refine(LC7 ys junk l T bb off g (n+1) cap i Hdl.out (by omega) hcap hm hl W _ L hS).mono ?_;clear hS;rintro e w ⟨rfl,hS⟩|(with_reducible apply BV7 256);rfl;rfl;rfl;decide +kernel;decide +kernel;decide +kernel;(focus(simp only[fD,fI,fJ,Act.eval,fE,fF,fG,fH,fK];try rfl));simp only[List.append_toArray,jK,jN];refine Calls.mono (It7 (upF i ys i) x junk l T bb off g n cap Hx.out Hrl.out hcap hm hl W _ L hS) ?_;clear hS;rintro e w ⟨rfl,hS⟩;refine⟨_,rfl,?_⟩;refine frS ?_);go_ret;exact⟨rfl,hS⟩
theorem Do7(o:Ord)(W w:World)(L:List HP)(hS:St W L w):
  Calls Tryz.prog 187 #[.agg o.cells.toArray] w fun e w'=>e=.returned (.bool (J7 o))/\St W L w':=by
 obtain⟨i,u,y,t,c,p⟩:=o;simp only[Ord.cells];go_enter Tryz.func187,Tryz.ntmps187;go_wp2_with(first|refine zl1 hS ?_|refine zlN hS ?_|refine zs1 hS ?_;clear hS;intro w hS|refine zsN hS ?_;clear hS;intro w hS|refine zbx hS ?_;clear hS;intro b w hS|refine zal hS ?_;clear hS;intro b w hS)
 all_goals go_ret
 all_goals exact⟨by simp[J7, *];try omega,hS.drop⟩
theorem NQ7(W w:World)(L:List HP)(hS:St W L w):
  Calls Tryz.prog 185 #[] w fun e w'=>∃b,e=.returned (.P b)/\St W (blk b (List.replicate 8 (.slice none 0 0)++[.I 0]) 279::L) w':=by
 go_enter Tryz.func185,Tryz.ntmps185;go_wp2_with(first|refine zl1 hS ?_|refine zlN hS ?_|refine zs1 hS ?_;clear hS;intro w hS|refine zsN hS ?_;clear hS;intro w hS|refine zbx hS ?_;clear hS;intro b w hS|refine zal hS ?_;clear hS;intro b w hS);go_ret;exact⟨_,rfl,hS⟩
end Go.Proofs.YtienbkdjkjbelaaGreat
end
