/-
  A heap of orders.
-/
import Derived.Test.YtlmhakmoioogaaaGreatEconBkM4
set_option maxHeartbeats 16000000
set_option maxRecDepth 100000
set_option linter.unusedSimpArgs false
set_option linter.unusedVariables false
section
namespace Go.Proofs.YtlmhakmoioogaaaGreat
open Go.RowKit Go.Sl
def upF:Nat->List Ord->Nat->List Ord
 | 0,xs,_=>xs
 | f+1,xs,j=>
  if h:0<j/\j<xs.length then
   if T5 (xs[j]'h.2) (xs[(j-1) / 2]'(by omega))then upF f (L5 xs ((j-1) / 2) j (by omega) h.2) ((j-1) / 2)else xs
  else xs
theorem Ah7{α:Type}(xs:List α)(i j:Nat)(hi:i<xs.length)(hj:j<xs.length):(L5 xs i j hi hj).length=xs.length:=by simp[L5]
theorem CF7:∀(f:Nat) (xs:List Ord) (j:Nat),(upF f xs j).length=xs.length
 | 0,_,_=>rfl
 | f+1,xs,j=>by
  rw[upF];split
  ·split
   ·rw[CF7,Ah7]
   ·rfl
  ·rfl
theorem Ly7:∀(f f':Nat) (xs:List Ord) (j:Nat),j<=f->j<=f'->upF f xs j=upF f' xs j
 | 0,f',xs,j,h,_=>by
  obtain rfl:j=0:=by omega
  cases f' with
  | zero=>rfl
  | succ f'=>rw[upF,upF,dif_neg (by omega)]
 | f+1,0,xs,j,_,h=>by
  obtain rfl:j=0:=by omega
  rw[upF,upF,dif_neg (by omega)]
 | f+1,f'+1,xs,j,h,h'=>by
  rw[upF,upF];split
  ·split
   ·exact Ly7 f f' _ _ (by omega) (by omega)
   ·rfl
  ·rfl
def gb4(W:World)(L:List HP)(bb:Nat)(l:List Value)(T:TypeId)(g:Nat)(junk:List Value)(n:Nat)(r:List Ord)(v:Value)(w:World):Prop:=
 ∃(k:Nat) (ys:List Ord),v=.I k/\k<ys.length/\ys.length=n/\upF k ys k=r/\St W (blk bb l T::blk g (ys.flatMap Ord.cells++junk) 166::L) w
theorem Ob7(xs:List Ord)(junk l:List Value)(T:TypeId)(bb off g n cap j:Nat)(hn:xs.length=n)(hj:j<n)(hcap:n<=cap)(hm:cap<=maxLen)(hl:l[off]? = some (.S g n cap))(W w:World)(L:List HP)
  (hS:St W (blk bb l T::blk g (xs.flatMap Ord.cells++junk) 166::L) w):
  Calls Tryz.prog 248 #[.iface 273 (.pointer (some ⟨bb,off,none⟩)),.I j] w fun e w'=>e=.returned (.tuple #[])/\St W (blk bb l T::blk g ((upF j xs j).flatMap Ord.cells++junk) 166::L) w':=by
 have hm':cap<=9223372036854775807:=by unfold maxLen at hm;omega
 go_enter Tryz.func248,Tryz.ntmps248;go_wp2_with fail
 go_loopw [1] (fun v wr=>gb4 W L bb l T g junk n (upF j xs j) v wr) (fun v _=>(intOf v).toNat)
 case atStart=>exact⟨j,xs,rfl,by omega,hn,rfl,hS⟩
 case round=>
  clear hS;obtain⟨k,ys,rfl,hk,hyn,hr,hS⟩:=hrel;have Hr:=jH hr;have Hyn:=jH hyn;clear hr hyn hn;have hkn:k<n:=by have:=Hyn.out;omega
  by_cases h0:k=0
  ·subst h0;go_wp2_with fail;go_end0;exact⟨rfl,by rw[<-Hr.out];exact hS⟩
  ·obtain⟨i,hi0⟩:∃i,i=(k-1) / 2:=⟨_,rfl⟩
   have hik:i<k:=by omega
   have hi:((k:Int)-1) / 2=(i:Int):=by omega
   have hne:((i:Int)==(k:Int))=false:=by simp;omega
   have hil:i<ys.length:=by omega
   have hu:upF k ys k=if T5 ys[k] ys[i]then upF (k-1) (L5 ys i k hil hk) i else ys:=by
    subst hi0;obtain⟨k',rfl⟩:∃k',k=k'+1:=⟨k-1,by omega⟩
    rw[upF,dif_pos ⟨by omega,hk⟩];rfl
   have hm1:i<=k-1:=by omega
   have Hu:=jH hu;clear hu hi0
   cases hb:T5 ys[k] ys[i]
   ·have Hb:=jH hb;clear hb;go_wp2_with(first|(with_reducible apply Am7 297 hS);rfl;rfl;rfl;decide +kernel;decide +kernel;decide +kernel;(first|exact i9.here hl|exact R9);(focus(simp only[fD,fI,fJ,Act.eval,fE,fF,fG,fH,fK];try rfl));simp only[List.append_toArray,jK,jN];(try simp only[hi]);refine Calls.mono (BM7 Hb.out junk g n cap Hyn.out hcap hm _ _ _ hS.swap) ?_;(clear hS;rintro e w ⟨rfl,hS⟩;refine⟨_,rfl,?_⟩;try(refine frS ?_)));go_end0;have hr:=Hu.out;rw[Hb.out]at hr;exact⟨rfl,by rw[<-Hr.out,hr];exact hS.swap⟩
   ·have Hb:=jH hb;clear hb;go_wp2_with(first|(with_reducible apply Am7 297 hS);rfl;rfl;rfl;decide +kernel;decide +kernel;decide +kernel;(first|exact i9.here hl|exact R9);(focus(simp only[fD,fI,fJ,Act.eval,fE,fF,fG,fH,fK];try rfl));simp only[List.append_toArray,jK,jN];(try simp only[hi]);refine Calls.mono (BM7 Hb.out junk g n cap Hyn.out hcap hm _ _ _ hS.swap) ?_;(clear hS;rintro e w ⟨rfl,hS⟩;refine⟨_,rfl,?_⟩;try(refine frS ?_))|(with_reducible apply Am7 298 hS);rfl;rfl;rfl;decide +kernel;decide +kernel;decide +kernel;(first|exact i9.there (i9.here hl)|exact R9);(focus(simp only[fD,fI,fJ,Act.eval,fE,fF,fG,fH,fK];try rfl));simp only[List.append_toArray,jK,jN];(try simp only[hi]);refine Calls.mono (BU7 ys junk g n cap i k Hyn.out hil hk hcap hm _ _ _ hS) ?_;(clear hS;rintro e w ⟨rfl,hS⟩;refine⟨_,rfl,?_⟩;try(refine frS ?_)));have hr:=Hu.out;rw[Hb.out,if_pos rfl]at hr;have hup:upF i (L5 ys i k hil hk) i=upF (k-1) (L5 ys i k hil hk) i:=Ly7 _ _ _ _ (Nat.le_refl _) hm1;go_roundw
    case rel=>exact⟨i,L5 ys i k hil hk,rfl,by rw[Ah7];exact hil,by rw[Ah7];exact Hyn.out,by rw[<-Hr.out,hr,hup],hS.swap⟩
    case measure=>simp[intOf];omega
def kid(xs:List Ord)(i n:Nat)(hn:n<=xs.length):Nat:=
 if h:2*i+2<n then(if T5 (xs[2*i+2]'(by omega)) (xs[2*i+1]'(by omega))then 2*i+2 else 2*i+1)else 2*i+1
theorem IU7{xs:List Ord}{i n:Nat}(hn:n<=xs.length)(h:2*i+1<n):kid xs i n hn<n:=by
 unfold kid;split
 ·split <;> omega
 ·omega
theorem IV7{xs:List Ord}{i n:Nat}(hn:n<=xs.length):i<kid xs i n hn:=by
 unfold kid;split
 ·split <;> omega
 ·omega
def G7:Nat->List Ord->Nat->Nat->List Ord×Nat
 | 0,xs,i,_=>(xs,i)
 | f+1,xs,i,n=>
  if h:2*i+1<n/\n<=xs.length then
   if T5 (xs[kid xs i n h.2]'(by have:=IU7 h.2 h.1;omega)) (xs[i]'(by omega))then
    G7 f (L5 xs i (kid xs i n h.2) (by omega) (by have:=IU7 h.2 h.1;omega)) (kid xs i n h.2) n
   else(xs,i)
  else(xs,i)
theorem BG7:∀(f:Nat) (xs:List Ord) (i n:Nat),(G7 f xs i n).1.length=xs.length
 | 0,_,_,_=>rfl
 | f+1,xs,i,n=>by
  rw[G7];split
  ·split
   ·rw[BG7,Ah7]
   ·rfl
  ·rfl
theorem Ht7:∀(f f':Nat) (xs:List Ord) (i n:Nat),n<=f+i->n<=f'+i->G7 f xs i n=G7 f' xs i n
 | 0,f',xs,i,n,h,_=>by
  cases f' with
  | zero=>rfl
  | succ f'=>rw[G7,G7,dif_neg (by omega)]
 | f+1,0,xs,i,n,_,h=>by rw[G7,G7,dif_neg (by omega)]
 | f+1,f'+1,xs,i,n,h,h'=>by
  rw[G7,G7];split
  ·split
   ·have:=IV7 (xs:=xs) (i:=i) (n:=n) (by omega);exact Ht7 f f' _ _ _ (by omega) (by omega)
   ·rfl
  ·rfl
theorem BV7{f:Nat}{xs:List Ord}{i n j:Nat}{b:Bool}(hn:n<=xs.length)(h1:2*i+1<n)(hf:n<=f+i)(hk:kid xs i n hn=j)(hj:j<xs.length)(hb:T5 xs[j] (xs[i]'(by omega))=b):
  G7 f xs i n=if b then G7 f (L5 xs i j (by omega) hj) j n else(xs,i):=by
 subst hk hb;obtain⟨f',rfl⟩:∃f',f=f'+1:=⟨f-1,by omega⟩
 have hg:=IV7 (xs:=xs) (i:=i) (n:=n) hn;rw[G7,dif_pos ⟨h1,hn⟩];split
 ·exact Ht7 f' (f'+1) _ _ _ (by omega) (by omega)
 ·rfl
theorem MF7{f:Nat}{xs:List Ord}{i n:Nat}(h:n<=2*i+1):G7 f xs i n=(xs,i):=by
 cases f with
 | zero=>rfl
 | succ f=>rw[G7,dif_neg (by omega)]
def eY4(W:World)(L:List HP)(bb:Nat)(l:List Value)(T:TypeId)(g:Nat)(junk:List Value)(len n i0:Nat)(r:List Ord×Nat)(v:Value)(w:World):Prop:=
 ∃(k:Nat) (ys:List Ord),v=.I k/\k<=n+i0/\ys.length=len/\G7 n ys k n=r/\St W (blk bb l T::blk g (ys.flatMap Ord.cells++junk) 166::L) w
theorem IW7(xs:List Ord)(junk l:List Value)(T:TypeId)(bb off g len cap i0 n:Nat)(hlen:xs.length=len)(hn:n<=len)(hi0:i0<=4294967296)(hn2:n<=4294967296)(hcap:len<=cap)(hm:cap<=maxLen)(hl:l[off]? = some (.S g len cap))(W w:World)(L:List HP)
  (hS:St W (blk bb l T::blk g (xs.flatMap Ord.cells++junk) 166::L) w):
  Calls Tryz.prog 249 #[.iface 273 (.pointer (some ⟨bb,off,none⟩)),.I i0,.I n] w fun e w'=>e=.returned (.bool (decide (i0<(G7 n xs i0 n).2)))/\St W (blk bb l T::blk g ((G7 n xs i0 n).1.flatMap Ord.cells++junk) 166::L) w':=by
 have hm':cap<=9223372036854775807:=by unfold maxLen at hm;omega
 go_enter Tryz.func249,Tryz.ntmps249;go_wp2_with fail
 go_loopw [7] (fun v wr=>eY4 W L bb l T g junk len n i0 (G7 n xs i0 n) v wr) (fun v _=>n+i0-(intOf v).toNat)
 case atStart=>exact⟨i0,xs,rfl,by omega,hlen,rfl,hS⟩
 case round=>
  clear hS;obtain⟨k,ys,rfl,hk,hyn,hr,hS⟩:=hrel;have Hr:=jH hr;have Hyn:=jH hyn;clear hr hyn hlen;by_cases h1:2*k+1<n
  ·obtain⟨j1,hj1⟩:∃j1,j1=2*k+1:=⟨_,rfl⟩
   have e1:2*(k:Int)+1=(j1:Int):=by omega
   obtain⟨j2,hj2⟩:∃j2,j2=j1+1:=⟨_,rfl⟩
   have e2:(j1:Int)+1=(j2:Int):=by omega
   have hyl:n<=ys.length:=by rw[Hyn.out];exact hn
   have h1n:j1<n:=by omega
   have hkl:k<ys.length:=by omega
   have hj1l:j1<ys.length:=by omega
   have hle:k<=n:=by omega
   by_cases h2:j2<n
   ·have hj2l:j2<ys.length:=by omega
    cases hb:T5 ys[j2] ys[j1]
    ·have hkid:kid ys k n hyl=j1:=by
      subst hj1 hj2;unfold kid;rw[dif_pos h2,if_neg (by rw[hb];exact Bool.false_ne_true)]
     have hm2:n+i0-j1<n+i0-k:=by omega
     have Hb:=jH hb;have Hk:=jH hkid;clear hb hkid hj1 hj2
     cases hc:T5 ys[j1] ys[k]
     ·(have hc:=jH hc;have Hc:=hc;clear hc;go_wp2_with(first|(with_reducible apply Am7 297 hS);rfl;rfl;rfl;decide +kernel;decide +kernel;decide +kernel;(first|exact i9.here hl|exact R9);(focus(simp only[fD,fI,fJ,Act.eval,fE,fF,fG,fH,fK];try rfl));simp only[List.append_toArray,jK,jN];(try simp only[e1,e2]);refine Calls.mono (BM7 Hb.out junk g len cap Hyn.out hcap hm _ _ _ hS.swap) ?_;(clear hS;rintro e w ⟨rfl,hS⟩;refine⟨_,rfl,?_⟩;try(refine frS ?_))|(with_reducible apply Am7 297 hS);rfl;rfl;rfl;decide +kernel;decide +kernel;decide +kernel;(first|exact i9.there (i9.here hl)|exact R9);(focus(simp only[fD,fI,fJ,Act.eval,fE,fF,fG,fH,fK];try rfl));simp only[List.append_toArray,jK,jN];(try simp only[e1,e2]);refine Calls.mono (BM7 Hc.out junk g len cap Hyn.out hcap hm _ _ _ hS) ?_;(clear hS;rintro e w ⟨rfl,hS⟩;refine⟨_,rfl,?_⟩;try(refine frS ?_)));go_ret;have hst:=(BV7 hyl h1 (Nat.le_add_right _ _) Hk.out hj1l Hc.out).symm.trans Hr.out;rw[if_neg Bool.false_ne_true]at hst;exact⟨by rw[<-hst];rfl,by rw[<-hst];exact hS.swap⟩)
     ·(have hc:=jH hc;have Hc:=hc;clear hc;go_wp2_with(first|(with_reducible apply Am7 297 hS);rfl;rfl;rfl;decide +kernel;decide +kernel;decide +kernel;(first|exact i9.here hl|exact R9);(focus(simp only[fD,fI,fJ,Act.eval,fE,fF,fG,fH,fK];try rfl));simp only[List.append_toArray,jK,jN];(try simp only[e1,e2]);refine Calls.mono (BM7 Hb.out junk g len cap Hyn.out hcap hm _ _ _ hS.swap) ?_;(clear hS;rintro e w ⟨rfl,hS⟩;refine⟨_,rfl,?_⟩;try(refine frS ?_))|(with_reducible apply Am7 297 hS);rfl;rfl;rfl;decide +kernel;decide +kernel;decide +kernel;(first|exact i9.there (i9.here hl)|exact R9);(focus(simp only[fD,fI,fJ,Act.eval,fE,fF,fG,fH,fK];try rfl));simp only[List.append_toArray,jK,jN];(try simp only[e1,e2]);refine Calls.mono (BM7 Hc.out junk g len cap Hyn.out hcap hm _ _ _ hS) ?_;(clear hS;rintro e w ⟨rfl,hS⟩;refine⟨_,rfl,?_⟩;try(refine frS ?_))|(with_reducible apply Am7 298 hS);rfl;rfl;rfl;decide +kernel;decide +kernel;decide +kernel;(first|exact i9.there (i9.here hl)|exact R9);(focus(simp only[fD,fI,fJ,Act.eval,fE,fF,fG,fH,fK];try rfl));simp only[List.append_toArray,jK,jN];(try simp only[e1,e2]);refine Calls.mono (BU7 ys junk g len cap k j1 Hyn.out hkl hj1l hcap hm _ _ _ hS) ?_;(clear hS;rintro e w ⟨rfl,hS⟩;refine⟨_,rfl,?_⟩;try(refine frS ?_)));have hst:=(BV7 hyl h1 (Nat.le_add_right _ _) Hk.out hj1l Hc.out).symm.trans Hr.out;rw[if_pos rfl]at hst;go_roundw;(case rel=>exact⟨j1,L5 ys k j1 hkl hj1l,rfl,by omega,by rw[Ah7];exact Hyn.out,hst,hS.swap⟩);(case measure=>(simp[intOf];omega)))
    ·have hkid:kid ys k n hyl=j2:=by
      subst hj1 hj2;unfold kid;rw[dif_pos h2,if_pos hb]
     have hm2:n+i0-j2<n+i0-k:=by omega
     have Hb:=jH hb;have Hk:=jH hkid;clear hb hkid hj1 hj2
     cases hc:T5 ys[j2] ys[k]
     ·(have hc:=jH hc;have Hc:=hc;clear hc;go_wp2_with(first|(with_reducible apply Am7 297 hS);rfl;rfl;rfl;decide +kernel;decide +kernel;decide +kernel;(first|exact i9.here hl|exact R9);(focus(simp only[fD,fI,fJ,Act.eval,fE,fF,fG,fH,fK];try rfl));simp only[List.append_toArray,jK,jN];(try simp only[e1,e2]);refine Calls.mono (BM7 Hb.out junk g len cap Hyn.out hcap hm _ _ _ hS.swap) ?_;(clear hS;rintro e w ⟨rfl,hS⟩;refine⟨_,rfl,?_⟩;try(refine frS ?_))|(with_reducible apply Am7 297 hS);rfl;rfl;rfl;decide +kernel;decide +kernel;decide +kernel;(first|exact i9.there (i9.here hl)|exact R9);(focus(simp only[fD,fI,fJ,Act.eval,fE,fF,fG,fH,fK];try rfl));simp only[List.append_toArray,jK,jN];(try simp only[e1,e2]);refine Calls.mono (BM7 Hc.out junk g len cap Hyn.out hcap hm _ _ _ hS) ?_;(clear hS;rintro e w ⟨rfl,hS⟩;refine⟨_,rfl,?_⟩;try(refine frS ?_)));go_ret;have hst:=(BV7 hyl h1 (Nat.le_add_right _ _) Hk.out hj2l Hc.out).symm.trans Hr.out;rw[if_neg Bool.false_ne_true]at hst;exact⟨by rw[<-hst];rfl,by rw[<-hst];exact hS.swap⟩)
     ·(have hc:=jH hc;have Hc:=hc;clear hc;go_wp2_with(first|(with_reducible apply Am7 297 hS);rfl;rfl;rfl;decide +kernel;decide +kernel;decide +kernel;(first|exact i9.here hl|exact R9);(focus(simp only[fD,fI,fJ,Act.eval,fE,fF,fG,fH,fK];try rfl));simp only[List.append_toArray,jK,jN];(try simp only[e1,e2]);refine Calls.mono (BM7 Hb.out junk g len cap Hyn.out hcap hm _ _ _ hS.swap) ?_;(clear hS;rintro e w ⟨rfl,hS⟩;refine⟨_,rfl,?_⟩;try(refine frS ?_))|(with_reducible apply Am7 297 hS);rfl;rfl;rfl;decide +kernel;decide +kernel;decide +kernel;(first|exact i9.there (i9.here hl)|exact R9);(focus(simp only[fD,fI,fJ,Act.eval,fE,fF,fG,fH,fK];try rfl));simp only[List.append_toArray,jK,jN];(try simp only[e1,e2]);refine Calls.mono (BM7 Hc.out junk g len cap Hyn.out hcap hm _ _ _ hS) ?_;(clear hS;rintro e w ⟨rfl,hS⟩;refine⟨_,rfl,?_⟩;try(refine frS ?_))|(with_reducible apply Am7 298 hS);rfl;rfl;rfl;decide +kernel;decide +kernel;decide +kernel;(first|exact i9.there (i9.here hl)|exact R9);(focus(simp only[fD,fI,fJ,Act.eval,fE,fF,fG,fH,fK];try rfl));simp only[List.append_toArray,jK,jN];(try simp only[e1,e2]);refine Calls.mono (BU7 ys junk g len cap k j2 Hyn.out hkl hj2l hcap hm _ _ _ hS) ?_;(clear hS;rintro e w ⟨rfl,hS⟩;refine⟨_,rfl,?_⟩;try(refine frS ?_)));have hst:=(BV7 hyl h1 (Nat.le_add_right _ _) Hk.out hj2l Hc.out).symm.trans Hr.out;rw[if_pos rfl]at hst;go_roundw;(case rel=>exact⟨j2,L5 ys k j2 hkl hj2l,rfl,by omega,by rw[Ah7];exact Hyn.out,hst,hS.swap⟩);(case measure=>(simp[intOf];omega)))
   ·have hkid:kid ys k n hyl=j1:=by
     subst hj1 hj2;unfold kid;rw[dif_neg h2]
    have hm2:n+i0-j1<n+i0-k:=by omega
    have Hk:=jH hkid;clear hkid hj1 hj2
    cases hc:T5 ys[j1] ys[k]
    ·(have hc:=jH hc;have Hc:=hc;clear hc;go_wp2_with(first|(with_reducible apply Am7 297 hS);rfl;rfl;rfl;decide +kernel;decide +kernel;decide +kernel;(first|exact i9.here hl|exact R9);(focus(simp only[fD,fI,fJ,Act.eval,fE,fF,fG,fH,fK];try rfl));simp only[List.append_toArray,jK,jN];(try simp only[e1,e2]);refine Calls.mono (BM7 Hc.out junk g len cap Hyn.out hcap hm _ _ _ hS.swap) ?_;(clear hS;rintro e w ⟨rfl,hS⟩;refine⟨_,rfl,?_⟩;try(refine frS ?_)));go_ret;have hst:=(BV7 hyl h1 (Nat.le_add_right _ _) Hk.out hj1l Hc.out).symm.trans Hr.out;rw[if_neg Bool.false_ne_true]at hst;exact⟨by rw[<-hst];rfl,by rw[<-hst];exact hS.swap⟩)
    ·(have hc:=jH hc;have Hc:=hc;clear hc;go_wp2_with(first|(with_reducible apply Am7 297 hS);rfl;rfl;rfl;decide +kernel;decide +kernel;decide +kernel;(first|exact i9.here hl|exact R9);(focus(simp only[fD,fI,fJ,Act.eval,fE,fF,fG,fH,fK];try rfl));simp only[List.append_toArray,jK,jN];(try simp only[e1,e2]);refine Calls.mono (BM7 Hc.out junk g len cap Hyn.out hcap hm _ _ _ hS.swap) ?_;(clear hS;rintro e w ⟨rfl,hS⟩;refine⟨_,rfl,?_⟩;try(refine frS ?_))|(with_reducible apply Am7 298 hS);rfl;rfl;rfl;decide +kernel;decide +kernel;decide +kernel;(first|exact i9.there (i9.here hl)|exact R9);(focus(simp only[fD,fI,fJ,Act.eval,fE,fF,fG,fH,fK];try rfl));simp only[List.append_toArray,jK,jN];(try simp only[e1,e2]);refine Calls.mono (BU7 ys junk g len cap k j1 Hyn.out hkl hj1l hcap hm _ _ _ hS) ?_;(clear hS;rintro e w ⟨rfl,hS⟩;refine⟨_,rfl,?_⟩;try(refine frS ?_)));have hst:=(BV7 hyl h1 (Nat.le_add_right _ _) Hk.out hj1l Hc.out).symm.trans Hr.out;rw[if_pos rfl]at hst;go_roundw;(case rel=>exact⟨j1,L5 ys k j1 hkl hj1l,rfl,by omega,by rw[Ah7];exact Hyn.out,hst,hS.swap⟩);(case measure=>(simp[intOf];omega)))
  ·go_wp2_with fail;go_ret;have hst:=(MF7 (f:=n) (xs:=ys) (Nat.le_of_not_lt h1)).symm.trans Hr.out;exact⟨by rw[<-hst];rfl,by rw[<-hst];exact hS⟩
theorem MG7(xs:List Ord)(o:Ord)(l:List Value)(T:TypeId)(bb off n:Nat)(v:Value)(hn:xs.length=n)(h63:n<=4294967296)(hl:l[off]? = some v)(W w:World)(L:List HP)
  (hS:St W (blk bb l T::row v 6 166 n (xs.flatMap Ord.cells)::L) w):
  Calls Tryz.prog 206 #[.iface 273 (.pointer (some ⟨bb,off,none⟩)),.iface 166 (.agg o.cells.toArray)] w fun e w'=>∃v',e=.returned (.tuple #[])/\St W (blk bb (l.set off v') T::row v' 6 166 (n+1) ((upF n (xs++[o]) n).flatMap Ord.cells)::L) w':=by
 have hlt:off<l.length:=(List.getElem?_eq_some_iff.1 hl).1;go_enter Tryz.func206,Tryz.ntmps206;have Hlen:=jH (show(xs++[o]).length=n+1 by simp[hn]);have Hn:=jH hn;have Hl:=jH hl;clear hn hl;go_wp2_with(first|((with_reducible apply CC7 300);rfl;rfl;rfl;decide +kernel;decide +kernel;decide +kernel;(focus(simp only[fD,fI,fJ,Act.eval,fE,fF,fG,fH,fK];try rfl));simp only[List.append_toArray,jK,jN];refine Calls.mono (ME7 xs o l T bb off n v Hn.out h63 Hl.out W _ L hS) ?_;clear hS;rintro e w ⟨v',rfl,hS⟩;refine⟨_,rfl,?_⟩;refine frS ?_;have h1:=hS.swap.rowOpen;clear hS;rcases h1 with ⟨_,h0,_⟩ | ⟨g,cap,junk,rfl,hn1,hm1,hj1,hl1,hS⟩;exfalso;omega;have hm':cap<=9223372036854775807:=(by unfold maxLen at hm1;omega))|(with_reducible apply Am7 296 hS);rfl;rfl;rfl;decide +kernel;decide +kernel;decide +kernel;(first | exact i9.there (i9.here (List.getElem?_set_self hlt)) | exact R9);(focus(simp only[fD,fI,fJ,Act.eval,fE,fF,fG,fH,fK];try rfl));simp only[List.append_toArray,jK,jN];refine Calls.mono (De7 _ (n+1) cap W _ _ hS) ?_;(clear hS;rintro e w ⟨rfl,hS⟩;refine⟨_,rfl,?_⟩;try(refine frS ?_))|go_at_call 248;refine(Ob7 (xs++[o]) junk _ T bb off g (n+1) cap n Hlen.out (by omega) hn1 hm1 (List.getElem?_set_self hlt) W _ L hS.swap).mono ?_;clear hS;rintro e w ⟨rfl,hS⟩);go_end0;refine⟨.S g (n+1) cap,rfl,?_⟩;have hS:=hS.swap;refine(St.rowShut hS hn1 hm1 ?_ ?_).swap
 ·rw[jA,Ab7 Ord.len,CF7,Hlen.out];rw[jA,hl1]at hj1;exact hj1
 ·rw[Ab7 Ord.len,CF7,Hlen.out]
def bo4(xs:List Ord)(n:Nat)(h:xs.length=n+1):List Ord:=(G7 n (L5 xs 0 n (by omega) (by omega)) 0 n).1
theorem Bd7{xs:List Ord}{n:Nat}(h:xs.length=n+1):(bo4 xs n h).length=n+1:=by rw[bo4,BG7,Ah7,h]
theorem Oc7(xs:List Ord)(junk l:List Value)(T:TypeId)(bb off g n cap:Nat)(hn:xs.length=n+1)(hcap:n+1<=cap)(hm:cap<=maxLen)(h63:n<=4294967296)(hl:l[off]? = some (.S g (n+1) cap))(W w:World)(L:List HP)
  (hS:St W (blk bb l T::blk g (xs.flatMap Ord.cells++junk) 166::L) w):
  Calls Tryz.prog 209 #[.iface 273 (.pointer (some ⟨bb,off,none⟩))] w fun e w'=>e=.returned (.iface 166 (.agg ((bo4 xs n hn)[n]'(by rw[Bd7];omega)).cells.toArray)) /\
   St W (blk bb (l.set off (.S g n cap)) T::blk g ((bo4 xs n hn).flatMap Ord.cells++junk) 166::L) w':=by
 have hm':cap<=9223372036854775807:=by unfold maxLen at hm;omega
 have Hn:=jH hn;go_enter Tryz.func209,Tryz.ntmps209;go_wp2_with(first|(with_reducible apply Am7 296 hS);rfl;rfl;rfl;decide +kernel;decide +kernel;decide +kernel;(first|exact i9.here hl|exact R9);(focus(simp only[fD,fI,fJ,Act.eval,fE,fF,fG,fH,fK];try rfl));simp only[List.append_toArray,jK,jN];refine Calls.mono (De7 _ (n+1) cap W _ _ hS) ?_;(clear hS;rintro e w ⟨rfl,hS⟩;refine⟨_,rfl,?_⟩;try(refine frS ?_))|(with_reducible apply Am7 298 hS);rfl;rfl;rfl;decide +kernel;decide +kernel;decide +kernel;(first|exact i9.here hl|exact R9);(focus(simp only[fD,fI,fJ,Act.eval,fE,fF,fG,fH,fK];try rfl));simp only[List.append_toArray,jK,jN];refine Calls.mono (BU7 xs junk g (n+1) cap 0 n Hn.out (by omega) (by omega) hcap hm _ _ _ hS.swap) ?_;(clear hS;rintro e w ⟨rfl,hS⟩;refine⟨_,rfl,?_⟩;try(refine frS ?_))|go_at_call 249;refine(IW7 (L5 xs 0 n (by omega) (by omega)) junk l T bb off g (n+1) cap 0 n (by rw[Ah7];exact Hn.out) (by omega) (by omega) h63 hcap hm hl W _ L hS.swap).mono ?_;clear hS;rintro e w ⟨rfl,hS⟩|(with_reducible apply CC7 299);rfl;rfl;rfl;decide +kernel;decide +kernel;decide +kernel;(focus(simp only[fD,fI,fJ,Act.eval,fE,fF,fG,fH,fK];try rfl));simp only[List.append_toArray,jK,jN];refine Calls.mono (IT7 (bo4 xs n hn) junk l T bb off g n cap (Bd7 hn) hcap hm hl W _ L hS) ?_;clear hS;rintro e w ⟨rfl,hS⟩;refine⟨_,rfl,?_⟩;refine frS ?_);go_ret;exact⟨rfl,hS⟩
def bC4(xs:List Ord)(i n:Nat)(h:xs.length=n+1)(hi:i<=n):List Ord:=
 if i=n then xs else
  if i<(G7 n (L5 xs i n (by omega) (by omega)) i n).2 then(G7 n (L5 xs i n (by omega) (by omega)) i n).1
  else upF i (G7 n (L5 xs i n (by omega) (by omega)) i n).1 i
theorem BZ7{xs:List Ord}{i n:Nat}(h:xs.length=n+1)(hi:i<=n):(bC4 xs i n h hi).length=n+1:=by
 unfold bC4;split
 ·exact h
 ·split
  ·rw[BG7,Ah7,h]
  ·rw[CF7,BG7,Ah7,h]
theorem Kn7(xs:List Ord)(x:Ord)(junk:List Value)(l:List Value)(T:TypeId)(bb off g n cap:Nat)(hx:xs[n]? = some x)(hn:xs.length=n+1)(hcap:n+1<=cap)(hm:cap<=maxLen)(hl:l[off]? = some (.S g (n+1) cap))(W w:World)(L:List HP)
  (hS:St W (blk bb l T::blk g (xs.flatMap Ord.cells++junk) 166::L) w):
  Calls Tryz.prog 299 #[.pointer (some ⟨bb,off,none⟩)] w fun e w'=>e=.returned (.iface 166 (.agg x.cells.toArray))/\St W (blk bb (l.set off (.S g n cap)) T::blk g (xs.flatMap Ord.cells++junk) 166::L) w':=by
 have h:n<xs.length:=by omega
 have e:xs[n]=x:=by rw[jG h]at hx;exact Option.some.inj hx
 rw[<-e];exact IT7 xs junk l T bb off g n cap hn hcap hm hl W w L hS
theorem Od7(xs zs:List Ord)(x:Ord)(junk l:List Value)(T:TypeId)(bb off g i n cap:Nat)(hn:xs.length=n+1)(hi:i<=n)(hr:bC4 xs i n hn hi=zs)(hx:zs[n]? = some x)(hcap:n+1<=cap)(hm:cap<=maxLen)(h63:n<=4294967296)(hl:l[off]? = some (.S g (n+1) cap))(W w:World)(L:List HP)
  (hS:St W (blk bb l T::blk g (xs.flatMap Ord.cells++junk) 166::L) w):
  Calls Tryz.prog 215 #[.iface 273 (.pointer (some ⟨bb,off,none⟩)),.I i] w fun e w'=>e=.returned (.iface 166 (.agg x.cells.toArray)) /\
   St W (blk bb (l.set off (.S g n cap)) T::blk g (zs.flatMap Ord.cells++junk) 166::L) w':=by
 have hm':cap<=9223372036854775807:=by unfold maxLen at hm;omega
 have Hrl:=jH (show zs.length=n+1 from hr▸BZ7 hn hi);have Hx:=jH hx;clear hx;have hi63:i<=4294967296:=by omega
 by_cases hin:i=n
 ·unfold bC4 at hr;rw[if_pos hin]at hr;subst hin hr;clear hn;have hne:((i:Int) != (i:Int))=false:=by simp
  obtain⟨n,rfl⟩:∃n,n=i:=⟨_,rfl⟩
  go_enter Tryz.func215,Tryz.ntmps215;go_wp2_with(first|(with_reducible apply Am7 296 hS);rfl;rfl;rfl;decide +kernel;decide +kernel;decide +kernel;(first|exact i9.here hl|exact R9);(focus(simp only[fD,fI,fJ,Act.eval,fE,fF,fG,fH,fK];try rfl));simp only[List.append_toArray,jK,jN];refine Calls.mono (De7 _ (n+1) cap W _ _ hS) ?_;(clear hS;rintro e w ⟨rfl,hS⟩;refine⟨_,rfl,?_⟩;try(refine frS ?_))|(with_reducible apply CC7 299);rfl;rfl;rfl;decide +kernel;decide +kernel;decide +kernel;(focus(simp only[fD,fI,fJ,Act.eval,fE,fF,fG,fH,fK];try rfl));simp only[List.append_toArray,jK,jN];refine Calls.mono (Kn7 xs x junk l T bb off g n cap Hx.out Hrl.out hcap hm hl W _ L hS) ?_;clear hS;rintro e w ⟨rfl,hS⟩;refine⟨_,rfl,?_⟩;refine frS ?_);go_ret;exact⟨rfl,hS⟩
 ·have hlt:i<n:=by omega
  have hil:i<xs.length:=by omega
  have hnl:n<xs.length:=by omega
  have hne:((n:Int) != (i:Int))=true:=by simp;omega
  unfold bC4 at hr;rw[if_neg hin]at hr;have Hsw:=jH (fun w L hS=>BU7 xs junk g (n+1) cap i n hn hil hnl hcap hm W w L hS);have hds:=IW7 (L5 xs i n hil hnl) junk l T bb off g (n+1) cap i n (by rw[Ah7];exact hn) (by omega) hi63 h63 hcap hm hl;have hdl:=BG7 n (L5 xs i n hil hnl) i n;rw[Ah7,hn]at hdl;generalize G7 n (L5 xs i n hil hnl) i n=d at hr hdl hds;obtain⟨ys,k⟩:=d;have Hdl:=jH hdl;have Hds:=jH hds;clear hdl hn hds;by_cases hk:i<k
  ·rw[if_pos hk]at hr;subst hr;have hkd:decide (i<k)=true:=by simpa using hk
   go_enter Tryz.func215,Tryz.ntmps215;go_wp2_with(first|(with_reducible apply Am7 296 hS);rfl;rfl;rfl;decide +kernel;decide +kernel;decide +kernel;(first|exact i9.here hl|exact R9);(focus(simp only[fD,fI,fJ,Act.eval,fE,fF,fG,fH,fK];try rfl));simp only[List.append_toArray,jK,jN];refine Calls.mono (De7 _ (n+1) cap W _ _ hS) ?_;(clear hS;rintro e w ⟨rfl,hS⟩;refine⟨_,rfl,?_⟩;try(refine frS ?_))|(with_reducible apply Am7 298 hS);rfl;rfl;rfl;decide +kernel;decide +kernel;decide +kernel;(first|exact i9.here hl|exact R9);(focus(simp only[fD,fI,fJ,Act.eval,fE,fF,fG,fH,fK];try rfl));simp only[List.append_toArray,jK,jN];refine Calls.mono (Hsw.out _ _ hS.swap) ?_;(clear hS;rintro e w ⟨rfl,hS⟩;refine⟨_,rfl,?_⟩;try(refine frS ?_))|go_at_call 249;refine(Hds.out W _ L hS.swap).mono ?_;clear hS;rintro e w ⟨rfl,hS⟩|(with_reducible apply CC7 299);rfl;rfl;rfl;decide +kernel;decide +kernel;decide +kernel;(focus(simp only[fD,fI,fJ,Act.eval,fE,fF,fG,fH,fK];try rfl));simp only[List.append_toArray,jK,jN];refine Calls.mono (Kn7 ys x junk l T bb off g n cap Hx.out Hrl.out hcap hm hl W _ L hS) ?_;clear hS;rintro e w ⟨rfl,hS⟩;refine⟨_,rfl,?_⟩;refine frS ?_);go_ret;exact⟨rfl,hS⟩
  ·rw[if_neg hk]at hr;subst hr;have hkd:decide (i<k)=false:=by simpa using hk
   go_enter Tryz.func215,Tryz.ntmps215;go_wp2_with(first|(with_reducible apply Am7 296 hS);rfl;rfl;rfl;decide +kernel;decide +kernel;decide +kernel;(first|exact i9.here hl|exact R9);(focus(simp only[fD,fI,fJ,Act.eval,fE,fF,fG,fH,fK];try rfl));simp only[List.append_toArray,jK,jN];refine Calls.mono (De7 _ (n+1) cap W _ _ hS) ?_;(clear hS;rintro e w ⟨rfl,hS⟩;refine⟨_,rfl,?_⟩;try(refine frS ?_))|(with_reducible apply Am7 298 hS);rfl;rfl;rfl;decide +kernel;decide +kernel;decide +kernel;(first|exact i9.here hl|exact R9);(focus(simp only[fD,fI,fJ,Act.eval,fE,fF,fG,fH,fK];try rfl));simp only[List.append_toArray,jK,jN];refine Calls.mono (Hsw.out _ _ hS.swap) ?_;(clear hS;rintro e w ⟨rfl,hS⟩;refine⟨_,rfl,?_⟩;try(refine frS ?_))|go_at_call 249;refine(Hds.out W _ L hS.swap).mono ?_;clear hS;rintro e w ⟨rfl,hS⟩|go_at_call 248;refine(Ob7 ys junk l T bb off g (n+1) cap i Hdl.out (by omega) hcap hm hl W _ L hS).mono ?_;clear hS;rintro e w ⟨rfl,hS⟩|(with_reducible apply CC7 299);rfl;rfl;rfl;decide +kernel;decide +kernel;decide +kernel;(focus(simp only[fD,fI,fJ,Act.eval,fE,fF,fG,fH,fK];try rfl));simp only[List.append_toArray,jK,jN];refine Calls.mono (Kn7 (upF i ys i) x junk l T bb off g n cap Hx.out Hrl.out hcap hm hl W _ L hS) ?_;clear hS;rintro e w ⟨rfl,hS⟩;refine⟨_,rfl,?_⟩;refine frS ?_);go_ret;exact⟨rfl,hS⟩
theorem Ef7(o:Ord)(W w:World)(L:List HP)(hS:St W L w):
  Calls Tryz.prog 203 #[.agg o.cells.toArray] w fun e w'=>e=.returned (.bool (P9 o))/\St W L w':=by
 obtain⟨i,u,y,t,c,p⟩:=o;simp only[Ord.cells];go_enter Tryz.func203,Tryz.ntmps203;go_wp2_with(first|refine zl1 hS ?_|refine zlN hS ?_|refine zs1 hS ?_;clear hS;intro w hS|refine zsN hS ?_;clear hS;intro w hS|refine zbx hS ?_;clear hS;intro b w hS|refine zal hS ?_;clear hS;intro b w hS)
 all_goals go_ret
 all_goals exact⟨by simp[P9, *];try omega,hS.drop⟩
theorem QK7(W w:World)(L:List HP)(hS:St W L w):
  Calls Tryz.prog 201 #[] w fun e w'=>∃b,e=.returned (.P b)/\St W (blk b (List.replicate 8 (.slice none 0 0)++[.I 0]) 272::L) w':=by
 go_enter Tryz.func201,Tryz.ntmps201;go_wp2_with(first|refine zl1 hS ?_|refine zlN hS ?_|refine zs1 hS ?_;clear hS;intro w hS|refine zsN hS ?_;clear hS;intro w hS|refine zbx hS ?_;clear hS;intro b w hS|refine zal hS ?_;clear hS;intro b w hS);go_ret;exact⟨_,rfl,hS⟩
structure Bk where
 ps:List (List Ord)
 last:Int
def j8(v:Value)(p:List Ord):HP:=row v 6 166 p.length (p.flatMap Ord.cells)
def F8(vs:List Value)(ps:List (List Ord)):List HP:=List.zipWith j8 vs ps
def D9(bb:Nat)(b:Bk):HP:=fun f=>∃vs:List Value,(vs.length=8/\b.ps.length=8)/\sats [blk bb (vs++[.I b.last]) 272,sats (F8 vs b.ps)] f
theorem Ca7{α:Type}:∀(l:List α) (k:Nat) (h:k<l.length),(l[k]::l.eraseIdx k).Perm l
 | _::_,0,_=>.refl _
 | x::l,k+1,h=>(List.Perm.swap x _ _).trans ((Ca7 l k (Nat.lt_of_succ_lt_succ h)).cons x)
section
variable{W w:World}{L:List HP}
theorem MH7{L:List HP}{S:Nat->Bool}{h:ad4}(x:sats L (J9 S h)):sats L h:=by
 have e:J9 S h=A9 (fun b=>!S b) h:=by funext b;simp only[J9,A9];cases S b <;> rfl
 exact Cm7 (e▸x)
theorem aq4{bb:Nat}{b:Bk}(h:St W (D9 bb b::L) w):∃vs:List Value,vs.length=8/\b.ps.length=8/\St W (blk bb (vs++[.I b.last]) 272::sats (F8 vs b.ps)::L) w:=by obtain⟨vs,h⟩:=St.ex h;obtain⟨⟨h1,h2⟩,h⟩:=St.and h;refine⟨vs,h1,h2,?_⟩;have h3:=(St.split h).swap;exact(h3.imp (Y:=sats (F8 vs b.ps)) fun f ⟨S,x,_⟩=>MH7 x).swap
theorem R7{bb:Nat}{b:Bk}{vs:List Value}(h1:vs.length=8)(h2:b.ps.length=8)(h:St W (blk bb (vs++[.I b.last]) 272::sats (F8 vs b.ps)::L) w):St W (D9 bb b::L) w:=by refine St.mkEx vs (St.mkAnd ⟨h1,h2⟩ ?_);refine St.join ?_;refine St.swap (St.imp h.swap ?_);intro f hf;exact⟨fun _=>true,hf,trivial⟩
theorem bx4{vs:List Value}{ps:List (List Ord)}(k:Nat)(h1:k<vs.length)(h2:k<ps.length)(h:St W (sats (F8 vs ps)::L) w):St W (j8 vs[k] ps[k]::sats ((F8 vs ps).eraseIdx k)::L) w:=by
 have hk:k<(F8 vs ps).length:=by simp[F8];omega
 have e:(F8 vs ps)[k]=j8 vs[k] ps[k]:=by simp[F8]
 refine St.split (St.imp h fun f hf=>?_);rw[<-e];exact Gh7 (Ca7 _ k hk).symm hf
theorem by4{vs:List Value}{ps:List (List Ord)}{v:Value}{p:List Ord}(k:Nat)(h1:k<vs.length)(h2:k<ps.length)(h:St W (j8 v p::sats ((F8 vs ps).eraseIdx k)::L) w):St W (sats (F8 (vs.set k v) (ps.set k p))::L) w:=by
 have e1:F8 (vs.set k v) (ps.set k p)=(F8 vs ps).set k (j8 v p):=by
  apply List.ext_getElem?;intro i;simp only[F8,List.getElem?_zipWith,List.getElem?_set];by_cases hi:k=i
  ·subst hi;simp[h1,h2,show k<min vs.length ps.length by omega]
  ·simp[hi]
 have hk:k<((F8 vs ps).set k (j8 v p)).length:=by simp[F8];omega
 have e2:((F8 vs ps).set k (j8 v p))[k]=j8 v p:=by simp
 have e3:((F8 vs ps).set k (j8 v p)).eraseIdx k=(F8 vs ps).eraseIdx k:=List.eraseIdx_set_eq;refine St.imp (St.join h) fun f hf=>?_
 rw[e1];have hp:=Ca7 _ k hk;rw[e2,e3]at hp;exact Gh7 hp hf
theorem eg4{vs:List Value}{ps:List (List Ord)}(k:Nat)(h1:k<vs.length)(h2:k<ps.length)(h:St W (sats (F8 vs ps)::L) w):∃b c,vs[k]=.slice b ps[k].length c:=(bx4 k h1 h2 h).rowVal
end
def bR4:List Nat:=[0,4,1,5,2,6,3,7]
def cW4(bb:Nat):List Value:=bR4.map fun o=>.pointer (some ⟨bb,o,none⟩)
def ey4(W:World)(L:List HP)(bb:Nat)(v3 v5:Value)(w:World):Prop:=
 ∃k:Nat,v5=.I k/\k<=4/\St W (row v3 1 273 (2*k) ((cW4 bb).take (2*k))::L) w
abbrev tB4a:List Nat:=[0,0,0,2,10,30,0,0,64,320,960,2046,4095,8191]
theorem EY7(bb:Nat)(W w:World)(L:List HP)
  (hS:St W L w):
  Calls Tryz.prog 207 #[.P bb] w fun e w'=>∃v,e=.returned v/\St W (row v 1 273 8 (cW4 bb)::L) w':=by
 go_enter Tryz.func207,Tryz.ntmps207;go_wp2_with fail
 go_loopw [3,5] (fun v3 v5 wr=>ey4 W L bb v3 v5 wr) (fun v3 v5 _=>4-(intOf v5).toNat)
 case atStart=>exact⟨0,rfl,by omega,hS.rowNil⟩
 case round=>
  clear hS;obtain⟨k,rfl,hk,hS⟩:=hrel;by_cases h4:k=4
  ·subst h4;go_wp2_with fail;go_ret;exact⟨_,rfl,hS⟩
  ·obtain h|h|h|h:k=0\/k=1\/k=2\/k=3:=by omega
   all_goals subst h
   all_goals clear hk h4
   all_goals go_wp2_with fail
   (refine rf2 tB4a (fun i=>i==11||i==12) [⟨some 11,none,fun nd=>R5 (nd 11) 2 2 [.P bb,.pointer (some ⟨bb,4+0,none⟩)] 273⟩,⟨some 12,none,fun nd=>row (nd 12) 1 273 (2*0+2) ((cW4 bb).take (2*0)++[.P bb,.pointer (some ⟨bb,4+0,none⟩)])⟩] [some 12] hS ?_;intro nd;(iterate 3 (refine cR ?_));refine zcn ?_;(iterate 4 (refine cR ?_));refine zcn ?_;(iterate 2 (refine cR ?_));apply an4;rfl;rfl;rfl;(focus(simp only[fD,fI,fJ,Act.eval,fE,fF,fG,fH,fK];try rfl));(exact esS);(exact rsS);rfl;rfl;rfl;rfl;(intro _;rfl);rfl;(intro _;rfl);(refine frS ?_);apply Ai7;rfl;rfl;rfl;(focus((conv=>lhs;whnf);try rfl));(focus((conv=>lhs;whnf);try rfl));(exact esS);(exact rsS);rfl;decide;rfl;(intro F w hS;exact AT7 hS (by exact D5));(focus(try rfl));rfl;(focus(unfold maxLen;omega));(focus(omega));(intro _;rfl);(intro _;rfl);(refine frS ?_);refine cR ?_;refine Ad7 ?_;clear hS;intro w hS;have hS:St W [R5 (nd 11) 2 2 _ _,row (nd 12) 1 _ _ _,sats L] w:=hS;generalize nd 12=v12 at *;replace hS:=hS.drop.unpack [_];simp only[jK,jN]at hS;go_wp2_with fail;go_roundw;(case rel=>exact⟨0+1,rfl,by omega,hS⟩);(case measure=>simp[intOf]))
   (refine rf2 tB4a (fun i=>i==11||i==12) [⟨some 11,none,fun nd=>R5 (nd 11) 2 2 [.pointer (some ⟨bb,1,none⟩),.pointer (some ⟨bb,4+1,none⟩)] 273⟩,⟨some 12,none,fun nd=>row (nd 12) 1 273 (2*1+2) ((cW4 bb).take (2*1)++[.pointer (some ⟨bb,1,none⟩),.pointer (some ⟨bb,4+1,none⟩)])⟩] [some 12] hS ?_;intro nd;(iterate 3 (refine cR ?_));refine zcn ?_;(iterate 4 (refine cR ?_));refine zcn ?_;(iterate 2 (refine cR ?_));apply an4;rfl;rfl;rfl;(focus(simp only[fD,fI,fJ,Act.eval,fE,fF,fG,fH,fK];try rfl));(exact esS);(exact rsS);rfl;rfl;rfl;rfl;(intro _;rfl);rfl;(intro _;rfl);(refine frS ?_);apply Ai7;rfl;rfl;rfl;(focus((conv=>lhs;whnf);try rfl));(focus((conv=>lhs;whnf);try rfl));(exact esS);(exact rsS);rfl;decide;rfl;(intro F w hS;exact AT7 hS (by exact D5));(focus(try rfl));rfl;(focus(unfold maxLen;omega));(focus(omega));(intro _;rfl);(intro _;rfl);(refine frS ?_);refine cR ?_;refine Ad7 ?_;clear hS;intro w hS;have hS:St W [R5 (nd 11) 2 2 _ _,row (nd 12) 1 _ _ _,sats L] w:=hS;generalize nd 12=v12 at *;replace hS:=hS.drop.unpack [_];simp only[jK,jN]at hS;go_wp2_with fail;go_roundw;(case rel=>exact⟨1+1,rfl,by omega,hS⟩);(case measure=>simp[intOf]))
   (refine rf2 tB4a (fun i=>i==11||i==12) [⟨some 11,none,fun nd=>R5 (nd 11) 2 2 [.pointer (some ⟨bb,2,none⟩),.pointer (some ⟨bb,4+2,none⟩)] 273⟩,⟨some 12,none,fun nd=>row (nd 12) 1 273 (2*2+2) ((cW4 bb).take (2*2)++[.pointer (some ⟨bb,2,none⟩),.pointer (some ⟨bb,4+2,none⟩)])⟩] [some 12] hS ?_;intro nd;(iterate 3 (refine cR ?_));refine zcn ?_;(iterate 4 (refine cR ?_));refine zcn ?_;(iterate 2 (refine cR ?_));apply an4;rfl;rfl;rfl;(focus(simp only[fD,fI,fJ,Act.eval,fE,fF,fG,fH,fK];try rfl));(exact esS);(exact rsS);rfl;rfl;rfl;rfl;(intro _;rfl);rfl;(intro _;rfl);(refine frS ?_);apply Ai7;rfl;rfl;rfl;(focus((conv=>lhs;whnf);try rfl));(focus((conv=>lhs;whnf);try rfl));(exact esS);(exact rsS);rfl;decide;rfl;(intro F w hS;exact AT7 hS (by exact D5));(focus(try rfl));rfl;(focus(unfold maxLen;omega));(focus(omega));(intro _;rfl);(intro _;rfl);(refine frS ?_);refine cR ?_;refine Ad7 ?_;clear hS;intro w hS;have hS:St W [R5 (nd 11) 2 2 _ _,row (nd 12) 1 _ _ _,sats L] w:=hS;generalize nd 12=v12 at *;replace hS:=hS.drop.unpack [_];simp only[jK,jN]at hS;go_wp2_with fail;go_roundw;(case rel=>exact⟨2+1,rfl,by omega,hS⟩);(case measure=>simp[intOf]))
   (refine rf2 tB4a (fun i=>i==11||i==12) [⟨some 11,none,fun nd=>R5 (nd 11) 2 2 [.pointer (some ⟨bb,3,none⟩),.pointer (some ⟨bb,4+3,none⟩)] 273⟩,⟨some 12,none,fun nd=>row (nd 12) 1 273 (2*3+2) ((cW4 bb).take (2*3)++[.pointer (some ⟨bb,3,none⟩),.pointer (some ⟨bb,4+3,none⟩)])⟩] [some 12] hS ?_;intro nd;(iterate 3 (refine cR ?_));refine zcn ?_;(iterate 4 (refine cR ?_));refine zcn ?_;(iterate 2 (refine cR ?_));apply an4;rfl;rfl;rfl;(focus(simp only[fD,fI,fJ,Act.eval,fE,fF,fG,fH,fK];try rfl));(exact esS);(exact rsS);rfl;rfl;rfl;rfl;(intro _;rfl);rfl;(intro _;rfl);(refine frS ?_);apply Ai7;rfl;rfl;rfl;(focus((conv=>lhs;whnf);try rfl));(focus((conv=>lhs;whnf);try rfl));(exact esS);(exact rsS);rfl;decide;rfl;(intro F w hS;exact AT7 hS (by exact D5));(focus(try rfl));rfl;(focus(unfold maxLen;omega));(focus(omega));(intro _;rfl);(intro _;rfl);(refine frS ?_);refine cR ?_;refine Ad7 ?_;clear hS;intro w hS;have hS:St W [R5 (nd 11) 2 2 _ _,row (nd 12) 1 _ _ _,sats L] w:=hS;generalize nd 12=v12 at *;replace hS:=hS.drop.unpack [_];simp only[jK,jN]at hS;go_wp2_with fail;go_roundw;(case rel=>exact⟨3+1,rfl,by omega,hS⟩);(case measure=>simp[intOf]))
def D7(ps:List (List Ord)):Nat->Nat
 | 0=>0
 | k+1=>D7 ps k+(ps.getD (bR4.getD k 0) []).length
def Bk.len(b:Bk):Nat:=D7 b.ps 8
theorem Lz7(ps:List (List Ord))(k:Nat):∀d,D7 ps k<=D7 ps (k+d)
 | 0=>Nat.le_refl _
 | d+1=>Nat.le_trans (Lz7 ps k d) (Nat.le_add_right _ _)
theorem Av7(ps:List (List Ord)){k j:Nat}(h:k<=j):D7 ps k<=D7 ps j:=by obtain⟨d,rfl⟩:=Nat.exists_eq_add_of_le h;exact Lz7 ps k d
def fE4(W:World)(L:List HP)(ps:List (List Ord))(v3 v11:Value)(w:World):Prop:=
 ∃k:Nat,v3=.I (D7 ps k)/\v11=.I k/\k<=8/\St W L w
theorem cellsOf{W w:World}{L:List HP}{vs:List Value}{ps:List (List Ord)}{last:Value}(h1:vs.length=8)(h2:ps.length=8)(h:St W (sats (F8 vs ps)::L) w)(o:Nat)(ho:o<8):∃b c,(vs++[last])[o]? = some (.slice b (ps.getD o []).length c):=by obtain⟨b,c,e⟩:=eg4 o (by omega) (by omega) h;refine⟨b,c,?_⟩;rw[List.getElem?_append_left (by omega),jG (by omega),e];simp[List.getD_eq_getElem?_getD,jG (show o<ps.length by omega)]
theorem HV7(bb:Nat)(b:Bk)(hb:b.len<=4294967296)(W w:World)(L:List HP)
  (hS:St W (D9 bb b::L) w):
  Calls Tryz.prog 168 #[.P bb] w fun e w'=>e=.returned (.I b.len)/\St W (D9 bb b::L) w':=by
 obtain⟨vs,h1,h2,hS0⟩:=aq4 hS;have hcs:=cellsOf (last:=.I b.last) h1 h2 hS0.swap;clear hS;have hS:=hS0;clear hS0;unfold Bk.len at hb;go_enter Tryz.func168,Tryz.ntmps168;go_wp2_with(first|(go_at_call 207;refine(EY7 bb W _ _ hS).mono ?_;clear hS;rintro e w ⟨v,rfl,hS⟩;rcases hS.rowOpen with ⟨_,h0,_⟩|⟨g,cap,junk,rfl,hn1,hm1,hj1,hl1,hS'⟩;exfalso;omega;clear hS;have hS:=hS';clear hS';unfold maxLen at hm1))
 go_loopw [3,11] (fun v3 v11 wr=>fE4 W (blk g (cW4 bb++junk) 273::blk bb (vs++[.I b.last]) 272::sats (F8 vs b.ps)::L) b.ps v3 v11 wr) (fun v3 v11 _=>8-(intOf v11).toNat)
 case atStart=>exact⟨0,rfl,rfl,by omega,hS⟩
 case round=>
  clear hS;obtain⟨k,rfl,rfl,hk,hS⟩:=hrel;by_cases h8:k=8
  ·subst h8;go_wp2_with fail;go_ret;exact⟨rfl,R7 h1 h2 hS.drop⟩
  ·obtain h|h|h|h|h|h|h|h:k=0\/k=1\/k=2\/k=3\/k=4\/k=5\/k=6\/k=7:=by omega
   all_goals subst h
   all_goals clear hk h8
   ·(have hk3:=jH (show D7 b.ps (0+1)=D7 b.ps 0+(b.ps.getD 0 []).length from rfl);have hk5:D7 b.ps 0+(b.ps.getD 0 []).length<=4294967296:=Nat.le_trans (Av7 b.ps (k:=0+1) (j:=8) (by omega)) hb;obtain⟨b1,c1,hv⟩:=hcs 0 (by omega);have hk6:=jH hb;clear hb;generalize hs0:D7 b.ps 0=s0 at *;generalize hn0:(b.ps.getD 0 []).length=n0 at *;clear hs0 hn0;go_wp2_with(first|refine zl1 hS ?_ (hc:=by exact i9.there (i9.here hv))|refine zl1 hS ?_ (hc:=by exact i9.here rfl));go_roundw;(case rel=>exact⟨0+1,by rw[hk3.out];rfl,rfl,by omega,hS⟩);try(case measure=>simp[intOf]))
   ·(have hk3:=jH (show D7 b.ps (1+1)=D7 b.ps 1+(b.ps.getD 4 []).length from rfl);have hk5:D7 b.ps 1+(b.ps.getD 4 []).length<=4294967296:=Nat.le_trans (Av7 b.ps (k:=1+1) (j:=8) (by omega)) hb;obtain⟨b1,c1,hv⟩:=hcs 4 (by omega);have hk6:=jH hb;clear hb;generalize hs0:D7 b.ps 1=s0 at *;generalize hn0:(b.ps.getD 4 []).length=n0 at *;clear hs0 hn0;go_wp2_with(first|refine zl1 hS ?_ (hc:=by exact i9.there (i9.here hv))|refine zl1 hS ?_ (hc:=by exact i9.here rfl));go_roundw;(case rel=>exact⟨1+1,by rw[hk3.out];rfl,rfl,by omega,hS⟩);try(case measure=>simp[intOf]))
   ·(have hk3:=jH (show D7 b.ps (2+1)=D7 b.ps 2+(b.ps.getD 1 []).length from rfl);have hk5:D7 b.ps 2+(b.ps.getD 1 []).length<=4294967296:=Nat.le_trans (Av7 b.ps (k:=2+1) (j:=8) (by omega)) hb;obtain⟨b1,c1,hv⟩:=hcs 1 (by omega);have hk6:=jH hb;clear hb;generalize hs0:D7 b.ps 2=s0 at *;generalize hn0:(b.ps.getD 1 []).length=n0 at *;clear hs0 hn0;go_wp2_with(first|refine zl1 hS ?_ (hc:=by exact i9.there (i9.here hv))|refine zl1 hS ?_ (hc:=by exact i9.here rfl));go_roundw;(case rel=>exact⟨2+1,by rw[hk3.out];rfl,rfl,by omega,hS⟩);try(case measure=>simp[intOf]))
   ·(have hk3:=jH (show D7 b.ps (3+1)=D7 b.ps 3+(b.ps.getD 5 []).length from rfl);have hk5:D7 b.ps 3+(b.ps.getD 5 []).length<=4294967296:=Nat.le_trans (Av7 b.ps (k:=3+1) (j:=8) (by omega)) hb;obtain⟨b1,c1,hv⟩:=hcs 5 (by omega);have hk6:=jH hb;clear hb;generalize hs0:D7 b.ps 3=s0 at *;generalize hn0:(b.ps.getD 5 []).length=n0 at *;clear hs0 hn0;go_wp2_with(first|refine zl1 hS ?_ (hc:=by exact i9.there (i9.here hv))|refine zl1 hS ?_ (hc:=by exact i9.here rfl));go_roundw;(case rel=>exact⟨3+1,by rw[hk3.out];rfl,rfl,by omega,hS⟩);try(case measure=>simp[intOf]))
   ·(have hk3:=jH (show D7 b.ps (4+1)=D7 b.ps 4+(b.ps.getD 2 []).length from rfl);have hk5:D7 b.ps 4+(b.ps.getD 2 []).length<=4294967296:=Nat.le_trans (Av7 b.ps (k:=4+1) (j:=8) (by omega)) hb;obtain⟨b1,c1,hv⟩:=hcs 2 (by omega);have hk6:=jH hb;clear hb;generalize hs0:D7 b.ps 4=s0 at *;generalize hn0:(b.ps.getD 2 []).length=n0 at *;clear hs0 hn0;go_wp2_with(first|refine zl1 hS ?_ (hc:=by exact i9.there (i9.here hv))|refine zl1 hS ?_ (hc:=by exact i9.here rfl));go_roundw;(case rel=>exact⟨4+1,by rw[hk3.out];rfl,rfl,by omega,hS⟩);try(case measure=>simp[intOf]))
   ·(have hk3:=jH (show D7 b.ps (5+1)=D7 b.ps 5+(b.ps.getD 6 []).length from rfl);have hk5:D7 b.ps 5+(b.ps.getD 6 []).length<=4294967296:=Nat.le_trans (Av7 b.ps (k:=5+1) (j:=8) (by omega)) hb;obtain⟨b1,c1,hv⟩:=hcs 6 (by omega);have hk6:=jH hb;clear hb;generalize hs0:D7 b.ps 5=s0 at *;generalize hn0:(b.ps.getD 6 []).length=n0 at *;clear hs0 hn0;go_wp2_with(first|refine zl1 hS ?_ (hc:=by exact i9.there (i9.here hv))|refine zl1 hS ?_ (hc:=by exact i9.here rfl));go_roundw;(case rel=>exact⟨5+1,by rw[hk3.out];rfl,rfl,by omega,hS⟩);try(case measure=>simp[intOf]))
   ·(have hk3:=jH (show D7 b.ps (6+1)=D7 b.ps 6+(b.ps.getD 3 []).length from rfl);have hk5:D7 b.ps 6+(b.ps.getD 3 []).length<=4294967296:=Nat.le_trans (Av7 b.ps (k:=6+1) (j:=8) (by omega)) hb;obtain⟨b1,c1,hv⟩:=hcs 3 (by omega);have hk6:=jH hb;clear hb;generalize hs0:D7 b.ps 6=s0 at *;generalize hn0:(b.ps.getD 3 []).length=n0 at *;clear hs0 hn0;go_wp2_with(first|refine zl1 hS ?_ (hc:=by exact i9.there (i9.here hv))|refine zl1 hS ?_ (hc:=by exact i9.here rfl));go_roundw;(case rel=>exact⟨6+1,by rw[hk3.out];rfl,rfl,by omega,hS⟩);try(case measure=>simp[intOf]))
   ·(have hk3:=jH (show D7 b.ps (7+1)=D7 b.ps 7+(b.ps.getD 7 []).length from rfl);have hk5:D7 b.ps 7+(b.ps.getD 7 []).length<=4294967296:=Nat.le_trans (Av7 b.ps (k:=7+1) (j:=8) (by omega)) hb;obtain⟨b1,c1,hv⟩:=hcs 7 (by omega);have hk6:=jH hb;clear hb;generalize hs0:D7 b.ps 7=s0 at *;generalize hn0:(b.ps.getD 7 []).length=n0 at *;clear hs0 hn0;go_wp2_with(first|refine zl1 hS ?_ (hc:=by exact i9.there (i9.here hv))|refine zl1 hS ?_ (hc:=by exact i9.here rfl));go_roundw;(case rel=>exact⟨7+1,by rw[hk3.out];rfl,rfl,by omega,hS⟩);try(case measure=>simp[intOf]))
def ar4(xs:List Ord)(o:Ord):List Ord:=upF xs.length (xs++[o]) xs.length
def bS4(xs:List Ord):List Ord:=if h:0<xs.length then(bo4 xs (xs.length-1) (by omega)).take (xs.length-1)else[]
def fF4(xs:List Ord)(h:0<xs.length):Ord:=(bo4 xs (xs.length-1) (by omega))[xs.length-1]'(by rw[Bd7];omega)
theorem Fv7(xs:List Ord)(o:Ord):(ar4 xs o).length=xs.length+1:=by simp[ar4,CF7]
theorem Cb7(xs:List Ord):(bS4 xs).length=xs.length-1:=by
 unfold bS4;split
 ·rw[jT,Bd7];omega
 ·simp;omega
theorem Oe7(xs:List Ord)(o:Ord)(l:List Value)(T:TypeId)(bb off:Nat)(v:Value)(h63:xs.length<=4294967296)(hl:l[off]? = some v)(W w:World)(L:List HP)
  (hS:St W (blk bb l T::j8 v xs::L) w):
  Calls Tryz.prog 206 #[.iface 273 (.pointer (some ⟨bb,off,none⟩)),.iface 166 (.agg o.cells.toArray)] w fun e w'=>∃v',e=.returned (.tuple #[])/\St W (blk bb (l.set off v') T::j8 v' (ar4 xs o)::L) w':=by
 refine(MG7 xs o l T bb off xs.length v rfl h63 hl W w L hS).mono ?_;rintro e w' ⟨v',rfl,hS⟩;refine⟨v',rfl,?_⟩;unfold j8;rw[Fv7];exact hS
theorem QL7(xs:List Ord)(hx:0<xs.length)(l:List Value)(T:TypeId)(bb off:Nat)(v:Value)(h63:xs.length<=4294967296)(hl:l[off]? = some v)(W w:World)(L:List HP)
  (hS:St W (blk bb l T::j8 v xs::L) w):
  Calls Tryz.prog 209 #[.iface 273 (.pointer (some ⟨bb,off,none⟩))] w fun e w'=>∃v',e=.returned (.iface 166 (.agg (fF4 xs hx).cells.toArray))/\St W (blk bb (l.set off v') T::j8 v' (bS4 xs)::L) w':=by
 have h1:=hS.swap.rowOpen
 rcases h1 with ⟨_,h0,_⟩|⟨g,cap,junk,rfl,hn1,hm1,hj1,hl1,hS1⟩
 ·omega
 ·obtain⟨n,hn⟩:∃n,xs.length=n+1:=⟨xs.length-1,by omega⟩
  have hpt:bS4 xs=(bo4 xs n hn).take n:=by unfold bS4;rw[dif_pos hx];simp only[hn,Nat.add_sub_cancel]
  have hpv:fF4 xs hx=(bo4 xs n hn)[n]'(by rw[Bd7];omega):=by unfold fF4;simp only[hn,Nat.add_sub_cancel]
  rw[hn]at hn1 hl1 hl;refine(Oc7 xs junk l T bb off g n cap hn hn1 hm1 (by omega) hl W w L hS1.swap).mono ?_;rintro e w' ⟨rfl,hS⟩;refine⟨.S g n cap,by rw[hpv],?_⟩;unfold j8;rw[Cb7,hn,hpt];have e:(bo4 xs n hn).flatMap Ord.cells++junk=((bo4 xs n hn).take n).flatMap Ord.cells++(((bo4 xs n hn).drop n).flatMap Ord.cells++junk):=by rw[<-jS,<-List.flatMap_append,List.take_append_drop]
  rw[e]at hS;refine(St.rowShut hS.swap (by omega) hm1 ?_ ?_).swap
  ·rw[<-e,jA,Ab7 Ord.len,Bd7];rw[jA,Ab7 Ord.len,hn]at hj1;exact hj1
  ·rw[Ab7 Ord.len,jT,Bd7];simp
def w9(k:Nat)(y:Bool):Nat:=cond y k (4+k)
theorem CG7(bb k:Nat)(hk:k<4)(y:Bool)(W w:World)(L:List HP)(hS:St W L w):
  Calls Tryz.prog 204 #[.P bb,.I k,.bool y] w fun e w'=>e=.returned (.pointer (some ⟨bb,w9 k y,none⟩))/\St W L w':=by
 obtain h|h|h|h:k=0\/k=1\/k=2\/k=3:=by omega
 all_goals subst h
 all_goals cases y
 all_goals go_enter Tryz.func204,Tryz.ntmps204
 all_goals go_wp2_with(first|refine zl1 hS ?_|refine zlN hS ?_|refine zs1 hS ?_;clear hS;intro w hS|refine zsN hS ?_;clear hS;intro w hS|refine zbx hS ?_;clear hS;intro b w hS|refine zal hS ?_;clear hS;intro b w hS)
 all_goals go_ret
 all_goals exact⟨rfl,hS⟩
def Q8:Nat->Ord->List Ord->List Trd->Ord×List Ord×List Trd
 | 0,o,q,l=>(o,q,l)
 | _+1,o,[],l=>(o,[],l)
 | f+1,o,x::q,l=>
  if 0<o.cnt/\aJ4 o x=true then
   Q8 f { o with cnt:=o.cnt-(af4 o x).cnt }
    (if x.cnt-(af4 o x).cnt=0 then bS4 ({ x with cnt:=x.cnt-(af4 o x).cnt }::q)else{ x with cnt:=x.cnt-(af4 o x).cnt }::q)
    (l++[af4 o x])
  else(o,x::q,l)
def Bk.pile(b:Bk)(k:Nat):List Ord:=b.ps.getD k []
def bz4(o:Ord):Nat:=o.item.toNat
structure Placed where
 trades:List Trd
 left:Int
 errno:Int
 book:Bk
def J5(b:Bk)(o:Ord):Placed:=
 if P9 o=false\/o.id<=b.last then⟨[],0,1,b⟩
 else if 32<=b.len then⟨[],0,6,b⟩
 else
  let k:=w9 (bz4 o) (!o.buy)
  let r:=Q8 ((b.pile k).length+1) o (b.pile k) []
  let ps:=b.ps.set k r.2.1
  let j:=w9 (bz4 o) o.buy
  ⟨r.2.2,r.1.cnt,0,⟨if 0<r.1.cnt then ps.set j (ar4 (ps.getD j []) r.1)else ps,o.id⟩⟩
theorem Ba7{α:Type}(xs:List α)(i j:Nat)(hi:i<xs.length)(hj:j<xs.length):(L5 xs i j hi hj).Perm xs:=List.set_set_perm hi hj
theorem IX7{α:Type}(xs:List α)(i j:Nat)(hi:i<xs.length)(hj:j<xs.length)(k:Nat)(hk:k<(L5 xs i j hi hj).length):
  (L5 xs i j hi hj)[k]=if k=j then xs[i]else if k=i then xs[j]else xs[k]'(by rw[Ah7]at hk;exact hk):=by
 simp only[L5,List.getElem_set];by_cases h1:j=k
 ·subst h1;simp
 ·by_cases h2:i=k
  ·subst h2;simp[h1,Ne.symm h1]
  ·simp[h1,h2,Ne.symm h1,Ne.symm h2]
theorem HW7:∀(f:Nat) (xs:List Ord) (j:Nat),(upF f xs j).Perm xs
 | 0,_,_=>.refl _
 | f+1,xs,j=>by
  rw[upF];split
  ·split
   ·exact(HW7 f _ _).trans (Ba7 _ _ _ _ _)
   ·exact .refl _
  ·exact .refl _
theorem Dr7:∀(f:Nat) (xs:List Ord) (i n:Nat),(G7 f xs i n).1.Perm xs
 | 0,_,_,_=>.refl _
 | f+1,xs,i,n=>by
  rw[G7];split
  ·split
   ·exact(Dr7 f _ _ _).trans (Ba7 _ _ _ _ _)
   ·exact .refl _
  ·exact .refl _
theorem Cq7:∀(f:Nat) (xs:List Ord) (i n k:Nat),n<=k->(G7 f xs i n).1[k]? = xs[k]?
 | 0,_,_,_,_,_=>rfl
 | f+1,xs,i,n,k,hk=>by
  rw[G7];split
  ·rename_i h
   split
   ·have hk1:=IU7 h.2 h.1;rw[Cq7 f _ _ _ _ hk];simp only[L5];rw[List.getElem?_set_ne (by omega),List.getElem?_set_ne (by omega)]
   ·rfl
  ·rfl
theorem Of7(xs:List Ord)(n:Nat)(h:xs.length=n+1):(bo4 xs n h)[n]? = xs[0]? := by unfold bo4;rw[Cq7 _ _ _ _ _ (Nat.le_refl _),jG (by rw[Ah7];omega),IX7];rw[if_pos rfl,jG (by omega)]
theorem Og7(xs:List Ord)(n:Nat)(h:xs.length=n+1):(bo4 xs n h).Perm xs:=(Dr7 _ _ _ _).trans (Ba7 _ _ _ _ _)
theorem Df7(x:Ord)(q:List Ord):(bS4 (x::q)).Perm q:=by
 have h:(x::q).length=q.length+1:=rfl;have e:bS4 (x::q)=(bo4 (x::q) q.length h).take q.length:=by unfold bS4;rw[dif_pos (by simp)];rfl
 rw[e];have h1:=Og7 (x::q) q.length h;have h2:=Of7 (x::q) q.length h;have h3:=Bd7 h;rw[jG (by rw[h3];omega)]at h2
 have h4:(bo4 (x::q) q.length h)=(bo4 (x::q) q.length h).take q.length++[x]:=by
  have h5:(bo4 (x::q) q.length h).drop q.length=[x]:=by rw[List.drop_eq_getElem_cons (by rw[h3];omega),List.drop_eq_nil_of_le (by rw[h3];omega)];simp only[List.getElem?_cons_zero,Option.some.injEq]at h2;rw[h2]
  rw[<-h5,List.take_append_drop]
 rw[h4]at h1;exact List.Perm.cons_inv ((List.perm_append_singleton x _).symm.trans h1)
theorem EZ7(xs:List Ord)(o:Ord):(ar4 xs o).Perm (o::xs):=(HW7 _ _ _).trans (List.perm_append_singleton o xs)
end Go.Proofs.YtlmhakmoioogaaaGreat
end
