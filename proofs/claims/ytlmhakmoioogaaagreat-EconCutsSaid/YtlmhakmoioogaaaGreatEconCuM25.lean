/-
  The document's vault.
-/
import Derived.Test.YtlmhakmoioogaaaGreatEconCuM5
import Derived.Test.YtlmhakmoioogaaaGreatEconCuM20
import Derived.Test.YtlmhakmoioogaaaGreatEconCuM24
set_option maxHeartbeats 16000000
set_option maxRecDepth 100000
set_option linter.unusedSimpArgs false
set_option linter.unusedVariables false
section
namespace Go.Proofs.YtlmhakmoioogaaaGreat
open Go.RowKit Go.Sl
theorem hf4(xb xB:Nat)(V:Vs)(N:Nat)(o:Ord)(hp:M6 V.ps)(hw:PsW V.ps N)(hN:N+150<=1000000)(hmay:∀x∈V.L,MayP x)(hn:1<=V.n)(W w:World)(R:List HP)(hS:St W (xvR xb xB V.ps V.L V.n R) w):
  Calls Tryz.prog 121 #[.P xb,.agg o.cells.toArray] w fun e w'=>e=.returned (.tuple #[.I (B6 V o).1,.I (B6 V o).2.1]) /\
   St W (xvR xb xB (B6 V o).2.2.ps (B6 V o).2.2.L (B6 V o).2.2.n R) w':=by
 unfold B6;by_cases h1:bv4 o=false
 ·rw[if_pos h1];exact Mk7 xb xB V.ps V.L V.n o W w R h1 hS
 ·rw[if_neg h1];have h1':bv4 o=true:=by simpa using h1
  by_cases h2:32<=V.L.length\/1099511627776<V.n
  ·rw[if_pos h2];exact JX7 xb xB V.ps V.L V.n o W w R h1' h2 hS
  ·rw[if_neg h2];by_cases h3:m9 V.ps o.who (j9 o)=0
   ·rw[if_pos h3];exact NS7 xb xB V.ps V.L V.n N o W w R hp hw hN hmay h1' hn (by omega) (by omega) h3 hS
   ·rw[if_neg h3]
    have h14:m9 V.ps o.who (j9 o)=14:=by
     have hh:=CK7 h1';unfold m9 at h3 ⊢;rw[if_pos hh]at h3 ⊢;split
     ·rename_i hs;rw[if_pos hs]at h3;exact absurd rfl h3
     ·rfl
    exact IK7 xb xB V.ps V.L V.n N o W w R hw (by omega) h1' (by omega) hn (by omega) h14 hS
def CaR(W:World)(F:List HP)(L:List Ord)(id:Int)(who:ByteArray)(v:Value)(w:World):Prop:=
 ∃i:Nat,v=.I i/\i<=L.length/\(∀x∈L.take i,aB4 id who x=false)/\St W F w
section
variable(xb xB:Nat)(p:Ps)(L:List Ord)(n:Int)(N:Nat)(who:ByteArray)(id:Int)(W w:World)(R:List HP)
theorem eU4(hp:M6 p)(hw:PsW p N)(hN:N+150<=1000000)(hmay:∀x∈L,MayP x)(hl32:L.length<=32)(hS:St W (xvR xb xB p L n R) w):
  Calls Tryz.prog 122 #[.P xb,.string who,.I id] w fun e w'=>e=.returned (.I (C7 ⟨p,L,n⟩ who id).1)/\St W (xvR xb xB (C7 ⟨p,L,n⟩ who id).2.ps (C7 ⟨p,L,n⟩ who id).2.L n R) w':=by
 have Hp:=jH hp;have Hw:=jH hw;have Hmay:=jH hmay;clear hp hw hmay;obtain⟨xv,hS1⟩:=ba4 hS;obtain⟨la,lc,last,hlast,hS2⟩:=bA4 (hS1.s (xkP xB L n::blk xb _ _::hdR _ (hdL p)::R));clear hS hS1;have hS:=hS2;clear hS2;go_enter Tryz.func122,Tryz.ntmps122;go_wp2_with fail
 go_loopw [7] (fun v wr=>CaR W (blk xB [.slice la L.length lc,.I last] 244::j7 (.slice la L.length lc) L::blk xb [xv,.P xB,.I n] 246::hdR xv (hdL p)::R) L id who v wr) (fun v _=>L.length-(intOf v).toNat)
 case atStart=>exact⟨0,rfl,Nat.zero_le _,fun x hx=>(by simp at hx),hS⟩
 case round=>
  clear hS;obtain⟨i,rfl,hil,hno,hS⟩:=hrel;by_cases hin:i=L.length
  ·rw[hin,List.take_length]at hno;have hany:L.any (aB4 id who)=false:=by rw[List.any_eq_false];intro x hx;rw[hno x hx];simp
   have E:=jH (show C7 ⟨p,L,n⟩ who id=(7,⟨p,L,n⟩)by unfold C7;rw[if_neg (by rw[hany];simp)]);subst hin;clear hno hany;go_wp2_with(first|refine zl1 hS ?_);go_ret;rw[E.out];have hS1:=aR4 hlast (hS.s (blk xB _ _::j7 _ L::blk xb _ _::hdR _ (hdL p)::R));exact⟨rfl,av4 (hS1.s (blk xb _ _::hdR _ (hdL p)::xkP xB L n::R))⟩
  ·have hi1:i<L.length:=by omega
   obtain⟨⟨g,rfl⟩,_,_⟩:=St.rowAddr hS.drop (by omega);have q0:(Ord.cells L[i])[0]? = some (.I L[i].id):=rfl;have q1:(Ord.cells L[i])[1]? = some (.string L[i].who):=rfl
   have hstep:aB4 id who L[i]=false->∀x∈L.take (i+1),aB4 id who x=false:=fun h x hx=>by
    rw[List.take_succ_eq_append_getElem hi1]at hx
    rcases List.mem_append.1 hx with hx|hx
    ·exact hno x hx
    ·rw[List.mem_singleton.1 hx];exact h
   have hyes:aB4 id who L[i]=true->L.any (aB4 id who)=true:=fun h=>List.any_eq_true.2 ⟨_,jW hi1,h⟩
   have hd:aB4 id who L[i]=((L[i].id==id)&&(L[i].who.toList==who.toList)):=rfl;generalize hx:L[i]=x at q0 q1 hstep hyes hd;have Hx:=jH hx;clear hx hno hin;obtain⟨xi,xu,xy,xt,xc,xp⟩:=x;simp only at q0 q1 hd;have c0:∀{K K':List HP},Take K (j7 (.S g L.length lc) L) K'->i8 K g (i*6) (.I xi):=fun hu=>i5.elemM (enc:=Ord.cells) Ord.len hu hi1 0 _ (by rw[Hx.out];rfl)
   have c1:∀{K K':List HP},Take K (j7 (.S g L.length lc) L) K'->i8 K g (i*6+1) (.string xu):=fun hu=>i5.elemM (enc:=Ord.cells) Ord.len hu hi1 1 _ (by rw[Hx.out];rfl)
   cases h1:xi==id with
   | false=>
    rw[h1,Bool.false_and]at hd;have Hs:=jH (hstep hd);clear hstep hyes hd q0 q1;go_wp2_with(first|refine zl1 hS ?_|refine zl1 hS ?_ (hc:=by exact c0 (by exact i6)));go_roundw
    case rel=>exact⟨i+1,rfl,hi1,Hs.out,hS⟩
    case measure=>simp[intOf];omega
   | true=>
    cases h2:xu.toList==who.toList with
    | false=>
     rw[h1,h2,Bool.and_false]at hd;have Hs:=jH (hstep hd);clear hstep hyes hd q0 q1;go_wp2_with(first|refine zl1 hS ?_|refine zl1 hS ?_ (hc:=by exact c0 (by exact i6))|refine zl1 hS ?_ (hc:=by exact c1 (by exact i6)));go_roundw
     case rel=>exact⟨i+1,rfl,hi1,Hs.out,hS⟩
     case measure=>simp[intOf];omega
    | true=>
     rw[h1,h2,Bool.and_true]at hd;have hany:=hyes hd;obtain⟨he0,hmem⟩:=Do7 hany;have hmz:=Hmay.out _ hmem;have e:C7 ⟨p,L,n⟩ who id=(0,⟨cn4 p who (j9 (s7 L id).o),(s7 L id).L,n⟩):=by unfold C7;rw[if_pos hany]
     generalize hCR:s7 L id=CR at he0 hmz e;obtain⟨⟨zi,zu,zy,zt,zc,zp⟩,en,L2⟩:=CR;simp only at he0 hmz e;subst he0;obtain⟨it,hit⟩:∃y,j9 ⟨zi,zu,zy,zt,zc,zp⟩=y:=⟨_,rfl⟩
     have hii:s9 it=true:=by rw[<-hit];exact(CK7 (o:=⟨zi,zu,zy,zt,zc,zp⟩) (Av7.2 ⟨show(1:Int)<=1 by decide,show(1:Int)<=1099511627776 by decide,hmz.who0,hmz.who1,hmz.item0,hmz.item1,hmz.cnt0,hmz.cnt1,hmz.price0,hmz.price1⟩)).2
     have hwho:B8 who=true:=by
      have hxw:(⟨xi,xu,xy,xt,xc,xp⟩:Ord)∈L:=by rw[<-Hx.out];exact jW hi1
      have e1:xu=who:=Gj7 (by rw[Lib.toList_data,Lib.toList_data]at h2;simpa using h2);rw[<-e1];exact EM7 (Hmay.out _ hxw)
     rw[hit]at e;obtain⟨h0,h1',h2',h3'⟩:=it;obtain⟨a0,a1,a2,a3⟩:=Ah7.1 hii;simp only at a0 a1 a2 a3;have HCR:=jH hCR;have Hmz:=jH hmz;have Hit:=jH hit;have E:=jH e;clear hCR hmz hit e hii hstep hyes hd q0 q1 hany hmem;have G1:=jH (show ∀y,s9 (k9 p y)=true from Hp.out);have G2:=jH (show ∀y,s9 (k9 (l8 p who 0 h0) y)=true from Aq7 Hp.out _ _ a0.1);have G3:=jH (show ∀y,s9 (k9 (l8 (l8 p who 0 h0) who 1 h1') y)=true from Aq7 (Aq7 Hp.out _ _ a0.1) _ _ a1.1);have G4:=jH (show ∀y,s9 (k9 (l8 (l8 (l8 p who 0 h0) who 1 h1') who 2 h2') y)=true from Aq7 (Aq7 (Aq7 Hp.out _ _ a0.1) _ _ a1.1) _ _ a2.1);have W1:=jH (show PsW p 1000000 from At7 Hw.out (by omega));have W2:=jH (show PsW (l8 p who 0 h0) 1000000 from At7 (AO7 Hw.out hwho _ _) (by omega));have W3:=jH (show PsW (l8 (l8 p who 0 h0) who 1 h1') 1000000 from At7 (AO7 (AO7 Hw.out hwho _ _) hwho _ _) (by omega));have W4:=jH (show PsW (l8 (l8 (l8 p who 0 h0) who 1 h1') who 2 h2') 1000000 from At7 (AO7 (AO7 (AO7 Hw.out hwho _ _) hwho _ _) hwho _ _) (by omega));clear hwho;go_wp2_with(first|refine zl1 hS ?_|refine zl1 hS ?_ (hc:=by exact c0 (by exact i6))|refine zl1 hS ?_ (hc:=by exact c1 (by exact i6))|go_at_call 186;refine(GK7 L id xB last _ hl32 W _ _ (hS.s (blk xB _ _::j7 _ L::blk xb _ _::hdR _ (hdL p)::R))).mono ?_;clear hS;rw[HCR.out];simp only[Ord.cells];rintro e w ⟨rfl,v9,hS⟩|go_at_call 183;refine(Ei7 (o:=⟨zi,zu,zy,zt,zc,zp⟩) Hmz.out Hit.out W _ _ hS).mono ?_;clear hS;rintro e w ⟨rfl,hS⟩|(fail_if_success (have:=b8));((with_reducible apply Al7 hS);rfl;rfl;exact zsS;clear hS;intro b8 w hS;refine frS ?_)|(have:=b8);(with_reducible apply Al7 hS);rfl;rfl;exact zsS;clear hS;intro b10 w hS;refine frS ?_|refine zlN hS ?_|refine zsN hS ?_;clear hS;intro w hS);have hS1:=aR4 hlast (hS.s (blk xB _ _::j7 _ L2::blk xb _ _::hdR _ (hdL p)::blk b10 _ _::R));clear hS
     have hS:=av4 (hS1.s (blk xb _ _::hdR _ (hdL p)::xkP xB L2 n::blk b10 _ _::R));clear hS1
     go_loopw [11] (fun v wr=>Cn4 W (fun q=>[xvP xb (.P xB) n q,xkP xB L2 n,blk b10 [.I h0,.I h1',.I h2',.I h3'] 29]++R) p who ⟨h0,h1',h2',h3'⟩ v wr) (fun v _=>4-(intOf v).toNat)
     case atStart=>exact .inl ⟨rfl,hS⟩
     case round=>
     clear hS;simp only[Cn4,jK,jN]at hrel
     rcases hrel with ⟨rfl,hS⟩|⟨rfl,hS⟩|⟨rfl,hS⟩|⟨rfl,hS⟩|⟨rfl,hS⟩
     ·skip
      go_wp2_with(first|refine zl1 hS ?_|go_at_call 185;refine(cY4 xb _ n _ 1000000 W _ _ W1.out (Nat.le_refl _) _ _ _ (G1.out _) ⟨by omega,by omega⟩ ⟨by omega,by omega⟩ hS).mono ?_;clear hS;rintro e w ⟨rfl,hS⟩);go_roundw
      case rel=>exact .inr (.inl ⟨rfl,hS⟩)
      case measure=>simp[intOf]
     ·skip
      go_wp2_with(first|refine zl1 hS ?_|go_at_call 185;refine(cY4 xb _ n _ 1000000 W _ _ W2.out (Nat.le_refl _) _ _ _ (G2.out _) ⟨by omega,by omega⟩ ⟨by omega,by omega⟩ hS).mono ?_;clear hS;rintro e w ⟨rfl,hS⟩);go_roundw
      case rel=>exact .inr (.inr (.inl ⟨rfl,hS⟩))
      case measure=>simp[intOf]
     ·skip
      go_wp2_with(first|refine zl1 hS ?_|go_at_call 185;refine(cY4 xb _ n _ 1000000 W _ _ W3.out (Nat.le_refl _) _ _ _ (G3.out _) ⟨by omega,by omega⟩ ⟨by omega,by omega⟩ hS).mono ?_;clear hS;rintro e w ⟨rfl,hS⟩);go_roundw
      case rel=>exact .inr (.inr (.inr (.inl ⟨rfl,hS⟩)))
      case measure=>simp[intOf]
     ·skip
      go_wp2_with(first|refine zl1 hS ?_|go_at_call 185;refine(cY4 xb _ n _ 1000000 W _ _ W4.out (Nat.le_refl _) _ _ _ (G4.out _) ⟨by omega,by omega⟩ ⟨by omega,by omega⟩ hS).mono ?_;clear hS;rintro e w ⟨rfl,hS⟩);go_roundw
      case rel=>exact .inr (.inr (.inr (.inr ⟨rfl,hS⟩)))
      case measure=>simp[intOf]
     ·go_wp2_with(fail);go_ret;rw[E.out];exact⟨rfl,hS.s _⟩
end
def I9(k:Int):Ps->Int
 | []=>0
 | x::p=>p8 x.2 k+I9 k p
def aM4(k:Int):List Ord->Int
 | []=>0
 | x::L=>p8 (j9 x) k+aM4 k L
def bG4(k:Int)(t:Trd):Int:=(if k=t.item then t.cnt else 0)+(if k=0 then t.cnt*(t.bid-t.price)+t.cnt*t.price else 0)
def bw4(k:Int):List Trd->Int
 | []=>0
 | t::ts=>bG4 k t+bw4 k ts
def al4(k:Int):List It->Int
 | []=>0
 | i::l=>p8 i k+al4 k l
def D5(V:Vs)(k:Int):Int:=I9 k V.ps+aM4 k V.L
structure Kx(k:Int):Prop where
 k0:0<=k
 k3:k<=3
theorem BN7(k:Int):p8 it0 k=0:=by
 unfold p8 it0;repeat' split
 all_goals rfl
theorem HF7(i:It){j k:Int}(hj:Kx j)(hk:Kx k)(n:Int):p8 (aU4 i j n) k=if k=j then n else p8 i k:=by
 obtain⟨j0,j3⟩:=hj;obtain⟨k0,k3⟩:=hk;have h1:j=0\/j=1\/j=2\/j=3:=by omega
 have h2:k=0\/k=1\/k=2\/k=3:=by omega
 rcases h1 with rfl|rfl|rfl|rfl <;> rcases h2 with rfl|rfl|rfl|rfl <;> rfl
theorem Dr7(a b:It)(k:Int):p8 (N6 a b) k=p8 a k+p8 b k:=by
 unfold p8 N6
 repeat' split
 all_goals rfl
theorem Lh7(a b:It)(k:Int):p8 (bD4 a b) k=p8 a k-p8 b k:=by
 unfold p8 bD4
 repeat' split
 all_goals rfl
theorem SE7{i:It}(h:isZ i=true)(k:Int):p8 i k=0:=by rw[QL7 h,BN7]
theorem BE7{p:Ps}(h:(p.map (·.1)).Nodup)(k:ByteArray)(i:It):((H7 p k i).map (·.1)).Nodup:=by
 unfold H7;split
 ·exact EL7 h k
 ·rw[List.map_cons,List.nodup_cons];refine⟨fun hm=>?_,EL7 h k⟩;obtain⟨x,hx,e⟩:=List.mem_map.1 hm;exact(Dp7 hx).2 e
theorem IL7{p:Ps}(h:(p.map (·.1)).Nodup){x:ByteArray×It}(hx:x∈p):k9 p x.1=x.2:=by have:=Bf7 (v:=x.2) h hx;unfold k9;rw[this];rfl
theorem Ml7(x:ByteArray×It)(p:Ps)(k:ByteArray):k9 (x::p) k=if x.1=k then x.2 else k9 p k:=by
 unfold k9 i9;split
 ·rename_i h
  rw[List.find?_cons_of_pos (by simpa using h)];rfl
 ·rename_i h
  rw[List.find?_cons_of_neg (by simpa using h)]
theorem Li7(k:Int)(who:ByteArray):∀{p:Ps},(p.map (·.1)).Nodup->I9 k (j6 p who)=I9 k p-p8 (k9 p who) k
 | [],_=>by
  show(0:Int)=0-p8 it0 k
  rw[BN7];rfl
 | x::p,h=>by
  rw[List.map_cons,List.nodup_cons]at h;have ih:=Li7 k who h.2;rw[Ml7];by_cases hx:x.1=who
  ·rw[if_pos hx]
   have e:j6 (x::p) who=p:=by
    unfold j6;rw[List.filter_cons,if_neg (by simpa using hx)];refine List.filter_eq_self.2 fun y hy=>?_
    have:y.1≠who:=fun e=>h.1 (List.mem_map.2 ⟨y,hy,e.trans hx.symm⟩)
    simpa using this
   rw[e];show I9 k p=p8 x.2 k+I9 k p-p8 x.2 k
   omega
  ·rw[if_neg hx];have e:j6 (x::p) who=x::j6 p who:=by unfold j6;rw[List.filter_cons,if_pos (by simpa using hx)]
   rw[e];show p8 x.2 k+I9 k (j6 p who)=p8 x.2 k+I9 k p-p8 (k9 p who) k
   omega
theorem Ej7{p:Ps}(h:(p.map (·.1)).Nodup)(k:Int)(who:ByteArray)(i:It):I9 k (H7 p who i)=I9 k p-p8 (k9 p who) k+p8 i k:=by
 have hd:=Li7 k who h;unfold H7;split
 ·rename_i hz
  rw[hd,SE7 hz];omega
 ·show p8 i k+I9 k (j6 p who)=_
  omega
structure PsK(p:Ps):Prop where
 nd:(p.map (·.1)).Nodup
 ok:M6 p
theorem PsK.pos{p:Ps}(h:PsK p)(k:Int):0<=I9 k p:=by
 have hx:∀x∈p,0<=p8 x.2 k:=fun x hx=>by rw[<-IL7 h.nd hx];exact(EI7 (h.ok x.1) k).1
 clear h
 induction p with
 | nil=>exact Int.le_refl _
 | cons x p ih=>
  have h1:=hx x (List.mem_cons_self ..);have h2:=ih fun y hy=>hx y (List.mem_cons_of_mem _ hy)
  show 0<=p8 x.2 k+I9 k p
  omega
theorem HG7:s9 it0=true:=by decide
theorem PsK.le{p:Ps}(h:PsK p)(who:ByteArray)(k:Int):p8 (k9 p who) k<=I9 k p:=by have h1:=Ej7 h.nd k who it0;have h2:=PsK.pos ⟨BE7 h.nd who it0,Fs7 h.ok who HG7⟩ k;rw[BN7]at h1;omega
theorem PsK.give{p:Ps}(h:PsK p)(who:ByteArray)(j:Int){n:Int}(hn:0<=n):PsK (l8 p who j n):=⟨BE7 h.nd _ _,Aq7 h.ok who j hn⟩
theorem Cc7{p:Ps}(h:PsK p)(who:ByteArray){j k:Int}(hj:Kx j)(hk:Kx k){n:Int}(hn:0<=n)(hb:I9 j p+n<=1152921504606846976):
  I9 k (l8 p who j n)=I9 k p+if k=j then n else 0:=by
 have hle:=h.le who j;unfold l8 ay4;rw[Ej7 h.nd,HF7 _ hj hk];have hc:ak4 (p8 (k9 p who) j+n)=p8 (k9 p who) j+n:=by unfold ak4;rw[if_neg (by omega)]
 rw[hc];split
 ·rename_i e;subst e;omega
 ·omega
theorem PsK.pay{p:Ps}(h:PsK p){t:Trd}(ht:TrB t):PsK (aK4 p t):=⟨BE7 (BE7 (BE7 h.nd _ _) _ _) _ _,Lb7 h.ok ht⟩
theorem PD7{t:Trd}(ht:TrB t)(k:Int):0<=bG4 k t:=by have h1:=Ci7 ht.cnt.1 ht.cnt.2 ht.price.1 ht.price.2;have h2:=Ci7 ht.cnt.1 ht.cnt.2 ht.bid.1 ht.bid.2;have h3:=ht.cnt.1;unfold bG4;split <;> split <;> omega
theorem PE7{p:Ps}(h:PsK p){t:Trd}(ht:TrB t)(hb:∀k,Kx k->I9 k p+bG4 k t<=1152921504606846976){k:Int}(hk:Kx k):I9 k (aK4 p t)=I9 k p+bG4 k t:=by
 have h1:=Ci7 ht.cnt.1 ht.cnt.2 ht.price.1 ht.price.2;have h2:=Ci7 ht.cnt.1 ht.cnt.2 ht.bid.1 ht.bid.2;have h3:=ht.cnt.1;have z:Kx 0:=⟨by decide,by decide⟩
 have ji:Kx t.item:=⟨ht.item.1,ht.item.2⟩
 have g1:=h.give t.buyer t.item h3;have g2:=g1.give t.buyer 0 h2.1;have b0:=hb 0 z;have bi:=hb t.item ji;have k0:bG4 0 t=(if 0=t.item then t.cnt else 0)+(t.cnt*(t.bid-t.price)+t.cnt*t.price):=by unfold bG4;rw[if_pos (rfl:(0:Int)=0)]
 have ki:bG4 t.item t=t.cnt+(if t.item=0 then t.cnt*(t.bid-t.price)+t.cnt*t.price else 0):=by unfold bG4;rw[if_pos (rfl:t.item=t.item)]
 have bi2:I9 t.item p+t.cnt<=1152921504606846976:=by rw[ki]at bi;split at bi <;> omega
 have e1:=fun k hk=>Cc7 (k:=k) h t.buyer ji hk h3 bi2
 have e10:=e1 0 z;have b1:I9 0 (l8 p t.buyer t.item t.cnt)+t.cnt*(t.bid-t.price)<=1152921504606846976:=by rw[k0]at b0;rw[e10];omega
 have e2:=fun k hk=>Cc7 (k:=k) g1 t.buyer z hk h2.1 b1
 have e20:=e2 0 z;rw[if_pos (rfl:(0:Int)=0)]at e20;have b2:I9 0 (l8 (l8 p t.buyer t.item t.cnt) t.buyer 0 (t.cnt*(t.bid-t.price)))+t.cnt*t.price<=1152921504606846976:=by rw[k0]at b0;rw[e20,e10];omega
 unfold aK4;rw[Cc7 g2 t.seller z hk h1.1 b2,e2 k hk,e1 k hk];unfold bG4;split <;> split <;> omega
theorem Lj7:∀{ts:List Trd},(∀t∈ts,TrB t)->∀k,0<=bw4 k ts
 | [],_,_=>Int.le_refl _
 | t::ts,h,k=>by
  have h1:=PD7 (h t (List.mem_cons_self ..)) k;have h2:=Lj7 (fun x hx=>h x (List.mem_cons_of_mem t hx)) k;show 0<=bG4 k t+bw4 k ts
  omega
theorem IM7:∀(ts:List Trd) {p:Ps},PsK p->(∀t∈ts,TrB t)->(∀k,Kx k->I9 k p+bw4 k ts<=1152921504606846976)->∀{k:Int},Kx k->I9 k (ts.foldl aK4 p)=I9 k p+bw4 k ts
 | [],p,_,_,_,k,_=>by show I9 k p=I9 k p+0;omega
 | t::ts,p,h,ht,hb,k,hk=>by
  have h1:=ht t (List.mem_cons_self ..);have h2:∀x∈ts,TrB x:=fun x hx=>ht x (List.mem_cons_of_mem t hx)
  have hs:∀k,Kx k->I9 k (aK4 p t)=I9 k p+bG4 k t:=fun k hk=>PE7 h h1 (fun j hj=>by have a:=hb j hj;have b:=Lj7 h2 j;have c:bw4 j (t::ts)=bG4 j t+bw4 j ts:=rfl;omega) hk
  have hc:bw4 k (t::ts)=bG4 k t+bw4 k ts:=rfl;have ih:=IM7 ts (h.pay h1) h2 (fun j hj=>by have a:=hb j hj;have c:bw4 j (t::ts)=bG4 j t+bw4 j ts:=rfl;rw[hs j hj];omega) hk;rw[List.foldl_cons,ih,hs k hk,hc];omega
theorem Gn7{L L':List Ord}(h:L.Perm L')(k:Int):aM4 k L=aM4 k L':=by
 induction h with
 | nil=>rfl
 | cons x _ ih=>simp only[aM4,ih]
 | swap x y l=>simp only[aM4];omega
 | trans _ _ ih1 ih2=>rw[ih1,ih2]
theorem JY7(L:List Ord)(x:Ord)(k:Int):aM4 k (L++[x])=aM4 k L+p8 (j9 x) k:=by rw[Gn7 (List.perm_append_singleton x L) k];simp only[aM4];omega
theorem NT7{L:List Ord}{j:Nat}(hj:j<L.length)(k:Int):aM4 k L=p8 (j9 (at' L j)) k+aM4 k (L.eraseIdx j):=by rw[<-Gn7 (Hx7 L hj) k];rfl
theorem PF7{L:List Ord}{j:Nat}(hj:j<L.length)(x:Ord)(k:Int):aM4 k (L.set j x)=p8 (j9 x) k+aM4 k (L.eraseIdx j):=by rw[<-Gn7 (QJ7 L hj x) k];rfl
theorem IN7{o:Ord}(hi:1<=o.item/\o.item<=3){k:Int}(hk:Kx k):p8 (j9 o) k=if o.buy=true then(if k=0 then o.cnt*o.price else 0)else if k=o.item then o.cnt else 0:=by
 unfold j9;split
 ·have h2:k=0\/k=1\/k=2\/k=3:=by have:=hk.k0;have:=hk.k3;omega
  rcases h2 with rfl|rfl|rfl|rfl <;> rfl
 ·rw[HF7 it0 ⟨by omega,hi.2⟩ hk,BN7]
def bj4(o:Ord)(c:Int):Ord:=⟨o.id,o.who,o.buy,o.item,c,o.price⟩
theorem CC7{o:Ord}(hi:1<=o.item/\o.item<=3){k:Int}(hk:Kx k)(c:Int):p8 (j9 (bj4 o c)) k=if o.buy=true then(if k=0 then c*o.price else 0)else if k=o.item then c else 0:=
 IN7 (o:=bj4 o c) hi hk
theorem Lk7{o:Ord}(hi:1<=o.item/\o.item<=3){k:Int}(hk:Kx k)(c n:Int):p8 (j9 (bj4 o (c-n))) k=p8 (j9 (bj4 o c)) k-p8 (j9 (bj4 o n)) k:=by
 rw[CC7 hi hk,CC7 hi hk,CC7 hi hk];have:=Int.sub_mul c n o.price;by_cases hb:o.buy=true
 ·simp only[if_pos hb];by_cases h0:k=0
  ·simp only[if_pos h0];omega
  ·simp only[if_neg h0];rfl
 ·simp only[if_neg hb];by_cases h0:k=o.item
  ·simp only[if_pos h0]
  ·simp only[if_neg h0];rfl
theorem Mm7{o x:Ord}(ho:1<=o.item/\o.item<=3)(hm:M5 o x=true){k:Int}(hk:Kx k):
  p8 (j9 (bj4 x (L6 o.cnt x.cnt))) k+p8 (j9 (bj4 o (L6 o.cnt x.cnt))) k=bG4 k (F6 o x):=by
 unfold M5 at hm;simp only[jB,decide_eq_true_eq,bne_iff_ne,ne_eq]at hm;obtain⟨⟨h1,h2⟩,_⟩:=hm;have hx:1<=x.item/\x.item<=3:=by rw[<-h1];exact ho
 rw[CC7 hx hk,CC7 ho hk];unfold bG4 F6;by_cases hob:o.buy=true
 ·have hxb:¬x.buy=true:=fun h=>h2 (hob.trans h.symm)
  simp only[if_pos hob,if_neg hxb];have:=Int.mul_sub (L6 o.cnt x.cnt) o.price x.price;by_cases h0:k=0
  ·have h9:¬k=x.item:=by omega
   have h8:¬k=o.item:=by omega
   simp only[if_pos h0,if_neg h9,if_neg h8];omega
  ·rw[h1];by_cases h9:k=x.item
   ·simp only[if_neg h0,if_pos h9]
   ·simp only[if_neg h0,if_neg h9]
 ·have hxb:x.buy=true:=by
   cases hx1:x.buy with
   | true=>rfl
   | false=>exact absurd ((by simpa using hob:o.buy=false).trans hx1.symm) h2
  simp only[if_neg hob,if_pos hxb];have:=Int.mul_sub (L6 o.cnt x.cnt) x.price x.price;by_cases h0:k=0
  ·have h8:¬k=o.item:=by omega
   simp only[if_pos h0,if_neg h8];omega
  ·by_cases h9:k=o.item
   ·simp only[if_neg h0,if_pos h9];omega
   ·simp only[if_neg h0,if_neg h9]
theorem QR7{o:Ord}(hi:1<=o.item/\o.item<=3)(h:o.cnt=0){k:Int}(hk:Kx k):p8 (j9 o) k=0:=by
 rw[IN7 hi hk,h,Int.zero_mul]
 repeat' split
 all_goals rfl
theorem NU7{L:List Ord}{j:Nat}(hj:j<L.length)(hL:∀x∈L,MayP x)(n:Int){k:Int}(hk:Kx k):aM4 k (bt4 L j ((at' L j).cnt-n))=aM4 k L-p8 (j9 (bj4 (at' L j) n)) k:=by
 have hx:=hL _ (L7 hj);have hi:1<=(at' L j).item/\(at' L j).item<=3:=⟨hx.item0,hx.item1⟩
 have hc:=Lk7 hi hk (at' L j).cnt n;have e:p8 (j9 (bj4 (at' L j) (at' L j).cnt)) k=p8 (j9 (at' L j)) k:=rfl;rw[e]at hc;have hz:(at' L j).cnt-n=0->p8 (j9 (bj4 (at' L j) ((at' L j).cnt-n))) k=0:=fun h=>QR7 (o:=bj4 (at' L j) ((at' L j).cnt-n)) hi h hk
 have hs:=NT7 hj k;unfold bt4;split
 ·rename_i hz0
  have:=hz hz0;omega
 ·rw[PF7 hj];show p8 (j9 (bj4 (at' L j) ((at' L j).cnt-n))) k+aM4 k (L.eraseIdx j)=_
  omega
theorem IO7:∀(f:Nat) (o:Ord) (L:List Ord) (ts:List Trd),(∀x∈L,MayP x)->(1<=o.item/\o.item<=3)->0<=o.cnt->∀{k:Int},Kx k->
  0<=(s6 f o L ts).1.cnt/\(s6 f o L ts).1.item=o.item/\aM4 k (s6 f o L ts).2.1+p8 (j9 (s6 f o L ts).1) k+bw4 k (s6 f o L ts).2.2=aM4 k L+p8 (j9 o) k+bw4 k ts
 | 0,o,L,ts,_,_,h0,k,_=>⟨h0,rfl,rfl⟩
 | f+1,o,L,ts,hL,ho,h0,k,hk=>by
  rw[s6];by_cases hc:0<o.cnt
  ·rw[if_pos hc]
   cases hb:w6 o L L.length with
   | none=>exact⟨h0,rfl,rfl⟩
   | some j=>
    obtain⟨hj,hm,_⟩:=AU7 hb;have hx:=hL _ (L7 hj);have hx0:=hx.cnt0;have hmin:=DX7 hc (show 0<(at' L j).cnt by omega)
    have hL':∀x∈bt4 L j ((at' L j).cnt-L6 o.cnt (at' L j).cnt),MayP x:=by
     unfold bt4;split
     ·exact fun x hx=>hL x (List.mem_of_mem_eraseIdx hx)
     ·intro x hxm
      rcases List.mem_or_eq_of_mem_set hxm with hx'|rfl
      ·exact hL x hx'
      ·exact Hy7 hx (by omega) (by omega)
    obtain⟨i1,i2,i3⟩:=IO7 f (bj4 o (o.cnt-L6 o.cnt (at' L j).cnt)) _ (ts++[F6 o (at' L j)]) hL' ho (by show 0<=o.cnt-L6 o.cnt (at' L j).cnt;omega) hk;refine⟨i1,i2,Eq.trans i3 ?_⟩;have a1:=NU7 hj hL (L6 o.cnt (at' L j).cnt) hk;have a2:=Lk7 ho hk o.cnt (L6 o.cnt (at' L j).cnt);have a3:=Mm7 ho hm hk;have e:p8 (j9 (bj4 o o.cnt)) k=p8 (j9 o) k:=rfl
    have a4:∀(l:List Trd) (t:Trd),bw4 k (l++[t])=bw4 k l+bG4 k t:=fun l t=>by
     induction l with
     | nil=>simp[bw4]
     | cons y l ih=>simp only[jK,bw4,ih];omega
    rw[a4];rw[e]at a2;omega
  ·rw[if_neg hc];exact⟨h0,rfl,rfl⟩
theorem PG7{L:List Ord}{o:Ord}(hL:∀x∈L,MayP x)(ho:1<=o.item/\o.item<=3)(h0:0<=o.cnt){k:Int}(hk:Kx k):aM4 k (cX4 L o)+bw4 k (be4 L o)=aM4 k L+p8 (j9 o) k:=by
 obtain⟨h1,h2,h3⟩:=IO7 (L.length+1) o L [] hL ho h0 hk;have e:bw4 k []=0:=rfl;rw[e]at h3;unfold cX4 be4;split
 ·rw[JY7];omega
 ·have:=QR7 (by rw[h2];exact ho) (show(s6 (L.length+1) o L []).1.cnt=0 by omega) hk;omega
theorem Fw7{L:List Ord}(hL:∀x∈L,MayP x)(k:Int):0<=aM4 k L:=by
 induction L with
 | nil=>exact Int.le_refl _
 | cons x L ih=>
  have hx:=hL x (List.mem_cons_self ..);have h1:=ih fun y hy=>hL y (List.mem_cons_of_mem x hy)
  have h2:bv4 x=true:=Av7.2 ⟨show(1:Int)<=1 by decide,show(1:Int)<=1099511627776 by decide,hx.who0,hx.who1,hx.item0,hx.item1,hx.cnt0,hx.cnt1,hx.price0,hx.price1⟩;have h3:=(EI7 (CK7 h2).2 k).1;show 0<=p8 (j9 x) k+aM4 k L
  omega
theorem Mn7{V:Vs}{o:Ord}(hp:PsK V.ps)(hL:∀x∈V.L,MayP x)(hL2:∀x∈(B6 V o).2.2.L,MayP x)(hb:∀k,Kx k->D5 V k<=1152921504606846976){k:Int}(hk:Kx k):D5 (B6 V o).2.2 k=D5 V k:=by
 unfold B6 at hL2 ⊢;split
 ·rfl
 ·rename_i h1
  rw[if_neg h1]at hL2;have hm:=Av7.1 (show K5 { o with id:=1 }=true by simpa[bv4]using h1);split
  ·rfl
  ·rename_i h2
   rw[if_neg h2]at hL2;split
   ·rename_i h3
    rw[if_pos h3]at hL2;have c0:1<=o.cnt:=hm.cnt0;have c1:o.cnt<=1048576:=hm.cnt1;have ho:1<=o.item/\o.item<=3:=⟨hm.item0,hm.item1⟩
    have hT:∀t∈be4 V.L { o with id:=V.n },TrB t:=Da7 _ _ _ _ hL ⟨show 0<=o.cnt by omega,c1,hm.item0,hm.item1,hm.price1⟩ fun t ht=>(by cases ht)
    have hh:j9 { o with id:=V.n }=j9 o:=rfl;have hr:=fun k hk=>PG7 (k:=k) (o:={ o with id:=V.n }) hL ho (show 0<=o.cnt by omega) hk
    have ht:∀k,I9 k (p9 V.ps o.who (j9 o))=I9 k V.ps-p8 (j9 o) k:=fun k=>by
     unfold m9 at h3;unfold p9;split at h3
     ·rename_i hc
      rw[if_pos hc];split at h3
      ·rename_i hs
       rw[if_pos hs,Ej7 hp.nd,Lh7];omega
      ·cases h3
     ·cases h3
    have htk:PsK (p9 V.ps o.who (j9 o)):=by
     refine⟨?_,CA7 hp.ok _ _⟩;unfold p9;split
     ·split
      ·exact BE7 hp.nd _ _
      ·exact hp.nd
     ·exact hp.nd
    have hbb:∀j,Kx j->I9 j (p9 V.ps o.who (j9 o))+bw4 j (be4 V.L { o with id:=V.n })<=1152921504606846976:=fun j hj=>by have a:=hr j hj;have b:=Fw7 hL2 j;have c:=hb j hj;unfold D5 at c;rw[ht j];dsimp only at a b;rw[hh]at a;omega
    have hw:=IM7 _ htk hT hbb hk;have a:=hr k hk;rw[hh]at a;unfold D5;dsimp only;rw[hw,ht k];omega
   ·rfl
theorem NV7{p:Ps}(hp:PsK p)(who:ByteArray){i:It}(hi:s9 i=true)(hb:∀k,Kx k->I9 k p+p8 i k<=1152921504606846976){k:Int}(hk:Kx k):I9 k (cn4 p who i)=I9 k p+p8 i k:=by
 obtain⟨a0,a1,a2,a3⟩:=Ah7.1 hi;have z0:Kx 0:=⟨by decide,by decide⟩
 have z1:Kx 1:=⟨by decide,by decide⟩
 have z2:Kx 2:=⟨by decide,by decide⟩
 have z3:Kx 3:=⟨by decide,by decide⟩
 have b0:I9 0 p+i.x0<=_:=hb 0 z0;have b1:I9 1 p+i.x1<=_:=hb 1 z1;have b2:I9 2 p+i.x2<=_:=hb 2 z2;have b3:I9 3 p+i.x3<=_:=hb 3 z3;have g0:=hp.give who 0 a0.1;have g1:=g0.give who 1 a1.1;have g2:=g1.give who 2 a2.1;have e0:=fun k hk=>Cc7 (k:=k) hp who z0 hk a0.1 b0
 have e1:=fun k hk=>Cc7 (k:=k) g0 who z1 hk a1.1 (by rw[e0 1 z1,if_neg (by decide)];omega)
 have e2:=fun k hk=>Cc7 (k:=k) g1 who z2 hk a2.1 (by rw[e1 2 z2,e0 2 z2,if_neg (by decide),if_neg (by decide)];omega)
 have e3:=fun k hk=>Cc7 (k:=k) g2 who z3 hk a3.1 (by rw[e2 3 z3,e1 3 z3,e0 3 z3,if_neg (by decide),if_neg (by decide),if_neg (by decide)];omega)
 unfold cn4;rw[e3 k hk,e2 k hk,e1 k hk,e0 k hk];have h2:k=0\/k=1\/k=2\/k=3:=by have:=hk.k0;have:=hk.k3;omega
 rcases h2 with rfl|rfl|rfl|rfl
 ·show _+i.x0+0+0+0=_+i.x0;omega
 ·show _+0+i.x1+0+0=_+i.x1;omega
 ·show _+0+0+i.x2+0=_+i.x2;omega
 ·show _+0+0+0+i.x3=_+i.x3;omega
theorem Mo7{V:Vs}{who:ByteArray}{id:Int}(hp:PsK V.ps)(hL:∀x∈V.L,MayP x)(hb:∀k,Kx k->D5 V k<=1152921504606846976){k:Int}(hk:Kx k):D5 (C7 V who id).2 k=D5 V k:=by
 unfold C7;split
 ·rename_i h
  obtain⟨he,hm⟩:=Do7 h;have hx:=hL _ hm;have h1:bv4 (s7 V.L id).o=true:=Av7.2 ⟨show(1:Int)<=1 by decide,show(1:Int)<=1099511627776 by decide,hx.who0,hx.who1,hx.item0,hx.item1,hx.cnt0,hx.cnt1,hx.price0,hx.price1⟩
  have hs:∀k,aM4 k V.L=p8 (j9 (s7 V.L id).o) k+aM4 k (s7 V.L id).L/\∀x∈(s7 V.L id).L,MayP x:=fun k=>by
   unfold s7 at he ⊢
   cases hf:V.L.findIdx? (fun o=>o.id==id)with
   | none=>rw[hf]at he;cases he
   | some i=>
    obtain⟨hi,_⟩:=List.findIdx?_eq_some_iff_getElem.1 hf;exact⟨NT7 hi k,fun x hx=>hL x (List.mem_of_mem_eraseIdx hx)⟩
  have hw:=NV7 hp who (CK7 h1).2 (fun j hj=>by have a:=hb j hj;have b:=(hs j).1;have c:=Fw7 (hs j).2 j;unfold D5 at a;omega) hk;unfold D5;dsimp only;rw[hw,(hs k).1];omega
 ·rfl
theorem IP7{V:Vs}{k:ByteArray}{i:It}(hp:PsK V.ps)(j:Int):D5 ⟨F9 V.ps k i,V.L,V.n⟩ j=D5 V j+(if K7 V.ps k i=0 then p8 i j else 0)/\PsK (F9 V.ps k i)/\(K7 V.ps k i=0->s9 i=true):=by
 have hk:PsK (F9 V.ps k i):=by
  refine⟨?_,La7 hp.ok _ _⟩;unfold F9;split
  ·split
   ·exact BE7 hp.nd _ _
   ·exact hp.nd
  ·exact hp.nd
 refine⟨?_,hk,?_⟩
 ·unfold D5 K7 F9;dsimp only;split
  ·rename_i hc
   cases ha:C6 [k9 V.ps k,i] it0 with
   | none=>simp
   | some s=>
    have e:s=N6 (N6 it0 (k9 V.ps k)) i:=by
     simp only[C6]at ha;split at ha
     ·split at ha
      ·cases ha;rfl
      ·cases ha
     ·cases ha
    simp only[Option.isSome_some,if_true];rw[Ej7 hp.nd,e,Dr7,Dr7,BN7];omega
  ·rw[if_neg (by decide)];omega
 ·unfold K7;split
  ·rename_i hc
   exact fun _=>hc.2
  ·exact fun h=>(by cases h)
theorem Mp7{V:Vs}{k:ByteArray}{i:It}(hp:PsK V.ps)(j:Int):D5 ⟨p9 V.ps k i,V.L,V.n⟩ j=D5 V j-(if m9 V.ps k i=0 then p8 i j else 0)/\PsK (p9 V.ps k i)/\(m9 V.ps k i=0->s9 i=true):=by
 have hk:PsK (p9 V.ps k i):=by
  refine⟨?_,CA7 hp.ok _ _⟩;unfold p9;split
  ·split
   ·exact BE7 hp.nd _ _
   ·exact hp.nd
  ·exact hp.nd
 refine⟨?_,hk,?_⟩
 ·unfold D5 m9 p9;dsimp only;split
  ·split
   ·rw[Ej7 hp.nd,Lh7,if_pos rfl];omega
   ·rw[if_neg (by decide)];omega
  ·rw[if_neg (by decide)];omega
 ·unfold m9;split
  ·rename_i hc
   exact fun _=>hc.2
  ·exact fun h=>(by cases h)
theorem Go7(k:Int):∀(a b:List It),al4 k (a++b)=al4 k a+al4 k b
 | [],b=>by show al4 k b=0+al4 k b;omega
 | i::a,b=>by
  show p8 i k+al4 k (a++b)=p8 i k+al4 k a+al4 k b
  rw[Go7 k a b];omega
theorem IQ7{l l':List It}(h:l.Perm l')(k:Int):al4 k l=al4 k l':=by
 induction h with
 | nil=>rfl
 | cons x _ ih=>simp only[al4,ih]
 | swap x y l=>simp only[al4];omega
 | trans _ _ ih1 ih2=>rw[ih1,ih2]
theorem PH7{l:List It}(h:∀i∈l,s9 i=true)(k:Int):0<=al4 k l:=by
 induction l with
 | nil=>exact Int.le_refl _
 | cons i l ih=>
  have h1:=(EI7 (h i (List.mem_cons_self ..)) k).1;have h2:=ih fun y hy=>h y (List.mem_cons_of_mem i hy)
  show 0<=p8 i k+al4 k l
  omega
theorem JZ7{i:It}(h:∀k,Kx k->0<=p8 i k/\p8 i k<=1152921504606846976):s9 i=true:=
 Ah7.2 ⟨h 0 ⟨by decide,by decide⟩,h 1 ⟨by decide,by decide⟩,h 2 ⟨by decide,by decide⟩,h 3 ⟨by decide,by decide⟩⟩
theorem SF7{a b:It}(h:∀k,Kx k->p8 a k=p8 b k):a=b:=by obtain⟨a0,a1,a2,a3⟩:=a;obtain⟨b0,b1,b2,b3⟩:=b;have h0:a0=b0:=h 0 ⟨by decide,by decide⟩;have h1:a1=b1:=h 1 ⟨by decide,by decide⟩;have h2:a2=b2:=h 2 ⟨by decide,by decide⟩;have h3:a3=b3:=h 3 ⟨by decide,by decide⟩;rw[h0,h1,h2,h3]
theorem Fx7:∀(l:List It) {s t:It},(∀i∈l,s9 i=true)->s9 s=true->(∀k,Kx k->p8 t k=p8 s k+al4 k l)->(∀k,Kx k->p8 t k<=1152921504606846976)->C6 l s=some t
 | [],s,t,_,_,he,_=>by rw[SF7 (a:=t) (b:=s) fun k hk=>by rw[he k hk];show p8 s k+0=_;omega];rfl
 | i::l,s,t,h,hs,he,hb=>by
  have hi:=h i (List.mem_cons_self ..);have hl:∀x∈l,s9 x=true:=fun x hx=>h x (List.mem_cons_of_mem i hx)
  have hsi:s9 (N6 s i)=true:=JZ7 fun k hk=>by have a:=(EI7 hs k).1;have b:=(EI7 hi k).1;have c:=PH7 hl k;have d:=he k hk;have e:=hb k hk;have f:al4 k (i::l)=p8 i k+al4 k l:=rfl;rw[Dr7];omega
  rw[C6,if_pos ⟨hi,hsi⟩];refine Fx7 l hl hsi (fun k hk=>?_) hb;rw[he k hk,Dr7];show _=_+al4 k l
  have f:al4 k (i::l)=p8 i k+al4 k l:=rfl;omega
def cg4(V:Vs):List It:=(hdL V.ps).map Hd.has++V.L.map j9
theorem Rx7{p:Ps}(hn:(p.map (·.1)).Nodup)(k:Int):al4 k ((hdL p).map Hd.has)=I9 k p:=by
 have e:(hdL p).map Hd.has=(kL p).map (k9 p):=by unfold hdL;rw[List.map_map];rfl
 have e2:(p.map (·.1)).map (k9 p)=p.map (·.2):=by rw[List.map_map];exact List.map_congr_left fun x hx=>IL7 hn hx
 have h3:al4 k ((kL p).map (k9 p))=al4 k ((p.map (·.1)).map (k9 p)):=by have h4:(kL p).Perm (p.map (·.1)):=Ax7 _;exact IQ7 (h4.map (k9 p)) k
 rw[e,h3,e2];clear e e2 h3 hn
 induction p with
 | nil=>rfl
 | cons x p ih=>simp only[List.map_cons,al4,I9,ih]
theorem NW7(L:List Ord)(k:Int):al4 k (L.map j9)=aM4 k L:=by
 induction L with
 | nil=>rfl
 | cons x L ih=>simp only[List.map_cons,al4,aM4,ih]
def am4(V:Vs):It:=⟨D5 V 0,D5 V 1,D5 V 2,D5 V 3⟩
theorem Fy7(V:Vs){k:Int}(hk:Kx k):p8 (am4 V) k=D5 V k:=by
 have h2:k=0\/k=1\/k=2\/k=3:=by have:=hk.k0;have:=hk.k3;omega
 rcases h2 with rfl|rfl|rfl|rfl <;> rfl
theorem Ry7{V:Vs}(hp:PsK V.ps)(hL:∀x∈V.L,MayP x)(hb:∀k,Kx k->D5 V k<=1152921504606846976):C6 (cg4 V) it0=some (am4 V):=by
 refine Fx7 _ ?_ HG7 (fun k hk=>?_) fun k hk=>by rw[Fy7 V hk];exact hb k hk
 ·intro i hi
  rcases List.mem_append.1 hi with h|h
  ·obtain⟨x,hx,rfl⟩:=List.mem_map.1 h;unfold hdL at hx;obtain⟨y,_,rfl⟩:=List.mem_map.1 hx;exact hp.ok y
  ·obtain⟨x,hx,rfl⟩:=List.mem_map.1 h;have hx:=hL x hx;exact(CK7 (o:=x) (Av7.2 ⟨show(1:Int)<=1 by decide,show(1:Int)<=1099511627776 by decide,hx.who0,hx.who1,hx.item0,hx.item1,hx.cnt0,hx.cnt1,hx.price0,hx.price1⟩)).2
 ·unfold cg4;rw[Go7,Rx7 hp.nd,NW7,BN7,Fy7 V hk];unfold D5;omega
end Go.Proofs.YtlmhakmoioogaaaGreat
end
