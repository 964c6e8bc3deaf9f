/-
  Of.
-/
import Derived.Test.YtienbkdjkjbelaaGreatJuTM5
import Derived.Test.YtienbkdjkjbelaaGreatJuTM9
import Derived.Test.YtienbkdjkjbelaaGreatJuTM17
set_option maxHeartbeats 16000000
set_option maxRecDepth 100000
set_option linter.unusedSimpArgs false
set_option linter.unusedVariables false
section
namespace Go.Proofs.YtienbkdjkjbelaaGreat
open Go.RowKit Go.Sl
theorem Kw7{f:Nat}{o:Ord}{q:List Ord}(h:∀y q',q=y::q'->av4 o y=false):K5 f o q []=(o,q,[]):=by
 cases f with
 | zero=>rfl
 | succ f=>
  cases q with
  | nil=>rfl
  | cons y q'=>rw[K5,if_neg (by rintro⟨_,hm⟩;rw[h y q' rfl]at hm;cases hm)]
theorem Gu7{f:Nat}{o:Ord}{L:List Ord}(h:s9 o L L.length=none):m7 f o L []=(o,L,[]):=by
 cases f with
 | zero=>rfl
 | succ f=>
  rw[m7,h];simp
theorem PT7{b:Bk}{L:List Ord}(h:Rep b L){o:Ord}(hlen:L.length<32)(hm:J7 o=true)(hid:b.last<o.id)(hb:s9 o L L.length=none):
  Rep ⟨b.ps.set (m8 (bd4 o) o.buy) (af4 (b.pile (m8 (bd4 o) o.buy)) o),o.id⟩ (L++[o]):=by
 have hp:=(Fo7 h o).2.2.2.2;have hmay:=Ao7.1 hm;have hno:¬(J7 o=false\/o.id<=b.last):=by rintro(h|h);(rw[hm]at h;cases h);omega
 have hbl:b.len=L.length:=by rw[BP7 _ h.ok.n8,h.perm.length_eq]
 obtain⟨it,hit⟩:∃it:Nat,o.item=it:=⟨o.item.toNat,by have:=hmay.item0;omega⟩
 have h4:it<4:=by have:=hmay.item1;omega
 have hik:bd4 o=it:=by unfold bd4;rw[hit];rfl
 have hsim:=h.sim hit h4
 have hst:∀f,K5 f o (b.pile (m8 it (!o.buy))) []=(o,b.pile (m8 it (!o.buy)),[]):=fun f=>Kw7 fun y q' hq=>by
  cases hmy:av4 o y with
  | false=>rfl
  | true=>
   rw[hq]at hsim;obtain⟨k,hk,_⟩:=hsim.best_yes hmy;rw[hb]at hk;cases hk
 have e1:(F9 L b.last o).L=L++[o]:=by unfold F9;rw[if_neg hno,if_neg (by omega),Gu7 hb];exact if_pos (by have:=hmay.cnt0;show(0:Int)<o.cnt;omega)
 have hk8:=AV7 it (!o.buy) h4
 have e2:(E6 b o).book=⟨b.ps.set (m8 (bd4 o) o.buy) (af4 (b.pile (m8 (bd4 o) o.buy)) o),o.id⟩:=by
  unfold E6;rw[if_neg hno,if_neg (by omega)];dsimp only;rw[hik,hst];dsimp only;rw[if_pos (by have:=hmay.cnt0;show(0:Int)<o.cnt;omega)];have hset:b.ps.set (m8 it (!o.buy)) (b.pile (m8 it (!o.buy)))=b.ps:=by rw[<-EF7 b h.ok.n8 _ hk8];exact List.set_getElem_self _
  rw[hset];rfl
 rw[e1,e2]at hp;exact hp
def OfB(W:World)(Lr:List HP)(l:List Ord)(bb:Nat)(v:Value)(w:World):Prop:=
 ∃(i:Nat) (b:Bk),v=.I i/\i<=l.length/\dy4 l i/\Rep b (l.take i)/\b.last=cj4 l i/\St W (w9 bb b::Lr) w
theorem Iz7{o:Ord}{r:Bool}(h:J7 o=r)(W w:World)(L:List HP)(hS:St W L w):
  Calls Tryz.prog 187 #[.agg o.cells.toArray] w fun e w'=>e=.returned (.bool r)/\St W L w':=h▸Do7 o W w L hS
theorem JF7{o s:Ord}{r:Bool}(h:av4 o s=r)(W w:World)(L:List HP)(hS:St W L w):
  Calls Tryz.prog 189 #[.agg o.cells.toArray,.agg s.cells.toArray] w fun e w'=>e=.returned (.bool r)/\St W L w':=h▸Fa7 o s W w L hS
abbrev tB17a:List Nat:=[0,1,3,7,15,31,15,79,207,463,1023,2047]
abbrev tB17b:List Nat:=[0,1,3,7,15,31,63,63,191,447,959,1983,4095,8191]
abbrev tB17c:List Nat:=[0,0,2,0,8,31,63,0,128,511]
theorem PU7(l:List Ord)(v:Value)(W w:World)(Lr:List HP)(hl60:l.length<=10000000)(hS:St W (j7 v l::Lr) w):
  Calls Tryz.prog 148 #[v] w fun e w'=>(ei4 l/\e=.returned (.tuple #[.pointer none,.I 1])/\St W Lr w') \/
   (l.length<=32/\dy4 l l.length/\∃bb b,e=.returned (.tuple #[.P bb,.I 0])/\Rep b l/\b.last=cj4 l l.length/\St W (w9 bb b::Lr) w'):=by
 obtain⟨a,cap,rfl⟩:=hS.rowVal;by_cases h32:l.length<=32
 ·have hd32:decide ((32:Int)<(l.length:Int))=false:=by simp;omega
  go_enter Tryz.func148,Tryz.ntmps148;go_wp2_with(first|go_at_call 185;refine(Jy7 W _ _ hS).mono ?_;clear hS;rintro e w ⟨bb,rfl,hS⟩)
  go_loopw [14] (fun v wr=>OfB W (j7 (.slice a l.length cap) l::Lr) l bb v wr) (fun v _=>l.length-(intOf v).toNat)
  case atStart=>exact⟨0,bk0,rfl,by omega,fun j hj=>absurd hj (Nat.not_lt_zero _),fn4,rfl,hS⟩
  case round=>
   clear hS;obtain⟨i,b1,rfl,hi,hok,hrep,hlast,hS⟩:=hrel;have Hok:=jH hok;have Hlast:=jH hlast;clear hok hlast;by_cases hin:i=l.length
   ·subst hin;rw[List.take_length]at hrep;have Hr:=jH hrep;clear hrep;go_wp2_with fail;go_ret2;exact .inr ⟨h32,Hok.out,bb,b1,rfl,Hr.out,Hlast.out,hS.swap.drop⟩
   ·have hil:i<l.length:=by omega
    clear hin hi;obtain⟨⟨g,rfl⟩,_,_⟩:=St.rowAddr hS.drop (by omega);have hxe:l[i]=at' l i:=(m5 hil).symm;have hcells:∀{X:List HP},d8 (j7 (.S g l.length cap) l::X) g (i*6) (Ord.cells (at' l i)):=fun{X}=>by rw[<-hxe];exact d8.rowE Ord.len hil
    have hbad:bI4 l i=(!(J7 (at' l i))||(decide ((at' l i).id<=cj4 l i)||(s9 (at' l i) (l.take i) (l.take i).length).isSome)):=rfl;have hts:=LT7 hil;have hll:cj4 l (i+1)=(at' l i).id:=rfl;clear hxe;generalize at' l i=x at hcells hbad hts hll;obtain⟨xi,xu,xy,xt,xc,xp⟩:=x;simp only[Ord.cells]at hcells;have Hll:=jH hll;have Hts:=jH hts;clear hll hts;have hl32:(l.take i).length<32:=by rw[jT];omega
    obtain⟨vs,h1,h2,hS0⟩:=ae4 hS;clear hS;have hS:=hS0;clear hS0;have hla:(vs++[.I b1.last])[8]? = some (.I b1.last):=by rw[List.getElem?_append_right (by omega),h1];rfl
    have Hrep:=jH hrep;clear hrep;rw[<-Hlast.out]at hbad
    cases hm:J7 ⟨xi,xu,xy,xt,xc,xp⟩
    ·have Hbad:=jH (show bI4 l i=true by rw[hbad,hm];rfl);clear hbad;go_wp2_with(first|refine zlN hS ?_ (hc:=by exact d8.there (d8.there hcells))|refine zsN hS ?_;clear hS;intro w hS|refine zal hS ?_;clear hS;intro b w hS);refine rf3 tB17a (fun _=>false) (fun i=>if i==1 then some (.bool false)else none) [] [none,none] hS ?_;intro nd;refine zcN ?_;refine zcv ?_ (hs:=by(intro F w hS;(try clear hS0);exact Iz7 hm W w _ hS))
     iterate 2 (refine cR ?_)
     iterate 7 (refine Bk7 (by kernel_rfl) rfl ?_;refine frS ?_)
     (refine cR ?_);refine Ad7 ?_;clear hS;intro w hS;have hS2:St W [blk b _ _,blk bb _ _,sats _] w:=hS;clear hS;have hS:=hS2.unpack [_,_];clear hS2;simp only[jK,jN]at hS;go_wp2_with(fail);go_ret2
     first|exact⟨.inr ⟨i,hil,Hbad.out⟩,rfl,hS.drop.drop.drop.drop⟩|exact .inl ⟨.inr ⟨i,hil,Hbad.out⟩,rfl,hS.drop.drop.drop.drop⟩
    ·by_cases hle:xi<=b1.last
     ·have Hbad:=jH (show bI4 l i=true by rw[hbad,hm];simp[hle]);have hd:decide (xi<=b1.last)=true:=by simpa using hle
      clear hbad;go_wp2_with(first|refine zlN hS ?_ (hc:=by exact d8.there (d8.there hcells))|refine zsN hS ?_;clear hS;intro w hS|refine zal hS ?_;clear hS;intro b w hS);refine rf3 tB17a (fun _=>false) (fun i=>if i==1 then some (.bool true)else none) [] [none,none] hS ?_;intro nd;refine zcN ?_;refine zcv ?_ (hs:=by(intro F w hS;(try clear hS0);exact Iz7 hm W w _ hS))
      iterate 2 (refine cR ?_)
      iterate 1 (refine cR ?_)
      (refine zc1 ?_);refine cR ?_;refine zcn ?_;refine cR ?_;refine zc1 ?_ (hc:=by(intro F;exact i6.there (i6.here hla)))
      iterate 2 (refine cR ?_)
      refine Ad7 ?_;clear hS;intro w hS;have hS2:St W [blk b _ _,blk bb _ _,sats _] w:=hS;clear hS;have hS:=hS2.unpack [_,_];clear hS2;simp only[jK,jN]at hS;go_wp2_with(fail);go_ret2
      first|exact⟨.inr ⟨i,hil,Hbad.out⟩,rfl,hS.drop.drop.drop.drop⟩|exact .inl ⟨.inr ⟨i,hil,Hbad.out⟩,rfl,hS.drop.drop.drop.drop⟩
     ·have hd:decide (xi<=b1.last)=false:=by simpa using hle
      have hmay:=Ao7.1 hm;obtain⟨it,rfl⟩:∃it:Nat,xt=it:=⟨xt.toNat,by have:=hmay.item0;simp only at this;omega⟩
      have hit4:it<4:=by have:=hmay.item1;simp only at this;omega
      have hik:bd4 ⟨xi,xu,xy,it,xc,xp⟩=it:=rfl;have hsim:=Hrep.out.sim (o:=⟨xi,xu,xy,it,xc,xp⟩) (it:=it) rfl hit4;have hk8:=AV7 it (!xy) hit4;have hst:s9 ⟨xi,xu,xy,it,xc,xp⟩ (l.take i) (l.take i).length=none->bI4 l i=false/\Rep ⟨b1.ps.set (m8 it xy) (af4 (b1.pile (m8 it xy)) ⟨xi,xu,xy,it,xc,xp⟩),xi⟩ (l.take (i+1)):=fun hbt=>by refine⟨by rw[hbad,hm,hbt,hd];rfl,?_⟩;rw[Hts.out];exact PT7 Hrep.out hl32 hm (show b1.last<xi by omega) hbt
      have hbs:∀j,s9 ⟨xi,xu,xy,it,xc,xp⟩ (l.take i) (l.take i).length=some j->bI4 l i=true:=fun j hbt=>by rw[hbad,hbt];simp
      have hpl:(Bk.pile ⟨b1.ps,xi⟩ (m8 it xy)).length<=4294967296:=by have h6:=DZ7 b1 (m8 it xy) (AV7 it xy hit4);have h7:=Hrep.out.ok.few;exact Nat.le_trans h6 (by omega)
      have hpl2:(b1.pile (m8 it (!xy))).length<=32:=Nat.le_trans (DZ7 b1 _ hk8) Hrep.out.ok.few;clear hmay hbad hle;generalize hkk:m8 it (!xy)=k at hsim hk8 hpl2;have hk1:k<vs.length:=by omega
      have hk2:k<b1.ps.length:=by omega
      have hpk:b1.ps[k]=b1.pile k:=EF7 b1 h2 k hk8;have hvk:(vs++[Value.int .i64 b1.last])[k]? = some vs[k]:=by rw[List.getElem?_append_left hk1,jG hk1]
      have hside:=fun w L hS=>BY7 bb it hit4 (!xy) W w L hS
      rw[hkk]at hside;have Hside:=jH hside;have Hpl:=jH hpl;have Hpk:=jH hpk;clear hside hkk hpl hpk;have hset:(vs++[Value.int .i64 b1.last]).set 8 (.I xi)=vs++[.I xi]:=by rw[List.set_append_right _ _ (by omega),h1];rfl
      have Hset:=jH hset;clear hset;go_wp2_with(first|refine zlN hS ?_ (hc:=by exact d8.there (d8.there hcells))|refine zsN hS ?_;clear hS;intro w hS|refine zal hS ?_;clear hS;intro b w hS);refine rf3 tB17a (fun _=>false) (fun i=>if i==1 then some (.bool true)else none) [] [none,none] hS ?_;intro nd;refine zcN ?_;refine zcv ?_ (hs:=by(intro F w hS;(try clear hS0);exact Iz7 hm W w _ hS))
      iterate 2 (refine cR ?_)
      iterate 1 (refine cR ?_)
      (refine zc1 ?_);refine cR ?_;refine zcn ?_;refine cR ?_;refine zc1 ?_ (hc:=by(intro F;exact i6.there (i6.here hla)))
      iterate 2 (refine cR ?_)
      refine Ad7 ?_;clear hS;intro w hS;have hS2:St W [blk b _ _,blk bb _ _,sats _] w:=hS;clear hS;have hS:=hS2.unpack [_,_];clear hS2;simp only[jK,jN]at hS
      cases hq:b1.pile k with
      | nil=>
       rw[hq]at hsim;obtain⟨hb0,hr0⟩:=hst hsim.best_nil;have Hok2:=jH (Hok.out.step hb0);have Hst:=jH hr0;obtain⟨ba,ca,hvv⟩:=do4 k hk1 hk2 (hS.take .t2);rw[Hpk.out,hq]at hvv;rw[hvv]at hvk;clear hb0 hr0 hst hbs hsim hvv hq;go_wp2_with(first|go_at_call 188;refine(Hside.out _ _ hS).mono ?_;clear hS;rintro e w ⟨rfl,hS⟩|refine zl1 hS ?_);refine rf2 tB17b (fun _=>false) [] [none,none] hS ?_;intro nd;refine cR ?_;refine zcn ?_;refine zc1 ?_ (hc:=by(intro F;exact i6.there (i6.here hvk)))
       iterate 3 (refine cR ?_)
       iterate 7 (refine Bk7 (by kernel_rfl) rfl ?_;refine frS ?_)
       (refine cR ?_);refine Ad7 ?_;clear hS;intro w hS;have hS2:St W [blk b _ _,blk bb _ _,sats _] w:=hS;clear hS;have hS:=hS2.unpack [_,_];clear hS2;simp only[jK,jN]at hS;replace hS:=hS.swap.perm ((List.Perm.swap _ _ _).cons _);go_wp2_with(first|((with_reducible apply GN7 hS);rfl;rfl;rfl;(focus((conv=>lhs;whnf);try rfl));kernel_rfl;rfl;rfl;exact cI4;simp[h1];rfl;clear hS;intro w hS;try(refine frS ?_))|refine zl1 hS ?_);rw[Hset.out]at hS;have hpl:=Hpl.out;replace hS:=K8 (b:=⟨b1.ps,xi⟩) h1 h2 hS;refine rf3 tB17c (fun _=>false) (fun i=>if i==5 then some (.pointer (some ⟨bb,m8 it xy,none⟩))else if i==9 then some (.tuple #[])else none) [⟨some 9,none,fun _=>w9 bb ⟨b1.ps.set (m8 it xy) (af4 (b1.pile (m8 it xy)) ⟨xi,xu,xy,it,xc,xp⟩),xi⟩⟩] [some 9,none] hS ?_;intro nd
       iterate 2 (refine cR ?_)
       (refine zc1 ?_);refine cR ?_;refine zc1 ?_;refine zcv ?_ (hs:=by(intro F w hS;(try clear hS0);exact BY7 bb it hit4 xy W w _ hS));refine cR ?_;refine zcN ?_;refine cR ?_;refine zcv ?_ (hs:=by(intro F w hS;(try clear hS0);exact CE7 bb ⟨b1.ps,xi⟩ _ (AV7 it xy hit4) ⟨xi,xu,xy,it,xc,xp⟩ hpl W w _ hS));refine Ad7 ?_;clear hS;intro w hS;have hS2:St W [w9 bb _,blk b _ _,sats _] w:=hS;clear hS;have hS:=hS2.unpack [_,_];clear hS2;simp only[jK,jN]at hS;go_wp2_with(fail);go_roundw
       case rel=>exact⟨i+1,_,rfl,hil,Hok2.out,Hst.out,rfl.trans Hll.out.symm,hS.swap.drop⟩
       case measure=>simp[intOf];omega
      | cons y q=>
       have hS1:=bb4 k hk1 hk2 (hS.take .t2);clear hS;rw[Hpk.out,hq]at hS1;obtain⟨ga,gc,hvv⟩:=hS1.rowVal;have Hvv:=jH hvv;rw[hvv]at hS1 hvk;obtain⟨⟨g2,rfl⟩,hgc,hgn⟩:=St.rowAddr hS1 (by simp);have hS:=(hS1.take .t2).take .t3;clear hS1 hvv;rw[hq]at hsim;have hy0:0<(y::q).length:=by simp
       have hyc:∀{X:List HP},d8 (j7 (.S g2 (y::q).length gc) (y::q)::X) g2 (0*6) (Ord.cells (y::q)[0]):=fun{X}=>d8.rowE Ord.len hy0
       rw[Nat.zero_mul]at hyc;have hyc:∀{X:List HP},d8 (j7 (.S g2 (y::q).length gc) (y::q)::X) g2 0 (Ord.cells y):=hyc;have hql:(y::q).length<=32:=by rw[<-hq];exact hpl2
       cases hmt:av4 ⟨xi,xu,xy,it,xc,xp⟩ y
       ·obtain⟨hb0,hr0⟩:=hst (hsim.best_no hmt);have Hok2:=jH (Hok.out.step hb0);have Hst:=jH hr0;have Hq:=jH hq;clear hb0 hr0 hst hbs hsim hq;generalize hyq:y::q=yq at *;have hy1:0<yq.length:=by rw[<-hyq];simp
        obtain⟨yi,yu,yy,yt,yc,yp⟩:=y;simp only[Ord.cells]at hyc;clear hyq;go_wp2_with(first|go_at_call 188;refine(Hside.out _ _ hS).mono ?_;clear hS;rintro e w ⟨rfl,hS⟩|refine zl1 hS ?_);refine rf3 tB17b (fun _=>false) (fun i=>if i==12 then some (.bool false)else none) [] [none,none,none] hS ?_;intro nd;refine cR ?_;refine zcn ?_;refine zc1 ?_ (hc:=by(intro F;exact i6.here hvk))
        iterate 3 (refine cR ?_)
        (refine zcN ?_);refine cR ?_;refine zcn ?_;refine zc1 ?_ (hc:=by(intro F;exact i6.here hvk));refine cR ?_;refine zcN ?_ (hc:=by(intro F;exact d8.there (d8.there hyc)));refine zcv ?_ (hs:=by(intro F w hS;(try clear hS0);exact JF7 hmt W w _ hS));refine cR ?_;refine Ad7 ?_;clear hS;intro w hS;have hS2:St W [blk bb _ _,blk b _ _,j7 _ _,sats _] w:=hS;clear hS;have hS:=hS2.unpack [_,_,_];clear hS2;simp only[jK,jN]at hS;replace hS:=(hS.take .t3).take .t3;have hS4:=bc4 k hk1 hk2 hS;clear hS;rw[<-Hvv.out,<-Hq.out,<-Hpk.out,List.set_getElem_self,List.set_getElem_self]at hS4;have hS:=hS4.swap;clear hS4;go_wp2_with(first|((with_reducible apply GN7 hS);rfl;rfl;rfl;(focus((conv=>lhs;whnf);try rfl));kernel_rfl;rfl;rfl;exact cI4;simp[h1];rfl;clear hS;intro w hS;try(refine frS ?_))|refine zl1 hS ?_);rw[Hset.out]at hS;have hpl:=Hpl.out;replace hS:=K8 (b:=⟨b1.ps,xi⟩) h1 h2 hS;refine rf3 tB17c (fun _=>false) (fun i=>if i==5 then some (.pointer (some ⟨bb,m8 it xy,none⟩))else if i==9 then some (.tuple #[])else none) [⟨some 9,none,fun _=>w9 bb ⟨b1.ps.set (m8 it xy) (af4 (b1.pile (m8 it xy)) ⟨xi,xu,xy,it,xc,xp⟩),xi⟩⟩] [some 9,none] hS ?_;intro nd
        iterate 2 (refine cR ?_)
        (refine zc1 ?_);refine cR ?_;refine zc1 ?_;refine zcv ?_ (hs:=by(intro F w hS;(try clear hS0);exact BY7 bb it hit4 xy W w _ hS));refine cR ?_;refine zcN ?_;refine cR ?_;refine zcv ?_ (hs:=by(intro F w hS;(try clear hS0);exact CE7 bb ⟨b1.ps,xi⟩ _ (AV7 it xy hit4) ⟨xi,xu,xy,it,xc,xp⟩ hpl W w _ hS));refine Ad7 ?_;clear hS;intro w hS;have hS2:St W [w9 bb _,blk b _ _,sats _] w:=hS;clear hS;have hS:=hS2.unpack [_,_];clear hS2;simp only[jK,jN]at hS;go_wp2_with(fail);go_roundw
        case rel=>exact⟨i+1,_,rfl,hil,Hok2.out,Hst.out,rfl.trans Hll.out.symm,hS.swap.drop⟩
        case measure=>simp[intOf];omega
       ·obtain⟨j,hj,_⟩:=hsim.best_yes hmt;have Hbad:=jH (hbs j hj);clear hst hbs hsim hj hq;generalize hyq:y::q=yq at *;have hy1:0<yq.length:=by rw[<-hyq];simp
        obtain⟨yi,yu,yy,yt,yc,yp⟩:=y;simp only[Ord.cells]at hyc;clear hyq;go_wp2_with(first|go_at_call 188;refine(Hside.out _ _ hS).mono ?_;clear hS;rintro e w ⟨rfl,hS⟩|refine zl1 hS ?_);refine rf3 tB17b (fun _=>false) (fun i=>if i==12 then some (.bool true)else none) [] [none,none,none] hS ?_;intro nd;refine cR ?_;refine zcn ?_;refine zc1 ?_ (hc:=by(intro F;exact i6.here hvk))
        iterate 3 (refine cR ?_)
        (refine zcN ?_);refine cR ?_;refine zcn ?_;refine zc1 ?_ (hc:=by(intro F;exact i6.here hvk));refine cR ?_;refine zcN ?_ (hc:=by(intro F;exact d8.there (d8.there hyc)));refine zcv ?_ (hs:=by(intro F w hS;(try clear hS0);exact JF7 hmt W w _ hS));refine cR ?_;refine Ad7 ?_;clear hS;intro w hS;have hS2:St W [blk bb _ _,blk b _ _,j7 _ _,sats _] w:=hS;clear hS;have hS:=hS2.unpack [_,_,_];clear hS2;simp only[jK,jN]at hS;go_wp2_with fail;go_ret2
        first|exact⟨.inr ⟨i,hil,Hbad.out⟩,rfl,hS.drop.drop.drop.drop.drop⟩|exact .inl ⟨.inr ⟨i,hil,Hbad.out⟩,rfl,hS.drop.drop.drop.drop.drop⟩
 ·have h32':(32:Int)<(l.length:Int):=by omega
  go_enter Tryz.func148,Tryz.ntmps148;go_wp2_with fail;go_ret2
  first|exact⟨.inl (by omega),rfl,hS.drop⟩|exact .inl ⟨.inl (by omega),rfl,hS.drop⟩
section
variable{κ ν:Type}[DecidableEq κ]
theorem Fq7{k y:κ}(h:y≠k):∀l:List (κ×ν),j6 (i9 l k) y=j6 l y
 | []=>rfl
 | x::l=>by
  have ih:=Fq7 h l;unfold j6 i9 at ih ⊢;by_cases hx:x.1=k
  ·rw[List.filter_cons,if_neg (by simpa using hx),ih,List.find?_cons_of_neg (by simpa using fun e=>h (e.symm.trans hx))]
  ·rw[List.filter_cons,if_pos (by simpa using hx)];by_cases hy:x.1=y
   ·rw[List.find?_cons_of_pos (by simpa using hy),List.find?_cons_of_pos (by simpa using hy)]
   ·rw[List.find?_cons_of_neg (by simpa using hy),List.find?_cons_of_neg (by simpa using hy),ih]
theorem LU7(k:κ)(l:List (κ×ν)):j6 (i9 l k) k=none:=Gn7 fun x hx=>by have:=(List.mem_filter.1 hx).2;simpa using this
end
theorem Pp7{i:It}(h:isZ i=true):i=it0:=by obtain⟨a,b,c,d⟩:=i;simp only[isZ,jB,decide_eq_true_eq]at h;obtain⟨rfl,rfl,rfl,rfl⟩:=h;rfl
theorem Gb7(p:Ps)(k:ByteArray)(i:It):j8 (G9 p k i) k=i:=by
 unfold G9 j8
 cases h:isZ i with
 | true=>rw[if_pos rfl,LU7,Pp7 h];rfl
 | false=>rw[if_neg (by simp)];unfold j6;rw[List.find?_cons_of_pos (by simp)];rfl
theorem BE7(p:Ps){k y:ByteArray}(h:y≠k)(i:It):j8 (G9 p k i) y=j8 p y:=by
 unfold G9 j8;split
 ·rw[Fq7 h]
 ·have e:j6 ((k,i)::i9 p k) y=j6 (i9 p k) y:=by unfold j6;rw[List.find?_cons_of_neg (by simpa using fun e=>h e.symm)]
  rw[e,Fq7 h]
def L7(p:Ps):Prop:=∀k,s6 (j8 p k)=true
theorem EG7:L7 []:=fun _=>rfl
theorem EH7{p:Ps}(h:L7 p)(k:ByteArray){i:It}(hi:s6 i=true):L7 (G9 p k i):=fun y=>by
 by_cases hy:y=k
 ·rw[hy,Gb7];exact hi
 ·rw[BE7 p hy];exact h y
theorem PV7{a:Int}(h:0<=a):0<=P8 a/\P8 a<=1152921504606846976:=by unfold P8;split <;> omega
theorem Gv7{i:It}(h:s6 i=true)(k:Int){n:Int}(hn:0<=n/\n<=1152921504606846976):s6 (aE4 i k n)=true:=by
 have hi:=Ag7.1 h;unfold aE4
 repeat' split
 ·exact Ag7.2 ⟨hn,hi.2⟩
 ·exact Ag7.2 ⟨hi.1,hn,hi.2.2⟩
 ·exact Ag7.2 ⟨hi.1,hi.2.1,hn,hi.2.2.2⟩
 ·exact Ag7.2 ⟨hi.1,hi.2.1,hi.2.2.1,hn⟩
theorem Ee7{i:It}(h:s6 i=true)(k:Int):0<=r7 i k/\r7 i k<=1152921504606846976:=by
 have hi:=Ag7.1 h;unfold r7
 repeat' split
 ·exact hi.1
 ·exact hi.2.1
 ·exact hi.2.2.1
 ·exact hi.2.2.2
theorem Ak7{p:Ps}(h:L7 p)(who:ByteArray)(k:Int){n:Int}(hn:0<=n):L7 (l5 p who k n):=
 EH7 h who (Gv7 (h who) k (PV7 (by have:=Ee7 (h who) k;omega)))
theorem Gw7{p:Ps}(h:L7 p)(k:ByteArray)(i:It):L7 (F8 p k i):=by
 unfold F8;split
 ·rename_i hc
  cases ha:B5 [j8 p k,i] it0 with
  | none=>exact h
  | some s=>
   refine EH7 h k ?_;simp only[B5]at ha;split at ha
   ·split at ha
    ·rename_i h1 h2
     cases ha
     exact h2.2
    ·cases ha
   ·cases ha
 ·exact h
theorem BF7{p:Ps}(h:L7 p)(k:ByteArray)(i:It):L7 (r8 p k i):=by
 unfold r8;split
 ·rename_i hc
  split
  ·rename_i hs
   refine EH7 h k ?_;unfold J5 at hs;simp only[jB,Bool.not_eq_true']at hs;obtain⟨⟨h1,h2⟩,h3⟩:=hs;have a:=Ag7.1 h1;have b:=Ag7.1 h2;simp only[L9,Bool.or_eq_false_iff,decide_eq_false_iff_not]at h3;unfold bl4;exact Ag7.2 ⟨⟨by simp only;omega,by simp only;omega⟩,⟨by simp only;omega,by simp only;omega⟩,⟨by simp only;omega,by simp only;omega⟩,by simp only;omega,by simp only;omega⟩
  ·exact h
 ·exact h
def x9(bb:Nat)(L:List Ord)(m:Int):HP:=fun f=>∃b:Bk,(Rep b L/\b.last<m)/\w9 bb b f
section
variable{W w:World}{R:List HP}{bb:Nat}{L:List Ord}{m:Int}
theorem aH4(h:St W (x9 bb L m::R) w):∃b:Bk,Rep b L/\b.last<m/\St W (w9 bb b::R) w:=by obtain⟨b,h⟩:=St.ex h;obtain⟨⟨h1,h2⟩,h⟩:=St.and h;exact⟨b,h1,h2,h⟩
theorem be4{b:Bk}(h1:Rep b L)(h2:b.last<m)(h:St W (w9 bb b::R) w):St W (x9 bb L m::R) w:=St.mkEx b (St.mkAnd ⟨h1,h2⟩ h)
theorem Cv7(h:St W (x9 bb L m::R) w):L.length<=32:=by obtain⟨b,hr,_,_⟩:=aH4 h;have:=hr.ok.few;rw[BP7 _ hr.ok.n8,<-hr.perm.length_eq]at this;exact this
theorem Ca7(h:St W (x9 bb L m::R) w):∀x∈L,MayP x/\x.id<m:=by obtain⟨b,hr,hl,_⟩:=aH4 h;exact fun x hx=>⟨(hr.each x hx).1,by have:=(hr.each x hx).2;omega⟩
theorem Ds7(hS:St W (x9 bb L m::R) w):
  Calls Tryz.prog 149 #[.P bb] w fun e w'=>e=.returned (.I L.length)/\St W (x9 bb L m::R) w':=by
 obtain⟨b,hr,hl,hS⟩:=aH4 hS;have e:b.len=L.length:=by rw[BP7 _ hr.ok.n8,hr.perm.length_eq]
 refine(Gp7 bb b (by have:=hr.ok.few;omega) W w R hS).mono ?_;rintro e' w' ⟨rfl,hS⟩;exact⟨by rw[e],be4 hr hl hS⟩
theorem LV7(hS:St W R w):
  Calls Tryz.prog 185 #[] w fun e w'=>∃b,e=.returned (.P b)/\St W (x9 b [] 1::R) w':=by
 refine(Jy7 W w R hS).mono ?_;rintro e w' ⟨b,rfl,hS⟩;exact⟨b,rfl,be4 fn4 (by decide) hS⟩
end
theorem Dt7(o:Ord)(hid:o.id=1)(v:Value)(W w:World)(R:List HP)(hS:St W (j7 v [o]::R) w):
  Calls Tryz.prog 148 #[v] w fun e w'=>∃u,e=.returned (.tuple #[u,.I (if J7 o=true then 0 else 1)])/\St W R w':=by
 refine(PU7 [o] v W w R (by simp) hS).mono ?_
 have hb:bI4 [o] 0=!(J7 o):=by
  have e:at' [o] 0=o:=rfl;unfold bI4;rw[e];show(!(J7 o)||(decide (o.id<=0)||false))=_
  rw[hid];simp
 rintro e w' (⟨hR,rfl,hS⟩|⟨_,hok,bb,b,rfl,_,_,hS⟩)
 ·refine⟨.pointer none,?_,hS⟩
  have:J7 o=false:=by
   rcases hR with h|⟨i,hi,hb2⟩
   ·simp at h
   ·obtain rfl:i=0:=by simp at hi;omega
    rw[hb]at hb2;simpa using hb2
  rw[this];rfl
 ·refine⟨.P bb,?_,hS.drop⟩;have:=hok 0 (by simp);rw[hb]at this;have:J7 o=true:=by simpa using this
  rw[this];rfl
abbrev Tv:TypeId:=215
abbrev w5(vb mb bb:Nat)(p:Ps)(L:List Ord)(n:Int)(R:List HP):List HP:=blk vb [.map (some mb),.P bb,.I n] 215::d9 eS eP mb p::x9 bb L n::R
theorem LW7(W w:World)(R:List HP)(hS:St W R w):
  Calls Tryz.prog 144 #[] w fun e w'=>∃vb mb bb,e=.returned (.P vb)/\St W (w5 vb mb bb [] [] 1 R) w':=by
 go_enter Tryz.func144,Tryz.ntmps144;go_wp2_with(first|(with_reducible apply CC7 (t:=212) eS eP hS);rfl;rfl;clear hS;intro mb w hS;simp only[Act.put,fA,fB,fC,Nat.reduceAdd,eP,It.cells]|go_at_call 185;refine(LV7 hS).mono ?_;clear hS;rintro e w ⟨bb,rfl,hS⟩|refine zl1 hS ?_|refine zlN hS ?_|refine zs1 hS ?_;clear hS;intro w hS|refine zsN hS ?_;clear hS;intro w hS|refine zbx hS ?_;clear hS;intro b w hS|refine zal hS ?_;clear hS;intro b w hS);go_ret;exact⟨b,mb,bb,rfl,hS.s _⟩
end Go.Proofs.YtienbkdjkjbelaaGreat
end
