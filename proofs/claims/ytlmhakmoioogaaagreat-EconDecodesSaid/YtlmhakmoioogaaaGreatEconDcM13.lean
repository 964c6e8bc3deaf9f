/-
  Of.
-/
import Derived.Test.YtlmhakmoioogaaaGreatEconDcM4
import Derived.Test.YtlmhakmoioogaaaGreatEconDcM6
import Derived.Test.YtlmhakmoioogaaaGreatEconDcM12
set_option maxHeartbeats 16000000
set_option maxRecDepth 100000
set_option linter.unusedSimpArgs false
set_option linter.unusedVariables false
section
namespace Go.Proofs.YtlmhakmoioogaaaGreat
open Go.RowKit Go.Sl
theorem MN7{f:Nat}{o:Ord}{q:List Ord}(h:∀y q',q=y::q'->aB4 o y=false):M5 f o q []=(o,q,[]):=by
 cases f with
 | zero=>rfl
 | succ f=>
  cases q with
  | nil=>rfl
  | cons y q'=>rw[M5,if_neg (by rintro⟨_,hm⟩;rw[h y q' rfl]at hm;cases hm)]
theorem Ij7{f:Nat}{o:Ord}{L:List Ord}(h:x8 o L L.length=none):C5 f o L []=(o,L,[]):=by
 cases f with
 | zero=>rfl
 | succ f=>
  rw[C5,h];simp
theorem RQ7{b:Bk}{L:List Ord}(h:Rep b L){o:Ord}(hlen:L.length<32)(hm:O5 o=true)(hid:b.last<o.id)(hb:x8 o L L.length=none):
  Rep ⟨b.ps.set (r8 (bf4 o) o.buy) (al4 (b.pile (r8 (bf4 o) o.buy)) o),o.id⟩ (L++[o]):=by
 have hp:=(GC7 h o).2.2.2.2;have hmay:=AZ7.1 hm;have hno:¬(O5 o=false\/o.id<=b.last):=by rintro(h|h);(rw[hm]at h;cases h);omega
 have hbl:b.len=L.length:=by rw[Cw7 _ h.ok.n8,h.perm.length_eq]
 obtain⟨it,hit⟩:∃it:Nat,o.item=it:=⟨o.item.toNat,by have:=hmay.item0;omega⟩
 have h4:it<4:=by have:=hmay.item1;omega
 have hik:bf4 o=it:=by unfold bf4;rw[hit];rfl
 have hsim:=h.sim hit h4
 have hst:∀f,M5 f o (b.pile (r8 it (!o.buy))) []=(o,b.pile (r8 it (!o.buy)),[]):=fun f=>MN7 fun y q' hq=>by
  cases hmy:aB4 o y with
  | false=>rfl
  | true=>
   rw[hq]at hsim;obtain⟨k,hk,_⟩:=hsim.best_yes hmy;rw[hb]at hk;cases hk
 have e1:(ab4 L b.last o).L=L++[o]:=by unfold ab4;rw[if_neg hno,if_neg (by omega),Ij7 hb];exact if_pos (by have:=hmay.cnt0;show(0:Int)<o.cnt;omega)
 have hk8:=BA7 it (!o.buy) h4
 have e2:(F6 b o).book=⟨b.ps.set (r8 (bf4 o) o.buy) (al4 (b.pile (r8 (bf4 o) o.buy)) o),o.id⟩:=by
  unfold F6;rw[if_neg hno,if_neg (by omega)];dsimp only;rw[hik,hst];dsimp only;rw[if_pos (by have:=hmay.cnt0;show(0:Int)<o.cnt;omega)];have hset:b.ps.set (r8 it (!o.buy)) (b.pile (r8 it (!o.buy)))=b.ps:=by rw[<-FT7 b h.ok.n8 _ hk8];exact List.set_getElem_self _
  rw[hset];rfl
 rw[e1,e2]at hp;exact hp
def OfB(W:World)(Lr:List HP)(l:List Ord)(bb:Nat)(v:Value)(w:World):Prop:=
 ∃(i:Nat) (b:Bk),v=.I i/\i<=l.length/\bX4 l i/\Rep b (l.take i)/\b.last=I8 l i/\St W (A6 bb b::Lr) w
theorem Kq7{o:Ord}{r:Bool}(h:O5 o=r)(W w:World)(L:List HP)(hS:St W L w):
  Calls Tryz.prog 203 #[.agg o.cells.toArray] w fun e w'=>e=.returned (.bool r)/\St W L w':=h▸Es7 o W w L hS
theorem LF7{o s:Ord}{r:Bool}(h:aB4 o s=r)(W w:World)(L:List HP)(hS:St W L w):
  Calls Tryz.prog 205 #[.agg o.cells.toArray,.agg s.cells.toArray] w fun e w'=>e=.returned (.bool r)/\St W L w':=h▸Gp7 o s W w L hS
abbrev tB12a:List Nat:=[0,1,3,7,15,31,15,79,207,463,1023,2047]
abbrev tB12b:List Nat:=[0,1,3,7,15,31,63,63,191,447,959,1983,4095,8191]
abbrev tB12c:List Nat:=[0,0,2,0,8,31,63,0,128,511]
theorem Kr7(l:List Ord)(v:Value)(W w:World)(Lr:List HP)(hl60:l.length<=10000000)(hS:St W (i9 v l::Lr) w):
  Calls Tryz.prog 167 #[v] w fun e w'=>(ap4 l/\e=.returned (.tuple #[.pointer none,.I 1])/\St W Lr w') \/
   (l.length<=32/\bX4 l l.length/\∃bb b,e=.returned (.tuple #[.P bb,.I 0])/\Rep b l/\b.last=I8 l l.length/\St W (A6 bb b::Lr) w'):=by
 obtain⟨a,cap,rfl⟩:=hS.rowVal;by_cases h32:l.length<=32
 ·have hd32:decide ((32:Int)<(l.length:Int))=false:=by simp;omega
  go_enter Tryz.func167,Tryz.ntmps167;go_wp2_with(first|go_at_call 201;refine(Lx7 W _ _ hS).mono ?_;clear hS;rintro e w ⟨bb,rfl,hS⟩)
  go_loopw [14] (fun v wr=>OfB W (i9 (.slice a l.length cap) l::Lr) l bb v wr) (fun v _=>l.length-(intOf v).toNat)
  case atStart=>exact⟨0,bk0,rfl,by omega,fun j hj=>absurd hj (Nat.not_lt_zero _),fr4,rfl,hS⟩
  case round=>
   clear hS;obtain⟨i,b1,rfl,hi,hok,hrep,hlast,hS⟩:=hrel;have Hok:=jH hok;have Hlast:=jH hlast;clear hok hlast;by_cases hin:i=l.length
   ·subst hin;rw[List.take_length]at hrep;have Hr:=jH hrep;clear hrep;go_wp2_with fail;go_ret2;exact .inr ⟨h32,Hok.out,bb,b1,rfl,Hr.out,Hlast.out,hS.swap.drop⟩
   ·have hil:i<l.length:=by omega
    clear hin hi;obtain⟨⟨g,rfl⟩,_,_⟩:=St.rowAddr hS.drop (by omega);have hxe:l[i]=at' l i:=(x7 hil).symm;have hcells:∀{X:List HP},d7 (i9 (.S g l.length cap) l::X) g (i*6) (Ord.cells (at' l i)):=fun{X}=>by rw[<-hxe];exact d7.rowE Ord.len hil
    have hbad:aL4 l i=(!(O5 (at' l i))||(decide ((at' l i).id<=I8 l i)||(x8 (at' l i) (l.take i) (l.take i).length).isSome)):=rfl;have hts:=Jp7 hil;have hll:I8 l (i+1)=(at' l i).id:=rfl;clear hxe;generalize at' l i=x at hcells hbad hts hll;obtain⟨xi,xu,xy,xt,xc,xp⟩:=x;simp only[Ord.cells]at hcells;have Hll:=jH hll;have Hts:=jH hts;clear hll hts;have hl32:(l.take i).length<32:=by rw[jT];omega
    obtain⟨vs,h1,h2,hS0⟩:=ak4 hS;clear hS;have hS:=hS0;clear hS0;have hla:(vs++[.I b1.last])[8]? = some (.I b1.last):=by rw[List.getElem?_append_right (by omega),h1];rfl
    have Hrep:=jH hrep;clear hrep;rw[<-Hlast.out]at hbad
    cases hm:O5 ⟨xi,xu,xy,xt,xc,xp⟩
    ·have Hbad:=jH (show aL4 l i=true by rw[hbad,hm];rfl);clear hbad;go_wp2_with(first|refine zlN hS ?_ (hc:=by exact d7.there (d7.there hcells))|refine zsN hS ?_;clear hS;intro w hS|refine zal hS ?_;clear hS;intro b w hS);refine rf3 tB12a (fun _=>false) (fun i=>if i==1 then some (.bool false)else none) [] [none,none] hS ?_;intro nd;refine zcN ?_;refine zcv ?_ (hs:=by(intro F w hS;(try clear hS0);exact Kq7 hm W w _ hS))
     iterate 2 (refine cR ?_)
     iterate 7 (refine Bw7 (by kernel_rfl) rfl ?_;refine frS ?_)
     (refine cR ?_);refine Ac7 ?_;clear hS;intro w hS;have hS2:St W [blk b _ _,blk bb _ _,sats _] w:=hS;clear hS;have hS:=hS2.unpack [_,_];clear hS2;simp only[jK,jN]at hS;go_wp2_with(fail);go_ret2
     first|exact⟨.inr ⟨i,hil,Hbad.out⟩,rfl,hS.drop.drop.drop.drop⟩|exact .inl ⟨.inr ⟨i,hil,Hbad.out⟩,rfl,hS.drop.drop.drop.drop⟩
    ·by_cases hle:xi<=b1.last
     ·have Hbad:=jH (show aL4 l i=true by rw[hbad,hm];simp[hle]);have hd:decide (xi<=b1.last)=true:=by simpa using hle
      clear hbad;go_wp2_with(first|refine zlN hS ?_ (hc:=by exact d7.there (d7.there hcells))|refine zsN hS ?_;clear hS;intro w hS|refine zal hS ?_;clear hS;intro b w hS);refine rf3 tB12a (fun _=>false) (fun i=>if i==1 then some (.bool true)else none) [] [none,none] hS ?_;intro nd;refine zcN ?_;refine zcv ?_ (hs:=by(intro F w hS;(try clear hS0);exact Kq7 hm W w _ hS))
      iterate 2 (refine cR ?_)
      iterate 1 (refine cR ?_)
      (refine zc1 ?_);refine cR ?_;refine zcn ?_;refine cR ?_;refine zc1 ?_ (hc:=by(intro F;exact e8.there (e8.here hla)))
      iterate 2 (refine cR ?_)
      refine Ac7 ?_;clear hS;intro w hS;have hS2:St W [blk b _ _,blk bb _ _,sats _] w:=hS;clear hS;have hS:=hS2.unpack [_,_];clear hS2;simp only[jK,jN]at hS;go_wp2_with(fail);go_ret2
      first|exact⟨.inr ⟨i,hil,Hbad.out⟩,rfl,hS.drop.drop.drop.drop⟩|exact .inl ⟨.inr ⟨i,hil,Hbad.out⟩,rfl,hS.drop.drop.drop.drop⟩
     ·have hd:decide (xi<=b1.last)=false:=by simpa using hle
      have hmay:=AZ7.1 hm;obtain⟨it,rfl⟩:∃it:Nat,xt=it:=⟨xt.toNat,by have:=hmay.item0;simp only at this;omega⟩
      have hit4:it<4:=by have:=hmay.item1;simp only at this;omega
      have hik:bf4 ⟨xi,xu,xy,it,xc,xp⟩=it:=rfl;have hsim:=Hrep.out.sim (o:=⟨xi,xu,xy,it,xc,xp⟩) (it:=it) rfl hit4;have hk8:=BA7 it (!xy) hit4;have hst:x8 ⟨xi,xu,xy,it,xc,xp⟩ (l.take i) (l.take i).length=none->aL4 l i=false/\Rep ⟨b1.ps.set (r8 it xy) (al4 (b1.pile (r8 it xy)) ⟨xi,xu,xy,it,xc,xp⟩),xi⟩ (l.take (i+1)):=fun hbt=>by refine⟨by rw[hbad,hm,hbt,hd];rfl,?_⟩;rw[Hts.out];exact RQ7 Hrep.out hl32 hm (show b1.last<xi by omega) hbt
      have hbs:∀j,x8 ⟨xi,xu,xy,it,xc,xp⟩ (l.take i) (l.take i).length=some j->aL4 l i=true:=fun j hbt=>by rw[hbad,hbt];simp
      have hpl:(Bk.pile ⟨b1.ps,xi⟩ (r8 it xy)).length<=4294967296:=by have h6:=Fg7 b1 (r8 it xy) (BA7 it xy hit4);have h7:=Hrep.out.ok.few;exact Nat.le_trans h6 (by omega)
      have hpl2:(b1.pile (r8 it (!xy))).length<=32:=Nat.le_trans (Fg7 b1 _ hk8) Hrep.out.ok.few;clear hmay hbad hle;generalize hkk:r8 it (!xy)=k at hsim hk8 hpl2;have hk1:k<vs.length:=by omega
      have hk2:k<b1.ps.length:=by omega
      have hpk:b1.ps[k]=b1.pile k:=FT7 b1 h2 k hk8;have hvk:(vs++[Value.int .i64 b1.last])[k]? = some vs[k]:=by rw[List.getElem?_append_left hk1,jG hk1]
      have hside:=fun w L hS=>CO7 bb it hit4 (!xy) W w L hS
      rw[hkk]at hside;have Hside:=jH hside;have Hpl:=jH hpl;have Hpk:=jH hpk;clear hside hkk hpl hpk;have hset:(vs++[Value.int .i64 b1.last]).set 8 (.I xi)=vs++[.I xi]:=by rw[List.set_append_right _ _ (by omega),h1];rfl
      have Hset:=jH hset;clear hset;go_wp2_with(first|refine zlN hS ?_ (hc:=by exact d7.there (d7.there hcells))|refine zsN hS ?_;clear hS;intro w hS|refine zal hS ?_;clear hS;intro b w hS);refine rf3 tB12a (fun _=>false) (fun i=>if i==1 then some (.bool true)else none) [] [none,none] hS ?_;intro nd;refine zcN ?_;refine zcv ?_ (hs:=by(intro F w hS;(try clear hS0);exact Kq7 hm W w _ hS))
      iterate 2 (refine cR ?_)
      iterate 1 (refine cR ?_)
      (refine zc1 ?_);refine cR ?_;refine zcn ?_;refine cR ?_;refine zc1 ?_ (hc:=by(intro F;exact e8.there (e8.here hla)))
      iterate 2 (refine cR ?_)
      refine Ac7 ?_;clear hS;intro w hS;have hS2:St W [blk b _ _,blk bb _ _,sats _] w:=hS;clear hS;have hS:=hS2.unpack [_,_];clear hS2;simp only[jK,jN]at hS
      cases hq:b1.pile k with
      | nil=>
       rw[hq]at hsim;obtain⟨hb0,hr0⟩:=hst hsim.best_nil;have Hok2:=jH (Hok.out.step hb0);have Hst:=jH hr0;obtain⟨ba,ca,hvv⟩:=dz4 k hk1 hk2 (hS.take .t2);rw[Hpk.out,hq]at hvv;rw[hvv]at hvk;clear hb0 hr0 hst hbs hsim hvv hq;go_wp2_with(first|go_at_call 204;refine(Hside.out _ _ hS).mono ?_;clear hS;rintro e w ⟨rfl,hS⟩|refine zl1 hS ?_);refine rf2 tB12b (fun _=>false) [] [none,none] hS ?_;intro nd;refine cR ?_;refine zcn ?_;refine zc1 ?_ (hc:=by(intro F;exact e8.there (e8.here hvk)))
       iterate 3 (refine cR ?_)
       iterate 7 (refine Bw7 (by kernel_rfl) rfl ?_;refine frS ?_)
       (refine cR ?_);refine Ac7 ?_;clear hS;intro w hS;have hS2:St W [blk b _ _,blk bb _ _,sats _] w:=hS;clear hS;have hS:=hS2.unpack [_,_];clear hS2;simp only[jK,jN]at hS;replace hS:=hS.swap.perm ((List.Perm.swap _ _ _).cons _);go_wp2_with(first|((with_reducible apply Hr7 hS);rfl;rfl;rfl;(focus((conv=>lhs;whnf);try rfl));kernel_rfl;rfl;rfl;exact cq4;simp[h1];rfl;clear hS;intro w hS;try(refine frS ?_))|refine zl1 hS ?_);rw[Hset.out]at hS;have hpl:=Hpl.out;replace hS:=O6 (b:=⟨b1.ps,xi⟩) h1 h2 hS;refine rf3 tB12c (fun _=>false) (fun i=>if i==5 then some (.pointer (some ⟨bb,r8 it xy,none⟩))else if i==9 then some (.tuple #[])else none) [⟨some 9,none,fun _=>A6 bb ⟨b1.ps.set (r8 it xy) (al4 (b1.pile (r8 it xy)) ⟨xi,xu,xy,it,xc,xp⟩),xi⟩⟩] [some 9,none] hS ?_;intro nd
       iterate 2 (refine cR ?_)
       (refine zc1 ?_);refine cR ?_;refine zc1 ?_;refine zcv ?_ (hs:=by(intro F w hS;(try clear hS0);exact CO7 bb it hit4 xy W w _ hS));refine cR ?_;refine zcN ?_;refine cR ?_;refine zcv ?_ (hs:=by(intro F w hS;(try clear hS0);exact DK7 bb ⟨b1.ps,xi⟩ _ (BA7 it xy hit4) ⟨xi,xu,xy,it,xc,xp⟩ hpl W w _ hS));refine Ac7 ?_;clear hS;intro w hS;have hS2:St W [A6 bb _,blk b _ _,sats _] w:=hS;clear hS;have hS:=hS2.unpack [_,_];clear hS2;simp only[jK,jN]at hS;go_wp2_with(fail);go_roundw
       case rel=>exact⟨i+1,_,rfl,hil,Hok2.out,Hst.out,rfl.trans Hll.out.symm,hS.swap.drop⟩
       case measure=>simp[intOf];omega
      | cons y q=>
       have hS1:=bd4 k hk1 hk2 (hS.take .t2);clear hS;rw[Hpk.out,hq]at hS1;obtain⟨ga,gc,hvv⟩:=hS1.rowVal;have Hvv:=jH hvv;rw[hvv]at hS1 hvk;obtain⟨⟨g2,rfl⟩,hgc,hgn⟩:=St.rowAddr hS1 (by simp);have hS:=(hS1.take .t2).take .t3;clear hS1 hvv;rw[hq]at hsim;have hy0:0<(y::q).length:=by simp
       have hyc:∀{X:List HP},d7 (i9 (.S g2 (y::q).length gc) (y::q)::X) g2 (0*6) (Ord.cells (y::q)[0]):=fun{X}=>d7.rowE Ord.len hy0
       rw[Nat.zero_mul]at hyc;have hyc:∀{X:List HP},d7 (i9 (.S g2 (y::q).length gc) (y::q)::X) g2 0 (Ord.cells y):=hyc;have hql:(y::q).length<=32:=by rw[<-hq];exact hpl2
       cases hmt:aB4 ⟨xi,xu,xy,it,xc,xp⟩ y
       ·obtain⟨hb0,hr0⟩:=hst (hsim.best_no hmt);have Hok2:=jH (Hok.out.step hb0);have Hst:=jH hr0;have Hq:=jH hq;clear hb0 hr0 hst hbs hsim hq;generalize hyq:y::q=yq at *;have hy1:0<yq.length:=by rw[<-hyq];simp
        obtain⟨yi,yu,yy,yt,yc,yp⟩:=y;simp only[Ord.cells]at hyc;clear hyq;go_wp2_with(first|go_at_call 204;refine(Hside.out _ _ hS).mono ?_;clear hS;rintro e w ⟨rfl,hS⟩|refine zl1 hS ?_);refine rf3 tB12b (fun _=>false) (fun i=>if i==12 then some (.bool false)else none) [] [none,none,none] hS ?_;intro nd;refine cR ?_;refine zcn ?_;refine zc1 ?_ (hc:=by(intro F;exact e8.here hvk))
        iterate 3 (refine cR ?_)
        (refine zcN ?_);refine cR ?_;refine zcn ?_;refine zc1 ?_ (hc:=by(intro F;exact e8.here hvk));refine cR ?_;refine zcN ?_ (hc:=by(intro F;exact d7.there (d7.there hyc)));refine zcv ?_ (hs:=by(intro F w hS;(try clear hS0);exact LF7 hmt W w _ hS));refine cR ?_;refine Ac7 ?_;clear hS;intro w hS;have hS2:St W [blk bb _ _,blk b _ _,i9 _ _,sats _] w:=hS;clear hS;have hS:=hS2.unpack [_,_,_];clear hS2;simp only[jK,jN]at hS;replace hS:=(hS.take .t3).take .t3;have hS4:=be4 k hk1 hk2 hS;clear hS;rw[<-Hvv.out,<-Hq.out,<-Hpk.out,List.set_getElem_self,List.set_getElem_self]at hS4;have hS:=hS4.swap;clear hS4;go_wp2_with(first|((with_reducible apply Hr7 hS);rfl;rfl;rfl;(focus((conv=>lhs;whnf);try rfl));kernel_rfl;rfl;rfl;exact cq4;simp[h1];rfl;clear hS;intro w hS;try(refine frS ?_))|refine zl1 hS ?_);rw[Hset.out]at hS;have hpl:=Hpl.out;replace hS:=O6 (b:=⟨b1.ps,xi⟩) h1 h2 hS;refine rf3 tB12c (fun _=>false) (fun i=>if i==5 then some (.pointer (some ⟨bb,r8 it xy,none⟩))else if i==9 then some (.tuple #[])else none) [⟨some 9,none,fun _=>A6 bb ⟨b1.ps.set (r8 it xy) (al4 (b1.pile (r8 it xy)) ⟨xi,xu,xy,it,xc,xp⟩),xi⟩⟩] [some 9,none] hS ?_;intro nd
        iterate 2 (refine cR ?_)
        (refine zc1 ?_);refine cR ?_;refine zc1 ?_;refine zcv ?_ (hs:=by(intro F w hS;(try clear hS0);exact CO7 bb it hit4 xy W w _ hS));refine cR ?_;refine zcN ?_;refine cR ?_;refine zcv ?_ (hs:=by(intro F w hS;(try clear hS0);exact DK7 bb ⟨b1.ps,xi⟩ _ (BA7 it xy hit4) ⟨xi,xu,xy,it,xc,xp⟩ hpl W w _ hS));refine Ac7 ?_;clear hS;intro w hS;have hS2:St W [A6 bb _,blk b _ _,sats _] w:=hS;clear hS;have hS:=hS2.unpack [_,_];clear hS2;simp only[jK,jN]at hS;go_wp2_with(fail);go_roundw
        case rel=>exact⟨i+1,_,rfl,hil,Hok2.out,Hst.out,rfl.trans Hll.out.symm,hS.swap.drop⟩
        case measure=>simp[intOf];omega
       ·obtain⟨j,hj,_⟩:=hsim.best_yes hmt;have Hbad:=jH (hbs j hj);clear hst hbs hsim hj hq;generalize hyq:y::q=yq at *;have hy1:0<yq.length:=by rw[<-hyq];simp
        obtain⟨yi,yu,yy,yt,yc,yp⟩:=y;simp only[Ord.cells]at hyc;clear hyq;go_wp2_with(first|go_at_call 204;refine(Hside.out _ _ hS).mono ?_;clear hS;rintro e w ⟨rfl,hS⟩|refine zl1 hS ?_);refine rf3 tB12b (fun _=>false) (fun i=>if i==12 then some (.bool true)else none) [] [none,none,none] hS ?_;intro nd;refine cR ?_;refine zcn ?_;refine zc1 ?_ (hc:=by(intro F;exact e8.here hvk))
        iterate 3 (refine cR ?_)
        (refine zcN ?_);refine cR ?_;refine zcn ?_;refine zc1 ?_ (hc:=by(intro F;exact e8.here hvk));refine cR ?_;refine zcN ?_ (hc:=by(intro F;exact d7.there (d7.there hyc)));refine zcv ?_ (hs:=by(intro F w hS;(try clear hS0);exact LF7 hmt W w _ hS));refine cR ?_;refine Ac7 ?_;clear hS;intro w hS;have hS2:St W [blk bb _ _,blk b _ _,i9 _ _,sats _] w:=hS;clear hS;have hS:=hS2.unpack [_,_,_];clear hS2;simp only[jK,jN]at hS;go_wp2_with fail;go_ret2
        first|exact⟨.inr ⟨i,hil,Hbad.out⟩,rfl,hS.drop.drop.drop.drop.drop⟩|exact .inl ⟨.inr ⟨i,hil,Hbad.out⟩,rfl,hS.drop.drop.drop.drop.drop⟩
 ·have h32':(32:Int)<(l.length:Int):=by omega
  go_enter Tryz.func167,Tryz.ntmps167;go_wp2_with fail;go_ret2
  first|exact⟨.inl (by omega),rfl,hS.drop⟩|exact .inl ⟨.inl (by omega),rfl,hS.drop⟩
section
variable{κ ν:Type}[DecidableEq κ]
theorem GE7{k y:κ}(h:y≠k):∀l:List (κ×ν),p9 (l8 l k) y=p9 l y
 | []=>rfl
 | x::l=>by
  have ih:=GE7 h l;unfold p9 l8 at ih ⊢;by_cases hx:x.1=k
  ·rw[List.filter_cons,if_neg (by simpa using hx),ih,List.find?_cons_of_neg (by simpa using fun e=>h (e.symm.trans hx))]
  ·rw[List.filter_cons,if_pos (by simpa using hx)];by_cases hy:x.1=y
   ·rw[List.find?_cons_of_pos (by simpa using hy),List.find?_cons_of_pos (by simpa using hy)]
   ·rw[List.find?_cons_of_neg (by simpa using hy),List.find?_cons_of_neg (by simpa using hy),ih]
theorem NU7(k:κ)(l:List (κ×ν)):p9 (l8 l k) k=none:=NC7 fun x hx=>by have:=(List.mem_filter.1 hx).2;simpa using this
end
theorem Rm7{i:It}(h:isZ i=true):i=it0:=by obtain⟨a,b,c,d⟩:=i;simp only[isZ,jB,decide_eq_true_eq]at h;obtain⟨rfl,rfl,rfl,rfl⟩:=h;rfl
theorem HD7(p:Ps)(k:ByteArray)(i:It):r6 (M7 p k i) k=i:=by
 unfold M7 r6
 cases h:isZ i with
 | true=>rw[if_pos rfl,NU7,Rm7 h];rfl
 | false=>rw[if_neg (by simp)];unfold p9;rw[List.find?_cons_of_pos (by simp)];rfl
theorem Co7(p:Ps){k y:ByteArray}(h:y≠k)(i:It):r6 (M7 p k i) y=r6 p y:=by
 unfold M7 r6;split
 ·rw[GE7 h]
 ·have e:p9 ((k,i)::l8 p k) y=p9 (l8 p k) y:=by unfold p9;rw[List.find?_cons_of_neg (by simpa using fun e=>h e.symm)]
  rw[e,GE7 h]
def P8(p:Ps):Prop:=∀k,w8 (r6 p k)=true
theorem LG7:P8 []:=fun _=>rfl
theorem Ev7{p:Ps}(h:P8 p)(k:ByteArray){i:It}(hi:w8 i=true):P8 (M7 p k i):=fun y=>by
 by_cases hy:y=k
 ·rw[hy,HD7];exact hi
 ·rw[Co7 p hy];exact h y
theorem RR7{a:Int}(h:0<=a):0<=ci4 a/\ci4 a<=1152921504606846976:=by unfold ci4;split <;> omega
theorem Ik7{i:It}(h:w8 i=true)(k:Int){n:Int}(hn:0<=n/\n<=1152921504606846976):w8 (bN4 i k n)=true:=by
 have hi:=Ai7.1 h;unfold bN4
 repeat' split
 ·exact Ai7.2 ⟨hn,hi.2⟩
 ·exact Ai7.2 ⟨hi.1,hn,hi.2.2⟩
 ·exact Ai7.2 ⟨hi.1,hi.2.1,hn,hi.2.2.2⟩
 ·exact Ai7.2 ⟨hi.1,hi.2.1,hi.2.2.1,hn⟩
theorem Fj7{i:It}(h:w8 i=true)(k:Int):0<=G8 i k/\G8 i k<=1152921504606846976:=by
 have hi:=Ai7.1 h;unfold G8
 repeat' split
 ·exact hi.1
 ·exact hi.2.1
 ·exact hi.2.2.1
 ·exact hi.2.2.2
theorem AK7{p:Ps}(h:P8 p)(who:ByteArray)(k:Int){n:Int}(hn:0<=n):P8 (C7 p who k n):=
 Ev7 h who (Ik7 (h who) k (RR7 (by have:=Fj7 (h who) k;omega)))
theorem PX7{p:Ps}(h:P8 p)(k:ByteArray)(i:It):P8 (aM4 p k i):=by
 unfold aM4;split
 ·rename_i hc
  cases ha:y9 [r6 p k,i] it0 with
  | none=>exact h
  | some s=>
   refine Ev7 h k ?_;simp only[y9]at ha;split at ha
   ·split at ha
    ·rename_i h1 h2
     cases ha
     exact h2.2
    ·cases ha
   ·cases ha
 ·exact h
theorem GF7{p:Ps}(h:P8 p)(k:ByteArray)(i:It):P8 (K6 p k i):=by
 unfold K6;split
 ·rename_i hc
  split
  ·rename_i hs
   refine Ev7 h k ?_;unfold aK4 at hs;simp only[jB,Bool.not_eq_true']at hs;obtain⟨⟨h1,h2⟩,h3⟩:=hs;have a:=Ai7.1 h1;have b:=Ai7.1 h2;simp only[aW4,Bool.or_eq_false_iff,decide_eq_false_iff_not]at h3;unfold cr4;exact Ai7.2 ⟨⟨by simp only;omega,by simp only;omega⟩,⟨by simp only;omega,by simp only;omega⟩,⟨by simp only;omega,by simp only;omega⟩,by simp only;omega,by simp only;omega⟩
  ·exact h
 ·exact h
def r7(bb:Nat)(L:List Ord)(m:Int):HP:=fun f=>∃b:Bk,(Rep b L/\b.last<m)/\A6 bb b f
section
variable{W w:World}{R:List HP}{bb:Nat}{L:List Ord}{m:Int}
theorem aP4(h:St W (r7 bb L m::R) w):∃b:Bk,Rep b L/\b.last<m/\St W (A6 bb b::R) w:=by obtain⟨b,h⟩:=St.ex h;obtain⟨⟨h1,h2⟩,h⟩:=St.and h;exact⟨b,h1,h2,h⟩
theorem aQ4{b:Bk}(h1:Rep b L)(h2:b.last<m)(h:St W (A6 bb b::R) w):St W (r7 bb L m::R) w:=St.mkEx b (St.mkAnd ⟨h1,h2⟩ h)
theorem BP7(h:St W (r7 bb L m::R) w):L.length<=32:=by obtain⟨b,hr,_,_⟩:=aP4 h;have:=hr.ok.few;rw[Cw7 _ hr.ok.n8,<-hr.perm.length_eq]at this;exact this
theorem By7(h:St W (r7 bb L m::R) w):∀x∈L,MayP x/\x.id<m:=by obtain⟨b,hr,hl,_⟩:=aP4 h;exact fun x hx=>⟨(hr.each x hx).1,by have:=(hr.each x hx).2;omega⟩
theorem Ew7(hS:St W (r7 bb L m::R) w):
  Calls Tryz.prog 168 #[.P bb] w fun e w'=>e=.returned (.I L.length)/\St W (r7 bb L m::R) w':=by
 obtain⟨b,hr,hl,hS⟩:=aP4 hS;have e:b.len=L.length:=by rw[Cw7 _ hr.ok.n8,hr.perm.length_eq]
 refine(Ih7 bb b (by have:=hr.ok.few;omega) W w R hS).mono ?_;rintro e' w' ⟨rfl,hS⟩;exact⟨by rw[e],aQ4 hr hl hS⟩
theorem NV7(hS:St W R w):
  Calls Tryz.prog 201 #[] w fun e w'=>∃b,e=.returned (.P b)/\St W (r7 b [] 1::R) w':=by
 refine(Lx7 W w R hS).mono ?_;rintro e w' ⟨b,rfl,hS⟩;exact⟨b,rfl,aQ4 fr4 (by decide) hS⟩
end
theorem Ex7(o:Ord)(hid:o.id=1)(v:Value)(W w:World)(R:List HP)(hS:St W (i9 v [o]::R) w):
  Calls Tryz.prog 167 #[v] w fun e w'=>∃u,e=.returned (.tuple #[u,.I (if O5 o=true then 0 else 1)])/\St W R w':=by
 refine(Kr7 [o] v W w R (by simp) hS).mono ?_
 have hb:aL4 [o] 0=!(O5 o):=by
  have e:at' [o] 0=o:=rfl;unfold aL4;rw[e];show(!(O5 o)||(decide (o.id<=0)||false))=_
  rw[hid];simp
 rintro e w' (⟨hR,rfl,hS⟩|⟨_,hok,bb,b,rfl,_,_,hS⟩)
 ·refine⟨.pointer none,?_,hS⟩
  have:O5 o=false:=by
   rcases hR with h|⟨i,hi,hb2⟩
   ·simp at h
   ·obtain rfl:i=0:=by simp at hi;omega
    rw[hb]at hb2;simpa using hb2
  rw[this];rfl
 ·refine⟨.P bb,?_,hS.drop⟩;have:=hok 0 (by simp);rw[hb]at this;have:O5 o=true:=by simpa using this
  rw[this];rfl
abbrev Tv:TypeId:=176
abbrev t8(vb mb bb:Nat)(p:Ps)(L:List Ord)(n:Int)(R:List HP):List HP:=blk vb [.map (some mb),.P bb,.I n] 176::c8 eS eP mb p::r7 bb L n::R
theorem Jq7(W w:World)(R:List HP)(hS:St W R w):
  Calls Tryz.prog 162 #[] w fun e w'=>∃vb mb bb,e=.returned (.P vb)/\St W (t8 vb mb bb [] [] 1 R) w':=by
 go_enter Tryz.func162,Tryz.ntmps162;go_wp2_with(first|(with_reducible apply Ep7 (t:=173) eS eP hS);rfl;rfl;clear hS;intro mb w hS;simp only[Act.put,fA,fB,fC,Nat.reduceAdd,eP,It.cells]|go_at_call 201;refine(NV7 hS).mono ?_;clear hS;rintro e w ⟨bb,rfl,hS⟩|refine zl1 hS ?_|refine zlN hS ?_|refine zs1 hS ?_;clear hS;intro w hS|refine zsN hS ?_;clear hS;intro w hS|refine zbx hS ?_;clear hS;intro b w hS|refine zal hS ?_;clear hS;intro b w hS);go_ret;exact⟨b,mb,bb,rfl,hS.s _⟩
end Go.Proofs.YtlmhakmoioogaaaGreat
end
section
namespace Go.Sl
open Go.RowKit
def dX4(v:Value)(i:Nat):Value:=match v with
 | .tuple vs=>vs.getD i undef
 | _=>undef
section
variable{P:Program}{W:World}{ops:Array Oper}{t:List Nat}{toks:List Tok}{fresh:Nat->Bool}{pin:Nat->Option Value}{Qf:Act->Prop}{nd:Nat->Value}{i:Nat}{l:List Oper}{a:Act}{o:Oper}
theorem Ks7{x:Operand}{k:Nat}{v:Value}(hf:fresh i=false)(hn:ah4 toks i=true)(ho:o.op=.extract x k)(hg:Region.wanted o (yielded ops a.tmps)=true)(hx:a.eval x=v)
  (hv:∀F w,St W (kpL toks t i nd++F) w->∃vs:Array Value,v=.tuple vs/\vs.size=3) (hk:k<3) (h:p8 P W ops t toks fresh pin Qf nd (i+1) l (a.put o.dst (dX4 v k))):p8 P W ops t toks fresh pin Qf nd i (o::l) a:=
 Em7 hf hn hg (fun F w hS=>by
  obtain⟨vs,rfl,hs⟩:=hv F w hS;have e:vs[k]? = some (vs[k]'(by omega)):=Array.getElem?_eq_getElem (by omega)
  have e2:dX4 (.tuple vs) k=vs[k]'(by omega):=by
   show vs.getD k undef=_
   simp[Array.getD,hs,hk]
  unfold execOp;simp[ho,hx,Instr.extract,e,e2]) h
end
end Go.Sl
namespace Go.Proofs.YtlmhakmoioogaaaGreat
open Go.RowKit Go.Sl
theorem Ey7{o:Ord}{h0 h1 h2 h3:Int}(hm:MayP o)(h:m9 o=⟨h0,h1,h2,h3⟩)(W w:World)(R:List HP)(hS:St W R w):
  Calls Tryz.prog 125 #[.agg o.cells.toArray] w fun e w'=>e=.returned (.agg #[.I h0,.I h1,.I h2,.I h3])/\St W R w':=
 (My7 o hm W w R hS).mono fun e w' ⟨he,hS⟩=>⟨by rw[he,h];rfl,hS⟩
def ct4(o:Ord):Bool:=O5 { o with id:=1 }
section
variable(vb mb bb:Nat)(p:Ps)(L:List Ord)(n:Int)(o:Ord)(W w:World)(R:List HP)
theorem NW7(h:ct4 o=false)(hS:St W (t8 vb mb bb p L n R) w):
  Calls Tryz.prog 105 #[.P vb,.agg o.cells.toArray] w fun e w'=>e=.returned (.tuple #[.I 0,.I 1])/\St W (t8 vb mb bb p L n R) w':=by
 obtain⟨i,u,y,t,c,pr⟩:=o;have hm:O5 ⟨1,u,y,t,c,pr⟩=false:=h;clear h;simp only[Ord.cells];go_enter Tryz.func105,Tryz.ntmps105;go_wp2_with(first|(with_reducible apply Ct7 (n:=1) (l:=[(⟨1,u,y,t,c,pr⟩:Ord)].flatMap Ord.cells) hS);rfl;rfl;(focus(simp only[fD,fI,fJ,Act.eval,fE,fF,fG,fH,fK];try rfl));exact esS;exact rsS;rfl;rfl;rfl;rfl;rfl;decide;clear hS;intro bv w hS;refine frS ?_|go_at_call 167;refine(Ex7 ⟨1,u,y,t,c,pr⟩ rfl _ W _ _ hS).mono ?_;clear hS;rw[hm];rintro e w ⟨vu,rfl,hS⟩|refine zlN hS ?_|refine zs1 hS ?_;clear hS;intro w hS|refine zbx hS ?_;clear hS;intro b w hS)
 all_goals go_ret2
 all_goals exact⟨rfl,hS.drop⟩
theorem Kt7(h:ct4 o=true)(hL:L.length<32)(hn:n<=1099511627776)(ht:J9 p o.who (m9 o)=14)(hS:St W (t8 vb mb bb p L n R) w):
  Calls Tryz.prog 105 #[.P vb,.agg o.cells.toArray] w fun e w'=>e=.returned (.tuple #[.I 0,.I 14])/\St W (t8 vb mb bb p L n R) w':=by
 obtain⟨i,u,y,t,c,pr⟩:=o;have hm:O5 ⟨1,u,y,t,c,pr⟩=true:=h;have ht':J9 p u (m9 ⟨1,u,y,t,c,pr⟩)=14:=ht
 have hp':K6 p u (m9 ⟨1,u,y,t,c,pr⟩)=p:=by
  unfold J9 at ht';unfold K6;split at ht'
  ·rename_i hc
   rw[if_pos hc];split at ht'
   ·cases ht'
   ·rename_i hs;rw[if_neg hs]
  ·cases ht'
 have Hm:=jH hm;clear h ht;have d1:decide ((32:Int)<=(L.length:Int))=false:=by simp;omega
 have d2:decide ((1099511627776:Int)<n)=false:=by simp;omega
 simp only[Ord.cells];obtain⟨it,hit⟩:∃x,m9 ⟨1,u,y,t,c,pr⟩=x:=⟨_,rfl⟩
 rw[hit]at ht' hp';obtain⟨h0,h1,h2,h3⟩:=it;have Hit:=jH hit;have Hte:=jH ht';have Htp:=jH hp';clear hit ht' hp';go_enter Tryz.func105,Tryz.ntmps105;go_wp2_with(first|(with_reducible apply Ct7 (n:=1) (l:=[(⟨1,u,y,t,c,pr⟩:Ord)].flatMap Ord.cells) hS);rfl;rfl;(focus(simp only[fD,fI,fJ,Act.eval,fE,fF,fG,fH,fK];try rfl));exact esS;exact rsS;rfl;rfl;rfl;rfl;rfl;decide;clear hS;intro bv w hS;refine frS ?_|go_at_call 167;refine(Ex7 ⟨1,u,y,t,c,pr⟩ rfl _ W _ _ hS).mono ?_;clear hS;rw[hm];rintro e w ⟨vu,rfl,hS⟩|go_at_call 168;refine(Ew7 (hS.s (r7 bb L n::_::blk vb _ _::c8 eS eP mb p::R))).mono ?_;clear hS;rintro e w ⟨rfl,hS⟩|refine zl1 hS ?_|refine zlN hS ?_|refine zs1 hS ?_;clear hS;intro w hS|refine zbx hS ?_;clear hS;intro b w hS);refine rt 5 hS ?_
 repeat(first|refine zq1 ?_|refine zqN ?_|apply Ag7;rfl;intro w;apply Ad7;rfl;decide +kernel;(focus(simp only[fD,fI,fJ,Act.eval,fE,fF,fG,fH,fK];try rfl));intro w hS;exact Ey7 (AZ7.1 Hm.out) Hit.out W w _ hS;refine frS ?_|refine qR ?_)
 clear hS;intro w hS;simp only[jD,List.drop_zero];go_wp2_with(first|go_at_call 104;refine(Gr7 vb mb p u _ _ ⟨h0,h1,h2,h3⟩ W _ _ (hS.s (blk vb _ _::c8 eS eP mb p::r7 bb L n::blk b _ _::R))).mono ?_;clear hS;rw[Hte.out,Htp.out];rintro e w ⟨rfl,hS⟩);go_ret2;exact⟨rfl,hS.s _⟩
def cB4(L:List Ord)(o:Ord):List Trd:=(C5 (L.length+1) o L []).2.2
def dY4(L:List Ord)(o:Ord):List Ord:=if 0<(C5 (L.length+1) o L []).1.cnt then(C5 (L.length+1) o L []).2.1++[(C5 (L.length+1) o L []).1]else(C5 (L.length+1) o L []).2.1
theorem Ku7(hm:MayP o)(hid:o.id=n)(hL:L.length<32)(hS:St W (r7 bb L n::R) w):
  Calls Tryz.prog 169 #[.P bb,.agg o.cells.toArray] w fun e w'=>∃a c left,e=.returned (.tuple #[.slice a (cB4 L o).length c,.I left,.I 0])/\St W (r7 bb (dY4 L o) (n+1)::am4 (.slice a (cB4 L o).length c) (cB4 L o)::R) w':=by
 obtain⟨b,hr,hl,hS⟩:=aP4 hS;have hno:¬(O5 o=false\/o.id<=b.last):=by rintro(h|h);(rw[AZ7.2 hm]at h;cases h);omega
 refine(PV7 bb hr o W w R hS).mono ?_;rintro e w' ⟨b',ts,a,c,⟨ht,hla,hrep,_⟩,rfl,hS⟩;unfold ab4 at ht hla hrep ⊢;rw[if_neg hno,if_neg (by omega)]at ht hla hrep ⊢;dsimp only at ht hla hrep ⊢;have e1:ts=cB4 L o:=ht;subst e1;exact⟨a,c,_,rfl,aQ4 hrep (by rw[hla,hid];omega) hS⟩
structure TrB(t:Trd):Prop where
 cnt:0<=t.cnt/\t.cnt<=1048576
 item:0<=t.item/\t.item<=3
 price:0<=t.price/\t.price<=1024
 bid:0<=t.bid-t.price/\t.bid-t.price<=1024
end
theorem fb4{o x:Ord}(hx:MayP x)(ho:0<=o.cnt/\o.cnt<=1048576/\1<=o.item/\o.item<=3/\o.price<=1024)(hm:O9 o x=true):TrB (bm4 o x):=by
 unfold O9 at hm;simp only[jB,decide_eq_true_eq]at hm;obtain⟨_,h3⟩:=hm;have hc:0<=as4 o.cnt x.cnt/\as4 o.cnt x.cnt<=1048576:=by have:=hx.cnt0;unfold as4;split <;> omega
 have h1:=hx.price0;have h2:=hx.price1;unfold bm4
 cases hb:o.buy
 ·rw[if_neg (by simp)];exact⟨hc,⟨by simp only;omega,by simp only;omega⟩,⟨by simp only;omega,by simp only;omega⟩,by simp only;omega,by simp only;omega⟩
 ·rw[hb]at h3;simp only[if_true,decide_eq_true_eq]at h3;rw[if_pos rfl];exact⟨hc,⟨by simp only;omega,by simp only;omega⟩,⟨by simp only;omega,by simp only;omega⟩,by simp only;omega,by simp only;omega⟩
theorem GG7:∀(f:Nat) (o:Ord) (L:List Ord) (ts:List Trd),(∀x∈L,MayP x)->(0<=o.cnt/\o.cnt<=1048576/\1<=o.item/\o.item<=3/\o.price<=1024)->(∀t∈ts,TrB t)->∀t∈(C5 f o L ts).2.2,TrB t
 | 0,o,L,ts,_,_,h=>h
 | f+1,o,L,ts,hL,ho,h=>by
  rw[C5];by_cases h0:0<o.cnt
  ·rw[if_pos h0]
   cases hb:x8 o L L.length with
   | none=>exact h
   | some k=>
    obtain⟨hk,hm,_⟩:=Br7 hb;have hx:=hL _ (ao4 hk);have hx0:=hx.cnt0;have hmin:=FS7 h0 (show 0<(at' L k).cnt by omega);refine GG7 f _ _ _ ?_ ⟨by simp only;omega,by simp only;omega,ho.2.2.1,ho.2.2.2.1,ho.2.2.2.2⟩ ?_
    ·unfold ck4;split
     ·exact fun x hx=>hL x (List.mem_of_mem_eraseIdx hx)
     ·intro x hxm
      rcases List.mem_or_eq_of_mem_set hxm with hx'|rfl
      ·exact hL x hx'
      ·exact Ko7 hx (by omega) (by omega)
    ·intro t ht
     rcases List.mem_append.1 ht with ht|ht
     ·exact h t ht
     ·rw[List.mem_singleton.1 ht];exact fb4 hx ho hm
  ·rw[if_neg h0];exact h
def bP4(p:Ps)(t:Trd):Ps:=C7 (C7 (C7 p t.buyer t.item t.cnt) t.buyer 0 (t.cnt*(t.bid-t.price))) t.seller 0 (t.cnt*t.price)
theorem PY7{p:Ps}(h:P8 p){t:Trd}(ht:TrB t):P8 (bP4 p t):=by have h1:=FB7 ht.cnt.1 ht.cnt.2 ht.price.1 ht.price.2;have h2:=FB7 ht.cnt.1 ht.cnt.2 ht.bid.1 ht.bid.2;exact AK7 (AK7 (AK7 h _ _ ht.cnt.1) _ _ h2.1) _ _ h1.1
theorem GH7:∀(ts:List Trd) {p:Ps},P8 p->(∀t∈ts,TrB t)->P8 (ts.foldl bP4 p)
 | [],_,h,_=>h
 | t::ts,_,h,ht=>GH7 ts (PY7 h (ht t (List.mem_cons_self ..))) fun x hx=>ht x (List.mem_cons_of_mem _ hx)
def plR(bb:Nat)(L:List Ord)(m:Int)(ts:List Trd)(v:Value):HP:=fun f=>∃(a:Option Addr) (c:Nat) (left:Int),v=.tuple #[.slice a ts.length c,.I left,.I 0]/\sats [r7 bb L m,am4 (.slice a ts.length c) ts] f
section
variable{W w:World}{bb:Nat}{L:List Ord}{m n:Int}{ts:List Trd}{v:Value}{R:List HP}
theorem dZ4(h:St W (plR bb L m ts v::R) w):∃a c left,v=.tuple #[.slice a ts.length c,.I left,.I 0]/\St W (r7 bb L m::am4 (.slice a ts.length c) ts::R) w:=by obtain⟨a,h⟩:=St.ex h;obtain⟨c,h⟩:=St.ex h;obtain⟨left,h⟩:=St.ex h;obtain⟨h1,h⟩:=St.and h;refine⟨a,c,left,h1,?_⟩;exact(St.split (St.split h).swap).swap.drop.swap
theorem fc4{a:Option Addr}{c:Nat}{left:Int}(hv:v=.tuple #[.slice a ts.length c,.I left,.I 0])(h:St W (r7 bb L m::am4 (.slice a ts.length c) ts::R) w):St W (plR bb L m ts v::R) w:=by refine St.mkEx a (St.mkEx c (St.mkEx left (St.mkAnd hv ?_)));refine St.join ?_;refine St.swap (St.imp h.swap ?_);intro f hf;exact⟨fun _=>true,hf,trivial⟩
theorem ea4{L1 R1:List HP}(hS:St W L1 w)(hu:Take L1 (plR bb L m ts v) R1):∃vs:Array Value,v=.tuple vs/\vs.size=3:=by obtain⟨a,c,left,h,_⟩:=dZ4 (hS.take hu);exact⟨_,h,rfl⟩
theorem fd4{o:Ord}{L2:List Ord}(hm:MayP o)(hid:o.id=n)(hL:L.length<32)(h1:dY4 L o=L2)(h2:cB4 L o=ts)(hS:St W (r7 bb L n::R) w):
  Calls Tryz.prog 169 #[.P bb,.agg o.cells.toArray] w fun e w'=>∃v,e=.returned v/\St W (plR bb L2 (n+1) ts v::R) w':=by
 subst h1 h2;refine(Ku7 bb L n o W w R hm hid hL hS).mono ?_;rintro e w' ⟨a,c,left,rfl,hS⟩;exact⟨_,rfl,fc4 rfl hS⟩
end
def OrR(W:World)(F:Ps->List HP)(p:Ps)(ts:List Trd)(v:Value)(w:World):Prop:=
 ∃(k:Nat),v=.I k/\k<=ts.length/\St W (F ((ts.take k).foldl bP4 p)) w
section
variable(vb mb bb:Nat)(p:Ps)(L:List Ord)(n:Int)(o:Ord)(W w:World)(R:List HP)
theorem PZ7(hp:P8 p)(h:ct4 o=true)(hn0:1<=n)(hn:n<=1099511627776)(hL:L.length<32)(ht:J9 p o.who (m9 o)=0)(hS:St W (t8 vb mb bb p L n R) w):
  Calls Tryz.prog 105 #[.P vb,.agg o.cells.toArray] w fun e w'=>e=.returned (.tuple #[.I n,.I 0]) /\
   St W (t8 vb mb bb ((cB4 L { o with id:=n }).foldl bP4 (K6 p o.who (m9 o))) (dY4 L { o with id:=n }) (n+1) R) w':=by
 have hLm:=By7 hS.drop.drop;obtain⟨i,u,y,t,c,pr⟩:=o;have hm:O5 ⟨1,u,y,t,c,pr⟩=true:=h;have hm1:=AZ7.1 hm;have hmn:MayP ⟨n,u,y,t,c,pr⟩:=⟨hn0,hn,hm1.who0,hm1.who1,hm1.item0,hm1.item1,hm1.cnt0,hm1.cnt1,hm1.price0,hm1.price1⟩
 have hok1:P8 (K6 p u (m9 ⟨1,u,y,t,c,pr⟩)):=GF7 hp _ _;have htr:∀x∈cB4 L ⟨n,u,y,t,c,pr⟩,TrB x:=GG7 _ _ _ _ (fun x hx=>(hLm x hx).1) ⟨by have:=hmn.cnt0;simp only at this ⊢;omega,hmn.cnt1,hmn.item0,hmn.item1,hmn.price1⟩ (fun x hx=>(by cases hx));have ht':J9 p u (m9 ⟨1,u,y,t,c,pr⟩)=0:=ht;have eh:m9 ⟨i,u,y,t,c,pr⟩=m9 ⟨1,u,y,t,c,pr⟩:=rfl;simp only[eh];obtain⟨p1,hp1⟩:∃x,K6 p u (m9 ⟨1,u,y,t,c,pr⟩)=x:=⟨_,rfl⟩
 rw[hp1]at hok1;simp only[hp1];obtain⟨it,hit⟩:∃x,m9 ⟨1,u,y,t,c,pr⟩=x:=⟨_,rfl⟩
 rw[hit]at ht' hp1;obtain⟨h0,h1,h2,h3⟩:=it;obtain⟨ts,hts⟩:∃x,cB4 L ⟨n,u,y,t,c,pr⟩=x:=⟨_,rfl⟩
 obtain⟨L2,hL2⟩:∃x,dY4 L ⟨n,u,y,t,c,pr⟩=x:=⟨_,rfl⟩
 simp only[hts,hL2];rw[hts]at htr;have Hts:=jH hts;have HL2:=jH hL2;clear hts hL2;have Hm:=jH hm;have Hit:=jH hit;have Hte:=jH ht';have Htp:=jH hp1;have Hok:=jH hok1;have Htr:=jH htr;have d1:decide ((32:Int)<=(L.length:Int))=false:=by simp;omega
 have d2:decide ((1099511627776:Int)<n)=false:=by simp;omega
 clear hit ht' hp1 h ht eh hok1 htr hLm hm1 hp;simp only[Ord.cells];go_enter Tryz.func105,Tryz.ntmps105;go_wp2_with(first|(with_reducible apply Ct7 (n:=1) (l:=[(⟨1,u,y,t,c,pr⟩:Ord)].flatMap Ord.cells) hS);rfl;rfl;(focus(simp only[fD,fI,fJ,Act.eval,fE,fF,fG,fH,fK];try rfl));exact esS;exact rsS;rfl;rfl;rfl;rfl;rfl;decide;clear hS;intro bv w hS;refine frS ?_|go_at_call 167;refine(Ex7 ⟨1,u,y,t,c,pr⟩ rfl _ W _ _ hS).mono ?_;clear hS;rw[hm];rintro e w ⟨vu,rfl,hS⟩|go_at_call 168;refine(Ew7 (hS.s (r7 bb L n::_::blk vb _ _::c8 eS eP mb p::R))).mono ?_;clear hS;rintro e w ⟨rfl,hS⟩|refine zl1 hS ?_|refine zlN hS ?_|refine zs1 hS ?_;clear hS;intro w hS|refine zbx hS ?_;clear hS;intro b w hS);refine rt 5 hS ?_
 repeat(first|refine zq1 ?_|refine zqN ?_|apply Ag7;rfl;intro w;apply Ad7;rfl;decide +kernel;(focus(simp only[fD,fI,fJ,Act.eval,fE,fF,fG,fH,fK];try rfl));intro w hS;exact Ey7 (AZ7.1 Hm.out) Hit.out W w _ hS;refine frS ?_|refine qR ?_)
 clear hS;intro w hS;simp only[jD,List.drop_zero];go_wp2_with(first|go_at_call 104;refine(Gr7 vb mb p u _ _ ⟨h0,h1,h2,h3⟩ W _ _ (hS.s (blk vb _ _::c8 eS eP mb p::r7 bb L n::blk b _ _::R))).mono ?_;clear hS;rw[Hte.out,Htp.out];rintro e w ⟨rfl,hS⟩|refine zl1 hS ?_|refine zs1 hS ?_;clear hS;intro w hS);have hS:=hS.s (r7 bb L n::blk b _ _::blk vb _ _::c8 eS eP mb p1::R);refine rf3 [0,1,3,7,0,31,63,127,127,127,255,1535,4095] (fun i=>i==5) (fun _=>none) [⟨some 5,none,fun nd=>plR bb L2 (n+1) ts (nd 5)⟩] [some 5,none,none,none] hS ?_;intro nd;refine cR ?_;refine zcn ?_;refine cR ?_;refine zc1 ?_;refine zcN ?_;apply Az7;rfl;rfl;rfl;decide +kernel;(focus(simp only[fD,fI,fJ,Act.eval,fE,fF,fG,fH,fK];try rfl));(intro _;rfl);(intro F w hS;exact fd4 (o:=⟨n,u,y,t,c,pr⟩) hmn rfl hL HL2.out Hts.out hS);(refine frS ?_);refine cR ?_;apply Ks7 (v:=nd 5);rfl;kernel_rfl;rfl;rfl;rfl;(intro F w hS;exact ea4 hS (by exact A9));decide;(refine frS ?_);apply Ks7 (v:=nd 5);rfl;kernel_rfl;rfl;rfl;rfl;(intro F w hS;exact ea4 hS (by exact A9));decide;(refine frS ?_);apply Ks7 (v:=nd 5);rfl;kernel_rfl;rfl;rfl;rfl;(intro F w hS;exact ea4 hS (by exact A9));decide;(refine frS ?_)
 iterate 3 (refine cR ?_)
 refine Ac7 ?_;clear hS;intro w hS;have hS2:St W [plR bb _ _ _ (nd 5),blk b _ _,blk vb _ _,c8 eS eP mb p1,sats R] w:=hS;clear hS;have hS:=hS2.unpack [_,_,_,_];clear hS2;simp only[jK,jN]at hS;generalize nd 5=v5 at *;obtain⟨ta,tc,left,hv5,hS5⟩:=dZ4 hS;clear hS;subst hv5;have hS:=hS5;clear hS5;simp only[dX4,Array.getD_eq_getD_getElem?,List.getElem?_toArray,List.getElem?_cons_zero,List.getElem?_cons_succ,Option.getD_some];have htr:=Htr.out
 have hll:ts.length<=9223372036854775807:=by
  rcases St.rowCase hS.drop with ⟨_,h0,_⟩|⟨_,_,q1,q2⟩
  ·omega
  ·omega
 have hS:=hS.s (blk vb _ _::c8 eS eP mb p1::r7 bb L2 (n+1)::am4 (.slice ta ts.length tc) ts::blk b _ _::R);go_wp2_with(fail)
 go_loopw [75] (fun v wr=>OrR W (fun q=>[blk vb [.map (some mb),.P bb,.I (n+1)] 176,c8 eS eP mb q,r7 bb L2 (n+1),am4 (.slice ta ts.length tc) ts,blk b [.I n,.string u,.bool y,.I t,.I c,.I pr] 166]++R) p1 ts v wr) (fun v _=>ts.length-(intOf v).toNat)
 case atStart=>exact⟨0,rfl,Nat.zero_le _,hS⟩
 case round=>
  clear hS;obtain⟨k,rfl,hk,hS⟩:=hrel;simp only[jK,jN]at hS;by_cases hkn:k=ts.length
  ·subst hkn;rw[List.take_length]at hS;go_wp2_with(first|refine zl1 hS ?_);go_ret2;exact⟨rfl,hS.s _⟩
  ·have hk1:k<ts.length:=by omega
   clear hkn hk;obtain⟨⟨g,rfl⟩,_,_⟩:=St.rowAddr hS.drop.drop.drop (by omega);have hcells:∀{K K':List HP},Take K (am4 (.S g ts.length tc) ts) K'->d7 K g (k*8) (Trd.cells ts[k]):=fun hu=>d7.elemM (enc:=Trd.cells) Trd.len hu hk1
   have hq:P8 ((ts.take k).foldl bP4 p1):=GH7 _ Hok.out fun x hx=>htr x (List.mem_of_mem_take hx)
   have hstep:(ts.take (k+1)).foldl bP4 p1=bP4 ((ts.take k).foldl bP4 p1) ts[k]:=by rw[List.take_succ_eq_append_getElem hk1,List.foldl_append];rfl
   have hb:=htr _ (jW hk1);have Hstep:=jH hstep;have Hq:=jH hq;clear hstep hq;generalize (ts.take k).foldl bP4 p1=q at hS Hstep Hq;generalize ts[k]=x at hcells Hstep hb;obtain⟨xb,xs,xi,xj,xt,xc,xp,xd⟩:=x;obtain⟨⟨c0,c1⟩,⟨t0,t1⟩,⟨p0,p1'⟩,⟨b0,b1⟩⟩:=hb;simp only at c0 c1 t0 t1 p0 p1' b0 b1;have m1:=FB7 c0 c1 b0 b1;have m2:=FB7 c0 c1 p0 p1';have n1:xc*(xd-xp)<=9223372036854775807:=by omega
   have n2 : -9223372036854775808<=xc*(xd-xp):=by omega
   have n3:xc*xp<=9223372036854775807:=by omega
   have n4 : -9223372036854775808<=xc*xp:=by omega
   simp only[Trd.cells]at hcells;have G1:=jH (show ∀y,w8 (r6 q y)=true from Hq.out);have G2:=jH (show ∀y,w8 (r6 (C7 q xb xt xc) y)=true from AK7 Hq.out _ _ c0);have G3:=jH (show ∀y,w8 (r6 (C7 (C7 q xb xt xc) xb 0 (xc*(xd-xp))) y)=true from AK7 (AK7 Hq.out _ _ c0) _ _ m1.1);go_wp2_with(first|refine zlN hS ?_ (hc:=by exact hcells (.tail (.tail (.tail .head))))|refine zsN hS ?_;clear hS;intro w hS|refine zal hS ?_;clear hS;intro b w hS);refine Aa7 (by kernel_rfl) (by kernel_rfl) hS ?_
   repeat(first|refine zq1 ?_|refine qR ?_)
   clear hS;intro w hS;go_wp2_with(first|go_at_call 170;refine(Dp7 vb mb _ _ _ _ _ _ ?_ ?_ ?_ W _ (r7 bb L2 (n+1)::am4 (.S g ts.length tc) ts::blk _ _ 231::blk _ _ 166::R) (hS.s _)).mono ?_;(focus(with_reducible first|exact G1.out _|exact G2.out _|exact G3.out _));(focus(first|exact⟨t0,t1⟩|decide));(focus(exact⟨by omega,by omega⟩));clear hS;rintro e w ⟨rfl,hS⟩|refine zl1 hS ?_);go_roundw
   case rel=>
    refine⟨k+1,rfl,hk1,?_⟩;rw[Hstep.out];have hS3:St W (blk vb [.map (some mb),.P bb,.I (n+1)] 176::c8 eS eP mb (bP4 q ⟨xb,xs,xi,xj,xt,xc,xp,xd⟩)::_) w:=hS;exact hS3.s _
   case measure=>simp[intOf];omega
end
section
variable(k:ByteArray)(W w:World)(R:List HP)
theorem RS7(hS:St W R w):Calls Tryz.prog 47 #[.pointer none,.string k] w fun e w'=>e=.returned (.agg #[.I 0,.I 0,.I 0,.I 0])/\St W R w':=by go_enter Tryz.func47,Tryz.ntmps47;go_wp2_with(first|refine zsN hS ?_;clear hS;intro w hS|refine zal hS ?_;clear hS;intro b w hS);apply AH7;rfl;rfl;rfl;exact hS;decide +kernel;(exact x9);kernel_rfl;exact⟨rfl,hS.drop⟩
def ka:ByteArray:=⟨#[97]⟩
def kaO:Ord:=⟨0,ka,false,1,3,2⟩
end
end Go.Proofs.YtlmhakmoioogaaaGreat
end
