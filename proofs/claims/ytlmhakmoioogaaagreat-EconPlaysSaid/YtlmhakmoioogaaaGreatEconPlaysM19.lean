/-
  Of: any orders as a book, or refused, as the document says it. For every row of orders.
  The vault: New; an offer that is refused. For every vault and order.
-/
import Derived.Test.YtlmhakmoioogaaaGreatEconPlaysM5
import Derived.Test.YtlmhakmoioogaaaGreatEconPlaysM9
import Derived.Test.YtlmhakmoioogaaaGreatEconPlaysM18
set_option maxHeartbeats 16000000
set_option maxRecDepth 100000
set_option linter.unusedSimpArgs false
set_option linter.unusedVariables false
section
namespace Go.Proofs.YtlmhakmoioogaaaGreat
open Go.RowKit Go.Sl
theorem KU7{f:Nat}{o:Ord}{q:List Ord}(h:∀y q',q=y::q'→meetO o y=false):loopF f o q []=(o,q,[]):=by
 cases f with
 | zero=>rfl
 | succ f=>
  cases q with
  | nil=>rfl
  | cons y q'=>rw[loopF,if_neg (by rintro⟨_,hm⟩;rw[h y q' rfl]at hm;cases hm)]
theorem GN7{f:Nat}{o:Ord}{L:List Ord}(h:bestTo o L L.length=none):refLoop f o L []=(o,L,[]):=by
 cases f with
 | zero=>rfl
 | succ f=>
  rw[refLoop,h]
  simp
theorem PD7{b:Bk}{L:List Ord}(h:Rep b L){o:Ord}(hlen:L.length<32)(hm:mayB o=true)(hid:b.last<o.id)(hb:bestTo o L L.length=none):
  Rep ⟨b.ps.set (sideK (itemK o) o.buy) (pushT (b.pile (sideK (itemK o) o.buy)) o),o.id⟩ (L++[o]):=by
 have hp:=(Fy7 h o).2.2.2.2
 have hmay:=Ar7.1 hm
 have hno:¬(mayB o=false∨o.id≤b.last):=by rintro(h|h);(rw[hm]at h;cases h);omega
 have hbl:b.len=L.length:=by rw[BX7 _ h.ok.n8,h.perm.length_eq]
 obtain⟨it,hit⟩:∃it:Nat,o.item=it:=⟨o.item.toNat,by have:=hmay.item0;omega⟩
 have h4:it<4:=by have:=hmay.item1;omega
 have hik:itemK o=it:=by unfold itemK;rw[hit];rfl
 have hsim:=h.sim hit h4
 have hst:∀f,loopF f o (b.pile (sideK it (!o.buy))) []=(o,b.pile (sideK it (!o.buy)),[]):=fun f=>KU7 fun y q' hq=>by
  cases hmy:meetO o y with
  | false=>rfl
  | true=>
   rw[hq]at hsim
   obtain⟨k,hk,_⟩:=hsim.best_yes hmy
   rw[hb]at hk;cases hk
 have e1:(placeR L b.last o).L=L++[o]:=by
  unfold placeR
  rw[if_neg hno,if_neg (by omega),GN7 hb]
  exact if_pos (by have:=hmay.cnt0;show(0:Int)<o.cnt;omega)
 have hk8:=Bd7 it (!o.buy) h4
 have e2:(placeB b o).book=⟨b.ps.set (sideK (itemK o) o.buy) (pushT (b.pile (sideK (itemK o) o.buy)) o),o.id⟩:=by
  unfold placeB
  rw[if_neg hno,if_neg (by omega)]
  dsimp only
  rw[hik,hst]
  dsimp only
  rw[if_pos (by have:=hmay.cnt0;show(0:Int)<o.cnt;omega)]
  have hset:b.ps.set (sideK it (!o.buy)) (b.pile (sideK it (!o.buy)))=b.ps:=by
   rw[←EM7 b h.ok.n8 _ hk8]
   exact List.set_getElem_self _
  rw[hset]
  rfl
 rw[e1,e2]at hp
 exact hp
def OfB(W:World)(Lr:List HP)(l:List Ord)(bb:Nat)(v:Value)(w:World):Prop:=
 ∃(i:Nat) (b:Bk),v=.int .i64 i∧i≤l.length∧OkTo l i∧Rep b (l.take i)∧b.last=lastOf l i∧St W (bookP bb b::Lr) w
theorem IS7{o:Ord}{r:Bool}(h:mayB o=r)(W w:World)(L:List HP)(hS:St W L w):
  Calls Tryz.prog 203 #[.agg o.cells.toArray] w fun e w'=>e=.returned (.bool r)∧St W L w':=h▸Dx7 o W w L hS
theorem Kc7{o s:Ord}{r:Bool}(h:meetO o s=r)(W w:World)(L:List HP)(hS:St W L w):
  Calls Tryz.prog 205 #[.agg o.cells.toArray,.agg s.cells.toArray] w fun e w'=>e=.returned (.bool r)∧St W L w':=h▸Fk7 o s W w L hS
theorem PE7(l:List Ord)(v:Value)(W w:World)(Lr:List HP)(hl60:l.length≤10000000)(hS:St W (pileR v l::Lr) w):
  Calls Tryz.prog 167 #[v] w fun e w'=>(Refused l∧e=.returned (.tuple #[.pointer none,.int .i64 1])∧St W Lr w') ∨
   (l.length≤32∧OkTo l l.length∧∃bb b,e=.returned (.tuple #[.pointer (some ⟨bb,0,none⟩),.int .i64 0])∧Rep b l∧b.last=lastOf l l.length∧St W (bookP bb b::Lr) w'):=by
 obtain⟨a,cap,rfl⟩:=hS.rowVal
 by_cases h32:l.length≤32
 ·have hd32:decide ((32:Int)<(l.length:Int))=false:=by simp;omega
  go_enter Tryz.func167,Tryz.ntmps167
  go_wp2_with(first|(go_at_call 201;refine(JV7 W _ _ hS).mono ?_;clear hS;rintro e w ⟨bb,rfl,hS⟩))
  go_loopw [14] (fun v wr=>OfB W (pileR (.slice a l.length cap) l::Lr) l bb v wr) (fun v _=>l.length-(intOf v).toNat)
  case atStart=>exact⟨0,bk0,rfl,by omega,fun j hj=>absurd hj (Nat.not_lt_zero _),rep0,rfl,hS⟩
  case round=>
   clear hS
   obtain⟨i,b1,rfl,hi,hok,hrep,hlast,hS⟩:=hrel
   have Hok:=Lib.hid hok
   have Hlast:=Lib.hid hlast
   clear hok hlast
   by_cases hin:i=l.length
   ·subst hin
    rw[List.take_length]at hrep
    have Hr:=Lib.hid hrep
    clear hrep
    go_wp2_with fail
    go_ret2
    exact .inr ⟨h32,Hok.out,bb,b1,rfl,Hr.out,Hlast.out,hS.swap.drop⟩
   ·have hil:i<l.length:=by omega
    clear hin hi
    obtain⟨⟨g,rfl⟩,hcap,hcn⟩:=St.rowAddr hS.drop (by omega)
    have hxe:l[i]=at' l i:=(at'_get hil).symm
    have hcells:∀{X:List HP},Cells (pileR (.slice (some ⟨g,0,none⟩) l.length cap) l::X) g (i*6) (Ord.cells (at' l i)):=fun{X}=>by rw[←hxe];exact Cells.rowE Ord.len hil
    have hbad:badAt l i=(!(mayB (at' l i))||(decide ((at' l i).id≤lastOf l i)||(bestTo (at' l i) (l.take i) (l.take i).length).isSome)):=rfl
    have hts:=Ml7 hil
    have hll:lastOf l (i+1)=(at' l i).id:=rfl
    clear hxe
    generalize at' l i=x at hcells hbad hts hll
    obtain⟨xi,xu,xy,xt,xc,xp⟩:=x
    simp only[Ord.cells]at hcells
    have Hll:=Lib.hid hll
    have Hts:=Lib.hid hts
    clear hll hts
    have hl32:(l.take i).length<32:=by rw[List.length_take];omega
    obtain⟨vs,h1,h2,hS0⟩:=bookOpen hS
    clear hS
    have hS:=hS0
    clear hS0
    have hla:(vs++[.int .i64 b1.last])[8]? = some (.int .i64 b1.last):=by rw[List.getElem?_append_right (by omega),h1];rfl
    have Hrep:=Lib.hid hrep
    clear hrep
    rw[←Hlast.out]at hbad
    cases hm:mayB ⟨xi,xu,xy,xt,xc,xp⟩
    ·have Hbad:=Lib.hid (show badAt l i=true by rw[hbad,hm];rfl)
     clear hbad
     go_wp2_with(first|(refine zlN hS ?_ (hc:=by exact Cells.there (Cells.there hcells)))|(refine zsN hS ?_;clear hS;intro w hS)|(refine zal hS ?_;clear hS;intro b w hS))
     refine rf3 [0,1,3,7,15,31,15,79,207,463,1023,2047] (fun _=>false) (fun i=>if i==1 then some (.bool false)else none) [] [none,none] hS ?_
     intro nd
     (refine zcN ?_)
     (refine zcv ?_ (hs:=by(intro F w hS;(try clear hS0);exact IS7 hm W w _ hS)))
     iterate 2 (refine cR ?_)
     iterate 7 (refine Bu7 (by kernel_rfl) rfl ?_;(refine frS ?_))
     (refine cR ?_)
     refine Ad7 ?_
     clear hS
     intro w hS
     have hS2:St W [blk b _ _,blk bb _ _,sats _] w:=hS
     clear hS
     have hS:=hS2.unpack [_,_]
     clear hS2
     simp only[List.cons_append,List.nil_append]at hS
     go_wp2_with(fail)
     go_ret2
     first|exact⟨.inr ⟨i,hil,Hbad.out⟩,rfl,hS.drop.drop.drop.drop⟩|exact .inl ⟨.inr ⟨i,hil,Hbad.out⟩,rfl,hS.drop.drop.drop.drop⟩
    ·by_cases hle:xi≤b1.last
     ·have Hbad:=Lib.hid (show badAt l i=true by rw[hbad,hm];simp[hle])
      have hd:decide (xi≤b1.last)=true:=by simpa using hle
      clear hbad
      go_wp2_with(first|(refine zlN hS ?_ (hc:=by exact Cells.there (Cells.there hcells)))|(refine zsN hS ?_;clear hS;intro w hS)|(refine zal hS ?_;clear hS;intro b w hS))
      refine rf3 [0,1,3,7,15,31,15,79,207,463,1023,2047] (fun _=>false) (fun i=>if i==1 then some (.bool true)else none) [] [none,none] hS ?_
      intro nd
      (refine zcN ?_)
      (refine zcv ?_ (hs:=by(intro F w hS;(try clear hS0);exact IS7 hm W w _ hS)))
      iterate 2 (refine cR ?_)
      iterate 1 (refine cR ?_)
      (refine zc1 ?_)
      (refine cR ?_)
      (refine zcn ?_)
      (refine cR ?_)
      (refine zc1 ?_ (hc:=by(intro F;exact Cell.there (Cell.here hla))))
      iterate 2 (refine cR ?_)
      refine Ad7 ?_
      clear hS
      intro w hS
      have hS2:St W [blk b _ _,blk bb _ _,sats _] w:=hS
      clear hS
      have hS:=hS2.unpack [_,_]
      clear hS2
      simp only[List.cons_append,List.nil_append]at hS
      go_wp2_with(fail)
      go_ret2
      first|exact⟨.inr ⟨i,hil,Hbad.out⟩,rfl,hS.drop.drop.drop.drop⟩|exact .inl ⟨.inr ⟨i,hil,Hbad.out⟩,rfl,hS.drop.drop.drop.drop⟩
     ·have hd:decide (xi≤b1.last)=false:=by simpa using hle
      have hmay:=Ar7.1 hm
      obtain⟨it,rfl⟩:∃it:Nat,xt=it:=⟨xt.toNat,by have:=hmay.item0;simp only at this;omega⟩
      have hit4:it<4:=by have:=hmay.item1;simp only at this;omega
      have hik:itemK ⟨xi,xu,xy,it,xc,xp⟩=it:=rfl
      have hsim:=Hrep.out.sim (o:=⟨xi,xu,xy,it,xc,xp⟩) (it:=it) rfl hit4
      have hk8:=Bd7 it (!xy) hit4
      have hst:bestTo ⟨xi,xu,xy,it,xc,xp⟩ (l.take i) (l.take i).length=none→badAt l i=false∧Rep ⟨b1.ps.set (sideK it xy) (pushT (b1.pile (sideK it xy)) ⟨xi,xu,xy,it,xc,xp⟩),xi⟩ (l.take (i+1)):=fun hbt=>by
       refine⟨by rw[hbad,hm,hbt,hd];rfl,?_⟩
       rw[Hts.out]
       exact PD7 Hrep.out hl32 hm (show b1.last<xi by omega) hbt
      have hbs:∀j,bestTo ⟨xi,xu,xy,it,xc,xp⟩ (l.take i) (l.take i).length=some j→badAt l i=true:=fun j hbt=>by rw[hbad,hbt];simp
      have hpl:(Bk.pile ⟨b1.ps,xi⟩ (sideK it xy)).length≤4294967296:=by
       have h6:=Eh7 b1 (sideK it xy) (Bd7 it xy hit4)
       have h7:=Hrep.out.ok.few
       exact Nat.le_trans h6 (by omega)
      have hpl2:(b1.pile (sideK it (!xy))).length≤32:=Nat.le_trans (Eh7 b1 _ hk8) Hrep.out.ok.few
      clear hmay hbad hle
      generalize hkk:sideK it (!xy)=k at hsim hk8 hpl2
      have hk1:k<vs.length:=by omega
      have hk2:k<b1.ps.length:=by omega
      have hpk:b1.ps[k]=b1.pile k:=EM7 b1 h2 k hk8
      have hvk:(vs++[Value.int .i64 b1.last])[k]? = some vs[k]:=by rw[List.getElem?_append_left hk1,List.getElem?_eq_getElem hk1]
      have hside:=fun w L hS=>Cm7 bb it hit4 (!xy) W w L hS
      rw[hkk]at hside
      have Hside:=Lib.hid hside
      have Hpl:=Lib.hid hpl
      have Hpk:=Lib.hid hpk
      clear hside hkk hpl hpk
      have hset:(vs++[Value.int .i64 b1.last]).set 8 (.int .i64 xi)=vs++[.int .i64 xi]:=by rw[List.set_append_right _ _ (by omega),h1];rfl
      have Hset:=Lib.hid hset
      clear hset
      go_wp2_with(first|(refine zlN hS ?_ (hc:=by exact Cells.there (Cells.there hcells)))|(refine zsN hS ?_;clear hS;intro w hS)|(refine zal hS ?_;clear hS;intro b w hS))
      refine rf3 [0,1,3,7,15,31,15,79,207,463,1023,2047] (fun _=>false) (fun i=>if i==1 then some (.bool true)else none) [] [none,none] hS ?_
      intro nd
      (refine zcN ?_)
      (refine zcv ?_ (hs:=by(intro F w hS;(try clear hS0);exact IS7 hm W w _ hS)))
      iterate 2 (refine cR ?_)
      iterate 1 (refine cR ?_)
      (refine zc1 ?_)
      (refine cR ?_)
      (refine zcn ?_)
      (refine cR ?_)
      (refine zc1 ?_ (hc:=by(intro F;exact Cell.there (Cell.here hla))))
      iterate 2 (refine cR ?_)
      refine Ad7 ?_
      clear hS
      intro w hS
      have hS2:St W [blk b _ _,blk bb _ _,sats _] w:=hS
      clear hS
      have hS:=hS2.unpack [_,_]
      clear hS2
      simp only[List.cons_append,List.nil_append]at hS
      cases hq:b1.pile k with
      | nil=>
       rw[hq]at hsim
       obtain⟨hb0,hr0⟩:=hst hsim.best_nil
       have Hok2:=Lib.hid (Hok.out.step hb0)
       have Hst:=Lib.hid hr0
       obtain⟨ba,ca,hvv⟩:=pileVal k hk1 hk2 (hS.take .t2)
       rw[Hpk.out,hq]at hvv
       rw[hvv]at hvk
       clear hb0 hr0 hst hbs hsim hvv hq
       go_wp2_with(first|(go_at_call 204;refine(Hside.out _ _ hS).mono ?_;clear hS;rintro e w ⟨rfl,hS⟩)|(refine zl1 hS ?_))
       refine rf2 [0,1,3,7,15,31,63,63,191,447,959,1983,4095,8191] (fun _=>false) [] [none,none] hS ?_
       intro nd
       (refine cR ?_)
       (refine zcn ?_)
       (refine zc1 ?_ (hc:=by(intro F;exact Cell.there (Cell.here hvk))))
       iterate 3 (refine cR ?_)
       iterate 7 (refine Bu7 (by kernel_rfl) rfl ?_;(refine frS ?_))
       (refine cR ?_)
       refine Ad7 ?_
       clear hS
       intro w hS
       have hS2:St W [blk b _ _,blk bb _ _,sats _] w:=hS
       clear hS
       have hS:=hS2.unpack [_,_]
       clear hS2
       simp only[List.cons_append,List.nil_append]at hS
       replace hS:=hS.swap.perm ((List.Perm.swap _ _ _).cons _)
       go_wp2_with(first|((with_reducible apply Hj7 hS);(with_reducible rfl);rfl;rfl;(focus((conv=>lhs;whnf);try rfl));kernel_rfl;rfl;rfl;(exact updS);(simp[h1]);rfl;clear hS;intro w hS;try(refine frS ?_))|(refine zl1 hS ?_))
       rw[Hset.out]at hS
       have hpl:=Hpl.out
       replace hS:=bookShut (b:=⟨b1.ps,xi⟩) h1 h2 hS
       refine rf3 [0,0,2,0,8,31,63,0,128,511] (fun _=>false) (fun i=>if i==5 then some (.pointer (some ⟨bb,sideK it xy,none⟩))else if i==9 then some (.tuple #[])else none) [⟨some 9,none,fun _=>bookP bb ⟨b1.ps.set (sideK it xy) (pushT (b1.pile (sideK it xy)) ⟨xi,xu,xy,it,xc,xp⟩),xi⟩⟩] [some 9,none] hS ?_
       intro nd
       iterate 2 (refine cR ?_)
       (refine zc1 ?_)
       (refine cR ?_)
       (refine zc1 ?_)
       (refine zcv ?_ (hs:=by(intro F w hS;(try clear hS0);exact Cm7 bb it hit4 xy W w _ hS)))
       (refine cR ?_)
       (refine zcN ?_)
       (refine cR ?_)
       (refine zcv ?_ (hs:=by(intro F w hS;(try clear hS0);exact CR7 bb ⟨b1.ps,xi⟩ _ (Bd7 it xy hit4) ⟨xi,xu,xy,it,xc,xp⟩ hpl W w _ hS)))
       refine Ad7 ?_
       clear hS
       intro w hS
       have hS2:St W [bookP bb _,blk b _ _,sats _] w:=hS
       clear hS
       have hS:=hS2.unpack [_,_]
       clear hS2
       simp only[List.cons_append,List.nil_append]at hS
       go_wp2_with(fail)
       go_roundw
       case rel=>exact⟨i+1,_,rfl,hil,Hok2.out,Hst.out,rfl.trans Hll.out.symm,hS.swap.drop⟩
       case measure=>simp[intOf];omega
      | cons y q=>
       have hS1:=pileTake k hk1 hk2 (hS.take .t2)
       clear hS
       rw[Hpk.out,hq]at hS1
       obtain⟨ga,gc,hvv⟩:=hS1.rowVal
       have Hvv:=Lib.hid hvv
       rw[hvv]at hS1 hvk
       obtain⟨⟨g2,rfl⟩,hgc,hgn⟩:=St.rowAddr hS1 (by simp)
       have hS:=(hS1.take .t2).take .t3
       clear hS1 hvv
       rw[hq]at hsim
       have hy0:0<(y::q).length:=by simp
       have hyc:∀{X:List HP},Cells (pileR (.slice (some ⟨g2,0,none⟩) (y::q).length gc) (y::q)::X) g2 (0*6) (Ord.cells (y::q)[0]):=fun{X}=>Cells.rowE Ord.len hy0
       rw[Nat.zero_mul]at hyc
       have hyc:∀{X:List HP},Cells (pileR (.slice (some ⟨g2,0,none⟩) (y::q).length gc) (y::q)::X) g2 0 (Ord.cells y):=hyc
       have hql:(y::q).length≤32:=by rw[←hq];exact hpl2
       cases hmt:meetO ⟨xi,xu,xy,it,xc,xp⟩ y
       ·obtain⟨hb0,hr0⟩:=hst (hsim.best_no hmt)
        have Hok2:=Lib.hid (Hok.out.step hb0)
        have Hst:=Lib.hid hr0
        have Hq:=Lib.hid hq
        clear hb0 hr0 hst hbs hsim hq
        generalize hyq:y::q=yq at *
        have hy1:0<yq.length:=by rw[←hyq];simp
        obtain⟨yi,yu,yy,yt,yc,yp⟩:=y
        simp only[Ord.cells]at hyc
        clear hyq
        go_wp2_with(first|(go_at_call 204;refine(Hside.out _ _ hS).mono ?_;clear hS;rintro e w ⟨rfl,hS⟩)|(refine zl1 hS ?_))
        refine rf3 [0,1,3,7,15,31,63,63,191,447,959,1983,4095,8191] (fun _=>false) (fun i=>if i==12 then some (.bool false)else none) [] [none,none,none] hS ?_
        intro nd
        (refine cR ?_)
        (refine zcn ?_)
        (refine zc1 ?_ (hc:=by(intro F;exact Cell.here hvk)))
        iterate 3 (refine cR ?_)
        (refine zcN ?_)
        (refine cR ?_)
        (refine zcn ?_)
        (refine zc1 ?_ (hc:=by(intro F;exact Cell.here hvk)))
        (refine cR ?_)
        (refine zcN ?_ (hc:=by(intro F;exact Cells.there (Cells.there hyc))))
        (refine zcv ?_ (hs:=by(intro F w hS;(try clear hS0);exact Kc7 hmt W w _ hS)))
        (refine cR ?_)
        refine Ad7 ?_
        clear hS
        intro w hS
        have hS2:St W [blk bb _ _,blk b _ _,pileR _ _,sats _] w:=hS
        clear hS
        have hS:=hS2.unpack [_,_,_]
        clear hS2
        simp only[List.cons_append,List.nil_append]at hS
        replace hS:=(hS.take .t3).take .t3
        have hS4:=pileBack k hk1 hk2 hS
        clear hS
        rw[←Hvv.out,←Hq.out,←Hpk.out,List.set_getElem_self,List.set_getElem_self]at hS4
        have hS:=hS4.swap
        clear hS4
        go_wp2_with(first|((with_reducible apply Hj7 hS);(with_reducible rfl);rfl;rfl;(focus((conv=>lhs;whnf);try rfl));kernel_rfl;rfl;rfl;(exact updS);(simp[h1]);rfl;clear hS;intro w hS;try(refine frS ?_))|(refine zl1 hS ?_))
        rw[Hset.out]at hS
        have hpl:=Hpl.out
        replace hS:=bookShut (b:=⟨b1.ps,xi⟩) h1 h2 hS
        refine rf3 [0,0,2,0,8,31,63,0,128,511] (fun _=>false) (fun i=>if i==5 then some (.pointer (some ⟨bb,sideK it xy,none⟩))else if i==9 then some (.tuple #[])else none) [⟨some 9,none,fun _=>bookP bb ⟨b1.ps.set (sideK it xy) (pushT (b1.pile (sideK it xy)) ⟨xi,xu,xy,it,xc,xp⟩),xi⟩⟩] [some 9,none] hS ?_
        intro nd
        iterate 2 (refine cR ?_)
        (refine zc1 ?_)
        (refine cR ?_)
        (refine zc1 ?_)
        (refine zcv ?_ (hs:=by(intro F w hS;(try clear hS0);exact Cm7 bb it hit4 xy W w _ hS)))
        (refine cR ?_)
        (refine zcN ?_)
        (refine cR ?_)
        (refine zcv ?_ (hs:=by(intro F w hS;(try clear hS0);exact CR7 bb ⟨b1.ps,xi⟩ _ (Bd7 it xy hit4) ⟨xi,xu,xy,it,xc,xp⟩ hpl W w _ hS)))
        refine Ad7 ?_
        clear hS
        intro w hS
        have hS2:St W [bookP bb _,blk b _ _,sats _] w:=hS
        clear hS
        have hS:=hS2.unpack [_,_]
        clear hS2
        simp only[List.cons_append,List.nil_append]at hS
        go_wp2_with(fail)
        go_roundw
        case rel=>exact⟨i+1,_,rfl,hil,Hok2.out,Hst.out,rfl.trans Hll.out.symm,hS.swap.drop⟩
        case measure=>simp[intOf];omega
       ·obtain⟨j,hj,_⟩:=hsim.best_yes hmt
        have Hbad:=Lib.hid (hbs j hj)
        clear hst hbs hsim hj hq
        generalize hyq:y::q=yq at *
        have hy1:0<yq.length:=by rw[←hyq];simp
        obtain⟨yi,yu,yy,yt,yc,yp⟩:=y
        simp only[Ord.cells]at hyc
        clear hyq
        go_wp2_with(first|(go_at_call 204;refine(Hside.out _ _ hS).mono ?_;clear hS;rintro e w ⟨rfl,hS⟩)|(refine zl1 hS ?_))
        refine rf3 [0,1,3,7,15,31,63,63,191,447,959,1983,4095,8191] (fun _=>false) (fun i=>if i==12 then some (.bool true)else none) [] [none,none,none] hS ?_
        intro nd
        (refine cR ?_)
        (refine zcn ?_)
        (refine zc1 ?_ (hc:=by(intro F;exact Cell.here hvk)))
        iterate 3 (refine cR ?_)
        (refine zcN ?_)
        (refine cR ?_)
        (refine zcn ?_)
        (refine zc1 ?_ (hc:=by(intro F;exact Cell.here hvk)))
        (refine cR ?_)
        (refine zcN ?_ (hc:=by(intro F;exact Cells.there (Cells.there hyc))))
        (refine zcv ?_ (hs:=by(intro F w hS;(try clear hS0);exact Kc7 hmt W w _ hS)))
        (refine cR ?_)
        refine Ad7 ?_
        clear hS
        intro w hS
        have hS2:St W [blk bb _ _,blk b _ _,pileR _ _,sats _] w:=hS
        clear hS
        have hS:=hS2.unpack [_,_,_]
        clear hS2
        simp only[List.cons_append,List.nil_append]at hS
        go_wp2_with fail
        go_ret2
        first|exact⟨.inr ⟨i,hil,Hbad.out⟩,rfl,hS.drop.drop.drop.drop.drop⟩|exact .inl ⟨.inr ⟨i,hil,Hbad.out⟩,rfl,hS.drop.drop.drop.drop.drop⟩
 ·have h32':(32:Int)<(l.length:Int):=by omega
  go_enter Tryz.func167,Tryz.ntmps167
  go_wp2_with fail
  go_ret2
  first|exact⟨.inl (by omega),rfl,hS.drop⟩|exact .inl ⟨.inl (by omega),rfl,hS.drop⟩
section
variable{κ ν:Type}[DecidableEq κ]
theorem FA7{k y:κ}(h:y≠k):∀l:List (κ×ν),getL (delL l k) y=getL l y
 | []=>rfl
 | x::l=>by
  have ih:=FA7 h l
  unfold getL delL at ih ⊢
  by_cases hx:x.1=k
  ·rw[List.filter_cons,if_neg (by simpa using hx),ih,List.find?_cons_of_neg (by simpa using fun e=>h (e.symm.trans hx))]
  ·rw[List.filter_cons,if_pos (by simpa using hx)]
   by_cases hy:x.1=y
   ·rw[List.find?_cons_of_pos (by simpa using hy),List.find?_cons_of_pos (by simpa using hy)]
   ·rw[List.find?_cons_of_neg (by simpa using hy),List.find?_cons_of_neg (by simpa using hy),ih]
theorem Mm7(k:κ)(l:List (κ×ν)):getL (delL l k) k=none:=GD7 fun x hx=>by
 have:=(List.mem_filter.1 hx).2
 simpa using this
end
theorem Pf7{i:It}(h:isZ i=true):i=it0:=by
 obtain⟨a,b,c,d⟩:=i
 simp only[isZ,Bool.and_eq_true,decide_eq_true_eq]at h
 obtain⟨rfl,rfl,rfl,rfl⟩:=h
 rfl
theorem Gq7(p:Ps)(k:ByteArray)(i:It):purseA (layP p k i) k=i:=by
 unfold layP purseA
 cases h:isZ i with
 | true=>rw[if_pos rfl,Mm7,Pf7 h];rfl
 | false=>rw[if_neg (by simp)];unfold getL;rw[List.find?_cons_of_pos (by simp)];rfl
theorem BL7(p:Ps){k y:ByteArray}(h:y≠k)(i:It):purseA (layP p k i) y=purseA p y:=by
 unfold layP purseA
 split
 ·rw[FA7 h]
 ·have e:getL ((k,i)::delL p k) y=getL (delL p k) y:=by unfold getL;rw[List.find?_cons_of_neg (by simpa using fun e=>h e.symm)]
  rw[e,FA7 h]
def PsOk(p:Ps):Prop:=∀k,isIt (purseA p k)=true
theorem EN7:PsOk []:=fun _=>rfl
theorem EO7{p:Ps}(h:PsOk p)(k:ByteArray){i:It}(hi:isIt i=true):PsOk (layP p k i):=fun y=>by
 by_cases hy:y=k
 ·rw[hy,Gq7];exact hi
 ·rw[BL7 p hy];exact h y
theorem PF7{a:Int}(h:0≤a):0≤capI a∧capI a≤1152921504606846976:=by unfold capI;split <;> omega
theorem GO7{i:It}(h:isIt i=true)(k:Int){n:Int}(hn:0≤n∧n≤1152921504606846976):isIt (setK i k n)=true:=by
 have hi:=Ag7.1 h
 unfold setK
 repeat' split
 ·exact Ag7.2 ⟨hn,hi.2⟩
 ·exact Ag7.2 ⟨hi.1,hn,hi.2.2⟩
 ·exact Ag7.2 ⟨hi.1,hi.2.1,hn,hi.2.2.2⟩
 ·exact Ag7.2 ⟨hi.1,hi.2.1,hi.2.2.1,hn⟩
theorem El7{i:It}(h:isIt i=true)(k:Int):0≤getK i k∧getK i k≤1152921504606846976:=by
 have hi:=Ag7.1 h
 unfold getK
 repeat' split
 ·exact hi.1
 ·exact hi.2.1
 ·exact hi.2.2.1
 ·exact hi.2.2.2
theorem An7{p:Ps}(h:PsOk p)(who:ByteArray)(k:Int){n:Int}(hn:0≤n):PsOk (giveP p who k n):=
 EO7 h who (GO7 (h who) k (PF7 (by have:=El7 (h who) k;omega)))
theorem Kd7{p:Ps}(h:PsOk p)(k:ByteArray)(i:It):PsOk (putP p k i):=by
 unfold putP
 split
 ·rename_i hc
  cases ha:addL [purseA p k,i] it0 with
  | none=>exact h
  | some s=>
   refine EO7 h k ?_
   simp only[addL]at ha
   split at ha
   ·split at ha
    ·rename_i h1 h2
     cases ha
     exact h2.2
    ·cases ha
   ·cases ha
 ·exact h
theorem Co7{p:Ps}(h:PsOk p)(k:ByteArray)(i:It):PsOk (takeP p k i):=by
 unfold takeP
 split
 ·rename_i hc
  split
  ·rename_i hs
   refine EO7 h k ?_
   unfold subOk at hs
   simp only[Bool.and_eq_true,Bool.not_eq_true']at hs
   obtain⟨⟨h1,h2⟩,h3⟩:=hs
   have a:=Ag7.1 h1
   have b:=Ag7.1 h2
   simp only[lessIt,Bool.or_eq_false_iff,decide_eq_false_iff_not]at h3
   unfold subIt
   exact Ag7.2 ⟨⟨by simp only;omega,by simp only;omega⟩,⟨by simp only;omega,by simp only;omega⟩,⟨by simp only;omega,by simp only;omega⟩,by simp only;omega,by simp only;omega⟩
  ·exact h
 ·exact h
def bookL(bb:Nat)(L:List Ord)(m:Int):HP:=fun f=>∃b:Bk,(Rep b L∧b.last<m)∧bookP bb b f
section
variable{W w:World}{R:List HP}{bb:Nat}{L:List Ord}{m:Int}
theorem bookLOpen(h:St W (bookL bb L m::R) w):∃b:Bk,Rep b L∧b.last<m∧St W (bookP bb b::R) w:=by
 obtain⟨b,h⟩:=St.ex h
 obtain⟨⟨h1,h2⟩,h⟩:=St.and h
 exact⟨b,h1,h2,h⟩
theorem bookLShut{b:Bk}(h1:Rep b L)(h2:b.last<m)(h:St W (bookP bb b::R) w):St W (bookL bb L m::R) w:=St.mkEx b (St.mkAnd ⟨h1,h2⟩ h)
theorem BM7(h:St W (bookL bb L m::R) w):L.length≤32:=by
 obtain⟨b,hr,_,_⟩:=bookLOpen h
 have:=hr.ok.few
 rw[BX7 _ hr.ok.n8,←hr.perm.length_eq]at this
 exact this
theorem Bj7(h:St W (bookL bb L m::R) w):∀x∈L,MayP x∧x.id<m:=by
 obtain⟨b,hr,hl,_⟩:=bookLOpen h
 exact fun x hx=>⟨(hr.each x hx).1,by have:=(hr.each x hx).2;omega⟩
theorem DC7(hS:St W (bookL bb L m::R) w):
  Calls Tryz.prog 168 #[.pointer (some ⟨bb,0,none⟩)] w fun e w'=>e=.returned (.int .i64 L.length)∧St W (bookL bb L m::R) w':=by
 obtain⟨b,hr,hl,hS⟩:=bookLOpen hS
 have e:b.len=L.length:=by rw[BX7 _ hr.ok.n8,hr.perm.length_eq]
 refine(GG7 bb b (by have:=hr.ok.few;omega) W w R hS).mono ?_
 rintro e' w' ⟨rfl,hS⟩
 exact⟨by rw[e],bookLShut hr hl hS⟩
theorem Mn7(hS:St W R w):
  Calls Tryz.prog 201 #[] w fun e w'=>∃b,e=.returned (.pointer (some ⟨b,0,none⟩))∧St W (bookL b [] 1::R) w':=by
 refine(JV7 W w R hS).mono ?_
 rintro e w' ⟨b,rfl,hS⟩
 exact⟨b,rfl,bookLShut rep0 (by decide) hS⟩
end
theorem DD7(o:Ord)(hid:o.id=1)(v:Value)(W w:World)(R:List HP)(hS:St W (pileR v [o]::R) w):
  Calls Tryz.prog 167 #[v] w fun e w'=>∃u,e=.returned (.tuple #[u,.int .i64 (if mayB o=true then 0 else 1)])∧St W R w':=by
 refine(PE7 [o] v W w R (by simp) hS).mono ?_
 have hb:badAt [o] 0=!(mayB o):=by
  have e:at' [o] 0=o:=rfl
  unfold badAt
  rw[e]
  show(!(mayB o)||(decide (o.id≤0)||false))=_
  rw[hid];simp
 rintro e w' (⟨hR,rfl,hS⟩|⟨_,hok,bb,b,rfl,_,_,hS⟩)
 ·refine⟨.pointer none,?_,hS⟩
  have:mayB o=false:=by
   rcases hR with h|⟨i,hi,hb2⟩
   ·simp at h
   ·obtain rfl:i=0:=by simp at hi;omega
    rw[hb]at hb2
    simpa using hb2
  rw[this];rfl
 ·refine⟨.pointer (some ⟨bb,0,none⟩),?_,hS.drop⟩
  have:=hok 0 (by simp)
  rw[hb]at this
  have:mayB o=true:=by simpa using this
  rw[this];rfl
abbrev Tv:TypeId:=176
abbrev vaultL(vb mb bb:Nat)(p:Ps)(L:List Ord)(n:Int)(R:List HP):List HP:=blk vb [.map (some mb),.pointer (some ⟨bb,0,none⟩),.int .i64 n] 176::amap eS eP mb p::bookL bb L n::R
theorem Mo7(W w:World)(R:List HP)(hS:St W R w):
  Calls Tryz.prog 162 #[] w fun e w'=>∃vb mb bb,e=.returned (.pointer (some ⟨vb,0,none⟩))∧St W (vaultL vb mb bb [] [] 1 R) w':=by
 go_enter Tryz.func162,Tryz.ntmps162
 go_wp2_with(first|((with_reducible apply Dv7 (t:=173) eS eP hS);(with_reducible rfl);rfl;clear hS;intro mb w hS;(simp only[Act.put,fA,fB,fC,Nat.reduceAdd,eP,It.cells]))|(go_at_call 201;refine(Mn7 hS).mono ?_;clear hS;rintro e w ⟨bb,rfl,hS⟩)|(refine zl1 hS ?_)|(refine zlN hS ?_)|(refine zs1 hS ?_;clear hS;intro w hS)|(refine zsN hS ?_;clear hS;intro w hS)|(refine zbx hS ?_;clear hS;intro b w hS)|(refine zal hS ?_;clear hS;intro b w hS))
 go_ret
 exact⟨b,mb,bb,rfl,hS.s _⟩
end Go.Proofs.YtlmhakmoioogaaaGreat
end
