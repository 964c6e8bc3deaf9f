/-
  The vault's Total.
-/
import Derived.Test.YtlmhakmoioogaaaGreatEconWjM5
import Derived.Test.YtlmhakmoioogaaaGreatEconWjM20
import Derived.Test.YtlmhakmoioogaaaGreatEconWjM21
import Derived.Test.YtlmhakmoioogaaaGreatEconWjM28
import Derived.Test.YtlmhakmoioogaaaGreatEconWjM29
import Derived.Test.YtlmhakmoioogaaaGreatEconWjM33
set_option maxHeartbeats 16000000
set_option maxRecDepth 100000
set_option linter.unusedSimpArgs false
set_option linter.unusedVariables false
section
namespace Go.Proofs.YtlmhakmoioogaaaGreat
open Go.RowKit Go.Sl
abbrev cq4(v:Value)(l:List It):HP:=row v 4 29 l.length (l.flatMap It.cells)
def TtR(W:World)(F:List HP)(m:Nat)(acc:Nat->List It)(v7 vk:Value)(w:World):Prop:=
 ∃k:Nat,vk=.I k/\k<=m/\St W (cq4 v7 (acc k)::F) w
theorem CD7{α β:Type}(f:α->β)(l:List α){k:Nat}(h:k<l.length):(l.take (k+1)).map f=(l.take k).map f++[f l[k]]:=by
 rw[List.take_succ_eq_append_getElem h,List.map_append];rfl
theorem Du7(l:List It)(x:It):(l++[x]).flatMap It.cells=l.flatMap It.cells++x.cells:=by simp
theorem Kh7(vb mb bb:Nat)(p:Ps)(L:List Ord)(n:Int){N:Nat}(hw:PsW p N)(hN:N<=1000000000){t0 t1 t2 t3:Int}(ht:C5 (ce4 ⟨p,L,n⟩) it0=some ⟨t0,t1,t2,t3⟩)(W w:World)(R:List HP)(hS:St W (t8 vb mb bb p L n R) w):
  Calls Tryz.prog 57 #[.pointer (jP vb)] w fun e w'=>e=.returned (.tuple #[.agg #[.I t0,.I t1,.I t2,.I t3],.bool true])/\St W (t8 vb mb bb p L n R) w':=by
 have hll:=BZ7 hS.drop.drop;have hmay:∀x∈L,MayP x:=fun x hx=>(By7 hS.drop.drop x hx).1
 have hlh:(hdL p).length<=1000000000:=by rw[Cr7];exact Nat.le_trans hw.len hN
 have Hmay:=jH hmay;have Ht:=jH ht;have Hw:=jH hw;clear hmay ht hw;go_enter Tryz.func57,Tryz.ntmps57;go_wp2_with(first|(go_at_call 124;refine(Do7 vb mb bb p L n Hw.out hN W _ _ (hS.s (blk vb _ _::d8 eS eP mb p::m8 bb L n::blk b0 _ _::R))).mono ?_;clear hS;rintro e w ⟨sa,sc,oa,oc,rfl,hS⟩)|((with_reducible apply Al7 hS);rfl;rfl;(exact zsS);clear hS;intro b0 w hS;(refine frS ?_)));generalize hhs:hdL p=hs at hS hlh;have Hhs:=jH hhs;clear hhs;have hS1:=hS.rowNil (k:=4) (T:=29);clear hS;have hS:=hS1;clear hS1
 go_loopw [7,22] (fun v7 v22 wr=>TtR W (t8 vb mb bb p L n (hdR (.slice sa hs.length sc) hs::j7 (.slice oa L.length oc) L::blk b0 [.I 0,.I 0,.I 0,.I 0] 29::R)) hs.length (fun k=>(hs.take k).map Hd.has) v7 v22 wr) (fun _ v22 _=>hs.length-(intOf v22).toNat)
 case atStart=>exact⟨0,rfl,Nat.zero_le _,hS⟩
 case round=>
  clear hS;obtain⟨k,rfl,hkl,hS⟩:=hrel;dsimp only at hS
  by_cases hkn:k=hs.length
  ·rw[hkn,List.take_length]at hS;have hd1:decide (k<hs.length)=false:=by simp;omega
   clear hkl hkn;generalize hacc:hs.map Hd.has=acc at hS;have hal:acc.length<=1000000000:=by rw[<-hacc,jM];exact hlh
   have Hacc:=jH hacc;clear hacc;go_wp2_with(fail)
   go_loopw [7,34] (fun v7 v34 wr=>TtR W (t8 vb mb bb p L n (hdR (.slice sa hs.length sc) hs::j7 (.slice oa L.length oc) L::blk b0 [.I 0,.I 0,.I 0,.I 0] 29::R)) L.length (fun k=>acc++(L.take k).map j9) v7 v34 wr) (fun _ v34 _=>L.length-(intOf v34).toNat)
   case atStart=>exact⟨0,rfl,Nat.zero_le _,by simpa using hS⟩
   case round=>
    clear hS;obtain⟨j,rfl,hjl,hS⟩:=hrel;dsimp only at hS
    by_cases hjn:j=L.length
    ·rw[hjn,List.take_length]at hS;have hd2:decide (j<L.length)=false:=by simp;omega
     have hall:C5 (acc++L.map j9) it0=some ⟨t0,t1,t2,t3⟩:=by
      rw[<-Hacc.out,<-Hhs.out]
      exact Ht.out
     have Hall:=jH hall;clear hall hjl hjn;go_wp2_with(first|(go_at_call 58;refine(Ht7 Hall.out _ W _ _ hS).mono ?_;clear hS;rintro e w ⟨rfl,hS⟩)|((with_reducible apply Al7 hS);rfl;rfl;(exact zsS);clear hS;intro bt w hS;(refine frS ?_))|(refine zsN hS ?_;clear hS;intro w hS)|(refine zlN hS ?_));(apply Ac7;rfl;rfl;rfl;rfl;exact hS;decide +kernel;(exact n9);kernel_rfl)
     exact⟨rfl,hS.s _⟩
    ·have hj1:j<L.length:=by omega
     obtain⟨⟨g,rfl⟩,_,_⟩:=St.rowAddr hS.drop.drop.drop.drop.drop (by omega);have hcells:∀{K K':List HP},Take K (j7 (.slice (jP g) L.length oc) L) K'->i5 K g (j*6) (Ord.cells L[j]):=fun hu=>i5.elemM (enc:=Ord.cells) Ord.len hu hj1
     have hstep:acc++(L.take (j+1)).map j9=(acc++(L.take j).map j9)++[j9 L[j]]:=by rw[CD7 _ _ hj1,jS]
     have hmx:=Hmay.out _ (List.getElem_mem hj1);have hbl:(acc++(L.take j).map j9).length<=1000000100:=by rw[jA,jM,jT];omega
     have Hstep:=jH hstep;clear hstep hjn hjl;generalize acc++(L.take j).map j9=accj at hS Hstep hbl;generalize L[j]=x at hcells Hstep hmx;obtain⟨it,hit⟩:∃y,j9 x=y:=⟨_,rfl⟩
     obtain⟨oi,ou,oy,ot,oc2,op⟩:=x;obtain⟨h0,h1,h2,h3⟩:=it;have Hit:=jH hit;have Hm:=jH hmx;clear hit hmx;simp only[Ord.cells]at hcells;go_wp2_with(first|(refine zlN hS ?_ (hc:=by exact hcells (by exact i6)))|(go_at_call 125;refine(Fr7 (o:=⟨oi,ou,oy,ot,oc2,op⟩) Hm.out Hit.out W _ _ hS).mono ?_;clear hS;rintro e w ⟨rfl,hS⟩)|(refine zbs hS ?_;clear hS;intro bS w hS)|(refine zap hS ?_ (h63:=by unfold maxLen;omega) (hb:=by omega);clear hS;intro v w hS)|((with_reducible apply Al7 hS);rfl;rfl;(exact zsS);clear hS;intro bx w hS;(refine frS ?_))|(refine zsN hS ?_;clear hS;intro w hS)|(refine zlN hS ?_))
     go_roundw
     case rel=>
      refine⟨j+1,rfl,hj1,?_⟩;dsimp only;rw[Hstep.out,Hit.out];unfold cq4;rw[Du7,jA,List.length_singleton];have h0:St W (row v 4 29 (accj.length+1) (accj.flatMap It.cells++It.cells ⟨h0,h1,h2,h3⟩)::_) w:=hS
      exact h0.s _
     case measure=>simp[intOf];omega
  ·have hk1:k<hs.length:=by omega
   obtain⟨⟨g,rfl⟩,_,_⟩:=St.rowAddr hS.drop.drop.drop.drop (by omega);have hcells:∀{K K':List HP},Take K (hdR (.slice (jP g) hs.length sc) hs) K'->i5 K g (k*5) (Hd.cells hs[k]):=fun hu=>i5.elemM (enc:=Hd.cells) Hd.len hu hk1
   have hstep:=CD7 Hd.has hs hk1;have hbl:((hs.take k).map Hd.has).length<=1000000100:=by rw[jM,jT];omega
   have Hstep:=jH hstep;clear hstep hkn hkl;generalize (hs.take k).map Hd.has=accj at hS Hstep hbl;generalize hs[k]=x at hcells Hstep;obtain⟨xw,⟨x0,x1,x2,x3⟩⟩:=x;simp only[Hd.cells,It.cells]at hcells;go_wp2_with(first|(refine zlN hS ?_ (hc:=by exact hcells (by exact i6)))|(refine zlN hS ?_ (hc:=by exact i5.here (vs:=[.I x0,.I x1,.I x2,.I x3]) rfl))|(refine zbs hS ?_;clear hS;intro bS w hS)|(refine zap hS ?_ (h63:=by unfold maxLen;omega) (hb:=by omega);clear hS;intro v w hS)|((with_reducible apply Al7 hS);rfl;rfl;(exact zsS);clear hS;intro bx w hS;(refine frS ?_))|(refine zsN hS ?_;clear hS;intro w hS))
   go_roundw
   case rel=>
    refine⟨k+1,rfl,hk1,?_⟩;dsimp only;rw[Hstep.out];unfold cq4;rw[Du7,jA,List.length_singleton];have h0:St W (row v 4 29 (accj.length+1) (accj.flatMap It.cells++It.cells ⟨x0,x1,x2,x3⟩)::_) w:=hS
    exact h0.s _
   case measure=>simp[intOf];omega
theorem gm4(W w:World)(R:List HP)(hS:St W R w):
  Calls Tryz.prog 114 #[] w fun e w'=>∃xb xB,e=.returned (.pointer (jP xb))/\St W (xvR xb xB [] [] 1 R) w':=by
 go_enter Tryz.func114,Tryz.ntmps114;go_wp2_with(first|((fail_if_success (have:=bA));(with_reducible apply AE7 hS);rfl;rfl;rfl;rfl;clear hS;intro bA w hS;(refine frS ?_))|((have:=bA);(with_reducible apply AE7 hS);rfl;rfl;rfl;rfl;clear hS;intro bB w hS;(refine frS ?_)));go_ret;have hS1:=(hS.rowNil (k:=5) (T:=189)).rowNil (k:=6) (T:=166);have e0:hdL []=[]:=List.eq_nil_of_length_eq_zero (by rw[Cr7];rfl);have hS2:St W (j7 (.slice none 0 0) []::hdR (.slice none 0 0) []::_) _:=hS1;rw[<-e0]at hS2;have hS3:=aQ4 (n:=1) (last:=0) (by decide) (hS2.s (blk bA _ _::j7 _ []::blk bB _ _::hdR _ (hdL [])::R))
 exact⟨bB,bA,rfl,at4 (hS3.s (blk bB _ _::hdR _ (hdL [])::xkP bA [] 1::R))⟩
theorem fI4(xb xB:Nat)(p:Ps)(L:List Ord)(n:Int){N:Nat}(hw:PsW p N)(hN:N<=1000000)(hmay:∀x∈L,MayP x)(hl32:L.length<=32)(W w:World)(R:List HP)(hS:St W (xvR xb xB p L n R) w):
  Calls Tryz.prog 139 #[.pointer (jP xb)] w fun e w'=>e=.returned (.tuple #[.agg (bE4 (ce4 ⟨p,L,n⟩)).cells.toArray,.bool (C5 (ce4 ⟨p,L,n⟩) it0).isSome])/\St W (xvR xb xB p L n R) w':=by
 have hlh:(hdL p).length<=1000000:=by rw[Cr7];exact Nat.le_trans hw.len hN
 have Hmay:=jH hmay;clear hmay hw;obtain⟨xv,hS1⟩:=bb4 hS;obtain⟨la,lc,last,hlast,hS2⟩:=bz4 (hS1.s (xkP xB L n::blk xb _ _::hdR _ (hdL p)::R));clear hS hS1;obtain⟨ha,hc,rfl⟩:=hS2.drop.drop.drop.rowVal;have hS:=hS2;clear hS2;unfold ce4;go_enter Tryz.func139,Tryz.ntmps139;go_wp2_with(first|((with_reducible apply Al7 hS);rfl;rfl;(exact zsS);clear hS;intro b0 w hS;(refine frS ?_)));have hS1:=hS.rowNil (k:=4) (T:=29);clear hS;have hS:=hS1;clear hS1
 try dsimp only
 generalize hhs:hdL p=hs at hS hlh ⊢;have Hhs:=jH hhs;clear hhs
 go_loopw [4,5] (fun v4 v5 wr=>TtR W (blk b0 [.I 0,.I 0,.I 0,.I 0] 29::blk xB [.slice la L.length lc,.I last] 244::j7 (.slice la L.length lc) L::blk xb [.slice ha hs.length hc,.pointer (jP xB),.I n] 246::hdR (.slice ha hs.length hc) hs::R) hs.length (fun k=>(hs.take k).map Hd.has) v4 v5 wr) (fun _ v5 _=>hs.length-(intOf v5).toNat)
 case atStart=>exact⟨0,rfl,Nat.zero_le _,hS⟩
 case round=>
  clear hS;obtain⟨k,rfl,hkl,hS⟩:=hrel;dsimp only at hS
  by_cases hkn:k=hs.length
  ·rw[hkn,List.take_length]at hS;have hd1:decide (k<hs.length)=false:=by simp;omega
   clear hkl hkn;generalize hacc:hs.map Hd.has=acc at hS ⊢;have hal:acc.length<=1000000:=by rw[<-hacc,jM];exact hlh
   have Hacc:=jH hacc;clear hacc;go_wp2_with(first|go_big_skip|(refine zl1 hS ?_))
   go_loopw [4,6] (fun v4 v6 wr=>TtR W (blk b0 [.I 0,.I 0,.I 0,.I 0] 29::blk xB [.slice la L.length lc,.I last] 244::j7 (.slice la L.length lc) L::blk xb [.slice ha hs.length hc,.pointer (jP xB),.I n] 246::hdR (.slice ha hs.length hc) hs::R) L.length (fun k=>acc++(L.take k).map j9) v4 v6 wr) (fun _ v6 _=>L.length-(intOf v6).toNat)
   case atStart=>exact⟨0,rfl,Nat.zero_le _,by simpa using hS⟩
   case round=>
    clear hS;obtain⟨j,rfl,hjl,hS⟩:=hrel;dsimp only at hS
    by_cases hjn:j=L.length
    ·rw[hjn,List.take_length]at hS;have hd2:decide (j<L.length)=false:=by simp;omega
     clear hjl hjn;obtain⟨q,hq⟩:∃q,bE4 (acc++L.map j9)=q:=⟨_,rfl⟩
     obtain⟨s0,s1,s2,s3⟩:=q;have Hq:=jH hq;clear hq;go_wp2_with(first|go_big_skip|(refine zl1 hS ?_)|(go_at_call 117;refine(fG4 _ _ W _ _ hS).mono ?_;clear hS;rw[Hq.out];simp only[It.cells];rintro e w ⟨rfl,hS⟩)|(refine zsN hS ?_;clear hS;intro w hS));(apply Ac7;rfl;rfl;rfl;rfl;exact hS;decide +kernel;(exact n9);kernel_rfl);rw[show(hdL p).map Hd.has=acc by rw[Hhs.out,Hacc.out],Hq.out];have hS1:=aQ4 hlast (hS.s (blk xB _ _::j7 _ L::blk xb _ _::hdR _ hs::R));rw[<-Hhs.out]at hS1
     exact⟨rfl,at4 (hS1.s (blk xb _ _::hdR _ (hdL p)::xkP xB L n::R))⟩
    ·have hj1:j<L.length:=by omega
     obtain⟨⟨g,rfl⟩,_,_⟩:=St.rowAddr hS.drop.drop.drop (by omega);have hcells:∀{K K':List HP},Take K (j7 (.slice (jP g) L.length lc) L) K'->i5 K g (j*6) (Ord.cells L[j]):=fun hu=>i5.elemM (enc:=Ord.cells) Ord.len hu hj1
     have hstep:acc++(L.take (j+1)).map j9=(acc++(L.take j).map j9)++[j9 L[j]]:=by rw[CD7 _ _ hj1,jS]
     have hmx:=Hmay.out _ (List.getElem_mem hj1);have hbl:(acc++(L.take j).map j9).length<=1000100:=by rw[jA,jM,jT];omega
     have Hstep:=jH hstep;clear hstep hjn hjl;generalize acc++(L.take j).map j9=accj at hS Hstep hbl;generalize L[j]=x at hcells Hstep hmx;obtain⟨it,hit⟩:∃y,j9 x=y:=⟨_,rfl⟩
     obtain⟨oi,ou,oy,ot,oc2,op⟩:=x;obtain⟨h0,h1,h2,h3⟩:=it;have Hit:=jH hit;have Hm:=jH hmx;clear hit hmx;simp only[Ord.cells]at hcells;go_wp2_with(first|go_big_skip|(refine zlN hS ?_ (hc:=by exact hcells (by exact i6)))|(refine zl1 hS ?_)|(go_at_call 183;refine(Ek7 (o:=⟨oi,ou,oy,ot,oc2,op⟩) Hm.out Hit.out W _ _ hS).mono ?_;clear hS;rintro e w ⟨rfl,hS⟩)|(refine zbs hS ?_;clear hS;intro bS w hS)|(refine zap hS ?_ (h63:=by unfold maxLen;omega) (hb:=by omega);clear hS;intro v w hS))
     go_roundw
     case rel=>
      refine⟨j+1,rfl,hj1,?_⟩;dsimp only;rw[Hstep.out,Hit.out];unfold cq4;rw[Du7,jA,List.length_singleton];have h0:St W (row v 4 29 (accj.length+1) (accj.flatMap It.cells++It.cells ⟨h0,h1,h2,h3⟩)::_) w:=hS
      exact h0.s _
     case measure=>simp[intOf];omega
  ·have hk1:k<hs.length:=by omega
   obtain⟨⟨g,rfl⟩,_,_⟩:=St.rowAddr hS.drop.drop.drop.drop.drop (by omega)
   have hitems:∀{K K':List HP},Take K (hdR (.slice (jP g) hs.length hc) hs) K'->i5 K g (k*5+1) (hs[k].has.cells):=fun hu j v hj=>by
    have h1:=i5.elemM (enc:=Hd.cells) Hd.len hu hk1 (1+j) v (by rw[Nat.add_comm];exact hj);rwa [<-Nat.add_assoc]at h1
   have hstep:=CD7 Hd.has hs hk1;have hbl:((hs.take k).map Hd.has).length<=1000000:=by rw[jM,jT];omega
   have Hstep:=jH hstep;clear hstep hkn hkl;generalize (hs.take k).map Hd.has=accj at hS Hstep hbl;generalize hs[k]=x at hitems Hstep;obtain⟨xw,⟨x0,x1,x2,x3⟩⟩:=x;simp only[It.cells]at hitems;go_wp2_with(first|go_big_skip|(refine zlN hS ?_ (hc:=by exact hitems (by exact i6)))|(refine zl1 hS ?_)|(refine zbs hS ?_;clear hS;intro bS w hS)|(refine zap hS ?_ (h63:=by unfold maxLen;omega) (hb:=by omega);clear hS;intro v w hS))
   go_roundw
   case rel=>
    refine⟨k+1,rfl,hk1,?_⟩;dsimp only;rw[Hstep.out];unfold cq4;rw[Du7,jA,List.length_singleton];have h0:St W (row v 4 29 (accj.length+1) (accj.flatMap It.cells++It.cells ⟨x0,x1,x2,x3⟩)::_) w:=hS
    exact h0.s _
   case measure=>simp[intOf];omega
def hM4(W:World)(Lr:List HP)(n:Nat)(v:Value)(w:World):Prop:=∃i:Nat,v=.I i/\i<=n/\St W Lr w
abbrev ltB(x y:ByteArray):Bool:=Op.bytesLess x.toList y.toList
theorem Bm7:Ordr ltB:=⟨fun a=>by
  cases h:ltB a a with
  | false=>rfl
  | true=>exact absurd rfl (Eg7 h),fun a b c h1 h2=>Ef7 h1 h2,fun a b h1 h2=>by
  refine Hc7 ?_ h2
  show ¬ltB a b=true
  rw[h1];exact Bool.noConfusion⟩
def rwC(x:ByteArray×(Nat×Vs)):List Value:=[.string x.1,.pointer (some ⟨x.2.1,0,none⟩)]
theorem AG7(x:ByteArray×(Nat×Vs)):(rwC x).length=2:=rfl
def seC(x:Int×(Int×Rpl)):List Value:=[.I x.1,.I x.2.1,.I x.2.2.err,.I x.2.2.id,.I x.2.2.has.x0,.I x.2.2.has.x1,.I x.2.2.has.x2,.I x.2.2.has.x3]
theorem AC7(x:Int×(Int×Rpl)):(seC x).length=8:=rfl
def mkC(x:(Int×Int)×Unit):List Value:=[.I x.1.1,.I x.1.2]
theorem Bz7(x:(Int×Int)×Unit):(mkC x).length=2:=rfl
def dvP(vb:Nat)(V:Vs):HP:=fun f=>∃xB:Nat,sats [xvP vb (.pointer (jP xB)) V.n V.ps,xkP xB V.L V.n] f
def l6(D:Ev):HP:=sats (D.map fun x=>dvP x.2.1 x.2.2)
abbrev xrP(v:Value)(D:Ev):HP:=row v 2 137 D.length (D.flatMap rwC)
abbrev xsP(v:Value)(l:List (Int×(Int×Rpl))):HP:=row v 8 143 l.length (l.flatMap seC)
abbrev xtP(v:Value)(l:List ((Int×Int)×Tns)):HP:=row v 8 40 l.length (l.flatMap tnC)
abbrev xmP(v:Value)(l:List ((Int×Int)×Unit)):HP:=row v 2 140 l.length (l.flatMap mkC)
abbrev xeB(xb:Nat)(v1 v2 v3 v4:Value):HP:=blk xb [v1,v2,v3,v4] 50
def XpR(W:World)(L:List HP)(D:Ev)(k:ByteArray)(v:Value)(w:World):Prop:=
 ∃i:Nat,v=.I i/\i<=D.length/\plI ltB D k=i+plI ltB (D.drop i) k/\plB ltB D k=plB ltB (D.drop i) k/\St W L w
theorem Mv7(D:Ev)(k:ByteArray)(xb:Nat)(v1 v2 v3 v4:Value)(W w:World)(R:List HP)(hS:St W (xeB xb v1 v2 v3 v4::xrP v1 D::R) w):
  Calls Tryz.prog 80 #[.pointer (jP xb),.string k] w fun e w'=>e=.returned (.tuple #[.I (plI ltB D k),.bool (plB ltB D k)])/\St W (xeB xb v1 v2 v3 v4::xrP v1 D::R) w':=by
 obtain⟨a,cap,rfl⟩:=hS.drop.rowVal
 have h63:D.length<=9223372036854775807:=by
  rcases St.rowCase hS.drop with ⟨_,h0,_⟩|⟨_,_,h1,h2⟩
  ·omega
  ·omega
 go_enter Tryz.func80,Tryz.ntmps80;go_wp2_with fail
 go_loopw [6] (fun v wr=>XpR W (xeB xb (.slice a D.length cap) v2 v3 v4::xrP (.slice a D.length cap) D::R) D k v wr) (fun v _=>D.length-(intOf v).toNat)
 case atStart=>exact⟨0,rfl,Nat.zero_le _,by simp,rfl,hS⟩
 case round=>
  clear hS;obtain⟨i,rfl,hil,e1,e2,hS⟩:=hrel
  by_cases hin:i=D.length
  ·subst hin;rw[List.drop_length]at e1 e2;have E1:=jH (show plI ltB D k=D.length from e1);have E2:=jH (show plB ltB D k=false from e2);clear e1 e2;go_wp2_with(first|go_big_skip|(refine zl1 hS ?_));go_ret2;rw[E1.out,E2.out]
   exact⟨rfl,hS⟩
  ·have hi1:i<D.length:=by omega
   obtain⟨⟨g,rfl⟩,_,_⟩:=St.rowAddr hS.drop (by omega);have hname:∀{K K':List HP},Take K (xrP (.slice (jP g) D.length cap) D) K'->i8 K g (i*2) (.string D[i].1):=fun hu=>i5.elemM (enc:=rwC) AG7 hu hi1 0 _ rfl
   have hdr:D.drop i=D[i]::D.drop (i+1):=List.drop_eq_getElem_cons hi1;rw[hdr]at e1 e2;generalize D[i]=x at hname e1 e2;obtain⟨xw,xi⟩:=x;simp only at hname;rw[plI]at e1;rw[plB]at e2;simp only at e1 e2;clear hdr
   cases hb:Op.bytesLess xw.toList k.toList with
   | true=>
    rw[if_pos hb]at e1 e2;have E1:=jH e1;have E2:=jH e2;clear e1 e2;go_wp2_with(first|go_big_skip|(refine zl1 hS ?_)|(refine zl1 hS ?_ (hc:=by exact hname (by exact i6))))
    go_roundw
    case rel=>exact⟨i+1,rfl,hi1,by rw[E1.out];omega,E2.out,hS⟩
    case measure=>simp[intOf];omega
   | false=>
    rw[if_neg (by rw[show ltB xw k=false from hb];simp)]at e1 e2
    have e3:plB ltB D k=(xw.toList==k.toList):=by
     rw[e2]
     cases h:(xw.toList==k.toList)with
     | true=>simpa using Gp7.1 h
     | false=>simp only[decide_eq_false_iff_not];intro e;rw[Gp7.2 e]at h;cases h
    have E1:=jH (show plI ltB D k=i from e1);have E2:=jH e3;clear e1 e2 e3;go_wp2_with(first|go_big_skip|(refine zl1 hS ?_)|(refine zl1 hS ?_ (hc:=by exact hname (by exact i6))));refine Aa7 (by kernel_rfl) (by kernel_rfl) hS ?_
    iterate 2 (refine qR ?_)
    (refine zqn ?_);(refine qR ?_);(refine zq1 ?_)
    iterate 3 (refine qR ?_)
    (apply Ak7;rfl;rfl;rfl;decide +kernel;(exact hname (by exact i6));(refine frS ?_))
    iterate 4 (refine qR ?_)
    clear hS;intro w hS;go_wp2_with fail;go_ret2;rw[E1.out,E2.out]
    exact⟨rfl,hS⟩
theorem Cn7{D:Ev}{k:ByteArray}{p:Nat}{b:Bool}(h1:plI ltB D k=p)(h2:plB ltB D k=b)(xb:Nat)(v1 v2 v3 v4:Value)(W w:World)(R:List HP)(hS:St W (xeB xb v1 v2 v3 v4::xrP v1 D::R) w):
  Calls Tryz.prog 80 #[.pointer (jP xb),.string k] w fun e w'=>e=.returned (.tuple #[.I p,.bool b])/\St W (xeB xb v1 v2 v3 v4::xrP v1 D::R) w':=
 (Mv7 D k xb v1 v2 v3 v4 W w R hS).mono fun e w' ⟨he,hS⟩=>⟨by rw[he,h1,h2],hS⟩
theorem Bc7{κ ν:Type}[DecidableEq κ](x:κ×ν)(l:List (κ×ν))(k:κ):i9 (x::l) k=if x.1=k then some x.2 else i9 l k:=by
 unfold i9;rw[List.find?_cons]
 by_cases hk:x.1=k <;> simp[hk]
theorem fJ4(a b c d:Int)(w:World):(Op.equalIn 10000 140 (.agg #[.I a,.I b]) (.agg #[.I c,.I d])).run Tryz.prog w=.ok (decide ((a,b)=(c,d))) w:=by
 have u3:=Tryz.underlying3;have a3:=Tryz.isAgg3;have z3:=Tryz.sizeOf3;have hs:Tryz.prog.stoodInHeld 140=false:=by kernel_rfl
 rw[Op.equalIn];simp only[Sem.run_bind,run_underlying Tryz.underlying140,Result.andThen_ok,run_program,hs,Bool.false_eq_true,if_false];rw[<-Array.forIn_toList];simp only[List.forIn_cons,List.forIn_nil]
 go_simp
 by_cases h1:a=c <;> by_cases h2:b=d <;> simp[h1,h2]
theorem IZ7{a b c d:Int}{r:Bool}(h:decide ((a,b)=(c,d))=r)(w:World):(Op.equalIn 10000 140 (.agg #[.I a,.I b]) (.agg #[.I c,.I d])).run Tryz.prog w=.ok r w:=by
 rw[<-h];exact fJ4 a b c d w
def ArR(W:World)(L:List HP)(l:List ((Int×Int)×Unit))(k:Int×Int)(v:Value)(w:World):Prop:=
 ∃i:Nat,v=.I i/\i<=l.length/\(i9 l k).isSome=(i9 (l.drop i) k).isSome/\St W L w
theorem BP7(l:List ((Int×Int)×Unit))(cl sq:Int){b:Bool}(hb:(i9 l (cl,sq)).isSome=b)(xb:Nat)(v1 v2 v3 v4:Value)(W w:World)(R:List HP)(hS:St W (xeB xb v1 v2 v3 v4::xmP v4 l::R) w):
  Calls Tryz.prog 82 #[.pointer (jP xb),.I cl,.I sq] w fun e w'=>e=.returned (.bool b)/\St W (xeB xb v1 v2 v3 v4::xmP v4 l::R) w':=by
 obtain⟨a,cap,rfl⟩:=hS.drop.rowVal
 have h63:l.length<=9223372036854775807:=by
  rcases St.rowCase hS.drop with ⟨_,h0,_⟩|⟨_,_,h1,h2⟩
  ·omega
  ·omega
 have Hb:=jH hb;clear hb;go_enter Tryz.func82,Tryz.ntmps82;go_wp2_with fail
 go_loopw [7] (fun v wr=>ArR W (xeB xb v1 v2 v3 (.slice a l.length cap)::xmP (.slice a l.length cap) l::R) l (cl,sq) v wr) (fun v _=>l.length-(intOf v).toNat)
 case atStart=>exact⟨0,rfl,Nat.zero_le _,rfl,hS⟩
 case round=>
  clear hS;obtain⟨i,rfl,hil,e1,hS⟩:=hrel
  by_cases hin:i=l.length
  ·subst hin;rw[List.drop_length]at e1;have E1:=jH (show false=b by rw[<-Hb.out,e1];rfl);clear e1;go_wp2_with(first|go_big_skip|(refine zl1 hS ?_));go_ret;rw[E1.out]
   exact⟨rfl,hS⟩
  ·have hi1:i<l.length:=by omega
   obtain⟨⟨g,rfl⟩,_,_⟩:=St.rowAddr hS.drop (by omega);have hcells:∀{K K':List HP},Take K (xmP (.slice (jP g) l.length cap) l) K'->i5 K g (i*2) (mkC l[i]):=fun hu=>i5.elemM (enc:=mkC) Bz7 hu hi1
   have hdr:l.drop i=l[i]::l.drop (i+1):=List.drop_eq_getElem_cons hi1;rw[hdr,Bc7]at e1;generalize l[i]=x at hcells e1;obtain⟨⟨xc,xq⟩,xu⟩:=x;simp only[mkC]at hcells;simp only at e1;clear hdr
   by_cases hx:(xc,xq)=(cl,sq)
   ·rw[if_pos hx]at e1;have D1:=jH (show decide ((xc,xq)=(cl,sq))=true from decide_eq_true hx);have E1:=jH (show true=b by rw[<-Hb.out,e1];rfl);clear e1 hx;go_wp2_with(first|go_big_skip|(refine zl1 hS ?_)|(refine zlN hS ?_ (hc:=by exact hcells (by exact i6)))|((with_reducible apply Cg7);rfl;rfl;rfl;rfl;kernel_rfl;exact IZ7 D1.out;(refine frS ?_)));go_ret;rw[E1.out]
    exact⟨rfl,hS⟩
   ·rw[if_neg hx]at e1;have D1:=jH (show decide ((xc,xq)=(cl,sq))=false from decide_eq_false hx);have E1:=jH e1;clear e1 hx;go_wp2_with(first|go_big_skip|(refine zl1 hS ?_)|(refine zlN hS ?_ (hc:=by exact hcells (by exact i6)))|((with_reducible apply Cg7);rfl;rfl;rfl;rfl;kernel_rfl;exact IZ7 D1.out;(refine frS ?_)))
    go_roundw
    case rel=>exact⟨i+1,rfl,hi1,E1.out,hS⟩
    case measure=>simp[intOf];omega
def fdI{κ ν:Type}[DecidableEq κ]:List (κ×ν)->κ->Int
 | [],_ => -1
 | x::l,k=>if x.1=k then 0 else if fdI l k<0 then -1 else fdI l k+1
theorem Ja7{κ ν:Type}[DecidableEq κ](k:κ):∀l:List (κ×ν), -1<=fdI l k/\fdI l k<l.length
 | []=>by simp[fdI]
 | x::l=>by
  have h:=Ja7 k l;rw[fdI,jC]
  split
  ·omega
  ·split <;> omega
def TsK(ts:List ((Int×Int)×Tns)):Prop:=∀x∈ts,x.1=(x.2.client,x.2.seq)
def UnR(W:World)(L:List HP)(l:List ((Int×Int)×Tns))(k:Int×Int)(v:Value)(w:World):Prop:=
 ∃i:Nat,v=.I i/\i<=l.length/\fdI l k=(if fdI (l.drop i) k<0 then -1 else i+fdI (l.drop i) k)/\St W L w
theorem CL7(l:List ((Int×Int)×Tns))(hk:TsK l)(cl sq:Int){r:Int}(hr:fdI l (cl,sq)=r)(xb:Nat)(v1 v2 v3 v4:Value)(W w:World)(R:List HP)(hS:St W (xeB xb v1 v2 v3 v4::xtP v3 l::R) w):
  Calls Tryz.prog 53 #[.pointer (jP xb),.I cl,.I sq] w fun e w'=>e=.returned (.I r)/\St W (xeB xb v1 v2 v3 v4::xtP v3 l::R) w':=by
 obtain⟨a,cap,rfl⟩:=hS.drop.rowVal
 have h63:l.length<=9223372036854775807:=by
  rcases St.rowCase hS.drop with ⟨_,h0,_⟩|⟨_,_,h1,h2⟩
  ·omega
  ·omega
 have Hr:=jH hr;have Hk:=jH hk;clear hr hk;go_enter Tryz.func53,Tryz.ntmps53;go_wp2_with fail
 go_loopw [7] (fun v wr=>UnR W (xeB xb v1 v2 (.slice a l.length cap) v4::xtP (.slice a l.length cap) l::R) l (cl,sq) v wr) (fun v _=>l.length-(intOf v).toNat)
 case atStart=>exact⟨0,rfl,Nat.zero_le _,by
  have:=Ja7 (cl,sq) l
  show fdI l (cl,sq)=if fdI l (cl,sq)<0 then -1 else(0:Nat)+fdI l (cl,sq)
  split <;> omega,hS⟩
 case round=>
  clear hS;obtain⟨i,rfl,hil,e1,hS⟩:=hrel
  by_cases hin:i=l.length
  ·subst hin;rw[List.drop_length]at e1;have E1:=jH (show r = -1 by rw[<-Hr.out,e1];rfl);clear e1;go_wp2_with(first|go_big_skip|(refine zl1 hS ?_));go_ret;rw[E1.out]
   exact⟨rfl,hS⟩
  ·have hi1:i<l.length:=by omega
   obtain⟨⟨g,rfl⟩,_,_⟩:=St.rowAddr hS.drop (by omega);have hcl:∀{K K':List HP},Take K (xtP (.slice (jP g) l.length cap) l) K'->i8 K g (i*8) (.I l[i].2.client):=fun hu=>i5.elemM (enc:=tnC) AQ7 hu hi1 0 _ rfl
   have hsq:∀{K K':List HP},Take K (xtP (.slice (jP g) l.length cap) l) K'->i8 K g (i*8+1) (.I l[i].2.seq):=fun hu=>i5.elemM (enc:=tnC) AQ7 hu hi1 1 _ rfl
   have hdr:l.drop i=l[i]::l.drop (i+1):=List.drop_eq_getElem_cons hi1;have hkk:=Hk.out _ (List.getElem_mem hi1);have e2:fdI (l.drop i) (cl,sq)=if(l[i].2.client,l[i].2.seq)=(cl,sq)then 0 else if fdI (l.drop (i+1)) (cl,sq)<0 then -1 else fdI (l.drop (i+1)) (cl,sq)+1:=by rw[hdr,fdI,hkk]
   generalize fdI (l.drop i) (cl,sq)=F at e1 e2;generalize l[i]=x at hcl hsq e2;obtain⟨xk,⟨xc,xq,x2,x3,x4,x5,x6,x7⟩⟩:=x;simp only at e2 hcl hsq;clear hdr hkk;have hge:=Ja7 (cl,sq) (l.drop (i+1))
   by_cases hx:xc=cl
   ·have dx:(xc==cl)=true:=by simpa using hx
    by_cases hy:xq=sq
    ·have dy:(xq==sq)=true:=by simpa using hy
     rw[if_pos (by rw[hx,hy])]at e2;have E1:=jH (show r=i by rw[<-Hr.out,e1,e2];simp);clear e1 e2 hx hy hge;go_wp2_with(first|go_big_skip|(refine zl1 hS ?_)|(refine zl1 hS ?_ (hc:=by exact hcl (by exact i6)))|(refine zl1 hS ?_ (hc:=by exact hsq (by exact i6))));go_ret;rw[E1.out]
     exact⟨rfl,hS⟩
    ·have dy:(xq==sq)=false:=by simpa using hy
     rw[if_neg (by intro e;injection e with _ e;exact hy e)]at e2;have E1:=jH (show fdI l (cl,sq)=if fdI (l.drop (i+1)) (cl,sq)<0 then -1 else((i+1:Nat):Int)+fdI (l.drop (i+1)) (cl,sq)by rw[e1];split at e2 <;> (repeat' split) <;> omega);clear e1 e2 hx hy hge;go_wp2_with(first|go_big_skip|(refine zl1 hS ?_)|(refine zl1 hS ?_ (hc:=by exact hcl (by exact i6)))|(refine zl1 hS ?_ (hc:=by exact hsq (by exact i6))))
     go_roundw
     case rel=>exact⟨i+1,rfl,hi1,E1.out,hS⟩
     case measure=>simp[intOf];omega
   ·have dx:(xc==cl)=false:=by simpa using hx
    rw[if_neg (by intro e;injection e with e _;exact hx e)]at e2;have E1:=jH (show fdI l (cl,sq)=if fdI (l.drop (i+1)) (cl,sq)<0 then -1 else((i+1:Nat):Int)+fdI (l.drop (i+1)) (cl,sq)by rw[e1];split at e2 <;> (repeat' split) <;> omega);clear e1 e2 hx hge;go_wp2_with(first|go_big_skip|(refine zl1 hS ?_)|(refine zl1 hS ?_ (hc:=by exact hcl (by exact i6)))|(refine zl1 hS ?_ (hc:=by exact hsq (by exact i6))))
    go_roundw
    case rel=>exact⟨i+1,rfl,hi1,E1.out,hS⟩
    case measure=>simp[intOf];omega
end Go.Proofs.YtlmhakmoioogaaaGreat
end
