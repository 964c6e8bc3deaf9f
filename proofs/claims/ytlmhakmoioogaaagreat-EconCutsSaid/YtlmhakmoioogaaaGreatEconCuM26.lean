/-
  The vault's Total.
-/
import Derived.Test.YtlmhakmoioogaaaGreatEconCuM5
import Derived.Test.YtlmhakmoioogaaaGreatEconCuM20
import Derived.Test.YtlmhakmoioogaaaGreatEconCuM21
import Derived.Test.YtlmhakmoioogaaaGreatEconCuM25
import Derived.Laws.Bits64b
import Derived.Laws.IdiomStrings
set_option maxHeartbeats 16000000
set_option maxRecDepth 100000
set_option linter.unusedSimpArgs false
set_option linter.unusedVariables false
section
namespace Go.Proofs.YtlmhakmoioogaaaGreat
open Go.RowKit Go.Sl
abbrev cp4(v:Value)(l:List It):HP:=row v 4 29 l.length (l.flatMap It.cells)
def TtR(W:World)(F:List HP)(m:Nat)(acc:Nat->List It)(v7 vk:Value)(w:World):Prop:=
 ∃k:Nat,vk=.I k/\k<=m/\St W (cp4 v7 (acc k)::F) w
theorem CD7{α β:Type}(f:α->β)(l:List α){k:Nat}(h:k<l.length):(l.take (k+1)).map f=(l.take k).map f++[f l[k]]:=by rw[List.take_succ_eq_append_getElem h,List.map_append];rfl
theorem Ds7(l:List It)(x:It):(l++[x]).flatMap It.cells=l.flatMap It.cells++x.cells:=by simp
theorem Ka7(vb mb bb:Nat)(p:Ps)(L:List Ord)(n:Int){N:Nat}(hw:PsW p N)(hN:N<=1000000000){t0 t1 t2 t3:Int}(ht:C6 (cg4 ⟨p,L,n⟩) it0=some ⟨t0,t1,t2,t3⟩)(W w:World)(R:List HP)(hS:St W (w5 vb mb bb p L n R) w):
  Calls Tryz.prog 57 #[.P vb] w fun e w'=>e=.returned (.tuple #[.agg #[.I t0,.I t1,.I t2,.I t3],.bool true])/\St W (w5 vb mb bb p L n R) w':=by
 have hll:=Cb7 hS.drop.drop;have hmay:∀x∈L,MayP x:=fun x hx=>(By7 hS.drop.drop x hx).1
 have hlh:(hdL p).length<=1000000000:=by rw[Cs7];exact Nat.le_trans hw.len hN
 have Hmay:=jH hmay;have Ht:=jH ht;have Hw:=jH hw;clear hmay ht hw;go_enter Tryz.func57,Tryz.ntmps57;go_wp2_with(first|go_at_call 124;refine(Dq7 vb mb bb p L n Hw.out hN W _ _ (hS.s (blk vb _ _::d8 eS eP mb p::m8 bb L n::blk b0 _ _::R))).mono ?_;clear hS;rintro e w ⟨sa,sc,oa,oc,rfl,hS⟩|(with_reducible apply Al7 hS);rfl;rfl;exact zsS;clear hS;intro b0 w hS;refine frS ?_);generalize hhs:hdL p=hs at hS hlh;have Hhs:=jH hhs;clear hhs;have hS1:=hS.rowNil (k:=4) (T:=29);clear hS;have hS:=hS1;clear hS1
 go_loopw [7,22] (fun v7 v22 wr=>TtR W (w5 vb mb bb p L n (hdR (.slice sa hs.length sc) hs::j7 (.slice oa L.length oc) L::blk b0 [.I 0,.I 0,.I 0,.I 0] 29::R)) hs.length (fun k=>(hs.take k).map Hd.has) v7 v22 wr) (fun _ v22 _=>hs.length-(intOf v22).toNat)
 case atStart=>exact⟨0,rfl,Nat.zero_le _,hS⟩
 case round=>
  clear hS;obtain⟨k,rfl,hkl,hS⟩:=hrel;dsimp only at hS;by_cases hkn:k=hs.length
  ·rw[hkn,List.take_length]at hS;have hd1:decide (k<hs.length)=false:=by simp;omega
   clear hkl hkn;generalize hacc:hs.map Hd.has=acc at hS;have hal:acc.length<=1000000000:=by rw[<-hacc,jM];exact hlh
   have Hacc:=jH hacc;clear hacc;go_wp2_with(fail)
   go_loopw [7,34] (fun v7 v34 wr=>TtR W (w5 vb mb bb p L n (hdR (.slice sa hs.length sc) hs::j7 (.slice oa L.length oc) L::blk b0 [.I 0,.I 0,.I 0,.I 0] 29::R)) L.length (fun k=>acc++(L.take k).map j9) v7 v34 wr) (fun _ v34 _=>L.length-(intOf v34).toNat)
   case atStart=>exact⟨0,rfl,Nat.zero_le _,by simpa using hS⟩
   case round=>
    clear hS;obtain⟨j,rfl,hjl,hS⟩:=hrel;dsimp only at hS;by_cases hjn:j=L.length
    ·rw[hjn,List.take_length]at hS;have hd2:decide (j<L.length)=false:=by simp;omega
     have hall:C6 (acc++L.map j9) it0=some ⟨t0,t1,t2,t3⟩:=by rw[<-Hacc.out,<-Hhs.out];exact Ht.out
     have Hall:=jH hall;clear hall hjl hjn;go_wp2_with(first|go_at_call 58;refine(Hu7 Hall.out _ W _ _ hS).mono ?_;clear hS;rintro e w ⟨rfl,hS⟩|(with_reducible apply Al7 hS);rfl;rfl;exact zsS;clear hS;intro bt w hS;refine frS ?_|refine zsN hS ?_;clear hS;intro w hS|refine zlN hS ?_);apply Ac7;rfl;rfl;rfl;rfl;exact hS;decide +kernel;(exact n9);kernel_rfl;exact⟨rfl,hS.s _⟩
    ·have hj1:j<L.length:=by omega
     obtain⟨⟨g,rfl⟩,_,_⟩:=St.rowAddr hS.drop.drop.drop.drop.drop (by omega);have hcells:∀{K K':List HP},Take K (j7 (.S g L.length oc) L) K'->i5 K g (j*6) (Ord.cells L[j]):=fun hu=>i5.elemM (enc:=Ord.cells) Ord.len hu hj1
     have hstep:acc++(L.take (j+1)).map j9=(acc++(L.take j).map j9)++[j9 L[j]]:=by rw[CD7 _ _ hj1,jS]
     have hmx:=Hmay.out _ (jW hj1);have hbl:(acc++(L.take j).map j9).length<=1000000100:=by rw[jA,jM,jT];omega
     have Hstep:=jH hstep;clear hstep hjn hjl;generalize acc++(L.take j).map j9=accj at hS Hstep hbl;generalize L[j]=x at hcells Hstep hmx;obtain⟨it,hit⟩:∃y,j9 x=y:=⟨_,rfl⟩
     obtain⟨oi,ou,oy,ot,oc2,op⟩:=x;obtain⟨h0,h1,h2,h3⟩:=it;have Hit:=jH hit;have Hm:=jH hmx;clear hit hmx;simp only[Ord.cells]at hcells;go_wp2_with(first|refine zlN hS ?_ (hc:=by exact hcells (by exact i6))|go_at_call 125;refine(Ft7 (o:=⟨oi,ou,oy,ot,oc2,op⟩) Hm.out Hit.out W _ _ hS).mono ?_;clear hS;rintro e w ⟨rfl,hS⟩|refine zbs hS ?_;clear hS;intro bS w hS|refine zap hS ?_ (h63:=by unfold maxLen;omega) (hb:=by omega);clear hS;intro v w hS|(with_reducible apply Al7 hS);rfl;rfl;exact zsS;clear hS;intro bx w hS;refine frS ?_|refine zsN hS ?_;clear hS;intro w hS|refine zlN hS ?_);go_roundw
     case rel=>
      refine⟨j+1,rfl,hj1,?_⟩;dsimp only;rw[Hstep.out,Hit.out];unfold cp4;rw[Ds7,jA,List.length_singleton];have h0:St W (row v 4 29 (accj.length+1) (accj.flatMap It.cells++It.cells ⟨h0,h1,h2,h3⟩)::_) w:=hS;exact h0.s _
     case measure=>simp[intOf];omega
  ·have hk1:k<hs.length:=by omega
   obtain⟨⟨g,rfl⟩,_,_⟩:=St.rowAddr hS.drop.drop.drop.drop (by omega);have hcells:∀{K K':List HP},Take K (hdR (.S g hs.length sc) hs) K'->i5 K g (k*5) (Hd.cells hs[k]):=fun hu=>i5.elemM (enc:=Hd.cells) Hd.len hu hk1
   have hstep:=CD7 Hd.has hs hk1;have hbl:((hs.take k).map Hd.has).length<=1000000100:=by rw[jM,jT];omega
   have Hstep:=jH hstep;clear hstep hkn hkl;generalize (hs.take k).map Hd.has=accj at hS Hstep hbl;generalize hs[k]=x at hcells Hstep;obtain⟨xw,⟨x0,x1,x2,x3⟩⟩:=x;simp only[Hd.cells,It.cells]at hcells;go_wp2_with(first|refine zlN hS ?_ (hc:=by exact hcells (by exact i6))|refine zlN hS ?_ (hc:=by exact i5.here (vs:=[.I x0,.I x1,.I x2,.I x3]) rfl)|refine zbs hS ?_;clear hS;intro bS w hS|refine zap hS ?_ (h63:=by unfold maxLen;omega) (hb:=by omega);clear hS;intro v w hS|(with_reducible apply Al7 hS);rfl;rfl;exact zsS;clear hS;intro bx w hS;refine frS ?_|refine zsN hS ?_;clear hS;intro w hS);go_roundw
   case rel=>
    refine⟨k+1,rfl,hk1,?_⟩;dsimp only;rw[Hstep.out];unfold cp4;rw[Ds7,jA,List.length_singleton];have h0:St W (row v 4 29 (accj.length+1) (accj.flatMap It.cells++It.cells ⟨x0,x1,x2,x3⟩)::_) w:=hS;exact h0.s _
   case measure=>simp[intOf];omega
theorem gh4(W w:World)(R:List HP)(hS:St W R w):
  Calls Tryz.prog 114 #[] w fun e w'=>∃xb xB,e=.returned (.P xb)/\St W (xvR xb xB [] [] 1 R) w':=by
 go_enter Tryz.func114,Tryz.ntmps114;go_wp2_with(first|(fail_if_success (have:=bA));(with_reducible apply AG7 hS);rfl;rfl;rfl;rfl;clear hS;intro bA w hS;refine frS ?_|(have:=bA);(with_reducible apply AG7 hS);rfl;rfl;rfl;rfl;clear hS;intro bB w hS;refine frS ?_);go_ret;have hS1:=(hS.rowNil (k:=5) (T:=189)).rowNil (k:=6) (T:=166);have e0:hdL []=[]:=List.eq_nil_of_length_eq_zero (by rw[Cs7];rfl);have hS2:St W (j7 (.slice none 0 0) []::hdR (.slice none 0 0) []::_) _:=hS1;rw[<-e0]at hS2;have hS3:=aR4 (n:=1) (last:=0) (by decide) (hS2.s (blk bA _ _::j7 _ []::blk bB _ _::hdR _ (hdL [])::R));exact⟨bB,bA,rfl,av4 (hS3.s (blk bB _ _::hdR _ (hdL [])::xkP bA [] 1::R))⟩
theorem fL4(xb xB:Nat)(p:Ps)(L:List Ord)(n:Int){N:Nat}(hw:PsW p N)(hN:N<=1000000)(hmay:∀x∈L,MayP x)(hl32:L.length<=32)(W w:World)(R:List HP)(hS:St W (xvR xb xB p L n R) w):
  Calls Tryz.prog 139 #[.P xb] w fun e w'=>e=.returned (.tuple #[.agg (bE4 (cg4 ⟨p,L,n⟩)).cells.toArray,.bool (C6 (cg4 ⟨p,L,n⟩) it0).isSome])/\St W (xvR xb xB p L n R) w':=by
 have hlh:(hdL p).length<=1000000:=by rw[Cs7];exact Nat.le_trans hw.len hN
 have Hmay:=jH hmay;clear hmay hw;obtain⟨xv,hS1⟩:=ba4 hS;obtain⟨la,lc,last,hlast,hS2⟩:=bA4 (hS1.s (xkP xB L n::blk xb _ _::hdR _ (hdL p)::R));clear hS hS1;obtain⟨ha,hc,rfl⟩:=hS2.drop.drop.drop.rowVal;have hS:=hS2;clear hS2;unfold cg4;go_enter Tryz.func139,Tryz.ntmps139;go_wp2_with(first|(with_reducible apply Al7 hS);rfl;rfl;exact zsS;clear hS;intro b0 w hS;refine frS ?_);have hS1:=hS.rowNil (k:=4) (T:=29);clear hS;have hS:=hS1;clear hS1
 try dsimp only
 generalize hhs:hdL p=hs at hS hlh ⊢;have Hhs:=jH hhs;clear hhs
 go_loopw [4,5] (fun v4 v5 wr=>TtR W (blk b0 [.I 0,.I 0,.I 0,.I 0] 29::blk xB [.slice la L.length lc,.I last] 244::j7 (.slice la L.length lc) L::blk xb [.slice ha hs.length hc,.P xB,.I n] 246::hdR (.slice ha hs.length hc) hs::R) hs.length (fun k=>(hs.take k).map Hd.has) v4 v5 wr) (fun _ v5 _=>hs.length-(intOf v5).toNat)
 case atStart=>exact⟨0,rfl,Nat.zero_le _,hS⟩
 case round=>
  clear hS;obtain⟨k,rfl,hkl,hS⟩:=hrel;dsimp only at hS;by_cases hkn:k=hs.length
  ·rw[hkn,List.take_length]at hS;have hd1:decide (k<hs.length)=false:=by simp;omega
   clear hkl hkn;generalize hacc:hs.map Hd.has=acc at hS ⊢;have hal:acc.length<=1000000:=by rw[<-hacc,jM];exact hlh
   have Hacc:=jH hacc;clear hacc;go_wp2_with(first|go_big_skip|refine zl1 hS ?_)
   go_loopw [4,6] (fun v4 v6 wr=>TtR W (blk b0 [.I 0,.I 0,.I 0,.I 0] 29::blk xB [.slice la L.length lc,.I last] 244::j7 (.slice la L.length lc) L::blk xb [.slice ha hs.length hc,.P xB,.I n] 246::hdR (.slice ha hs.length hc) hs::R) L.length (fun k=>acc++(L.take k).map j9) v4 v6 wr) (fun _ v6 _=>L.length-(intOf v6).toNat)
   case atStart=>exact⟨0,rfl,Nat.zero_le _,by simpa using hS⟩
   case round=>
    clear hS;obtain⟨j,rfl,hjl,hS⟩:=hrel;dsimp only at hS;by_cases hjn:j=L.length
    ·rw[hjn,List.take_length]at hS;have hd2:decide (j<L.length)=false:=by simp;omega
     clear hjl hjn;obtain⟨q,hq⟩:∃q,bE4 (acc++L.map j9)=q:=⟨_,rfl⟩
     obtain⟨s0,s1,s2,s3⟩:=q;have Hq:=jH hq;clear hq;go_wp2_with(first|go_big_skip|refine zl1 hS ?_|go_at_call 117;refine(fJ4 _ _ W _ _ hS).mono ?_;clear hS;rw[Hq.out];simp only[It.cells];rintro e w ⟨rfl,hS⟩|refine zsN hS ?_;clear hS;intro w hS);apply Ac7;rfl;rfl;rfl;rfl;exact hS;decide +kernel;(exact n9);kernel_rfl;rw[show(hdL p).map Hd.has=acc by rw[Hhs.out,Hacc.out],Hq.out];have hS1:=aR4 hlast (hS.s (blk xB _ _::j7 _ L::blk xb _ _::hdR _ hs::R));rw[<-Hhs.out]at hS1;exact⟨rfl,av4 (hS1.s (blk xb _ _::hdR _ (hdL p)::xkP xB L n::R))⟩
    ·have hj1:j<L.length:=by omega
     obtain⟨⟨g,rfl⟩,_,_⟩:=St.rowAddr hS.drop.drop.drop (by omega);have hcells:∀{K K':List HP},Take K (j7 (.S g L.length lc) L) K'->i5 K g (j*6) (Ord.cells L[j]):=fun hu=>i5.elemM (enc:=Ord.cells) Ord.len hu hj1
     have hstep:acc++(L.take (j+1)).map j9=(acc++(L.take j).map j9)++[j9 L[j]]:=by rw[CD7 _ _ hj1,jS]
     have hmx:=Hmay.out _ (jW hj1);have hbl:(acc++(L.take j).map j9).length<=1000100:=by rw[jA,jM,jT];omega
     have Hstep:=jH hstep;clear hstep hjn hjl;generalize acc++(L.take j).map j9=accj at hS Hstep hbl;generalize L[j]=x at hcells Hstep hmx;obtain⟨it,hit⟩:∃y,j9 x=y:=⟨_,rfl⟩
     obtain⟨oi,ou,oy,ot,oc2,op⟩:=x;obtain⟨h0,h1,h2,h3⟩:=it;have Hit:=jH hit;have Hm:=jH hmx;clear hit hmx;simp only[Ord.cells]at hcells;go_wp2_with(first|go_big_skip|refine zlN hS ?_ (hc:=by exact hcells (by exact i6))|refine zl1 hS ?_|go_at_call 183;refine(Ei7 (o:=⟨oi,ou,oy,ot,oc2,op⟩) Hm.out Hit.out W _ _ hS).mono ?_;clear hS;rintro e w ⟨rfl,hS⟩|refine zbs hS ?_;clear hS;intro bS w hS|refine zap hS ?_ (h63:=by unfold maxLen;omega) (hb:=by omega);clear hS;intro v w hS);go_roundw
     case rel=>
      refine⟨j+1,rfl,hj1,?_⟩;dsimp only;rw[Hstep.out,Hit.out];unfold cp4;rw[Ds7,jA,List.length_singleton];have h0:St W (row v 4 29 (accj.length+1) (accj.flatMap It.cells++It.cells ⟨h0,h1,h2,h3⟩)::_) w:=hS;exact h0.s _
     case measure=>simp[intOf];omega
  ·have hk1:k<hs.length:=by omega
   obtain⟨⟨g,rfl⟩,_,_⟩:=St.rowAddr hS.drop.drop.drop.drop.drop (by omega);have hitems:∀{K K':List HP},Take K (hdR (.S g hs.length hc) hs) K'->i5 K g (k*5+1) (hs[k].has.cells):=fun hu j v hj=>by have h1:=i5.elemM (enc:=Hd.cells) Hd.len hu hk1 (1+j) v (by rw[Nat.add_comm];exact hj);rwa [<-Nat.add_assoc]at h1
   have hstep:=CD7 Hd.has hs hk1;have hbl:((hs.take k).map Hd.has).length<=1000000:=by rw[jM,jT];omega
   have Hstep:=jH hstep;clear hstep hkn hkl;generalize (hs.take k).map Hd.has=accj at hS Hstep hbl;generalize hs[k]=x at hitems Hstep;obtain⟨xw,⟨x0,x1,x2,x3⟩⟩:=x;simp only[It.cells]at hitems;go_wp2_with(first|go_big_skip|refine zlN hS ?_ (hc:=by exact hitems (by exact i6))|refine zl1 hS ?_|refine zbs hS ?_;clear hS;intro bS w hS|refine zap hS ?_ (h63:=by unfold maxLen;omega) (hb:=by omega);clear hS;intro v w hS);go_roundw
   case rel=>
    refine⟨k+1,rfl,hk1,?_⟩;dsimp only;rw[Hstep.out];unfold cp4;rw[Ds7,jA,List.length_singleton];have h0:St W (row v 4 29 (accj.length+1) (accj.flatMap It.cells++It.cells ⟨x0,x1,x2,x3⟩)::_) w:=hS;exact h0.s _
   case measure=>simp[intOf];omega
def hQ4(W:World)(Lr:List HP)(n:Nat)(v:Value)(w:World):Prop:=∃i:Nat,v=.I i/\i<=n/\St W Lr w
def bH4:Nat->Nat->List Int
 | 0,u=>[(u:Int)]
 | f+1,u=>if 128<=u then((u%128+128:Nat):Int)::bH4 f (u / 128)else[(u:Int)]
def cq4(n:Int):Nat:=if 4611686018427387904<n then 4611686018427387904 else if 0<n then n.toNat else 0
def l9(n:Int):List Int:=bH4 8 (cq4 n)
theorem Dt7{f u:Nat}(h:u<128):bH4 f u=[(u:Int)]:=by
 cases f with
 | zero=>rfl
 | succ f=>rw[bH4,if_neg (by omega)]
theorem Ll7:∀f u,(bH4 f u).length<=f+1
 | 0,u=>Nat.le_refl _
 | f+1,u=>by
  rw[bH4];split
  ·have:=Ll7 f (u / 128);rw[jC];omega
  ·simp
theorem NX7(n:Int):cq4 n<=4611686018427387904:=by
 unfold cq4
 repeat' split
 all_goals omega
theorem Ao7(n:Int):(l9 n).length<=9:=Ll7 _ _
theorem SG7:∀v:Fin 256,bits .or .u8 ((v.val:Nat):Int) 128=((v.val%128+128:Nat):Int):=by decide +kernel
theorem NY7(u:Nat):bits .or .u8 ((u:Int)%256) 128=((u%128+128:Nat):Int):=by
 have h:=SG7 ⟨u%256,Nat.mod_lt _ (by decide)⟩;have e:((u:Int)%256)=((u%256:Nat):Int):=by omega
 rw[e,h];have:u%256%128=u%128:=Nat.mod_mod_of_dvd _ (by decide);simp only[this]
theorem HH7{u:Nat}(hu:u<=4611686018427387904):bits .or .u8 (bits .and .u64 (u:Int) 127%256) 128=((u%128+128:Nat):Int):=by
 have h:=bits_and_u64_nat u 127 (by omega) (by decide);have e:u &&& 127=u%128:=Nat.and_two_pow_sub_one_eq_mod u 7;have h2:bits .and .u64 (u:Int) 127=((u%128:Nat):Int):=by rw[<-e];exact h
 rw[h2,NY7,Nat.mod_mod]
theorem HI7{u:Nat}(h:u<=4611686018427387904):u<128^(8+1):=by
 have:(128:Nat)^(8+1)=9223372036854775808:=by decide
 omega
abbrev u8s(l:List Int):List Value:=l.map (Value.int .u8)
abbrev byR(v:Value)(l:List Int):HP:=row v 1 5 l.length (u8s l)
def NmR(W:World)(L:List HP)(t:List Int)(v3 v4:Value)(w:World):Prop:=
 ∃(f u:Nat) (d:List Int),v3=.int .u64 u/\u<128^(f+1)/\u<=4611686018427387904/\f<=8/\d.length<=8-f/\d++bH4 f u=t/\St W (byR v4 d::L) w
theorem Cl7(d:List Int)(x:Int):u8s (d++[x])=u8s d++[Value.int .u8 x]:=by unfold u8s;rw[List.map_append];rfl
theorem AJ7{v:Value}{n:Nat}{l:List Int}{L:List HP}{W w:World}(hl:l.length=n)(h:St W (row v 1 5 n (u8s l)::L) w):St W (byR v l::L) w:=by unfold byR;rw[hl];exact h
theorem cM4(n:Int)(hn : -9223372036854775808<=n/\n<=9223372036854775807)(W w:World)(R:List HP)(hS:St W R w):
  Calls Tryz.prog 140 #[.I n] w fun e w'=>∃v,e=.returned v/\St W (byR v (l9 n)::R) w':=by
 obtain⟨u0,hu0⟩:∃u,cq4 n=u:=⟨_,rfl⟩
 have hul:u0<=4611686018427387904:=by rw[<-hu0];exact NX7 n
 unfold l9;rw[hu0];by_cases h1:4611686018427387904<n
 ·have e:cq4 n=4611686018427387904:=by unfold cq4;rw[if_pos h1]
  have eu:u0=4611686018427387904:=hu0.symm.trans e;have Eu:=jH eu;clear hu0 e eu;go_enter Tryz.func140,Tryz.ntmps140;go_wp2_with(first|go_big_skip);have hS1:=hS.rowNil (k:=1) (T:=5);clear hS;have hS:=hS1;clear hS1
  go_loopw [3,4] (fun v3 v4 wr=>NmR W R (bH4 8 u0) v3 v4 wr) (fun v3 _ _=>(intOf v3).toNat)
  case atStart=>exact⟨8,u0,[],by rw[Eu.out];rfl,HI7 hul,hul,by omega,by simp,rfl,hS⟩
  case round=>
   clear hS;obtain⟨f,u,d,rfl,hu,hu2,hf,hd,hE,hS⟩:=hrel;by_cases h128:128<=u
   ·obtain⟨f,rfl⟩:∃f',f=f'+1:=by
     cases f with
     | zero=>simp at hu;omega
     | succ f=>exact⟨f,rfl⟩
    have hu3:u / 128<128^(f+1):=Nat.div_lt_of_lt_mul (by rw[Nat.pow_succ]at hu;omega);rw[bH4,if_pos h128]at hE;have Hu3:=jH hu3;have HE:=jH hE;clear hE hu hu3;go_wp2_with(first|go_big_skip|refine zbs hS ?_;clear hS;intro bS w hS|refine zap hS ?_ (h63:=by unfold maxLen;omega) (hb:=by omega);clear hS;intro v w hS);have hb:=HH7 hu2;have h0:St W (row v 1 5 (d.length+1) (u8s d++[Value.int .u8 (bits .or .u8 (bits .and .u64 (u:Int) 127%256) 128)])::_) w:=hS;rw[hb,<-Cl7]at h0;have h2:=AJ7 (by rw[jA,List.length_singleton]) h0;go_roundw
    case rel=>exact⟨f,u / 128,d++[((u%128+128:Nat):Int)],by rw[Int.natCast_ediv];rfl,Hu3.out,by omega,by omega,by rw[jA,List.length_singleton];omega,by rw[jS];exact HE.out,h2.s _⟩
    case measure=>simp[intOf];omega
   ·have hu4:u<128:=by omega
    rw[Dt7 hu4]at hE;have HE:=jH hE;clear hE hu h128;go_wp2_with(first|go_big_skip|refine zbs hS ?_;clear hS;intro bS w hS|refine zap hS ?_ (h63:=by unfold maxLen;omega) (hb:=by omega);clear hS;intro v w hS);go_ret;refine⟨v,rfl,?_⟩;have h0:St W (row v 1 5 (d.length+1) (u8s d++[Value.int .u8 (u:Int)])::_) w:=hS;rw[<-Cl7,HE.out]at h0;have h2:=AJ7 (by rw[<-HE.out,jA,List.length_singleton]) h0;exact h2.s _
 ·have d1:decide (4611686018427387904<n)=false:=by simpa using h1
  by_cases h2:0<n
  ·have e:cq4 n=n.toNat:=by unfold cq4;rw[if_neg h1,if_pos h2]
   obtain⟨m,rfl⟩:∃m:Nat,n=m:=⟨n.toNat,by omega⟩
   have eu:u0=m:=hu0.symm.trans (by rw[e];simp);subst eu;clear hu0 e;go_enter Tryz.func140,Tryz.ntmps140;go_wp2_with(first|go_big_skip);have hS1:=hS.rowNil (k:=1) (T:=5);clear hS;have hS:=hS1;clear hS1
   go_loopw [3,4] (fun v3 v4 wr=>NmR W R (bH4 8 u0) v3 v4 wr) (fun v3 _ _=>(intOf v3).toNat)
   case atStart=>exact⟨8,u0,[],rfl,HI7 hul,hul,by omega,by simp,rfl,hS⟩
   case round=>
    clear hS;obtain⟨f,u,d,rfl,hu,hu2,hf,hd,hE,hS⟩:=hrel;by_cases h128:128<=u
    ·obtain⟨f,rfl⟩:∃f',f=f'+1:=by
      cases f with
      | zero=>simp at hu;omega
      | succ f=>exact⟨f,rfl⟩
     have hu3:u / 128<128^(f+1):=Nat.div_lt_of_lt_mul (by rw[Nat.pow_succ]at hu;omega);rw[bH4,if_pos h128]at hE;have Hu3:=jH hu3;have HE:=jH hE;clear hE hu hu3;go_wp2_with(first|go_big_skip|refine zbs hS ?_;clear hS;intro bS w hS|refine zap hS ?_ (h63:=by unfold maxLen;omega) (hb:=by omega);clear hS;intro v w hS);have hb:=HH7 hu2;have h0:St W (row v 1 5 (d.length+1) (u8s d++[Value.int .u8 (bits .or .u8 (bits .and .u64 (u:Int) 127%256) 128)])::_) w:=hS;rw[hb,<-Cl7]at h0;have h2:=AJ7 (by rw[jA,List.length_singleton]) h0;go_roundw
     case rel=>exact⟨f,u / 128,d++[((u%128+128:Nat):Int)],by rw[Int.natCast_ediv];rfl,Hu3.out,by omega,by omega,by rw[jA,List.length_singleton];omega,by rw[jS];exact HE.out,h2.s _⟩
     case measure=>simp[intOf];omega
    ·have hu4:u<128:=by omega
     rw[Dt7 hu4]at hE;have HE:=jH hE;clear hE hu h128;go_wp2_with(first|go_big_skip|refine zbs hS ?_;clear hS;intro bS w hS|refine zap hS ?_ (h63:=by unfold maxLen;omega) (hb:=by omega);clear hS;intro v w hS);go_ret;refine⟨v,rfl,?_⟩;have h0:St W (row v 1 5 (d.length+1) (u8s d++[Value.int .u8 (u:Int)])::_) w:=hS;rw[<-Cl7,HE.out]at h0;have h2:=AJ7 (by rw[<-HE.out,jA,List.length_singleton]) h0;exact h2.s _
  ·have d2:decide (0<n)=false:=by simpa using h2
   have e:cq4 n=0:=by unfold cq4;rw[if_neg h1,if_neg h2]
   have eu:u0=0:=hu0.symm.trans e;have Eu:=jH eu;clear hu0 e eu;go_enter Tryz.func140,Tryz.ntmps140;go_wp2_with(first|go_big_skip);have hS1:=hS.rowNil (k:=1) (T:=5);clear hS;have hS:=hS1;clear hS1
   go_loopw [3,4] (fun v3 v4 wr=>NmR W R (bH4 8 u0) v3 v4 wr) (fun v3 _ _=>(intOf v3).toNat)
   case atStart=>exact⟨8,u0,[],by rw[Eu.out];rfl,HI7 hul,hul,by omega,by simp,rfl,hS⟩
   case round=>
    clear hS;obtain⟨f,u,d,rfl,hu,hu2,hf,hd,hE,hS⟩:=hrel;by_cases h128:128<=u
    ·obtain⟨f,rfl⟩:∃f',f=f'+1:=by
      cases f with
      | zero=>simp at hu;omega
      | succ f=>exact⟨f,rfl⟩
     have hu3:u / 128<128^(f+1):=Nat.div_lt_of_lt_mul (by rw[Nat.pow_succ]at hu;omega);rw[bH4,if_pos h128]at hE;have Hu3:=jH hu3;have HE:=jH hE;clear hE hu hu3;go_wp2_with(first|go_big_skip|refine zbs hS ?_;clear hS;intro bS w hS|refine zap hS ?_ (h63:=by unfold maxLen;omega) (hb:=by omega);clear hS;intro v w hS);have hb:=HH7 hu2;have h0:St W (row v 1 5 (d.length+1) (u8s d++[Value.int .u8 (bits .or .u8 (bits .and .u64 (u:Int) 127%256) 128)])::_) w:=hS;rw[hb,<-Cl7]at h0;have h2:=AJ7 (by rw[jA,List.length_singleton]) h0;go_roundw
     case rel=>exact⟨f,u / 128,d++[((u%128+128:Nat):Int)],by rw[Int.natCast_ediv];rfl,Hu3.out,by omega,by omega,by rw[jA,List.length_singleton];omega,by rw[jS];exact HE.out,h2.s _⟩
     case measure=>simp[intOf];omega
    ·have hu4:u<128:=by omega
     rw[Dt7 hu4]at hE;have HE:=jH hE;clear hE hu h128;go_wp2_with(first|go_big_skip|refine zbs hS ?_;clear hS;intro bS w hS|refine zap hS ?_ (h63:=by unfold maxLen;omega) (hb:=by omega);clear hS;intro v w hS);go_ret;refine⟨v,rfl,?_⟩;have h0:St W (row v 1 5 (d.length+1) (u8s d++[Value.int .u8 (u:Int)])::_) w:=hS;rw[<-Cl7,HE.out]at h0;have h2:=AJ7 (by rw[<-HE.out,jA,List.length_singleton]) h0;exact h2.s _
end Go.Proofs.YtlmhakmoioogaaaGreat
end
section
namespace Go.Sl
open Go.RowKit
def A8(s:ByteArray):List Int:=s.data.toList.map fun b=>(b.toNat:Int)
theorem AK7(s:ByteArray):(A8 s).length=s.size:=by unfold A8;rw[jM];rfl
def sbR(g:Nat)(s:ByteArray):HP:=fun f=>∃o:Obj,(∀w:World,w.heap[g]? = some o->∀(j:Nat) (u:Value),((A8 s).map (Value.int .u8))[j]? = some u->w.cell? ⟨g,j,none⟩=some u)/\aj4 g o f
section
variable{P:Program}{ops:Array Oper}{Q:Exit->Act->World->Prop}{a:Act}{w:World}{W:World}{L:List HP}{rest:List Oper}{o:Oper}
theorem i5.sb{g:Nat}{s:ByteArray}:i5 (sbR g s::L) g 0 ((A8 s).map (Value.int .u8)):=fun j v hj W w hS=>by obtain⟨o,hS⟩:=St.ex hS;obtain⟨h1,hS⟩:=St.and hS;rw[Nat.zero_add];exact h1 w (hS.get .head) j v hj
theorem Ay7{src dst e:TypeId}{x:Operand}{s:ByteArray}(hS:St W L w)(ho:o.op=.convert src dst x)(hg:Region.wanted o (yielded ops a.tmps)=true)(hx:a.eval x=.string s)
  (hs:P.underlying src=some .string) (hd:P.underlying dst=some (.slice e)) (he:P.underlying e=some (.int .u8))
  (h:∀g c w',St W (sbR g s::L) w'->wpList P ops Q rest (a.put o.dst (.S g s.size c)) w'):wpList P ops Q (o::rest) a w:=by
 have h1:=run_bytes_of_string (P:=P) w src dst e s hs hd he;refine Ak7 hg (v:=.slice (some ⟨w.heap.size,0,none⟩) s.size (grownCap w s.size 0 e)) (w':=w.drew.alloc (.cells (bytesRow s (grownCap w s.size 0 e)) e ((bytesRow s (grownCap w s.size 0 e)).size,(bytesRow s (grownCap w s.size 0 e)).size+1))) ?_ (h _ _ _ ?_)
 ·unfold execOp;simp[ho,hx,h1]
 ·have h2:=(hS.drawn (w.drawn+1)).alloc (.cells (bytesRow s (grownCap w s.size 0 e)) e ((bytesRow s (grownCap w s.size 0 e)).size,(bytesRow s (grownCap w s.size 0 e)).size+1));refine St.mkEx _ (St.mkAnd ?_ h2);intro w' hw j u hj;rw[List.getElem?_map]at hj;unfold A8 at hj;rw[List.getElem?_map]at hj;have hw2:w'.heap[w.heap.size]? = some (.cells (bytesRow s (grownCap w s.size 0 e)) e ((bytesRow s (grownCap w s.size 0 e)).size,(bytesRow s (grownCap w s.size 0 e)).size+1)):=hw
  cases hb:s.data.toList[j]? with
  | none=>rw[hb]at hj;cases hj
  | some b=>
   rw[hb]at hj;simp only[Option.map_some,Option.some.injEq]at hj;have hb2:s.data[j]? = some b:=by rw[<-hb];simp
   have hjl:j<s.data.size:=(Array.getElem?_eq_some_iff.1 hb2).1;have h3:(bytesRow s (grownCap w s.size 0 e))[j]? = some u:=by unfold bytesRow;rw[Array.getElem?_append_left (by simpa using hjl),Array.getElem?_map,hb2,<-hj];rfl
   show w'.cell? ⟨w.heap.size,j,none⟩=some u
   simp[World.cell?,hw2,h3]
end
end Go.Sl
namespace Go.Proofs.YtlmhakmoioogaaaGreat
open Go.RowKit Go.Sl
theorem Be7(l:List Int):(u8s l).all (·.oneCell')=true:=by rw[List.all_eq_true];intro v hv;obtain⟨x,_,rfl⟩:=List.mem_map.1 hv;rfl
theorem Az7(a b:List Int):u8s (a++b)=u8s a++u8s b:=List.map_append
theorem AQ7(a:List Int):(u8s a).length=a.length:=jM ..
theorem fM4(g c:Nat)(s:ByteArray)(hs:s.size<=1000000)(W w:World)(R:List HP)(hS:St W (sbR g s::R) w):
  Calls Tryz.prog 141 #[.S g s.size c] w fun e w'=>∃v,e=.returned v/\St W (byR v (l9 s.size++A8 s)::R) w':=by
 have hln:=Ao7 s.size;go_enter Tryz.func141,Tryz.ntmps141;go_wp2_with(first|go_big_skip|go_at_call 140;refine(cM4 _ ⟨by omega,by omega⟩ W _ _ hS).mono ?_;clear hS;rintro e w ⟨vn,rfl,hS⟩;(have hv:=hS.rowVal;obtain⟨na,nc,rfl⟩:=hv)|(with_reducible apply Ae7 hS);rfl;rfl;rfl;rfl;exact esS;exact rsS;rfl;decide;exact i6;exact Src.mk (i5.there i5.sb);(focus(rw[jM,AK7,Nat.mul_one]));exact Be7 _;(focus(unfold maxLen;omega));(focus(omega));clear hS;intro v w hS;refine frS ?_);go_ret;refine⟨v,rfl,?_⟩;have h0:St W (row v 1 5 ((l9 s.size).length+s.size) (u8s (l9 s.size)++u8s (A8 s))::_) w:=hS;rw[<-Az7]at h0;have h2:=AJ7 (by rw[jA,AK7]) h0;exact h2.s _
def NsR(W:World)(L:List HP)(ns:List Int)(v3 v4:Value)(w:World):Prop:=
 ∃i:Nat,v4=.I i/\i<=ns.length/\St W (byR v3 ((ns.take i).flatMap l9)::L) w
theorem Kb7(ns:List Int):(ns.flatMap l9).length<=9*ns.length:=by
 induction ns with
 | nil=>simp
 | cons n ns ih=>
  have:=Ao7 n;rw[List.flatMap_cons,jA,jC];omega
theorem gi4(ns:List Int)(b c:Nat)(hl:ns.length<=100)(hn:∀x∈ns, -9223372036854775808<=x/\x<=9223372036854775807)(W w:World)(R:List HP)(hS:St W (blk b (ns.map (Value.int .i64)) 3::R) w):
  Calls Tryz.prog 144 #[.S b ns.length c] w fun e w'=>∃v,e=.returned v/\St W (byR v (ns.flatMap l9)::R) w':=by
 have Hn:=jH hn;clear hn;go_enter Tryz.func144,Tryz.ntmps144;go_wp2_with(first|go_big_skip);have hS1:=hS.rowNil (k:=1) (T:=5);clear hS;have hS:=hS1;clear hS1
 go_loopw [3,4] (fun v3 v4 wr=>NsR W (blk b (ns.map (Value.int .i64)) 3::R) ns v3 v4 wr) (fun _ v4 _=>ns.length-(intOf v4).toNat)
 case atStart=>exact⟨0,rfl,Nat.zero_le _,hS⟩
 case round=>
  clear hS;obtain⟨i,rfl,hil,hS⟩:=hrel;by_cases hin:i=ns.length
  ·subst hin;rw[List.take_length]at hS;go_wp2_with(first|go_big_skip);go_ret;exact⟨u3,rfl,hS.s _⟩
  ·have hi1:i<ns.length:=by omega
   have hx:(ns.map (Value.int .i64))[i]? = some (.I ns[i]):=by rw[List.getElem?_map,jG hi1];rfl
   have hr:=Hn.out _ (jW hi1);have hst:(ns.take (i+1)).flatMap l9=(ns.take i).flatMap l9++l9 ns[i]:=by rw[List.take_succ_eq_append_getElem hi1,List.flatMap_append];simp
   have hle:=Kb7 (ns.take i);rw[jT]at hle;generalize ns[i]=x at hx hr hst;obtain⟨r1,r2⟩:=hr;have hlx:=Ao7 x;have Hst:=jH hst;clear hst hin hil;generalize (ns.take i).flatMap l9=d at hS Hst hle;go_wp2_with(first|go_big_skip|refine zl1 hS ?_ (hc:=by exact i8.there (i8.here hx))|refine zl1 hS ?_ (hc:=by exact i8.here hx)|go_at_call 140;refine(cM4 _ ⟨by omega,by omega⟩ W _ _ hS).mono ?_;clear hS;rintro e w ⟨vn,rfl,hS⟩;(have hv:=hS.rowVal;obtain⟨na,nc,rfl⟩:=hv)|(with_reducible apply Ae7 hS);rfl;rfl;rfl;rfl;exact esS;exact rsS;rfl;decide;exact i6;exact St.src (by decide) hS;(focus(rw[AQ7,Nat.mul_one]));exact Be7 _;(focus(unfold maxLen;omega));(focus(omega));clear hS;intro v w hS;refine frS ?_);go_roundw
   case rel=>
    refine⟨i+1,rfl,hi1,?_⟩;rw[Hst.out];have h0:St W (row v 1 5 (d.length+(l9 x).length) (u8s d++u8s (l9 x))::_) w:=hS;rw[<-Az7]at h0;have h2:=AJ7 (by rw[jA]) h0;exact h2.s _
   case measure=>simp[intOf];omega
end Go.Proofs.YtlmhakmoioogaaaGreat
end
