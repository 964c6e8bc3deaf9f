/-
  The document's vault.
-/
import Derived.Test.YtienbkdjkjbelaaGreatJuTM5
import Derived.Test.YtienbkdjkjbelaaGreatJuTM21
import Derived.Test.YtienbkdjkjbelaaGreatJuTM28
import Derived.Test.YtienbkdjkjbelaaGreatJuTM29
import Derived.Test.YtienbkdjkjbelaaGreatJuTM33
import Derived.Test.YtienbkdjkjbelaaGreatJuTM34
set_option maxHeartbeats 16000000
set_option maxRecDepth 100000
set_option linter.unusedSimpArgs false
set_option linter.unusedVariables false
section
namespace Go.Proofs.YtienbkdjkjbelaaGreat
open Go.RowKit Go.Sl
theorem fJ4(W w:World)(R:List HP)(hS:St W R w):
  Calls Tryz.prog 98 #[] w fun e w'=>∃xb xB,e=.returned (.P xb)/\St W (xvR xb xB [] [] 1 R) w':=by
 go_enter Tryz.func98,Tryz.ntmps98;go_wp2_with(first|(fail_if_success (have:=bA));(with_reducible apply Ay7 hS);rfl;rfl;rfl;rfl;clear hS;intro bA w hS;refine frS ?_|(have:=bA);(with_reducible apply Ay7 hS);rfl;rfl;rfl;rfl;clear hS;intro bB w hS;refine frS ?_);go_ret;have hS1:=(hS.rowNil (k:=5) (T:=171)).rowNil (k:=6) (T:=173);have e0:hdL []=[]:=List.eq_nil_of_length_eq_zero (by rw[CV7];rfl);have hS2:St W (j7 (.slice none 0 0) []::hdR (.slice none 0 0) []::_) _:=hS1;rw[<-e0]at hS2;have hS3:=aJ4 (n:=1) (last:=0) (by decide) (hS2.s (blk bA _ _::j7 _ []::blk bB _ _::hdR _ (hdL [])::R));exact⟨bB,bA,rfl,ao4 (hS3.s (blk bB _ _::hdR _ (hdL [])::xkP bA [] 1::R))⟩
theorem fc4(xb xB:Nat)(p:Ps)(L:List Ord)(n:Int){N:Nat}(hw:PsW p N)(hN:N<=1000000)(hmay:∀x∈L,MayP x)(hl32:L.length<=32)(W w:World)(R:List HP)(hS:St W (xvR xb xB p L n R) w):
  Calls Tryz.prog 76 #[.P xb] w fun e w'=>e=.returned (.tuple #[.agg (al4 (bQ4 ⟨p,L,n⟩)).cells.toArray,.bool (B5 (bQ4 ⟨p,L,n⟩) it0).isSome])/\St W (xvR xb xB p L n R) w':=by
 have hlh:(hdL p).length<=1000000:=by rw[CV7];exact Nat.le_trans hw.len hN
 have Hmay:=jH hmay;clear hmay hw;obtain⟨xv,hS1⟩:=aV4 hS;obtain⟨la,lc,last,hlast,hS2⟩:=bx4 (hS1.s (xkP xB L n::blk xb _ _::hdR _ (hdL p)::R));clear hS hS1;obtain⟨ha,hc,rfl⟩:=hS2.drop.drop.drop.rowVal;have hS:=hS2;clear hS2;unfold bQ4;go_enter Tryz.func76,Tryz.ntmps76;go_wp2_with(first|(with_reducible apply An7 hS);rfl;rfl;exact zsS;clear hS;intro b0 w hS;refine frS ?_);have hS1:=hS.rowNil (k:=4) (T:=34);clear hS;have hS:=hS1;clear hS1
 try dsimp only
 generalize hhs:hdL p=hs at hS hlh ⊢;have Hhs:=jH hhs;clear hhs
 go_loopw [4,5] (fun v4 v5 wr=>TtR W (blk b0 [.I 0,.I 0,.I 0,.I 0] 34::blk xB [.slice la L.length lc,.I last] 186::j7 (.slice la L.length lc) L::blk xb [.slice ha hs.length hc,.P xB,.I n] 183::hdR (.slice ha hs.length hc) hs::R) hs.length (fun k=>(hs.take k).map Hd.has) v4 v5 wr) (fun _ v5 _=>hs.length-(intOf v5).toNat)
 case atStart=>exact⟨0,rfl,Nat.zero_le _,hS⟩
 case round=>
  clear hS;obtain⟨k,rfl,hkl,hS⟩:=hrel;dsimp only at hS;by_cases hkn:k=hs.length
  ·rw[hkn,List.take_length]at hS;have hd1:decide (k<hs.length)=false:=by simp;omega
   clear hkl hkn;generalize hacc:hs.map Hd.has=acc at hS ⊢;have hal:acc.length<=1000000:=by rw[<-hacc,jM];exact hlh
   have Hacc:=jH hacc;clear hacc;go_wp2_with(first|go_big_skip|refine zl1 hS ?_)
   go_loopw [4,6] (fun v4 v6 wr=>TtR W (blk b0 [.I 0,.I 0,.I 0,.I 0] 34::blk xB [.slice la L.length lc,.I last] 186::j7 (.slice la L.length lc) L::blk xb [.slice ha hs.length hc,.P xB,.I n] 183::hdR (.slice ha hs.length hc) hs::R) L.length (fun k=>acc++(L.take k).map j5) v4 v6 wr) (fun _ v6 _=>L.length-(intOf v6).toNat)
   case atStart=>exact⟨0,rfl,Nat.zero_le _,by simpa using hS⟩
   case round=>
    clear hS;obtain⟨j,rfl,hjl,hS⟩:=hrel;dsimp only at hS;by_cases hjn:j=L.length
    ·rw[hjn,List.take_length]at hS;have hd2:decide (j<L.length)=false:=by simp;omega
     clear hjl hjn;obtain⟨q,hq⟩:∃q,al4 (acc++L.map j5)=q:=⟨_,rfl⟩
     obtain⟨s0,s1,s2,s3⟩:=q;have Hq:=jH hq;clear hq;go_wp2_with(first|go_big_skip|refine zl1 hS ?_|go_at_call 36;refine(ep4 _ _ W _ _ hS).mono ?_;clear hS;rw[Hq.out];simp only[It.cells];rintro e w ⟨rfl,hS⟩|refine zsN hS ?_;clear hS;intro w hS);apply Ac7;rfl;rfl;rfl;rfl;exact hS;decide +kernel;(exact r6);kernel_rfl;rw[show(hdL p).map Hd.has=acc by rw[Hhs.out,Hacc.out],Hq.out];have hS1:=aJ4 hlast (hS.s (blk xB _ _::j7 _ L::blk xb _ _::hdR _ hs::R));rw[<-Hhs.out]at hS1;exact⟨rfl,ao4 (hS1.s (blk xb _ _::hdR _ (hdL p)::xkP xB L n::R))⟩
    ·have hj1:j<L.length:=by omega
     obtain⟨⟨g,rfl⟩,_,_⟩:=St.rowAddr hS.drop.drop.drop (by omega);have hcells:∀{K K':List HP},Take K (j7 (.S g L.length lc) L) K'->d8 K g (j*6) (Ord.cells L[j]):=fun hu=>d8.elemM (enc:=Ord.cells) Ord.len hu hj1
     have hstep:acc++(L.take (j+1)).map j5=(acc++(L.take j).map j5)++[j5 L[j]]:=by rw[Cd7 _ _ hj1,jS]
     have hmx:=Hmay.out _ (jW hj1);have hbl:(acc++(L.take j).map j5).length<=1000100:=by rw[jA,jM,jT];omega
     have Hstep:=jH hstep;clear hstep hjn hjl;generalize acc++(L.take j).map j5=accj at hS Hstep hbl;generalize L[j]=x at hcells Hstep hmx;obtain⟨it,hit⟩:∃y,j5 x=y:=⟨_,rfl⟩
     obtain⟨oi,ou,oy,ot,oc2,op⟩:=x;obtain⟨h0,h1,h2,h3⟩:=it;have Hit:=jH hit;have Hm:=jH hmx;clear hit hmx;simp only[Ord.cells]at hcells;go_wp2_with(first|go_big_skip|refine zlN hS ?_ (hc:=by exact hcells (by exact i7))|refine zl1 hS ?_|go_at_call 119;refine(DF7 (o:=⟨oi,ou,oy,ot,oc2,op⟩) Hm.out Hit.out W _ _ hS).mono ?_;clear hS;rintro e w ⟨rfl,hS⟩|refine zbs hS ?_;clear hS;intro bS w hS|refine zap hS ?_ (h63:=by unfold maxLen;omega) (hb:=by omega);clear hS;intro v w hS);go_roundw
     case rel=>
      refine⟨j+1,rfl,hj1,?_⟩;dsimp only;rw[Hstep.out,Hit.out];unfold L5;rw[CP7,jA,List.length_singleton];have h0:St W (row v 4 34 (accj.length+1) (accj.flatMap It.cells++It.cells ⟨h0,h1,h2,h3⟩)::_) w:=hS;exact h0.s _
     case measure=>simp[intOf];omega
  ·have hk1:k<hs.length:=by omega
   obtain⟨⟨g,rfl⟩,_,_⟩:=St.rowAddr hS.drop.drop.drop.drop.drop (by omega);have hitems:∀{K K':List HP},Take K (hdR (.S g hs.length hc) hs) K'->d8 K g (k*5+1) (hs[k].has.cells):=fun hu j v hj=>by have h1:=d8.elemM (enc:=Hd.cells) Hd.len hu hk1 (1+j) v (by rw[Nat.add_comm];exact hj);rwa [<-Nat.add_assoc]at h1
   have hstep:=Cd7 Hd.has hs hk1;have hbl:((hs.take k).map Hd.has).length<=1000000:=by rw[jM,jT];omega
   have Hstep:=jH hstep;clear hstep hkn hkl;generalize (hs.take k).map Hd.has=accj at hS Hstep hbl;generalize hs[k]=x at hitems Hstep;obtain⟨xw,⟨x0,x1,x2,x3⟩⟩:=x;simp only[It.cells]at hitems;go_wp2_with(first|go_big_skip|refine zlN hS ?_ (hc:=by exact hitems (by exact i7))|refine zl1 hS ?_|refine zbs hS ?_;clear hS;intro bS w hS|refine zap hS ?_ (h63:=by unfold maxLen;omega) (hb:=by omega);clear hS;intro v w hS);go_roundw
   case rel=>
    refine⟨k+1,rfl,hk1,?_⟩;dsimp only;rw[Hstep.out];unfold L5;rw[CP7,jA,List.length_singleton];have h0:St W (row v 4 34 (accj.length+1) (accj.flatMap It.cells++It.cells ⟨x0,x1,x2,x3⟩)::_) w:=hS;exact h0.s _
   case measure=>simp[intOf];omega
def hd4(W:World)(Lr:List HP)(n:Nat)(v:Value)(w:World):Prop:=∃i:Nat,v=.I i/\i<=n/\St W Lr w
abbrev ltB(x y:ByteArray):Bool:=Op.bytesLess x.toList y.toList
theorem Bx7:Ordr ltB:=⟨fun a=>by
  cases h:ltB a a with
  | false=>rfl
  | true=>exact absurd rfl (DB7 h),fun a b c h1 h2=>DA7 h1 h2,fun a b h1 h2=>by
  refine Gd7 ?_ h2;show ¬ltB a b=true
  rw[h1];exact Bool.noConfusion⟩
def rwC(x:ByteArray×(Nat×Vs)):List Value:=[.string x.1,.pointer (some ⟨x.2.1,0,none⟩)]
theorem Bm7(x:ByteArray×(Nat×Vs)):(rwC x).length=2:=rfl
def seC(x:Int×(Int×Rpl)):List Value:=[.I x.1,.I x.2.1,.I x.2.2.err,.I x.2.2.id,.I x.2.2.has.x0,.I x.2.2.has.x1,.I x.2.2.has.x2,.I x.2.2.has.x3]
theorem AO7(x:Int×(Int×Rpl)):(seC x).length=8:=rfl
def mkC(x:(Int×Int)×Unit):List Value:=[.I x.1.1,.I x.1.2]
theorem Cj7(x:(Int×Int)×Unit):(mkC x).length=2:=rfl
def dvP(vb:Nat)(V:Vs):HP:=fun f=>∃xB:Nat,sats [xvP vb (.P xB) V.n V.ps,xkP xB V.L V.n] f
def A7(D:Ev):HP:=sats (D.map fun x=>dvP x.2.1 x.2.2)
abbrev xrP(v:Value)(D:Ev):HP:=row v 2 137 D.length (D.flatMap rwC)
abbrev xsP(v:Value)(l:List (Int×(Int×Rpl))):HP:=row v 8 141 l.length (l.flatMap seC)
abbrev xtP(v:Value)(l:List ((Int×Int)×Tns)):HP:=row v 8 97 l.length (l.flatMap tnC)
abbrev xmP(v:Value)(l:List ((Int×Int)×Unit)):HP:=row v 2 144 l.length (l.flatMap mkC)
abbrev xeB(xb:Nat)(v1 v2 v3 v4:Value):HP:=blk xb [v1,v2,v3,v4] 86
def XpR(W:World)(L:List HP)(D:Ev)(k:ByteArray)(v:Value)(w:World):Prop:=
 ∃i:Nat,v=.I i/\i<=D.length/\plI ltB D k=i+plI ltB (D.drop i) k/\plB ltB D k=plB ltB (D.drop i) k/\St W L w
theorem KM7(D:Ev)(k:ByteArray)(xb:Nat)(v1 v2 v3 v4:Value)(W w:World)(R:List HP)(hS:St W (xeB xb v1 v2 v3 v4::xrP v1 D::R) w):
  Calls Tryz.prog 97 #[.P xb,.string k] w fun e w'=>e=.returned (.tuple #[.I (plI ltB D k),.bool (plB ltB D k)])/\St W (xeB xb v1 v2 v3 v4::xrP v1 D::R) w':=by
 obtain⟨a,cap,rfl⟩:=hS.drop.rowVal
 have h63:D.length<=9223372036854775807:=by
  rcases St.rowCase hS.drop with ⟨_,h0,_⟩|⟨_,_,h1,h2⟩
  ·omega
  ·omega
 go_enter Tryz.func97,Tryz.ntmps97;go_wp2_with fail
 go_loopw [6] (fun v wr=>XpR W (xeB xb (.slice a D.length cap) v2 v3 v4::xrP (.slice a D.length cap) D::R) D k v wr) (fun v _=>D.length-(intOf v).toNat)
 case atStart=>exact⟨0,rfl,Nat.zero_le _,by simp,rfl,hS⟩
 case round=>
  clear hS;obtain⟨i,rfl,hil,e1,e2,hS⟩:=hrel;by_cases hin:i=D.length
  ·subst hin;rw[List.drop_length]at e1 e2;have E1:=jH (show plI ltB D k=D.length from e1);have E2:=jH (show plB ltB D k=false from e2);clear e1 e2;go_wp2_with(first|go_big_skip|refine zl1 hS ?_);go_ret2;rw[E1.out,E2.out];exact⟨rfl,hS⟩
  ·have hi1:i<D.length:=by omega
   obtain⟨⟨g,rfl⟩,_,_⟩:=St.rowAddr hS.drop (by omega);have hname:∀{K K':List HP},Take K (xrP (.S g D.length cap) D) K'->i6 K g (i*2) (.string D[i].1):=fun hu=>d8.elemM (enc:=rwC) Bm7 hu hi1 0 _ rfl
   have hdr:D.drop i=D[i]::D.drop (i+1):=List.drop_eq_getElem_cons hi1;rw[hdr]at e1 e2;generalize D[i]=x at hname e1 e2;obtain⟨xw,xi⟩:=x;simp only at hname;rw[plI]at e1;rw[plB]at e2;simp only at e1 e2;clear hdr
   cases hb:Op.bytesLess xw.toList k.toList with
   | true=>
    rw[if_pos hb]at e1 e2;have E1:=jH e1;have E2:=jH e2;clear e1 e2;go_wp2_with(first|go_big_skip|refine zl1 hS ?_|refine zl1 hS ?_ (hc:=by exact hname (by exact i7)));go_roundw
    case rel=>exact⟨i+1,rfl,hi1,by rw[E1.out];omega,E2.out,hS⟩
    case measure=>simp[intOf];omega
   | false=>
    rw[if_neg (by rw[show ltB xw k=false from hb];simp)]at e1 e2
    have e3:plB ltB D k=(xw.toList==k.toList):=by
     rw[e2]
     cases h:(xw.toList==k.toList)with
     | true=>simpa using Fx7.1 h
     | false=>simp only[decide_eq_false_iff_not];intro e;rw[Fx7.2 e]at h;cases h
    have E1:=jH (show plI ltB D k=i from e1);have E2:=jH e3;clear e1 e2 e3;go_wp2_with(first|go_big_skip|refine zl1 hS ?_|refine zl1 hS ?_ (hc:=by exact hname (by exact i7)));refine Aa7 (by kernel_rfl) (by kernel_rfl) hS ?_
    iterate 2 (refine qR ?_)
    (refine zqn ?_);refine qR ?_;refine zq1 ?_
    iterate 3 (refine qR ?_)
    (apply Ar7;rfl;rfl;rfl;decide +kernel;exact hname (by exact i7);refine frS ?_)
    iterate 4 (refine qR ?_)
    clear hS;intro w hS;go_wp2_with fail;go_ret2;rw[E1.out,E2.out];exact⟨rfl,hS⟩
theorem GG7{D:Ev}{k:ByteArray}{p:Nat}{b:Bool}(h1:plI ltB D k=p)(h2:plB ltB D k=b)(xb:Nat)(v1 v2 v3 v4:Value)(W w:World)(R:List HP)(hS:St W (xeB xb v1 v2 v3 v4::xrP v1 D::R) w):
  Calls Tryz.prog 97 #[.P xb,.string k] w fun e w'=>e=.returned (.tuple #[.I p,.bool b])/\St W (xeB xb v1 v2 v3 v4::xrP v1 D::R) w':=
 (KM7 D k xb v1 v2 v3 v4 W w R hS).mono fun e w' ⟨he,hS⟩=>⟨by rw[he,h1,h2],hS⟩
theorem DH7{κ ν:Type}[DecidableEq κ](x:κ×ν)(l:List (κ×ν))(k:κ):j6 (x::l) k=if x.1=k then some x.2 else j6 l k:=by unfold j6;rw[List.find?_cons];by_cases hk:x.1=k <;> simp[hk]
theorem fd4(a b c d:Int)(w:World):(Op.equalIn 10000 144 (.agg #[.I a,.I b]) (.agg #[.I c,.I d])).run Tryz.prog w=.ok (decide ((a,b)=(c,d))) w:=by
 have u3:=Tryz.underlying3;have a3:=Tryz.isAgg3;have z3:=Tryz.sizeOf3;have hs:Tryz.prog.stoodInHeld 144=false:=by kernel_rfl
 rw[Op.equalIn];simp only[Sem.run_bind,run_underlying Tryz.underlying144,Result.andThen_ok,run_program,hs,Bool.false_eq_true,if_false];rw[<-Array.forIn_toList];simp only[List.forIn_cons,List.forIn_nil]
 go_simp
 by_cases h1:a=c <;> by_cases h2:b=d <;> simp[h1,h2]
theorem HS7{a b c d:Int}{r:Bool}(h:decide ((a,b)=(c,d))=r)(w:World):(Op.equalIn 10000 144 (.agg #[.I a,.I b]) (.agg #[.I c,.I d])).run Tryz.prog w=.ok r w:=by rw[<-h];exact fd4 a b c d w
def ArR(W:World)(L:List HP)(l:List ((Int×Int)×Unit))(k:Int×Int)(v:Value)(w:World):Prop:=
 ∃i:Nat,v=.I i/\i<=l.length/\(j6 l k).isSome=(j6 (l.drop i) k).isSome/\St W L w
theorem DI7(l:List ((Int×Int)×Unit))(cl sq:Int){b:Bool}(hb:(j6 l (cl,sq)).isSome=b)(xb:Nat)(v1 v2 v3 v4:Value)(W w:World)(R:List HP)(hS:St W (xeB xb v1 v2 v3 v4::xmP v4 l::R) w):
  Calls Tryz.prog 34 #[.P xb,.I cl,.I sq] w fun e w'=>e=.returned (.bool b)/\St W (xeB xb v1 v2 v3 v4::xmP v4 l::R) w':=by
 obtain⟨a,cap,rfl⟩:=hS.drop.rowVal
 have h63:l.length<=9223372036854775807:=by
  rcases St.rowCase hS.drop with ⟨_,h0,_⟩|⟨_,_,h1,h2⟩
  ·omega
  ·omega
 have Hb:=jH hb;clear hb;go_enter Tryz.func34,Tryz.ntmps34;go_wp2_with fail
 go_loopw [7] (fun v wr=>ArR W (xeB xb v1 v2 v3 (.slice a l.length cap)::xmP (.slice a l.length cap) l::R) l (cl,sq) v wr) (fun v _=>l.length-(intOf v).toNat)
 case atStart=>exact⟨0,rfl,Nat.zero_le _,rfl,hS⟩
 case round=>
  clear hS;obtain⟨i,rfl,hil,e1,hS⟩:=hrel;by_cases hin:i=l.length
  ·subst hin;rw[List.drop_length]at e1;have E1:=jH (show false=b by rw[<-Hb.out,e1];rfl);clear e1;go_wp2_with(first|go_big_skip|refine zl1 hS ?_);go_ret;rw[E1.out];exact⟨rfl,hS⟩
  ·have hi1:i<l.length:=by omega
   obtain⟨⟨g,rfl⟩,_,_⟩:=St.rowAddr hS.drop (by omega);have hcells:∀{K K':List HP},Take K (xmP (.S g l.length cap) l) K'->d8 K g (i*2) (mkC l[i]):=fun hu=>d8.elemM (enc:=mkC) Cj7 hu hi1
   have hdr:l.drop i=l[i]::l.drop (i+1):=List.drop_eq_getElem_cons hi1;rw[hdr,DH7]at e1;generalize l[i]=x at hcells e1;obtain⟨⟨xc,xq⟩,xu⟩:=x;simp only[mkC]at hcells;simp only at e1;clear hdr;by_cases hx:(xc,xq)=(cl,sq)
   ·rw[if_pos hx]at e1;have D1:=jH (show decide ((xc,xq)=(cl,sq))=true from decide_eq_true hx);have E1:=jH (show true=b by rw[<-Hb.out,e1];rfl);clear e1 hx;go_wp2_with(first|go_big_skip|refine zl1 hS ?_|refine zlN hS ?_ (hc:=by exact hcells (by exact i7))|(with_reducible apply Cm7);rfl;rfl;rfl;rfl;kernel_rfl;exact HS7 D1.out;refine frS ?_);go_ret;rw[E1.out];exact⟨rfl,hS⟩
   ·rw[if_neg hx]at e1;have D1:=jH (show decide ((xc,xq)=(cl,sq))=false from decide_eq_false hx);have E1:=jH e1;clear e1 hx;go_wp2_with(first|go_big_skip|refine zl1 hS ?_|refine zlN hS ?_ (hc:=by exact hcells (by exact i7))|(with_reducible apply Cm7);rfl;rfl;rfl;rfl;kernel_rfl;exact HS7 D1.out;refine frS ?_);go_roundw
    case rel=>exact⟨i+1,rfl,hi1,E1.out,hS⟩
    case measure=>simp[intOf];omega
def fdI{κ ν:Type}[DecidableEq κ]:List (κ×ν)->κ->Int
 | [],_ => -1
 | x::l,k=>if x.1=k then 0 else if fdI l k<0 then -1 else fdI l k+1
theorem HT7{κ ν:Type}[DecidableEq κ](k:κ):∀l:List (κ×ν), -1<=fdI l k/\fdI l k<l.length
 | []=>by simp[fdI]
 | x::l=>by
  have h:=HT7 k l;rw[fdI,jC];split
  ·omega
  ·split <;> omega
def TsK(ts:List ((Int×Int)×Tns)):Prop:=∀x∈ts,x.1=(x.2.client,x.2.seq)
def UnR(W:World)(L:List HP)(l:List ((Int×Int)×Tns))(k:Int×Int)(v:Value)(w:World):Prop:=
 ∃i:Nat,v=.I i/\i<=l.length/\fdI l k=(if fdI (l.drop i) k<0 then -1 else i+fdI (l.drop i) k)/\St W L w
theorem FB7(l:List ((Int×Int)×Tns))(hk:TsK l)(cl sq:Int){r:Int}(hr:fdI l (cl,sq)=r)(xb:Nat)(v1 v2 v3 v4:Value)(W w:World)(R:List HP)(hS:St W (xeB xb v1 v2 v3 v4::xtP v3 l::R) w):
  Calls Tryz.prog 60 #[.P xb,.I cl,.I sq] w fun e w'=>e=.returned (.I r)/\St W (xeB xb v1 v2 v3 v4::xtP v3 l::R) w':=by
 obtain⟨a,cap,rfl⟩:=hS.drop.rowVal
 have h63:l.length<=9223372036854775807:=by
  rcases St.rowCase hS.drop with ⟨_,h0,_⟩|⟨_,_,h1,h2⟩
  ·omega
  ·omega
 have Hr:=jH hr;have Hk:=jH hk;clear hr hk;go_enter Tryz.func60,Tryz.ntmps60;go_wp2_with fail
 go_loopw [7] (fun v wr=>UnR W (xeB xb v1 v2 (.slice a l.length cap) v4::xtP (.slice a l.length cap) l::R) l (cl,sq) v wr) (fun v _=>l.length-(intOf v).toNat)
 case atStart=>exact⟨0,rfl,Nat.zero_le _,by
  have:=HT7 (cl,sq) l;show fdI l (cl,sq)=if fdI l (cl,sq)<0 then -1 else(0:Nat)+fdI l (cl,sq)
  split <;> omega,hS⟩
 case round=>
  clear hS;obtain⟨i,rfl,hil,e1,hS⟩:=hrel;by_cases hin:i=l.length
  ·subst hin;rw[List.drop_length]at e1;have E1:=jH (show r = -1 by rw[<-Hr.out,e1];rfl);clear e1;go_wp2_with(first|go_big_skip|refine zl1 hS ?_);go_ret;rw[E1.out];exact⟨rfl,hS⟩
  ·have hi1:i<l.length:=by omega
   obtain⟨⟨g,rfl⟩,_,_⟩:=St.rowAddr hS.drop (by omega);have hcl:∀{K K':List HP},Take K (xtP (.S g l.length cap) l) K'->i6 K g (i*8) (.I l[i].2.client):=fun hu=>d8.elemM (enc:=tnC) AT7 hu hi1 0 _ rfl
   have hsq:∀{K K':List HP},Take K (xtP (.S g l.length cap) l) K'->i6 K g (i*8+1) (.I l[i].2.seq):=fun hu=>d8.elemM (enc:=tnC) AT7 hu hi1 1 _ rfl
   have hdr:l.drop i=l[i]::l.drop (i+1):=List.drop_eq_getElem_cons hi1;have hkk:=Hk.out _ (jW hi1);have e2:fdI (l.drop i) (cl,sq)=if(l[i].2.client,l[i].2.seq)=(cl,sq)then 0 else if fdI (l.drop (i+1)) (cl,sq)<0 then -1 else fdI (l.drop (i+1)) (cl,sq)+1:=by rw[hdr,fdI,hkk]
   generalize fdI (l.drop i) (cl,sq)=F at e1 e2;generalize l[i]=x at hcl hsq e2;obtain⟨xk,⟨xc,xq,x2,x3,x4,x5,x6,x7⟩⟩:=x;simp only at e2 hcl hsq;clear hdr hkk;have hge:=HT7 (cl,sq) (l.drop (i+1));by_cases hx:xc=cl
   ·have dx:(xc==cl)=true:=by simpa using hx
    by_cases hy:xq=sq
    ·have dy:(xq==sq)=true:=by simpa using hy
     rw[if_pos (by rw[hx,hy])]at e2;have E1:=jH (show r=i by rw[<-Hr.out,e1,e2];simp);clear e1 e2 hx hy hge;go_wp2_with(first|go_big_skip|refine zl1 hS ?_|refine zl1 hS ?_ (hc:=by exact hcl (by exact i7))|refine zl1 hS ?_ (hc:=by exact hsq (by exact i7)));go_ret;rw[E1.out];exact⟨rfl,hS⟩
    ·have dy:(xq==sq)=false:=by simpa using hy
     rw[if_neg (by intro e;injection e with _ e;exact hy e)]at e2;have E1:=jH (show fdI l (cl,sq)=if fdI (l.drop (i+1)) (cl,sq)<0 then -1 else((i+1:Nat):Int)+fdI (l.drop (i+1)) (cl,sq)by rw[e1];split at e2 <;> (repeat' split) <;> omega);clear e1 e2 hx hy hge;go_wp2_with(first|go_big_skip|refine zl1 hS ?_|refine zl1 hS ?_ (hc:=by exact hcl (by exact i7))|refine zl1 hS ?_ (hc:=by exact hsq (by exact i7)));go_roundw
     case rel=>exact⟨i+1,rfl,hi1,E1.out,hS⟩
     case measure=>simp[intOf];omega
   ·have dx:(xc==cl)=false:=by simpa using hx
    rw[if_neg (by intro e;injection e with e _;exact hx e)]at e2;have E1:=jH (show fdI l (cl,sq)=if fdI (l.drop (i+1)) (cl,sq)<0 then -1 else((i+1:Nat):Int)+fdI (l.drop (i+1)) (cl,sq)by rw[e1];split at e2 <;> (repeat' split) <;> omega);clear e1 e2 hx hge;go_wp2_with(first|go_big_skip|refine zl1 hS ?_|refine zl1 hS ?_ (hc:=by exact hcl (by exact i7))|refine zl1 hS ?_ (hc:=by exact hsq (by exact i7)));go_roundw
    case rel=>exact⟨i+1,rfl,hi1,E1.out,hS⟩
    case measure=>simp[intOf];omega
theorem DJ7{a b c d:Int}{r:Bool}(h:ltW (c,d) (a,b)=r)(W w:World)(R:List HP)(hS:St W R w):
  Calls Tryz.prog 102 #[.I a,.I b,.I c,.I d] w fun e w'=>e=.returned (.bool r)/\St W R w':=by
 unfold ltW at h;simp only at h;go_enter Tryz.func102,Tryz.ntmps102;by_cases h1:c<a
 ·have e:=jH (show r=true by rw[<-h];simp[h1]);have d1:decide (c<a)=true:=by simpa using h1
  clear h h1;go_wp2_with(fail);go_ret;rw[e.out];exact⟨rfl,hS⟩
 have d1:decide (c<a)=false:=by simpa using h1
 by_cases h2:a=c
 ·have d2:(a==c)=true:=by simpa using h2
  by_cases h3:d<b
  ·have e:=jH (show r=true by rw[<-h];simp[h2,h3]);have d3:decide (d<b)=true:=by simpa using h3
   clear h h1 h2 h3;go_wp2_with(fail);go_ret;rw[e.out];exact⟨rfl,hS⟩
  ·have e:=jH (show r=false by rw[<-h];simp[h2];omega);have d3:decide (d<b)=false:=by simpa using h3
   clear h h1 h2 h3;go_wp2_with(fail);go_ret;rw[e.out];exact⟨rfl,hS⟩
 ·have d2:(a==c)=false:=by simpa using h2
  have e:=jH (show r=false by rw[<-h];simp[h1];omega);clear h h1 h2;go_wp2_with(fail);go_ret;rw[e.out];exact⟨rfl,hS⟩
def CmR{ν:Type}(W:World)(L:List HP)(l:List ((Int×Int)×ν))(k:Int×Int)(v:Value)(w:World):Prop:=
 ∃i:Nat,v=.I i/\i<=l.length/\plI ltW l k=i+plI ltW (l.drop i) k/\St W L w
theorem FC7:∀l:List ((Int×Int)×Unit),(l.flatMap mkC).all (·.oneCell')=true
 | []=>rfl
 | x::l=>by rw[List.flatMap_cons,List.all_append,FC7 l];rfl
theorem AX7{α:Type}(H:List α)(p q:Nat)(x:α)(hp:p<=H.length):(H.take p++x::H.drop q).length=0+p+1+(H.length-q):=by rw[jA,jT,jC,List.length_drop,Nat.min_eq_left hp];omega
theorem AP7{α:Type}(enc:α->List Value)(H:List α)(p q:Nat)(x:α):(H.take p++x::H.drop q).flatMap enc=[]++(H.take p).flatMap enc++enc x++(H.drop q).flatMap enc:=by rw[List.flatMap_append,List.flatMap_cons,jN,jS]
theorem fK4(l:List ((Int×Int)×Unit))(hl:l.length<=1000000)(cl sq:Int)(xb:Nat)(v1 v2 v3 v4:Value)(W w:World)(R:List HP)(hS:St W (xeB xb v1 v2 v3 v4::xmP v4 l::R) w):
  Calls Tryz.prog 59 #[.P xb,.I cl,.I sq] w fun e w'=>e=.returned (.tuple #[])/\∃v,St W (xeB xb v1 v2 v3 v::xmP v (l.take (plI ltW l (cl,sq))++((cl,sq),())::l.drop (plI ltW l (cl,sq)))::R) w':=by
 obtain⟨a,cap,rfl⟩:=hS.drop.rowVal;have h63:l.length<=9223372036854775807:=by omega
 go_enter Tryz.func59,Tryz.ntmps59;go_wp2_with fail
 go_loopw [6] (fun v wr=>CmR W (xeB xb v1 v2 v3 (.slice a l.length cap)::xmP (.slice a l.length cap) l::R) l (cl,sq) v wr) (fun v _=>l.length-(intOf v).toNat)
 case atStart=>exact⟨0,rfl,Nat.zero_le _,by simp,hS⟩
 case round=>
  clear hS;obtain⟨i,rfl,hil,e1,hS⟩:=hrel;by_cases hin:i=l.length
  ·have hdr:l.drop i=[]:=by rw[hin];exact List.drop_length
   rw[hdr]at e1;have E1:=jH (show plI ltW l (cl,sq)=i from e1);have di:decide (i<l.length)=false:=by simp;omega
   have hi0:l=[]->i=0:=fun h=>by rw[h]at hil;simpa using hil
   clear e1 hdr hin;go_wp2_with fail;refine Aa7 (by kernel_rfl) (by kernel_rfl) hS ?_
   repeat(first|go_big_quiet_skip|refine zq1 ?_|refine zqn ?_|refine qR ?_)
   clear hS;intro w hS
   rcases St.rowCase hS.drop with ⟨rfl,h0,rfl,hc0⟩|⟨g,rfl,hcap,hcn⟩
   ·have hH:l=[]:=List.eq_nil_of_length_eq_zero h0;obtain rfl:=hi0 hH;clear hi0 E1;subst hH;go_wp2_with(first|refine zl1 hS ?_|(with_reducible apply Be7 (n:=0) hS);rfl;rfl;(focus(simp only[fD,fI,fJ,Act.eval,fE,fF,fG,fH,fK];try rfl));exact esS;exact rsS;rfl;rfl;rfl;rfl;rfl;decide;clear hS;intro bv w hS;refine frS ?_|refine zbs hS ?_;clear hS;intro bS w hS|(with_reducible apply Ae7 hS);rfl;rfl;rfl;rfl;exact esS;exact rsS;rfl;decide;exact i7;exact .inl ⟨rfl,rfl,rfl⟩;(focus(rfl));exact rfl;(focus(unfold maxLen;omega));(focus(omega));clear hS;intro v w hS;(have hv:=hS.rowVal;obtain⟨va,vc,rfl⟩:=hv);refine frS ?_|(with_reducible apply Ae7 hS);rfl;rfl;rfl;rfl;exact esS;exact rsS;rfl;decide;exact i7;exact Src.mk d8.whole;(focus(rfl));exact rfl;(focus(unfold maxLen;omega));(focus(omega));clear hS;intro v w hS;(have hv:=hS.rowVal;obtain⟨va,vc,rfl⟩:=hv);refine frS ?_|refine zs1 hS ?_;clear hS;intro w hS);go_end0;have hS1:St W (xmP (.slice va 1 vc) [((cl,sq),())]::_) w:=hS;have hS2:=hS1.s (xeB xb v1 v2 v3 _::xmP (.slice va 1 vc) [((cl,sq),())]::R);exact⟨rfl,.slice va 1 vc,hS2⟩
   ·clear hi0;have Hpp:=jH (show plI ltW l (cl,sq)=i from E1.out);go_wp2_with(first|refine zl1 hS ?_|(with_reducible apply Be7 (n:=0) hS);rfl;rfl;(focus(simp only[fD,fI,fJ,Act.eval,fE,fF,fG,fH,fK];try rfl));exact esS;exact rsS;rfl;rfl;rfl;rfl;rfl;decide;clear hS;intro bv w hS;refine frS ?_|refine zbs hS ?_;clear hS;intro bS w hS|(with_reducible apply Ae7 hS);rfl;rfl;rfl;rfl;exact esS;exact rsS;rfl;decide;exact i7;exact Src.partM (by exact aY4) (C5 l (i));(focus(rw[Ab7 Cj7,jT,Nat.min_eq_left (by omega)]));exact FC7 _;(focus(unfold maxLen;omega));(focus(omega));clear hS;intro v w hS;(have hv:=hS.rowVal;obtain⟨va,vc,rfl⟩:=hv);refine frS ?_|(with_reducible apply Ae7 hS);rfl;rfl;rfl;rfl;exact esS;exact rsS;rfl;decide;exact i7;exact Src.mk d8.whole;(focus(rfl));exact rfl;(focus(unfold maxLen;omega));(focus(omega));clear hS;intro v w hS;(have hv:=hS.rowVal;obtain⟨va,vc,rfl⟩:=hv);refine frS ?_|(with_reducible apply Ae7 hS);rfl;rfl;rfl;rfl;exact esS;exact rsS;rfl;decide;exact i7;exact Src.behindM (by exact aY4) (fun h=>⟨by omega,by rw[List.drop_eq_nil_of_le (by omega)];rfl⟩) (fun j u h=>D9 Cj7 l (i) j u (by omega) h);(focus(rw[Ab7 Cj7,List.length_drop]));exact FC7 _;(focus(unfold maxLen;omega));(focus(omega));clear hS;intro v w hS;(have hv:=hS.rowVal;obtain⟨va,vc,rfl⟩:=hv);refine frS ?_|refine zs1 hS ?_;clear hS;intro w hS)
    all_goals go_end0
    all_goals refine⟨rfl,.slice va (0+i+1+(l.length-i)) vc,?_⟩
    all_goals rw[Hpp.out]
    all_goals unfold xmP
    all_goals rw[AX7 l (i) (i) _ (by omega),AP7]
    all_goals have hS1:St W (row (.slice va (0+i+1+(l.length-i)) vc) 2 144 (0+i+1+(l.length-i)) ([]++(l.take (i)).flatMap mkC++mkC ((cl,sq),())++(l.drop (i)).flatMap mkC)::_) w:=hS
    all_goals exact hS1.s _
  ·have hi1:i<l.length:=by omega
   obtain⟨⟨g,rfl⟩,_,_⟩:=St.rowAddr hS.drop (by omega);have hca:∀{K K':List HP},Take K (xmP (.S g l.length cap) l) K'->i6 K g (i*2) (.I l[i].1.1):=fun hu=>d8.elemM (enc:=mkC) Cj7 hu hi1 0 _ rfl
   have hcb:∀{K K':List HP},Take K (xmP (.S g l.length cap) l) K'->i6 K g (i*2+1) (.I l[i].1.2):=fun hu=>d8.elemM (enc:=mkC) Cj7 hu hi1 1 _ rfl
   have hdr:l.drop i=l[i]::l.drop (i+1):=List.drop_eq_getElem_cons hi1;rw[hdr,plI]at e1;generalize l[i]=x at hca hcb e1;obtain⟨⟨xa,xc⟩,xu⟩:=x;simp only at hca hcb e1;clear hdr;have di:decide (i<l.length)=true:=by simpa using hi1
   cases hlt:ltW (xa,xc) (cl,sq)with
   | true=>
    rw[hlt,if_pos rfl]at e1;have Hlt:=jH hlt;have E1:=jH e1;clear hlt e1;go_wp2_with fail;refine Aa7 (by kernel_rfl) (by kernel_rfl) hS ?_
    repeat(first|refine zq1 ?_|apply Ar7;rfl;rfl;rfl;decide +kernel;exact hca (by exact i7);refine frS ?_|apply Ar7;rfl;rfl;rfl;decide +kernel;exact hcb (by exact i7);refine frS ?_|refine zqn ?_|apply At7;rfl;intro w;apply Ah7;rfl;decide +kernel;(focus(simp only[fD,fI,fJ,Act.eval,fE,fF,fG,fH,fK];try rfl));intro w hS;exact DJ7 Hlt.out W w _ hS;refine frS ?_|refine qR ?_)
    clear hS;intro w hS;go_wp2_with(fail);go_roundw
    case rel=>exact⟨i+1,rfl,hi1,by rw[E1.out];omega,hS⟩
    case measure=>simp[intOf];omega
   | false=>
    rw[hlt,if_neg (by simp)]at e1;have Hlt:=jH hlt;have E1:=jH (show plI ltW l (cl,sq)=i from e1);clear hlt e1;go_wp2_with fail;refine Aa7 (by kernel_rfl) (by kernel_rfl) hS ?_
    repeat(first|refine zq1 ?_|apply Ar7;rfl;rfl;rfl;decide +kernel;exact hca (by exact i7);refine frS ?_|apply Ar7;rfl;rfl;rfl;decide +kernel;exact hcb (by exact i7);refine frS ?_|refine zqn ?_|apply At7;rfl;intro w;apply Ah7;rfl;decide +kernel;(focus(simp only[fD,fI,fJ,Act.eval,fE,fF,fG,fH,fK];try rfl));intro w hS;exact DJ7 Hlt.out W w _ hS;refine frS ?_|refine qR ?_)
    clear hS;intro w hS;have Hpp:=jH (show plI ltW l (cl,sq)=i from E1.out);go_wp2_with(first|refine zl1 hS ?_|(with_reducible apply Be7 (n:=0) hS);rfl;rfl;(focus(simp only[fD,fI,fJ,Act.eval,fE,fF,fG,fH,fK];try rfl));exact esS;exact rsS;rfl;rfl;rfl;rfl;rfl;decide;clear hS;intro bv w hS;refine frS ?_|refine zbs hS ?_;clear hS;intro bS w hS|(with_reducible apply Ae7 hS);rfl;rfl;rfl;rfl;exact esS;exact rsS;rfl;decide;exact i7;exact Src.partM (by exact aY4) (C5 l (i));(focus(rw[Ab7 Cj7,jT,Nat.min_eq_left (by omega)]));exact FC7 _;(focus(unfold maxLen;omega));(focus(omega));clear hS;intro v w hS;(have hv:=hS.rowVal;obtain⟨va,vc,rfl⟩:=hv);refine frS ?_|(with_reducible apply Ae7 hS);rfl;rfl;rfl;rfl;exact esS;exact rsS;rfl;decide;exact i7;exact Src.mk d8.whole;(focus(rfl));exact rfl;(focus(unfold maxLen;omega));(focus(omega));clear hS;intro v w hS;(have hv:=hS.rowVal;obtain⟨va,vc,rfl⟩:=hv);refine frS ?_|(with_reducible apply Ae7 hS);rfl;rfl;rfl;rfl;exact esS;exact rsS;rfl;decide;exact i7;exact Src.partM (by exact aY4) (fun j u h=>D9 Cj7 l (i) j u (by omega) h);(focus(rw[Ab7 Cj7,List.length_drop]));exact FC7 _;(focus(unfold maxLen;omega));(focus(omega));clear hS;intro v w hS;(have hv:=hS.rowVal;obtain⟨va,vc,rfl⟩:=hv);refine frS ?_|refine zs1 hS ?_;clear hS;intro w hS)
    all_goals go_end0
    all_goals refine⟨rfl,.slice va (0+i+1+(l.length-i)) vc,?_⟩
    all_goals rw[Hpp.out]
    all_goals unfold xmP
    all_goals rw[AX7 l (i) (i) _ (by omega),AP7]
    all_goals have hS1:St W (row (.slice va (0+i+1+(l.length-i)) vc) 2 144 (0+i+1+(l.length-i)) ([]++(l.take (i)).flatMap mkC++mkC ((cl,sq),())++(l.drop (i)).flatMap mkC)::_) w:=hS
    all_goals exact hS1.s _
end Go.Proofs.YtienbkdjkjbelaaGreat
end
