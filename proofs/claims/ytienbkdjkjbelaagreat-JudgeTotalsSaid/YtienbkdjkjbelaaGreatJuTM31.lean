/-
  The document's vault.
-/
import Derived.Test.YtienbkdjkjbelaaGreatJuTM5
import Derived.Test.YtienbkdjkjbelaaGreatJuTM30
set_option maxHeartbeats 16000000
set_option maxRecDepth 100000
set_option linter.unusedSimpArgs false
set_option linter.unusedVariables false
section
namespace Go.Proofs.YtienbkdjkjbelaaGreat
open Go.RowKit Go.Sl
theorem DD7:∀L:List Hd,(L.flatMap Hd.cells).all (·.oneCell')=true
 | []=>rfl
 | x::L=>by rw[List.flatMap_cons,List.all_append,DD7 L];rfl
theorem MF7(H:List Hd)(p q:Nat)(x:Hd)(hp:p<=H.length):(H.take p++x::H.drop q).length=0+p+1+(H.length-q):=by rw[jA,jT,jC,List.length_drop,Nat.min_eq_left hp];omega
theorem JN7(H:List Hd)(p q:Nat)(x:Hd):(H.take p++x::H.drop q).flatMap Hd.cells=[]++(H.take p).flatMap Hd.cells++Hd.cells x++(H.drop q).flatMap Hd.cells:=by rw[List.flatMap_append,List.flatMap_cons,jN,jS]
theorem MG7(H:List Hd)(p q:Nat)(hp:p<=H.length):(H.take p++H.drop q).length=0+p+(H.length-q):=by rw[jA,jT,List.length_drop,Nat.min_eq_left hp];omega
theorem JO7(H:List Hd)(p q:Nat):(H.take p++H.drop q).flatMap Hd.cells=[]++(H.take p).flatMap Hd.cells++(H.drop q).flatMap Hd.cells:=by rw[List.flatMap_append,jN]
theorem gB4(H:List Hd)(k:ByteArray)(i:It)(hl:H.length<=1000000)(xb:Nat)(v vB:Value)(n:Int)(W w:World)(R:List HP)(hS:St W (xvL xb v vB n H R) w):
  Calls Tryz.prog 101 #[.P xb,.string k,.agg i.cells.toArray] w fun e w'=>e=.returned (.tuple #[])/\∃v',St W (xvL xb v' vB n (dC4 H k i) R) w':=by
 obtain⟨a,cap,rfl⟩:=hS.drop.rowVal;obtain⟨x0,x1,x2,x3⟩:=i;simp only[It.cells];have hle:=Pu7 H k;have hlt:=MC7 H k;have e0:dC4 H k ⟨x0,x1,x2,x3⟩=H.take (spI H k)++((if isZ ⟨x0,x1,x2,x3⟩=true then[]else[⟨k,⟨x0,x1,x2,x3⟩⟩])++H.drop (if spB H k=true then spI H k+1 else spI H k)):=rfl;obtain⟨p,hp⟩:∃p,spI H k=p:=⟨_,rfl⟩
 rw[hp]at hle hlt e0;have Hp:=jH hp;clear hp
 rcases St.rowCase hS.drop with ⟨rfl,h0,rfl,hc0⟩|⟨g,rfl,hcap,hcn⟩
 ·have hH:H=[]:=List.eq_nil_of_length_eq_zero h0;subst hH;have hp0:p=0:=by simp at hle;exact hle
  subst hp0;have Hb:=jH (show spB [] k=false from rfl)
  cases hz:isZ ⟨x0,x1,x2,x3⟩with
  | true=>
   have h4:(x0==0&&(x1==0&&(x2==0&&x3==0)))=true:=hz;rw[hz,if_pos rfl]at e0;have E:=jH (show dC4 [] k ⟨x0,x1,x2,x3⟩=[]from e0);clear e0 hz hlt hle h0;go_enter Tryz.func101,Tryz.ntmps101;go_wp2_with(first|go_at_call 132;refine(Cy7 (H:=[]) Hp.out Hb.out xb _ vB n W _ (blk bA _ _::R) (hS.s _)).mono ?_;clear hS;rintro e w ⟨rfl,hS⟩|(fail_if_success (have:=bA));(with_reducible apply Ay7 hS);rfl;rfl;rfl;rfl;clear hS;intro bA w hS;refine frS ?_|(with_reducible apply Be7 (n:=0) hS);rfl;rfl;(focus(simp only[fD,fI,fJ,Act.eval,fE,fF,fG,fH,fK];try rfl));exact esS;exact rsS;rfl;rfl;rfl;rfl;rfl;decide;clear hS;intro bv w hS;refine frS ?_|(with_reducible apply Ae7 hS);rfl;rfl;rfl;rfl;exact esS;exact rsS;rfl;decide;exact i7;exact .inl ⟨rfl,rfl,rfl⟩;(focus(rfl));exact rfl;(focus(unfold maxLen;omega));(focus(omega));clear hS;intro v w hS;(have hv:=hS.rowVal;obtain⟨va,vc,rfl⟩:=hv);refine frS ?_|(with_reducible apply Et7);rfl;rfl;rfl;rfl;kernel_rfl;exact eqI _ _ _ _ _ _ _ _;rw[h4];simp only[Bool.not_true,Bool.not_false];simp only[Act.put,fA,fB,fC,Nat.reduceAdd,eP,It.cells]|refine zl1 hS ?_|refine zlN hS ?_|refine zs1 hS ?_;clear hS;intro w hS)
   all_goals go_end0
   all_goals refine⟨rfl,.slice va 0 vc,?_⟩
   all_goals rw[E.out]
   all_goals have hS1:St W (hdR (.slice va 0 vc) []::_) w:=hS
   all_goals exact hS1.s _
  | false=>
   have h4:(x0==0&&(x1==0&&(x2==0&&x3==0)))=false:=hz;rw[hz,if_neg (by simp)]at e0;have E:=jH (show dC4 [] k ⟨x0,x1,x2,x3⟩=[⟨k,⟨x0,x1,x2,x3⟩⟩]from e0);clear e0 hz hlt hle h0;go_enter Tryz.func101,Tryz.ntmps101;go_wp2_with(first|go_at_call 132;refine(Cy7 (H:=[]) Hp.out Hb.out xb _ vB n W _ (blk bA _ _::R) (hS.s _)).mono ?_;clear hS;rintro e w ⟨rfl,hS⟩|(fail_if_success (have:=bA));(with_reducible apply Ay7 hS);rfl;rfl;rfl;rfl;clear hS;intro bA w hS;refine frS ?_|(with_reducible apply Be7 (n:=0) hS);rfl;rfl;(focus(simp only[fD,fI,fJ,Act.eval,fE,fF,fG,fH,fK];try rfl));exact esS;exact rsS;rfl;rfl;rfl;rfl;rfl;decide;clear hS;intro bv w hS;refine frS ?_|refine zbs hS ?_;clear hS;intro bS w hS|(with_reducible apply Ae7 hS);rfl;rfl;rfl;rfl;exact esS;exact rsS;rfl;decide;exact i7;exact .inl ⟨rfl,rfl,rfl⟩;(focus(rfl));exact rfl;(focus(unfold maxLen;omega));(focus(omega));clear hS;intro v w hS;(have hv:=hS.rowVal;obtain⟨va,vc,rfl⟩:=hv);refine frS ?_|(with_reducible apply Ae7 hS);rfl;rfl;rfl;rfl;exact esS;exact rsS;rfl;decide;exact i7;exact Src.mk d8.whole;(focus(rfl));exact rfl;(focus(unfold maxLen;omega));(focus(omega));clear hS;intro v w hS;(have hv:=hS.rowVal;obtain⟨va,vc,rfl⟩:=hv);refine frS ?_|(with_reducible apply Et7);rfl;rfl;rfl;rfl;kernel_rfl;exact eqI _ _ _ _ _ _ _ _;rw[h4];simp only[Bool.not_true,Bool.not_false];simp only[Act.put,fA,fB,fC,Nat.reduceAdd,eP,It.cells]|refine zl1 hS ?_|refine zlN hS ?_|refine zs1 hS ?_;clear hS;intro w hS)
   all_goals go_end0
   all_goals refine⟨rfl,.slice va 1 vc,?_⟩
   all_goals rw[E.out]
   all_goals have hS1:St W (hdR (.slice va 1 vc) [⟨k,⟨x0,x1,x2,x3⟩⟩]::_) w:=hS
   all_goals exact hS1.s _
 ·cases hb:spB H k with
  | true=>
   have hl1:=hlt hb;rw[hb,if_pos rfl]at e0;have Hb:=jH hb
   cases hz:isZ ⟨x0,x1,x2,x3⟩with
   | true=>
    have h4:(x0==0&&(x1==0&&(x2==0&&x3==0)))=true:=hz;rw[hz,if_pos rfl,jN]at e0;have E:=jH e0;clear e0 hz hlt hb;go_enter Tryz.func101,Tryz.ntmps101;go_wp2_with(first|go_at_call 132;refine(Cy7 Hp.out Hb.out xb _ vB n W _ (blk bA _ _::R) (hS.s _)).mono ?_;clear hS;rintro e w ⟨rfl,hS⟩|(fail_if_success (have:=bA));(with_reducible apply Ay7 hS);rfl;rfl;rfl;rfl;clear hS;intro bA w hS;refine frS ?_|(with_reducible apply Be7 (n:=0) hS);rfl;rfl;(focus(simp only[fD,fI,fJ,Act.eval,fE,fF,fG,fH,fK];try rfl));exact esS;exact rsS;rfl;rfl;rfl;rfl;rfl;decide;clear hS;intro bv w hS;refine frS ?_|(with_reducible apply Ae7 hS);rfl;rfl;rfl;rfl;exact esS;exact rsS;rfl;decide;exact i7;exact Src.partM (by exact aY4) (C5 H p);(focus(rw[Ab7 Hd.len,jT,Nat.min_eq_left (by omega)]));exact DD7 _;(focus(unfold maxLen;omega));(focus(omega));clear hS;intro v w hS;(have hv:=hS.rowVal;obtain⟨va,vc,rfl⟩:=hv);refine frS ?_|(with_reducible apply Ae7 hS);rfl;rfl;rfl;rfl;exact esS;exact rsS;rfl;decide;exact i7;exact Src.behindM (by exact aY4) (fun h=>⟨by omega,by rw[List.drop_eq_nil_of_le (by omega)];rfl⟩) (fun j u h=>D9 Hd.len H (p+1) j u (by omega) h);(focus(rw[Ab7 Hd.len,List.length_drop]));exact DD7 _;(focus(unfold maxLen;omega));(focus(omega));clear hS;intro v w hS;(have hv:=hS.rowVal;obtain⟨va,vc,rfl⟩:=hv);refine frS ?_|(with_reducible apply Et7);rfl;rfl;rfl;rfl;kernel_rfl;exact eqI _ _ _ _ _ _ _ _;rw[h4];simp only[Bool.not_true,Bool.not_false];simp only[Act.put,fA,fB,fC,Nat.reduceAdd,eP,It.cells]|refine zl1 hS ?_|refine zlN hS ?_|refine zs1 hS ?_;clear hS;intro w hS)
    all_goals go_end0
    all_goals refine⟨rfl,.slice va (0+p+(H.length-(p+1))) vc,?_⟩
    all_goals rw[E.out]
    all_goals unfold xvL hdR
    all_goals rw[MG7 H p (p+1) (by omega),JO7]
    all_goals have hS1:St W (row (.slice va (0+p+(H.length-(p+1))) vc) 5 171 (0+p+(H.length-(p+1))) ([]++(H.take p).flatMap Hd.cells++(H.drop (p+1)).flatMap Hd.cells)::_) w:=hS
    all_goals exact hS1.s _
   | false=>
    have h4:(x0==0&&(x1==0&&(x2==0&&x3==0)))=false:=hz;rw[hz,if_neg (by simp),List.singleton_append]at e0;have E:=jH e0;clear e0 hz hlt hb;go_enter Tryz.func101,Tryz.ntmps101
    go_wp2_with(first|go_at_call 132;refine(Cy7 Hp.out Hb.out xb _ vB n W _ (blk bA _ _::R) (hS.s _)).mono ?_;clear hS;rintro e w ⟨rfl,hS⟩|(fail_if_success (have:=bA));(with_reducible apply Ay7 hS);rfl;rfl;rfl;rfl;clear hS;intro bA w hS;refine frS ?_|(with_reducible apply Be7 (n:=0) hS);rfl;rfl;(focus(simp only[fD,fI,fJ,Act.eval,fE,fF,fG,fH,fK];try rfl));exact esS;exact rsS;rfl;rfl;rfl;rfl;rfl;decide;clear hS;intro bv w hS;refine frS ?_|refine zbs hS ?_;clear hS;intro bS w hS|(with_reducible apply Ae7 hS);rfl;rfl;rfl;rfl;exact esS;exact rsS;rfl;decide;exact i7;exact Src.partM (by exact aY4) (C5 H p);(focus(rw[Ab7 Hd.len,jT,Nat.min_eq_left (by omega)]));exact DD7 _;(focus(unfold maxLen;omega));(focus(omega));clear hS;intro v w hS;(have hv:=hS.rowVal;obtain⟨va,vc,rfl⟩:=hv);refine frS ?_|(with_reducible apply Ae7 hS);rfl;rfl;rfl;rfl;exact esS;exact rsS;rfl;decide;exact i7;exact Src.mk d8.whole;(focus(rfl));exact rfl;(focus(unfold maxLen;omega));(focus(omega));clear hS;intro v w hS;(have hv:=hS.rowVal;obtain⟨va,vc,rfl⟩:=hv);refine frS ?_|(with_reducible apply Ae7 hS);rfl;rfl;rfl;rfl;exact esS;exact rsS;rfl;decide;exact i7;exact Src.behindM (by exact aY4) (fun h=>⟨by omega,by rw[List.drop_eq_nil_of_le (by omega)];rfl⟩) (fun j u h=>D9 Hd.len H (p+1) j u (by omega) h);(focus(rw[Ab7 Hd.len,List.length_drop]));exact DD7 _;(focus(unfold maxLen;omega));(focus(omega));clear hS;intro v w hS;(have hv:=hS.rowVal;obtain⟨va,vc,rfl⟩:=hv);refine frS ?_|(with_reducible apply Et7);rfl;rfl;rfl;rfl;kernel_rfl;exact eqI _ _ _ _ _ _ _ _;rw[h4];simp only[Bool.not_true,Bool.not_false];simp only[Act.put,fA,fB,fC,Nat.reduceAdd,eP,It.cells]|refine zl1 hS ?_|refine zlN hS ?_|refine zs1 hS ?_;clear hS;intro w hS)
    all_goals go_end0
    all_goals refine⟨rfl,.slice va (0+p+1+(H.length-(p+1))) vc,?_⟩
    all_goals rw[E.out]
    all_goals unfold xvL hdR
    all_goals rw[MF7 H p (p+1) _ (by omega),JN7]
    all_goals have hS1:St W (row (.slice va (0+p+1+(H.length-(p+1))) vc) 5 171 (0+p+1+(H.length-(p+1))) ([]++(H.take p).flatMap Hd.cells++Hd.cells ⟨k,⟨x0,x1,x2,x3⟩⟩++(H.drop (p+1)).flatMap Hd.cells)::_) w:=hS
    all_goals exact hS1.s _
  | false=>
   have hft:¬(false=true):=by simp
   rw[hb,if_neg hft]at e0;have Hb:=jH hb
   cases hz:isZ ⟨x0,x1,x2,x3⟩with
   | true=>
    have h4:(x0==0&&(x1==0&&(x2==0&&x3==0)))=true:=hz;rw[hz,if_pos rfl,jN]at e0;have E:=jH e0;clear e0 hz hlt hb;go_enter Tryz.func101,Tryz.ntmps101;go_wp2_with(first|go_at_call 132;refine(Cy7 Hp.out Hb.out xb _ vB n W _ (blk bA _ _::R) (hS.s _)).mono ?_;clear hS;rintro e w ⟨rfl,hS⟩|(fail_if_success (have:=bA));(with_reducible apply Ay7 hS);rfl;rfl;rfl;rfl;clear hS;intro bA w hS;refine frS ?_|(with_reducible apply Be7 (n:=0) hS);rfl;rfl;(focus(simp only[fD,fI,fJ,Act.eval,fE,fF,fG,fH,fK];try rfl));exact esS;exact rsS;rfl;rfl;rfl;rfl;rfl;decide;clear hS;intro bv w hS;refine frS ?_|(with_reducible apply Ae7 hS);rfl;rfl;rfl;rfl;exact esS;exact rsS;rfl;decide;exact i7;exact Src.partM (by exact aY4) (C5 H p);(focus(rw[Ab7 Hd.len,jT,Nat.min_eq_left (by omega)]));exact DD7 _;(focus(unfold maxLen;omega));(focus(omega));clear hS;intro v w hS;(have hv:=hS.rowVal;obtain⟨va,vc,rfl⟩:=hv);refine frS ?_|(with_reducible apply Ae7 hS);rfl;rfl;rfl;rfl;exact esS;exact rsS;rfl;decide;exact i7;exact Src.behindM (by exact aY4) (fun h=>⟨by omega,by rw[List.drop_eq_nil_of_le (by omega)];rfl⟩) (fun j u h=>D9 Hd.len H p j u (by omega) h);(focus(rw[Ab7 Hd.len,List.length_drop]));exact DD7 _;(focus(unfold maxLen;omega));(focus(omega));clear hS;intro v w hS;(have hv:=hS.rowVal;obtain⟨va,vc,rfl⟩:=hv);refine frS ?_|(with_reducible apply Et7);rfl;rfl;rfl;rfl;kernel_rfl;exact eqI _ _ _ _ _ _ _ _;rw[h4];simp only[Bool.not_true,Bool.not_false];simp only[Act.put,fA,fB,fC,Nat.reduceAdd,eP,It.cells]|refine zl1 hS ?_|refine zlN hS ?_|refine zs1 hS ?_;clear hS;intro w hS)
    all_goals go_end0
    all_goals refine⟨rfl,.slice va (0+p+(H.length-p)) vc,?_⟩
    all_goals rw[E.out]
    all_goals unfold xvL hdR
    all_goals rw[MG7 H p p (by omega),JO7]
    all_goals have hS1:St W (row (.slice va (0+p+(H.length-p)) vc) 5 171 (0+p+(H.length-p)) ([]++(H.take p).flatMap Hd.cells++(H.drop p).flatMap Hd.cells)::_) w:=hS
    all_goals exact hS1.s _
   | false=>
    have h4:(x0==0&&(x1==0&&(x2==0&&x3==0)))=false:=hz;rw[hz,if_neg (by simp),List.singleton_append]at e0;have E:=jH e0;clear e0 hz hlt hb;go_enter Tryz.func101,Tryz.ntmps101
    go_wp2_with(first|go_at_call 132;refine(Cy7 Hp.out Hb.out xb _ vB n W _ (blk bA _ _::R) (hS.s _)).mono ?_;clear hS;rintro e w ⟨rfl,hS⟩|(fail_if_success (have:=bA));(with_reducible apply Ay7 hS);rfl;rfl;rfl;rfl;clear hS;intro bA w hS;refine frS ?_|(with_reducible apply Be7 (n:=0) hS);rfl;rfl;(focus(simp only[fD,fI,fJ,Act.eval,fE,fF,fG,fH,fK];try rfl));exact esS;exact rsS;rfl;rfl;rfl;rfl;rfl;decide;clear hS;intro bv w hS;refine frS ?_|refine zbs hS ?_;clear hS;intro bS w hS|(with_reducible apply Ae7 hS);rfl;rfl;rfl;rfl;exact esS;exact rsS;rfl;decide;exact i7;exact Src.partM (by exact aY4) (C5 H p);(focus(rw[Ab7 Hd.len,jT,Nat.min_eq_left (by omega)]));exact DD7 _;(focus(unfold maxLen;omega));(focus(omega));clear hS;intro v w hS;(have hv:=hS.rowVal;obtain⟨va,vc,rfl⟩:=hv);refine frS ?_|(with_reducible apply Ae7 hS);rfl;rfl;rfl;rfl;exact esS;exact rsS;rfl;decide;exact i7;exact Src.mk d8.whole;(focus(rfl));exact rfl;(focus(unfold maxLen;omega));(focus(omega));clear hS;intro v w hS;(have hv:=hS.rowVal;obtain⟨va,vc,rfl⟩:=hv);refine frS ?_|(with_reducible apply Ae7 hS);rfl;rfl;rfl;rfl;exact esS;exact rsS;rfl;decide;exact i7;exact Src.behindM (by exact aY4) (fun h=>⟨by omega,by rw[List.drop_eq_nil_of_le (by omega)];rfl⟩) (fun j u h=>D9 Hd.len H p j u (by omega) h);(focus(rw[Ab7 Hd.len,List.length_drop]));exact DD7 _;(focus(unfold maxLen;omega));(focus(omega));clear hS;intro v w hS;(have hv:=hS.rowVal;obtain⟨va,vc,rfl⟩:=hv);refine frS ?_|(with_reducible apply Et7);rfl;rfl;rfl;rfl;kernel_rfl;exact eqI _ _ _ _ _ _ _ _;rw[h4];simp only[Bool.not_true,Bool.not_false];simp only[Act.put,fA,fB,fC,Nat.reduceAdd,eP,It.cells]|refine zl1 hS ?_|refine zlN hS ?_|refine zs1 hS ?_;clear hS;intro w hS)
    all_goals go_end0
    all_goals refine⟨rfl,.slice va (0+p+1+(H.length-p)) vc,?_⟩
    all_goals rw[E.out]
    all_goals unfold xvL hdR
    all_goals rw[MF7 H p p _ (by omega),JN7]
    all_goals have hS1:St W (row (.slice va (0+p+1+(H.length-p)) vc) 5 171 (0+p+1+(H.length-p)) ([]++(H.take p).flatMap Hd.cells++Hd.cells ⟨k,⟨x0,x1,x2,x3⟩⟩++(H.drop p).flatMap Hd.cells)::_) w:=hS
    all_goals exact hS1.s _
def Ad8(W:World)(F:It->List HP)(i j:It)(v:Value)(w:World):Prop:=
 (v=.I 0/\St W (F i) w)\/(v=.I 1/\i.x0+j.x0<=1152921504606846976/\St W (F ⟨i.x0+j.x0,i.x1,i.x2,i.x3⟩) w)\/(v=.I 2/\(i.x0+j.x0<=1152921504606846976/\i.x1+j.x1<=1152921504606846976)/\St W (F ⟨i.x0+j.x0,i.x1+j.x1,i.x2,i.x3⟩) w) \/
  (v=.I 3/\(i.x0+j.x0<=1152921504606846976/\i.x1+j.x1<=1152921504606846976/\i.x2+j.x2<=1152921504606846976)/\St W (F ⟨i.x0+j.x0,i.x1+j.x1,i.x2+j.x2,i.x3⟩) w)\/(v=.I 4/\(i.x0+j.x0<=1152921504606846976/\i.x1+j.x1<=1152921504606846976/\i.x2+j.x2<=1152921504606846976/\i.x3+j.x3<=1152921504606846976)/\St W (F (M5 i j)) w)
theorem ep4(l:List It)(v:Value)(W w:World)(R:List HP)(hS:St W (row v 4 34 l.length (l.flatMap It.cells)::R) w):
  Calls Tryz.prog 36 #[v] w fun e w'=>e=.returned (.tuple #[.agg (al4 l).cells.toArray,.bool (B5 l it0).isSome])/\St W (row v 4 34 l.length (l.flatMap It.cells)::R) w':=by
 obtain⟨a,cap,rfl⟩:=hS.rowVal
 have h63:l.length<=9223372036854775807:=by
  rcases St.rowCase hS with ⟨_,h0,_⟩|⟨_,_,h1,h2⟩
  ·omega
  ·omega
 go_enter Tryz.func36,Tryz.ntmps36;go_wp2_with(first|(fail_if_success (have:=bA));(with_reducible apply An7 hS);rfl;rfl;exact zsS;clear hS;intro bA w hS;refine frS ?_|(have:=bA);(with_reducible apply An7 hS);rfl;rfl;exact zsS;clear hS;intro bB w hS;refine frS ?_)
 go_loopw [5] (fun v wr=>AdR W (fun q=>[blk bB [.I q.x0,.I q.x1,.I q.x2,.I q.x3] 34,blk bA [.I 0,.I 0,.I 0,.I 0] 34,row (.slice a l.length cap) 4 34 l.length (l.flatMap It.cells)]++R) l v wr) (fun v _=>l.length-(intOf v).toNat)
 case atStart=>exact⟨0,it0,rfl,Nat.zero_le _,rfl,rfl,hS⟩
 case round=>
  clear hS;obtain⟨n,s,rfl,hnl,hs,he,hS⟩:=hrel;simp only[jK,jN]at hS;obtain⟨s0,s1,s2,s3⟩:=s;simp only at hS;by_cases hn:n=l.length
  ·subst hn;rw[List.drop_length]at he;have E:=jH he;clear he;go_wp2_with(first|refine zlN hS ?_|refine zsN hS ?_;clear hS;intro w hS);apply Ac7;rfl;rfl;rfl;rfl;exact hS;decide +kernel;(exact r6);kernel_rfl;unfold al4;rw[E.out];exact⟨rfl,hS.drop.drop⟩
  ·have hn1:n<l.length:=by omega
   obtain⟨⟨g,rfl⟩,_,_⟩:=St.rowAddr hS.drop.drop (by omega);have hx:∀{K K':List HP},Take K (row (.S g l.length cap) 4 34 l.length (l.flatMap It.cells)) K'->d8 K g (n*4) (It.cells l[n]):=fun hu=>d8.elemM (enc:=It.cells) It.len hu hn1
   have hdr:l.drop n=l[n]::l.drop (n+1):=List.drop_eq_getElem_cons hn1;rw[hdr]at he;clear hdr;generalize l[n]=x at hx he;obtain⟨x0,x1,x2,x3⟩:=x;simp only[It.cells]at hx
   cases hi:s6 ⟨x0,x1,x2,x3⟩with
   | false=>
    have E:=jH (show B5 l it0=none by rw[he,B5,if_neg (fun h=>by rw[hi]at h;cases h.1)]);clear he;go_wp2_with(first|refine zlN hS ?_ (hc:=by exact hx (by exact i7))|go_at_call 77;refine(Cn7 _ _ _ _ W _ _ hS).mono ?_;clear hS;rw[hi];rintro e w ⟨rfl,hS⟩|refine zsN hS ?_;clear hS;intro w hS);apply Ac7;rfl;rfl;rfl;rfl;exact hS;decide +kernel;(exact r6);kernel_rfl;unfold al4;rw[E.out];exact⟨rfl,hS.s _⟩
   | true=>
    have he2:B5 l it0=if s6 (M5 ⟨s0,s1,s2,s3⟩ ⟨x0,x1,x2,x3⟩)=true then B5 (l.drop (n+1)) (M5 ⟨s0,s1,s2,s3⟩ ⟨x0,x1,x2,x3⟩)else none:=by rw[he,B5];simp[hi]
    have E2:=jH he2;clear he he2;obtain⟨a0,a1,a2,a3⟩:=Ag7.1 hi;obtain⟨b0,b1,b2,b3⟩:=Ag7.1 hs;simp only at a0 a1 a2 a3 b0 b1 b2 b3;go_wp2_with(first|refine zlN hS ?_ (hc:=by exact hx (by exact i7))|go_at_call 77;refine(Cn7 _ _ _ _ W _ _ hS).mono ?_;clear hS;rw[hi];rintro e w ⟨rfl,hS⟩)
    go_loopw [6] (fun v wr=>Ad8 W (fun q=>[blk bB [.I q.x0,.I q.x1,.I q.x2,.I q.x3] 34,blk bA [.I 0,.I 0,.I 0,.I 0] 34,row (.S g l.length cap) 4 34 l.length (l.flatMap It.cells)]++R) ⟨s0,s1,s2,s3⟩ ⟨x0,x1,x2,x3⟩ v wr) (fun v _=>4-(intOf v).toNat)
    case atStart=>exact .inl ⟨rfl,hS⟩
    case round=>
     clear hS hs hi;simp only[Ad8,M5,jK,jN]at hrel
     rcases hrel with ⟨rfl,hS⟩|⟨rfl,c0,hS⟩|⟨rfl,⟨c0,c1⟩,hS⟩|⟨rfl,⟨c0,c1,c2⟩,hS⟩|⟨rfl,⟨c0,c1,c2,c3⟩,hS⟩
     ·skip
      by_cases h1:1152921504606846976-s0<x0
      ·have E:=jH (show B5 l it0=none by rw[E2.out,if_neg (fun h=>by obtain⟨p0,p1,p2,p3⟩:=Ag7.1 h;simp only[M5]at p0 p1 p2 p3;omega)]);go_wp2_with(fail);refine Aa7 (by kernel_rfl) (by kernel_rfl) hS ?_
       iterate 5 (refine qR ?_)
       (apply Ar7;rfl;rfl;rfl;decide +kernel;exact hx (by exact i7) 0 _ rfl;refine frS ?_)
       iterate 2 (refine qR ?_)
       (refine zq1 ?_)
       iterate 2 (refine qR ?_)
       clear hS;intro w hS;go_wp2_with(first|refine zsN hS ?_;clear hS;intro w hS);apply Ac7;rfl;rfl;rfl;rfl;exact hS;decide +kernel;(exact r6);kernel_rfl;unfold al4;rw[E.out];exact⟨rfl,hS.s _⟩
      ·have d1:decide (1152921504606846976-s0<x0)=false:=by simpa using h1
       go_wp2_with(fail);refine Aa7 (by kernel_rfl) (by kernel_rfl) hS ?_
       iterate 5 (refine qR ?_)
       (apply Ar7;rfl;rfl;rfl;decide +kernel;exact hx (by exact i7) 0 _ rfl;refine frS ?_)
       iterate 2 (refine qR ?_)
       (refine zq1 ?_)
       iterate 2 (refine qR ?_)
       clear hS;intro w hS;go_wp2_with(fail);refine rt 12 hS ?_
       iterate 3 (refine qR ?_)
       (refine zq1 ?_)
       iterate 5 (refine qR ?_)
       (apply Ar7;rfl;rfl;rfl;decide +kernel;exact hx (by exact i7) 0 _ rfl;refine frS ?_)
       iterate 2 (refine qR ?_)
       clear hS;intro w hS;simp only[jD,List.drop_zero];go_wp2_with(first|refine zs1 hS ?_;clear hS;intro w hS);go_roundw
       case rel=>exact .inr (.inl ⟨rfl,by simp only;omega,hS⟩)
       case measure=>simp[intOf]
     ·skip
      by_cases h1:1152921504606846976-s1<x1
      ·have E:=jH (show B5 l it0=none by rw[E2.out,if_neg (fun h=>by obtain⟨p0,p1,p2,p3⟩:=Ag7.1 h;simp only[M5]at p0 p1 p2 p3;omega)]);go_wp2_with(fail);refine Aa7 (by kernel_rfl) (by kernel_rfl) hS ?_
       iterate 5 (refine qR ?_)
       (apply Ar7;rfl;rfl;rfl;decide +kernel;exact hx (by exact i7) 1 _ rfl;refine frS ?_)
       iterate 2 (refine qR ?_)
       (refine zq1 ?_)
       iterate 2 (refine qR ?_)
       clear hS;intro w hS;go_wp2_with(first|refine zsN hS ?_;clear hS;intro w hS);apply Ac7;rfl;rfl;rfl;rfl;exact hS;decide +kernel;(exact r6);kernel_rfl;unfold al4;rw[E.out];exact⟨rfl,hS.s _⟩
      ·have d1:decide (1152921504606846976-s1<x1)=false:=by simpa using h1
       go_wp2_with(fail);refine Aa7 (by kernel_rfl) (by kernel_rfl) hS ?_
       iterate 5 (refine qR ?_)
       (apply Ar7;rfl;rfl;rfl;decide +kernel;exact hx (by exact i7) 1 _ rfl;refine frS ?_)
       iterate 2 (refine qR ?_)
       (refine zq1 ?_)
       iterate 2 (refine qR ?_)
       clear hS;intro w hS;go_wp2_with(fail);refine rt 12 hS ?_
       iterate 3 (refine qR ?_)
       (refine zq1 ?_)
       iterate 5 (refine qR ?_)
       (apply Ar7;rfl;rfl;rfl;decide +kernel;exact hx (by exact i7) 1 _ rfl;refine frS ?_)
       iterate 2 (refine qR ?_)
       clear hS;intro w hS;simp only[jD,List.drop_zero];go_wp2_with(first|refine zs1 hS ?_;clear hS;intro w hS);go_roundw
       case rel=>exact .inr (.inr (.inl ⟨rfl,⟨c0,by simp only;omega⟩,hS⟩))
       case measure=>simp[intOf]
     ·skip
      by_cases h1:1152921504606846976-s2<x2
      ·have E:=jH (show B5 l it0=none by rw[E2.out,if_neg (fun h=>by obtain⟨p0,p1,p2,p3⟩:=Ag7.1 h;simp only[M5]at p0 p1 p2 p3;omega)]);go_wp2_with(fail);refine Aa7 (by kernel_rfl) (by kernel_rfl) hS ?_
       iterate 5 (refine qR ?_)
       (apply Ar7;rfl;rfl;rfl;decide +kernel;exact hx (by exact i7) 2 _ rfl;refine frS ?_)
       iterate 2 (refine qR ?_)
       (refine zq1 ?_)
       iterate 2 (refine qR ?_)
       clear hS;intro w hS;go_wp2_with(first|refine zsN hS ?_;clear hS;intro w hS);apply Ac7;rfl;rfl;rfl;rfl;exact hS;decide +kernel;(exact r6);kernel_rfl;unfold al4;rw[E.out];exact⟨rfl,hS.s _⟩
      ·have d1:decide (1152921504606846976-s2<x2)=false:=by simpa using h1
       go_wp2_with(fail);refine Aa7 (by kernel_rfl) (by kernel_rfl) hS ?_
       iterate 5 (refine qR ?_)
       (apply Ar7;rfl;rfl;rfl;decide +kernel;exact hx (by exact i7) 2 _ rfl;refine frS ?_)
       iterate 2 (refine qR ?_)
       (refine zq1 ?_)
       iterate 2 (refine qR ?_)
       clear hS;intro w hS;go_wp2_with(fail);refine rt 12 hS ?_
       iterate 3 (refine qR ?_)
       (refine zq1 ?_)
       iterate 5 (refine qR ?_)
       (apply Ar7;rfl;rfl;rfl;decide +kernel;exact hx (by exact i7) 2 _ rfl;refine frS ?_)
       iterate 2 (refine qR ?_)
       clear hS;intro w hS;simp only[jD,List.drop_zero];go_wp2_with(first|refine zs1 hS ?_;clear hS;intro w hS);go_roundw
       case rel=>exact .inr (.inr (.inr (.inl ⟨rfl,⟨c0,c1,by simp only;omega⟩,hS⟩)))
       case measure=>simp[intOf]
     ·skip
      by_cases h1:1152921504606846976-s3<x3
      ·have E:=jH (show B5 l it0=none by rw[E2.out,if_neg (fun h=>by obtain⟨p0,p1,p2,p3⟩:=Ag7.1 h;simp only[M5]at p0 p1 p2 p3;omega)]);go_wp2_with(fail);refine Aa7 (by kernel_rfl) (by kernel_rfl) hS ?_
       iterate 5 (refine qR ?_)
       (apply Ar7;rfl;rfl;rfl;decide +kernel;exact hx (by exact i7) 3 _ rfl;refine frS ?_)
       iterate 2 (refine qR ?_)
       (refine zq1 ?_)
       iterate 2 (refine qR ?_)
       clear hS;intro w hS;go_wp2_with(first|refine zsN hS ?_;clear hS;intro w hS);apply Ac7;rfl;rfl;rfl;rfl;exact hS;decide +kernel;(exact r6);kernel_rfl;unfold al4;rw[E.out];exact⟨rfl,hS.s _⟩
      ·have d1:decide (1152921504606846976-s3<x3)=false:=by simpa using h1
       go_wp2_with(fail);refine Aa7 (by kernel_rfl) (by kernel_rfl) hS ?_
       iterate 5 (refine qR ?_)
       (apply Ar7;rfl;rfl;rfl;decide +kernel;exact hx (by exact i7) 3 _ rfl;refine frS ?_)
       iterate 2 (refine qR ?_)
       (refine zq1 ?_)
       iterate 2 (refine qR ?_)
       clear hS;intro w hS;go_wp2_with(fail);refine rt 12 hS ?_
       iterate 3 (refine qR ?_)
       (refine zq1 ?_)
       iterate 5 (refine qR ?_)
       (apply Ar7;rfl;rfl;rfl;decide +kernel;exact hx (by exact i7) 3 _ rfl;refine frS ?_)
       iterate 2 (refine qR ?_)
       clear hS;intro w hS;simp only[jD,List.drop_zero];go_wp2_with(first|refine zs1 hS ?_;clear hS;intro w hS);go_roundw
       case rel=>exact .inr (.inr (.inr (.inr ⟨rfl,⟨c0,c1,c2,by simp only;omega⟩,hS⟩)))
       case measure=>simp[intOf]
     ·have hq:s6 ⟨s0+x0,s1+x1,s2+x2,s3+x3⟩=true:=Ag7.2 ⟨⟨by simp only;omega,c0⟩,⟨by simp only;omega,c1⟩,⟨by simp only;omega,c2⟩,by simp only;omega,c3⟩;have E:=jH (show B5 l it0=B5 (l.drop (n+1)) ⟨s0+x0,s1+x1,s2+x2,s3+x3⟩by rw[E2.out,M5];simp[hq]);have Hq:=jH hq;clear E2 hq;go_wp2_with(fail);go_roundw
      case rel=>exact⟨n+1,_,rfl,hn1,Hq.out,E.out,hS.s _⟩
      case measure=>simp[intOf];omega
end Go.Proofs.YtienbkdjkjbelaaGreat
end
