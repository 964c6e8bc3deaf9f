/-
  The document's economy.
-/
import Derived.Test.YtienbkdjkjbelaaGreatJuRM5
import Derived.Test.YtienbkdjkjbelaaGreatJuRM36
set_option maxHeartbeats 16000000
set_option maxRecDepth 100000
set_option linter.unusedSimpArgs false
set_option linter.unusedVariables false
section
namespace Go.Proofs.YtienbkdjkjbelaaGreat
open Go.RowKit Go.Sl
abbrev rpV(r:Rpl):Value:=.agg #[.I r.err,.I r.id,.I r.has.x0,.I r.has.x1,.I r.has.x2,.I r.has.x3]
abbrev ltI(a b:Int):Bool:=decide (a<b)
def RmR{ν:Type}(W:World)(L:List HP)(l:List (Int×ν))(k:Int)(v:Value)(w:World):Prop:=
 ∃i:Nat,v=.I i/\i<=l.length/\plI ltI l k=i+plI ltI (l.drop i) k/\plB ltI l k=plB ltI (l.drop i) k/\St W L w
theorem Bw7:∀l:List (Int×(Int×Rpl)),(l.flatMap seC).all (·.oneCell')=true
 | []=>rfl
 | x::l=>by rw[List.flatMap_cons,List.all_append,Bw7 l];rfl
theorem Src.none{L:List HP}{g off m c:Nat}(d:List (Int×(Int×Rpl)))(h:d=[]):Src L (.slice (some ⟨g,off,none⟩) m c) m (d.flatMap seC):=.inr ⟨g,off,c,rfl,fun j u hj=>by rw[h]at hj;simp at hj⟩
abbrev tB36a:List Nat:=[0,0,2,6,14,0,62,127,0,0,0,1792,3840,8191,16383]
theorem cO4(l:List (Int×(Int×Rpl)))(hl:l.length<=1000000)(cl sq:Int)(r:Rpl)(xb:Nat)(v1 v2 v3 v4:Value)(W w:World)(R:List HP)(hS:St W (xeB xb v1 v2 v3 v4::xsP v2 l::R) w):
  Calls Tryz.prog 62 #[.P xb,.I cl,.I sq,rpV r] w fun e w'=>e=.returned (.tuple #[])/\∃v,St W (xeB xb v1 v v3 v4::xsP v (plS ltI l cl (sq,r))::R) w':=by
 obtain⟨a,cap,rfl⟩:=hS.drop.rowVal;obtain⟨r0,r1,⟨x0,x1,x2,x3⟩⟩:=r;have h63:l.length<=9223372036854775807:=by omega
 go_enter Tryz.func62,Tryz.ntmps62;go_wp2_with(first|refine zbx hS ?_;clear hS;intro bA w hS)
 go_loopw [8] (fun v wr=>RmR W (blk bA [.I r0,.I r1,.I x0,.I x1,.I x2,.I x3] 36::xeB xb v1 (.slice a l.length cap) v3 v4::xsP (.slice a l.length cap) l::R) l cl v wr) (fun v _=>l.length-(intOf v).toNat)
 case atStart=>exact⟨0,rfl,Nat.zero_le _,by simp,rfl,hS⟩
 case round=>
  clear hS;obtain⟨i,rfl,hil,e1,e2,hS⟩:=hrel;by_cases hin:i=l.length
  ·have hdr:l.drop i=[]:=by rw[hin];exact List.drop_length
   rw[hdr]at e1 e2;have E1:=jH (show plI ltI l cl=i from e1);have E2:=jH (show plB ltI l cl=false from e2);have di:decide (i<l.length)=false:=by simp;omega
   have hi0:l=[]->i=0:=fun h=>by rw[h]at hil;simpa using hil
   clear e1 e2 hdr hin
   rcases St.rowCase hS.drop.drop with ⟨rfl,h0,rfl,hc0⟩|⟨g,rfl,hcap,hcn⟩
   ·have hH:l=[]:=List.eq_nil_of_length_eq_zero h0;obtain rfl:=hi0 hH;clear hi0;subst hH;go_wp2_with(first|refine zl1 hS ?_);go_wp2_with fail;refine rf2 tB36a (fun i=>i==0||i==7||i==12||i==13) [⟨some 0,some 7,fun nd=>row (nd 0) 8 141 0 []⟩,⟨some 7,some 13,fun nd=>row (nd 7) 8 141 (0+0) ([]++([]:List Value))⟩,⟨some 12,none,fun nd=>J5 (nd 12) 1 1 [.I cl,.I sq,.I r0,.I r1,.I x0,.I x1,.I x2,.I x3] 141⟩,⟨some 13,none,fun nd=>row (nd 13) 8 141 (0+0+1) ([]++([]:List Value)++[.I cl,.I sq,.I r0,.I r1,.I x0,.I x1,.I x2,.I x3])⟩] [none,none,none] hS ?_;intro nd;apply Bi7;rfl;rfl;rfl;(focus(simp only[fD,fI,fJ,Act.eval,fE,fF,fG,fH,fK];try rfl));(exact esS);(exact rsS);rfl;rfl;rfl;rfl;rfl;decide;(intro _;rfl);rfl;(intro _;rfl);(refine frS ?_);refine cR ?_;refine zcn ?_;refine cR ?_;refine zc1 ?_
    iterate 2 (refine cR ?_)
    (apply Ag7;rfl;rfl;rfl;(focus((conv=>lhs;whnf);try rfl));(focus((conv=>lhs;whnf);try rfl));exact esS;exact rsS;rfl;decide;rfl;intro F w hS;exact .inl ⟨rfl,rfl,rfl⟩;(focus(rfl));(focus(exact rfl));(focus(unfold maxLen;omega));(focus(omega));intro _;rfl;intro _;rfl;refine frS ?_)
    iterate 2 (refine cR ?_)
    (refine zcN ?_);refine cR ?_;apply ai4;rfl;rfl;rfl;(focus(simp only[fD,fI,fJ,Act.eval,fE,fF,fG,fH,fK];try rfl));(exact esS);(exact rsS);rfl;rfl;rfl;rfl;(intro _;rfl);rfl;(intro _;rfl);(refine frS ?_);apply Ag7;rfl;rfl;rfl;(focus((conv=>lhs;whnf);try rfl));(focus((conv=>lhs;whnf);try rfl));(exact esS);(exact rsS);rfl;decide;rfl;(intro F w hS;exact Aw7 hS (by exact w8));(focus(try rfl));rfl;(focus(unfold maxLen;omega));(focus(omega));(intro _;rfl);(intro _;rfl);(refine frS ?_);refine cR ?_;refine Ad7 ?_;clear hS;intro w hS;have hS2:St W [J5 (nd 12) _ _ _ _,row (nd 13) 8 _ _ _,blk _ _ _,xeB _ _ _ _ _,row _ _ _ _ _,sats _] w:=hS;clear hS;have hS:=hS2.unpack [_,_,_,_,_];clear hS2;simp only[jK,jN]at hS;generalize nd 13=v9 at *;replace hS:=hS.drop;obtain⟨va,vc,rfl⟩:=hS.rowVal;go_wp2_with(first|(with_reducible apply Ae7 hS);rfl;rfl;rfl;rfl;exact esS;exact rsS;rfl;decide;exact i7;exact .inl ⟨rfl,rfl,rfl⟩;(focus(rfl));exact rfl;(focus(unfold maxLen;omega));(focus(omega));clear hS;intro v w hS;(have hv:=hS.rowVal;obtain⟨va,vc,rfl⟩:=hv);refine frS ?_|refine zs1 hS ?_;clear hS;intro w hS);go_end0;have hS1:St W (xsP (.slice va 1 vc) [(cl,(sq,⟨r0,r1,⟨x0,x1,x2,x3⟩⟩))]::_) w:=hS;have hS2:=hS1.s (xeB xb v1 _ v3 v4::xsP (.slice va 1 vc) [(cl,(sq,⟨r0,r1,⟨x0,x1,x2,x3⟩⟩))]::R);exact⟨rfl,.slice va 1 vc,hS2⟩
   ·clear hi0;go_wp2_with(first|refine zl1 hS ?_)
    case inl=>
     have Hpp:=jH E1.out;have Hpb:=jH E2.out;go_wp2_with fail;refine rf2 tB36a (fun i=>i==0||i==7||i==12||i==13) [⟨some 0,some 7,fun nd=>row (nd 0) 8 141 0 []⟩,⟨some 7,some 13,fun nd=>row (nd 7) 8 141 (0+i) ([]++(l.take i).flatMap seC)⟩,⟨some 12,none,fun nd=>J5 (nd 12) 1 1 [.I cl,.I sq,.I r0,.I r1,.I x0,.I x1,.I x2,.I x3] 141⟩,⟨some 13,none,fun nd=>row (nd 13) 8 141 (0+i+1) ([]++(l.take i).flatMap seC++[.I cl,.I sq,.I r0,.I r1,.I x0,.I x1,.I x2,.I x3])⟩] [none,none,none] hS ?_;intro nd;apply Bi7;rfl;rfl;rfl;(focus(simp only[fD,fI,fJ,Act.eval,fE,fF,fG,fH,fK];try rfl));(exact esS);(exact rsS);rfl;rfl;rfl;rfl;rfl;decide;(intro _;rfl);rfl;(intro _;rfl);(refine frS ?_);refine cR ?_;refine zcn ?_;refine cR ?_;refine zc1 ?_
     iterate 2 (refine cR ?_)
     (apply Ag7;rfl;rfl;rfl;(focus((conv=>lhs;whnf);try rfl));(focus((conv=>lhs;whnf);try rfl));exact esS;exact rsS;rfl;decide;rfl;intro F w hS;exact(Src.partM (by exact w8) (x8 l i)).at hS;(focus(rw[Ab7 AI7,jT,Nat.min_eq_left (by omega)]));(focus(exact Bw7 _));(focus(unfold maxLen;omega));(focus(omega));intro _;rfl;intro _;rfl;refine frS ?_)
     iterate 2 (refine cR ?_)
     (refine zcN ?_);refine cR ?_;apply ai4;rfl;rfl;rfl;(focus(simp only[fD,fI,fJ,Act.eval,fE,fF,fG,fH,fK];try rfl));(exact esS);(exact rsS);rfl;rfl;rfl;rfl;(intro _;rfl);rfl;(intro _;rfl);(refine frS ?_);apply Ag7;rfl;rfl;rfl;(focus((conv=>lhs;whnf);try rfl));(focus((conv=>lhs;whnf);try rfl));(exact esS);(exact rsS);rfl;decide;rfl;(intro F w hS;exact Aw7 hS (by exact w8));(focus(try rfl));rfl;(focus(unfold maxLen;omega));(focus(omega));(intro _;rfl);(intro _;rfl);(refine frS ?_);refine cR ?_;refine Ad7 ?_;clear hS;intro w hS;have hS2:St W [J5 (nd 12) _ _ _ _,row (nd 13) 8 _ _ _,blk _ _ _,xeB _ _ _ _ _,row _ _ _ _ _,sats _] w:=hS;clear hS;have hS:=hS2.unpack [_,_,_,_,_];clear hS2;simp only[jK,jN]at hS;generalize nd 13=v9 at *;replace hS:=hS.drop;obtain⟨va,vc,rfl⟩:=hS.rowVal;go_wp2_with(first|(with_reducible apply Ae7 hS);rfl;rfl;rfl;rfl;exact esS;exact rsS;rfl;decide;exact i7;exact Src.none (l.drop (i)) (by rw[List.drop_eq_nil_of_le (by omega)]);(focus(rw[Ab7 AI7,List.length_drop]));exact Bw7 _;(focus(unfold maxLen;omega));(focus(omega));clear hS;intro v w hS;(have hv:=hS.rowVal;obtain⟨va,vc,rfl⟩:=hv);refine frS ?_|refine zs1 hS ?_;clear hS;intro w hS)
     all_goals go_end0
     all_goals refine⟨rfl,.slice va (0+i+1+(l.length-(i))) vc,?_⟩
     all_goals rw[plS,Hpp.out,Hpb.out]
     all_goals simp only[if_true,if_false,Bool.false_eq_true]
     all_goals unfold xsP
     all_goals rw[AU7 l i (i) _ (by omega),AJ7]
     all_goals have hS1:St W (row (.slice va (0+i+1+(l.length-(i))) vc) 8 141 (0+i+1+(l.length-(i))) ([]++(l.take i).flatMap seC++seC (cl,(sq,⟨r0,r1,⟨x0,x1,x2,x3⟩⟩))++(l.drop (i)).flatMap seC)::_) w:=hS
     all_goals exact hS1.s _
    case inr=>
     have Hpp:=jH E1.out;have Hpb:=jH E2.out;go_wp2_with fail;refine rf2 tB36a (fun i=>i==0||i==7||i==12||i==13) [⟨some 0,some 7,fun nd=>row (nd 0) 8 141 0 []⟩,⟨some 7,some 13,fun nd=>row (nd 7) 8 141 (0+i) ([]++(l.take i).flatMap seC)⟩,⟨some 12,none,fun nd=>J5 (nd 12) 1 1 [.I cl,.I sq,.I r0,.I r1,.I x0,.I x1,.I x2,.I x3] 141⟩,⟨some 13,none,fun nd=>row (nd 13) 8 141 (0+i+1) ([]++(l.take i).flatMap seC++[.I cl,.I sq,.I r0,.I r1,.I x0,.I x1,.I x2,.I x3])⟩] [none,none,none] hS ?_;intro nd;apply Bi7;rfl;rfl;rfl;(focus(simp only[fD,fI,fJ,Act.eval,fE,fF,fG,fH,fK];try rfl));(exact esS);(exact rsS);rfl;rfl;rfl;rfl;rfl;decide;(intro _;rfl);rfl;(intro _;rfl);(refine frS ?_);refine cR ?_;refine zcn ?_;refine cR ?_;refine zc1 ?_
     iterate 2 (refine cR ?_)
     (apply Ag7;rfl;rfl;rfl;(focus((conv=>lhs;whnf);try rfl));(focus((conv=>lhs;whnf);try rfl));exact esS;exact rsS;rfl;decide;rfl;intro F w hS;exact(Src.partM (by exact w8) (x8 l i)).at hS;(focus(rw[Ab7 AI7,jT,Nat.min_eq_left (by omega)]));(focus(exact Bw7 _));(focus(unfold maxLen;omega));(focus(omega));intro _;rfl;intro _;rfl;refine frS ?_)
     iterate 2 (refine cR ?_)
     (refine zcN ?_);refine cR ?_;apply ai4;rfl;rfl;rfl;(focus(simp only[fD,fI,fJ,Act.eval,fE,fF,fG,fH,fK];try rfl));(exact esS);(exact rsS);rfl;rfl;rfl;rfl;(intro _;rfl);rfl;(intro _;rfl);(refine frS ?_);apply Ag7;rfl;rfl;rfl;(focus((conv=>lhs;whnf);try rfl));(focus((conv=>lhs;whnf);try rfl));(exact esS);(exact rsS);rfl;decide;rfl;(intro F w hS;exact Aw7 hS (by exact w8));(focus(try rfl));rfl;(focus(unfold maxLen;omega));(focus(omega));(intro _;rfl);(intro _;rfl);(refine frS ?_);refine cR ?_;refine Ad7 ?_;clear hS;intro w hS;have hS2:St W [J5 (nd 12) _ _ _ _,row (nd 13) 8 _ _ _,blk _ _ _,xeB _ _ _ _ _,row _ _ _ _ _,sats _] w:=hS;clear hS;have hS:=hS2.unpack [_,_,_,_,_];clear hS2;simp only[jK,jN]at hS;generalize nd 13=v9 at *;replace hS:=hS.drop;obtain⟨va,vc,rfl⟩:=hS.rowVal;go_wp2_with(first|(with_reducible apply Ae7 hS);rfl;rfl;rfl;rfl;exact esS;exact rsS;rfl;decide;exact i7;exact Src.partM (by exact ax4) (fun j u h=>B7 AI7 l (i) j u (by omega) h);(focus(rw[Ab7 AI7,List.length_drop]));exact Bw7 _;(focus(unfold maxLen;omega));(focus(omega));clear hS;intro v w hS;(have hv:=hS.rowVal;obtain⟨va,vc,rfl⟩:=hv);refine frS ?_|refine zs1 hS ?_;clear hS;intro w hS)
     all_goals go_end0
     all_goals refine⟨rfl,.slice va (0+i+1+(l.length-(i))) vc,?_⟩
     all_goals rw[plS,Hpp.out,Hpb.out]
     all_goals simp only[if_true,if_false,Bool.false_eq_true]
     all_goals unfold xsP
     all_goals rw[AU7 l i (i) _ (by omega),AJ7]
     all_goals have hS1:St W (row (.slice va (0+i+1+(l.length-(i))) vc) 8 141 (0+i+1+(l.length-(i))) ([]++(l.take i).flatMap seC++seC (cl,(sq,⟨r0,r1,⟨x0,x1,x2,x3⟩⟩))++(l.drop (i)).flatMap seC)::_) w:=hS
     all_goals exact hS1.s _
  ·have hi1:i<l.length:=by omega
   obtain⟨⟨g,rfl⟩,_,_⟩:=St.rowAddr hS.drop.drop (by omega);have hca:∀{K K':List HP},Take K (xsP (.S g l.length cap) l) K'->i6 K g (i*8) (.I l[i].1):=fun hu=>d8.elemM (enc:=seC) AI7 hu hi1 0 _ rfl
   have hdr:l.drop i=l[i]::l.drop (i+1):=List.drop_eq_getElem_cons hi1;rw[hdr,plI]at e1;rw[hdr,plB]at e2;generalize l[i]=x at hca e1 e2;obtain⟨xa,xv⟩:=x;simp only at hca e1 e2;clear hdr;have di:decide (i<l.length)=true:=by simpa using hi1
   by_cases hlt:xa<cl
   ·have dx:decide (xa<cl)=true:=by simpa using hlt
    rw[if_pos dx]at e1 e2;have E1:=jH e1;have E2:=jH e2;clear hlt e1 e2;go_wp2_with(first|refine zl1 hS ?_|refine zl1 hS ?_ (hc:=by exact hca (by exact i7)));go_roundw
    case rel=>exact⟨i+1,rfl,hi1,by rw[E1.out];omega,E2.out,hS⟩
    case measure=>simp[intOf];omega
   ·have dx:decide (xa<cl)=false:=by simpa using hlt
    rw[if_neg (by rw[show ltI xa cl=false from dx];simp)]at e1 e2;have E1:=jH (show plI ltI l cl=i from e1);by_cases heq:xa=cl
    ·have dq:(xa==cl)=true:=by simpa using heq
     have E2:=jH (show plB ltI l cl=true by rw[e2];simpa using heq);clear hlt e1 e2 heq;go_wp2_with(first|refine zl1 hS ?_|refine zl1 hS ?_ (hc:=by exact hca (by exact i7)))
     case inl=>
      have Hpp:=jH E1.out;have Hpb:=jH E2.out;go_wp2_with fail;refine rf2 tB36a (fun i=>i==0||i==7||i==12||i==13) [⟨some 0,some 7,fun nd=>row (nd 0) 8 141 0 []⟩,⟨some 7,some 13,fun nd=>row (nd 7) 8 141 (0+i) ([]++(l.take i).flatMap seC)⟩,⟨some 12,none,fun nd=>J5 (nd 12) 1 1 [.I cl,.I sq,.I r0,.I r1,.I x0,.I x1,.I x2,.I x3] 141⟩,⟨some 13,none,fun nd=>row (nd 13) 8 141 (0+i+1) ([]++(l.take i).flatMap seC++[.I cl,.I sq,.I r0,.I r1,.I x0,.I x1,.I x2,.I x3])⟩] [none,none,none] hS ?_;intro nd;apply Bi7;rfl;rfl;rfl;(focus(simp only[fD,fI,fJ,Act.eval,fE,fF,fG,fH,fK];try rfl));(exact esS);(exact rsS);rfl;rfl;rfl;rfl;rfl;decide;(intro _;rfl);rfl;(intro _;rfl);(refine frS ?_);refine cR ?_;refine zcn ?_;refine cR ?_;refine zc1 ?_
      iterate 2 (refine cR ?_)
      (apply Ag7;rfl;rfl;rfl;(focus((conv=>lhs;whnf);try rfl));(focus((conv=>lhs;whnf);try rfl));exact esS;exact rsS;rfl;decide;rfl;intro F w hS;exact(Src.partM (by exact w8) (x8 l i)).at hS;(focus(rw[Ab7 AI7,jT,Nat.min_eq_left (by omega)]));(focus(exact Bw7 _));(focus(unfold maxLen;omega));(focus(omega));intro _;rfl;intro _;rfl;refine frS ?_)
      iterate 2 (refine cR ?_)
      (refine zcN ?_);refine cR ?_;apply ai4;rfl;rfl;rfl;(focus(simp only[fD,fI,fJ,Act.eval,fE,fF,fG,fH,fK];try rfl));(exact esS);(exact rsS);rfl;rfl;rfl;rfl;(intro _;rfl);rfl;(intro _;rfl);(refine frS ?_);apply Ag7;rfl;rfl;rfl;(focus((conv=>lhs;whnf);try rfl));(focus((conv=>lhs;whnf);try rfl));(exact esS);(exact rsS);rfl;decide;rfl;(intro F w hS;exact Aw7 hS (by exact w8));(focus(try rfl));rfl;(focus(unfold maxLen;omega));(focus(omega));(intro _;rfl);(intro _;rfl);(refine frS ?_);refine cR ?_;refine Ad7 ?_;clear hS;intro w hS;have hS2:St W [J5 (nd 12) _ _ _ _,row (nd 13) 8 _ _ _,blk _ _ _,xeB _ _ _ _ _,row _ _ _ _ _,sats _] w:=hS;clear hS;have hS:=hS2.unpack [_,_,_,_,_];clear hS2;simp only[jK,jN]at hS;generalize nd 13=v9 at *;replace hS:=hS.drop;obtain⟨va,vc,rfl⟩:=hS.rowVal;go_wp2_with(first|(with_reducible apply Ae7 hS);rfl;rfl;rfl;rfl;exact esS;exact rsS;rfl;decide;exact i7;exact Src.none (l.drop (i+1)) (by rw[List.drop_eq_nil_of_le (by omega)]);(focus(rw[Ab7 AI7,List.length_drop]));exact Bw7 _;(focus(unfold maxLen;omega));(focus(omega));clear hS;intro v w hS;(have hv:=hS.rowVal;obtain⟨va,vc,rfl⟩:=hv);refine frS ?_|refine zs1 hS ?_;clear hS;intro w hS)
      all_goals go_end0
      all_goals refine⟨rfl,.slice va (0+i+1+(l.length-(i+1))) vc,?_⟩
      all_goals rw[plS,Hpp.out,Hpb.out]
      all_goals simp only[if_true,if_false,Bool.false_eq_true]
      all_goals unfold xsP
      all_goals rw[AU7 l i (i+1) _ (by omega),AJ7]
      all_goals have hS1:St W (row (.slice va (0+i+1+(l.length-(i+1))) vc) 8 141 (0+i+1+(l.length-(i+1))) ([]++(l.take i).flatMap seC++seC (cl,(sq,⟨r0,r1,⟨x0,x1,x2,x3⟩⟩))++(l.drop (i+1)).flatMap seC)::_) w:=hS
      all_goals exact hS1.s _
     case inr=>
      have Hpp:=jH E1.out;have Hpb:=jH E2.out;go_wp2_with fail;refine rf2 tB36a (fun i=>i==0||i==7||i==12||i==13) [⟨some 0,some 7,fun nd=>row (nd 0) 8 141 0 []⟩,⟨some 7,some 13,fun nd=>row (nd 7) 8 141 (0+i) ([]++(l.take i).flatMap seC)⟩,⟨some 12,none,fun nd=>J5 (nd 12) 1 1 [.I cl,.I sq,.I r0,.I r1,.I x0,.I x1,.I x2,.I x3] 141⟩,⟨some 13,none,fun nd=>row (nd 13) 8 141 (0+i+1) ([]++(l.take i).flatMap seC++[.I cl,.I sq,.I r0,.I r1,.I x0,.I x1,.I x2,.I x3])⟩] [none,none,none] hS ?_;intro nd;apply Bi7;rfl;rfl;rfl;(focus(simp only[fD,fI,fJ,Act.eval,fE,fF,fG,fH,fK];try rfl));(exact esS);(exact rsS);rfl;rfl;rfl;rfl;rfl;decide;(intro _;rfl);rfl;(intro _;rfl);(refine frS ?_);refine cR ?_;refine zcn ?_;refine cR ?_;refine zc1 ?_
      iterate 2 (refine cR ?_)
      (apply Ag7;rfl;rfl;rfl;(focus((conv=>lhs;whnf);try rfl));(focus((conv=>lhs;whnf);try rfl));exact esS;exact rsS;rfl;decide;rfl;intro F w hS;exact(Src.partM (by exact w8) (x8 l i)).at hS;(focus(rw[Ab7 AI7,jT,Nat.min_eq_left (by omega)]));(focus(exact Bw7 _));(focus(unfold maxLen;omega));(focus(omega));intro _;rfl;intro _;rfl;refine frS ?_)
      iterate 2 (refine cR ?_)
      (refine zcN ?_);refine cR ?_;apply ai4;rfl;rfl;rfl;(focus(simp only[fD,fI,fJ,Act.eval,fE,fF,fG,fH,fK];try rfl));(exact esS);(exact rsS);rfl;rfl;rfl;rfl;(intro _;rfl);rfl;(intro _;rfl);(refine frS ?_);apply Ag7;rfl;rfl;rfl;(focus((conv=>lhs;whnf);try rfl));(focus((conv=>lhs;whnf);try rfl));(exact esS);(exact rsS);rfl;decide;rfl;(intro F w hS;exact Aw7 hS (by exact w8));(focus(try rfl));rfl;(focus(unfold maxLen;omega));(focus(omega));(intro _;rfl);(intro _;rfl);(refine frS ?_);refine cR ?_;refine Ad7 ?_;clear hS;intro w hS;have hS2:St W [J5 (nd 12) _ _ _ _,row (nd 13) 8 _ _ _,blk _ _ _,xeB _ _ _ _ _,row _ _ _ _ _,sats _] w:=hS;clear hS;have hS:=hS2.unpack [_,_,_,_,_];clear hS2;simp only[jK,jN]at hS;generalize nd 13=v9 at *;replace hS:=hS.drop;obtain⟨va,vc,rfl⟩:=hS.rowVal;go_wp2_with(first|(with_reducible apply Ae7 hS);rfl;rfl;rfl;rfl;exact esS;exact rsS;rfl;decide;exact i7;exact Src.partM (by exact ax4) (fun j u h=>B7 AI7 l (i+1) j u (by omega) h);(focus(rw[Ab7 AI7,List.length_drop]));exact Bw7 _;(focus(unfold maxLen;omega));(focus(omega));clear hS;intro v w hS;(have hv:=hS.rowVal;obtain⟨va,vc,rfl⟩:=hv);refine frS ?_|refine zs1 hS ?_;clear hS;intro w hS)
      all_goals go_end0
      all_goals refine⟨rfl,.slice va (0+i+1+(l.length-(i+1))) vc,?_⟩
      all_goals rw[plS,Hpp.out,Hpb.out]
      all_goals simp only[if_true,if_false,Bool.false_eq_true]
      all_goals unfold xsP
      all_goals rw[AU7 l i (i+1) _ (by omega),AJ7]
      all_goals have hS1:St W (row (.slice va (0+i+1+(l.length-(i+1))) vc) 8 141 (0+i+1+(l.length-(i+1))) ([]++(l.take i).flatMap seC++seC (cl,(sq,⟨r0,r1,⟨x0,x1,x2,x3⟩⟩))++(l.drop (i+1)).flatMap seC)::_) w:=hS
      all_goals exact hS1.s _
    ·have dq:(xa==cl)=false:=by simpa using heq
     have E2:=jH (show plB ltI l cl=false by rw[e2];simpa using heq);clear hlt e1 e2 heq;go_wp2_with(first|refine zl1 hS ?_|refine zl1 hS ?_ (hc:=by exact hca (by exact i7)));have Hpp:=jH E1.out;have Hpb:=jH E2.out;go_wp2_with fail;refine rf2 tB36a (fun i=>i==0||i==7||i==12||i==13) [⟨some 0,some 7,fun nd=>row (nd 0) 8 141 0 []⟩,⟨some 7,some 13,fun nd=>row (nd 7) 8 141 (0+i) ([]++(l.take i).flatMap seC)⟩,⟨some 12,none,fun nd=>J5 (nd 12) 1 1 [.I cl,.I sq,.I r0,.I r1,.I x0,.I x1,.I x2,.I x3] 141⟩,⟨some 13,none,fun nd=>row (nd 13) 8 141 (0+i+1) ([]++(l.take i).flatMap seC++[.I cl,.I sq,.I r0,.I r1,.I x0,.I x1,.I x2,.I x3])⟩] [none,none,none] hS ?_;intro nd;apply Bi7;rfl;rfl;rfl;(focus(simp only[fD,fI,fJ,Act.eval,fE,fF,fG,fH,fK];try rfl));(exact esS);(exact rsS);rfl;rfl;rfl;rfl;rfl;decide;(intro _;rfl);rfl;(intro _;rfl);(refine frS ?_);refine cR ?_;refine zcn ?_;refine cR ?_;refine zc1 ?_
     iterate 2 (refine cR ?_)
     (apply Ag7;rfl;rfl;rfl;(focus((conv=>lhs;whnf);try rfl));(focus((conv=>lhs;whnf);try rfl));exact esS;exact rsS;rfl;decide;rfl;intro F w hS;exact(Src.partM (by exact w8) (x8 l i)).at hS;(focus(rw[Ab7 AI7,jT,Nat.min_eq_left (by omega)]));(focus(exact Bw7 _));(focus(unfold maxLen;omega));(focus(omega));intro _;rfl;intro _;rfl;refine frS ?_)
     iterate 2 (refine cR ?_)
     (refine zcN ?_);refine cR ?_;apply ai4;rfl;rfl;rfl;(focus(simp only[fD,fI,fJ,Act.eval,fE,fF,fG,fH,fK];try rfl));(exact esS);(exact rsS);rfl;rfl;rfl;rfl;(intro _;rfl);rfl;(intro _;rfl);(refine frS ?_);apply Ag7;rfl;rfl;rfl;(focus((conv=>lhs;whnf);try rfl));(focus((conv=>lhs;whnf);try rfl));(exact esS);(exact rsS);rfl;decide;rfl;(intro F w hS;exact Aw7 hS (by exact w8));(focus(try rfl));rfl;(focus(unfold maxLen;omega));(focus(omega));(intro _;rfl);(intro _;rfl);(refine frS ?_);refine cR ?_;refine Ad7 ?_;clear hS;intro w hS;have hS2:St W [J5 (nd 12) _ _ _ _,row (nd 13) 8 _ _ _,blk _ _ _,xeB _ _ _ _ _,row _ _ _ _ _,sats _] w:=hS;clear hS;have hS:=hS2.unpack [_,_,_,_,_];clear hS2;simp only[jK,jN]at hS;generalize nd 13=v9 at *;replace hS:=hS.drop;obtain⟨va,vc,rfl⟩:=hS.rowVal;go_wp2_with(first|(with_reducible apply Ae7 hS);rfl;rfl;rfl;rfl;exact esS;exact rsS;rfl;decide;exact i7;exact Src.partM (by exact ax4) (fun j u h=>B7 AI7 l (i) j u (by omega) h);(focus(rw[Ab7 AI7,List.length_drop]));exact Bw7 _;(focus(unfold maxLen;omega));(focus(omega));clear hS;intro v w hS;(have hv:=hS.rowVal;obtain⟨va,vc,rfl⟩:=hv);refine frS ?_|refine zs1 hS ?_;clear hS;intro w hS)
     all_goals go_end0
     all_goals refine⟨rfl,.slice va (0+i+1+(l.length-(i))) vc,?_⟩
     all_goals rw[plS,Hpp.out,Hpb.out]
     all_goals simp only[if_true,if_false,Bool.false_eq_true]
     all_goals unfold xsP
     all_goals rw[AU7 l i (i) _ (by omega),AJ7]
     all_goals have hS1:St W (row (.slice va (0+i+1+(l.length-(i))) vc) 8 141 (0+i+1+(l.length-(i))) ([]++(l.take i).flatMap seC++seC (cl,(sq,⟨r0,r1,⟨x0,x1,x2,x3⟩⟩))++(l.drop (i)).flatMap seC)::_) w:=hS
     all_goals exact hS1.s _
end Go.Proofs.YtienbkdjkjbelaaGreat
end
