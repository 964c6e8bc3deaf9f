/-
  The document's economy.
-/
import Derived.Test.YtienbkdjkjbelaaGreatJuTM5
import Derived.Test.YtienbkdjkjbelaaGreatJuTM36
set_option maxHeartbeats 16000000
set_option maxRecDepth 100000
set_option linter.unusedSimpArgs false
set_option linter.unusedVariables false
section
namespace Go.Proofs.YtienbkdjkjbelaaGreat
open Go.RowKit Go.Sl
abbrev rpV(r:Rpl):Value:=.agg #[.I r.err,.I r.id,.I r.has.x0,.I r.has.x1,.I r.has.x2,.I r.has.x3]
abbrev ltI(a b:Int):Bool:=decide (a<b)
def RmR{ν:Type}(W:World)(L:List HP)(l:List (Int×ν))(k:Int)(v:Value)(w:World):Prop:=
 ∃i:Nat,v=.I i/\i<=l.length/\plI ltI l k=i+plI ltI (l.drop i) k/\plB ltI l k=plB ltI (l.drop i) k/\St W L w
theorem BI7:∀l:List (Int×(Int×Rpl)),(l.flatMap seC).all (·.oneCell')=true
 | []=>rfl
 | x::l=>by rw[List.flatMap_cons,List.all_append,BI7 l];rfl
theorem Src.none{L:List HP}{g off m c:Nat}(d:List (Int×(Int×Rpl)))(h:d=[]):Src L (.slice (some ⟨g,off,none⟩) m c) m (d.flatMap seC):=.inr ⟨g,off,c,rfl,fun j u hj=>by rw[h]at hj;simp at hj⟩
abbrev tB36a:List Nat:=[0,0,2,6,14,0,62,127,0,0,0,1792,3840,8191,16383]
theorem dD4(l:List (Int×(Int×Rpl)))(hl:l.length<=1000000)(cl sq:Int)(r:Rpl)(xb:Nat)(v1 v2 v3 v4:Value)(W w:World)(R:List HP)(hS:St W (xeB xb v1 v2 v3 v4::xsP v2 l::R) w):
  Calls Tryz.prog 62 #[.P xb,.I cl,.I sq,rpV r] w fun e w'=>e=.returned (.tuple #[])/\∃v,St W (xeB xb v1 v v3 v4::xsP v (plS ltI l cl (sq,r))::R) w':=by
 obtain⟨a,cap,rfl⟩:=hS.drop.rowVal;obtain⟨r0,r1,⟨x0,x1,x2,x3⟩⟩:=r;have h63:l.length<=9223372036854775807:=by omega
 go_enter Tryz.func62,Tryz.ntmps62;go_wp2_with(first|refine zbx hS ?_;clear hS;intro bA w hS)
 go_loopw [8] (fun v wr=>RmR W (blk bA [.I r0,.I r1,.I x0,.I x1,.I x2,.I x3] 36::xeB xb v1 (.slice a l.length cap) v3 v4::xsP (.slice a l.length cap) l::R) l cl v wr) (fun v _=>l.length-(intOf v).toNat)
 case atStart=>exact⟨0,rfl,Nat.zero_le _,by simp,rfl,hS⟩
 case round=>
  clear hS;obtain⟨i,rfl,hil,e1,e2,hS⟩:=hrel;by_cases hin:i=l.length
  ·have hdr:l.drop i=[]:=by rw[hin];exact List.drop_length
   rw[hdr]at e1 e2;have E1:=jH (show plI ltI l cl=i from e1);have E2:=jH (show plB ltI l cl=false from e2);have di:decide (i<l.length)=false:=by simp;omega
   have hi0:l=[]->i=0:=fun h=>by rw[h]at hil;simpa using hil
   clear e1 e2 hdr hin
   rcases St.rowCase hS.drop.drop with ⟨rfl,h0,rfl,hc0⟩|⟨g,rfl,hcap,hcn⟩
   ·have hH:l=[]:=List.eq_nil_of_length_eq_zero h0;obtain rfl:=hi0 hH;clear hi0;subst hH;go_wp2_with(first|refine zl1 hS ?_);go_wp2_with fail;refine rf2 tB36a (fun i=>i==0||i==7||i==12||i==13) [⟨some 0,some 7,fun nd=>row (nd 0) 8 141 0 []⟩,⟨some 7,some 13,fun nd=>row (nd 7) 8 141 (0+0) ([]++([]:List Value))⟩,⟨some 12,none,fun nd=>L8 (nd 12) 1 1 [.I cl,.I sq,.I r0,.I r1,.I x0,.I x1,.I x2,.I x3] 141⟩,⟨some 13,none,fun nd=>row (nd 13) 8 141 (0+0+1) ([]++([]:List Value)++[.I cl,.I sq,.I r0,.I r1,.I x0,.I x1,.I x2,.I x3])⟩] [none,none,none] hS ?_;intro nd;apply Bn7;rfl;rfl;rfl;(focus(simp only[fD,fI,fJ,Act.eval,fE,fF,fG,fH,fK];try rfl));(exact esS);(exact rsS);rfl;rfl;rfl;rfl;rfl;decide;(intro _;rfl);rfl;(intro _;rfl);(refine frS ?_);refine cR ?_;refine zcn ?_;refine cR ?_;refine zc1 ?_
    iterate 2 (refine cR ?_)
    (apply Ai7;rfl;rfl;rfl;(focus((conv=>lhs;whnf);try rfl));(focus((conv=>lhs;whnf);try rfl));exact esS;exact rsS;rfl;decide;rfl;intro F w hS;exact .inl ⟨rfl,rfl,rfl⟩;(focus(rfl));(focus(exact rfl));(focus(unfold maxLen;omega));(focus(omega));intro _;rfl;intro _;rfl;refine frS ?_)
    iterate 2 (refine cR ?_)
    (refine zcN ?_);refine cR ?_;apply aC4;rfl;rfl;rfl;(focus(simp only[fD,fI,fJ,Act.eval,fE,fF,fG,fH,fK];try rfl));(exact esS);(exact rsS);rfl;rfl;rfl;rfl;(intro _;rfl);rfl;(intro _;rfl);(refine frS ?_);apply Ai7;rfl;rfl;rfl;(focus((conv=>lhs;whnf);try rfl));(focus((conv=>lhs;whnf);try rfl));(exact esS);(exact rsS);rfl;decide;rfl;(intro F w hS;exact AC7 hS (by exact A6));(focus(try rfl));rfl;(focus(unfold maxLen;omega));(focus(omega));(intro _;rfl);(intro _;rfl);(refine frS ?_);refine cR ?_;refine Ad7 ?_;clear hS;intro w hS;have hS2:St W [L8 (nd 12) _ _ _ _,row (nd 13) 8 _ _ _,blk _ _ _,xeB _ _ _ _ _,row _ _ _ _ _,sats _] w:=hS;clear hS;have hS:=hS2.unpack [_,_,_,_,_];clear hS2;simp only[jK,jN]at hS;generalize nd 13=v9 at *;replace hS:=hS.drop;obtain⟨va,vc,rfl⟩:=hS.rowVal;go_wp2_with(first|(with_reducible apply Ae7 hS);rfl;rfl;rfl;rfl;exact esS;exact rsS;rfl;decide;exact i7;exact .inl ⟨rfl,rfl,rfl⟩;(focus(rfl));exact rfl;(focus(unfold maxLen;omega));(focus(omega));clear hS;intro v w hS;(have hv:=hS.rowVal;obtain⟨va,vc,rfl⟩:=hv);refine frS ?_|refine zs1 hS ?_;clear hS;intro w hS);go_end0;have hS1:St W (xsP (.slice va 1 vc) [(cl,(sq,⟨r0,r1,⟨x0,x1,x2,x3⟩⟩))]::_) w:=hS;have hS2:=hS1.s (xeB xb v1 _ v3 v4::xsP (.slice va 1 vc) [(cl,(sq,⟨r0,r1,⟨x0,x1,x2,x3⟩⟩))]::R);exact⟨rfl,.slice va 1 vc,hS2⟩
   ·clear hi0;go_wp2_with(first|refine zl1 hS ?_)
    case inl=>
     have Hpp:=jH E1.out;have Hpb:=jH E2.out;go_wp2_with fail;refine rf2 tB36a (fun i=>i==0||i==7||i==12||i==13) [⟨some 0,some 7,fun nd=>row (nd 0) 8 141 0 []⟩,⟨some 7,some 13,fun nd=>row (nd 7) 8 141 (0+i) ([]++(l.take i).flatMap seC)⟩,⟨some 12,none,fun nd=>L8 (nd 12) 1 1 [.I cl,.I sq,.I r0,.I r1,.I x0,.I x1,.I x2,.I x3] 141⟩,⟨some 13,none,fun nd=>row (nd 13) 8 141 (0+i+1) ([]++(l.take i).flatMap seC++[.I cl,.I sq,.I r0,.I r1,.I x0,.I x1,.I x2,.I x3])⟩] [none,none,none] hS ?_;intro nd;apply Bn7;rfl;rfl;rfl;(focus(simp only[fD,fI,fJ,Act.eval,fE,fF,fG,fH,fK];try rfl));(exact esS);(exact rsS);rfl;rfl;rfl;rfl;rfl;decide;(intro _;rfl);rfl;(intro _;rfl);(refine frS ?_);refine cR ?_;refine zcn ?_;refine cR ?_;refine zc1 ?_
     iterate 2 (refine cR ?_)
     (apply Ai7;rfl;rfl;rfl;(focus((conv=>lhs;whnf);try rfl));(focus((conv=>lhs;whnf);try rfl));exact esS;exact rsS;rfl;decide;rfl;intro F w hS;exact(Src.partM (by exact A6) (C5 l i)).at hS;(focus(rw[Ab7 AO7,jT,Nat.min_eq_left (by omega)]));(focus(exact BI7 _));(focus(unfold maxLen;omega));(focus(omega));intro _;rfl;intro _;rfl;refine frS ?_)
     iterate 2 (refine cR ?_)
     (refine zcN ?_);refine cR ?_;apply aC4;rfl;rfl;rfl;(focus(simp only[fD,fI,fJ,Act.eval,fE,fF,fG,fH,fK];try rfl));(exact esS);(exact rsS);rfl;rfl;rfl;rfl;(intro _;rfl);rfl;(intro _;rfl);(refine frS ?_);apply Ai7;rfl;rfl;rfl;(focus((conv=>lhs;whnf);try rfl));(focus((conv=>lhs;whnf);try rfl));(exact esS);(exact rsS);rfl;decide;rfl;(intro F w hS;exact AC7 hS (by exact A6));(focus(try rfl));rfl;(focus(unfold maxLen;omega));(focus(omega));(intro _;rfl);(intro _;rfl);(refine frS ?_);refine cR ?_;refine Ad7 ?_;clear hS;intro w hS;have hS2:St W [L8 (nd 12) _ _ _ _,row (nd 13) 8 _ _ _,blk _ _ _,xeB _ _ _ _ _,row _ _ _ _ _,sats _] w:=hS;clear hS;have hS:=hS2.unpack [_,_,_,_,_];clear hS2;simp only[jK,jN]at hS;generalize nd 13=v9 at *;replace hS:=hS.drop;obtain⟨va,vc,rfl⟩:=hS.rowVal;go_wp2_with(first|(with_reducible apply Ae7 hS);rfl;rfl;rfl;rfl;exact esS;exact rsS;rfl;decide;exact i7;exact Src.none (l.drop (i)) (by rw[List.drop_eq_nil_of_le (by omega)]);(focus(rw[Ab7 AO7,List.length_drop]));exact BI7 _;(focus(unfold maxLen;omega));(focus(omega));clear hS;intro v w hS;(have hv:=hS.rowVal;obtain⟨va,vc,rfl⟩:=hv);refine frS ?_|refine zs1 hS ?_;clear hS;intro w hS)
     all_goals go_end0
     all_goals refine⟨rfl,.slice va (0+i+1+(l.length-(i))) vc,?_⟩
     all_goals rw[plS,Hpp.out,Hpb.out]
     all_goals simp only[if_true,if_false,Bool.false_eq_true]
     all_goals unfold xsP
     all_goals rw[AX7 l i (i) _ (by omega),AP7]
     all_goals have hS1:St W (row (.slice va (0+i+1+(l.length-(i))) vc) 8 141 (0+i+1+(l.length-(i))) ([]++(l.take i).flatMap seC++seC (cl,(sq,⟨r0,r1,⟨x0,x1,x2,x3⟩⟩))++(l.drop (i)).flatMap seC)::_) w:=hS
     all_goals exact hS1.s _
    case inr=>
     have Hpp:=jH E1.out;have Hpb:=jH E2.out;go_wp2_with fail;refine rf2 tB36a (fun i=>i==0||i==7||i==12||i==13) [⟨some 0,some 7,fun nd=>row (nd 0) 8 141 0 []⟩,⟨some 7,some 13,fun nd=>row (nd 7) 8 141 (0+i) ([]++(l.take i).flatMap seC)⟩,⟨some 12,none,fun nd=>L8 (nd 12) 1 1 [.I cl,.I sq,.I r0,.I r1,.I x0,.I x1,.I x2,.I x3] 141⟩,⟨some 13,none,fun nd=>row (nd 13) 8 141 (0+i+1) ([]++(l.take i).flatMap seC++[.I cl,.I sq,.I r0,.I r1,.I x0,.I x1,.I x2,.I x3])⟩] [none,none,none] hS ?_;intro nd;apply Bn7;rfl;rfl;rfl;(focus(simp only[fD,fI,fJ,Act.eval,fE,fF,fG,fH,fK];try rfl));(exact esS);(exact rsS);rfl;rfl;rfl;rfl;rfl;decide;(intro _;rfl);rfl;(intro _;rfl);(refine frS ?_);refine cR ?_;refine zcn ?_;refine cR ?_;refine zc1 ?_
     iterate 2 (refine cR ?_)
     (apply Ai7;rfl;rfl;rfl;(focus((conv=>lhs;whnf);try rfl));(focus((conv=>lhs;whnf);try rfl));exact esS;exact rsS;rfl;decide;rfl;intro F w hS;exact(Src.partM (by exact A6) (C5 l i)).at hS;(focus(rw[Ab7 AO7,jT,Nat.min_eq_left (by omega)]));(focus(exact BI7 _));(focus(unfold maxLen;omega));(focus(omega));intro _;rfl;intro _;rfl;refine frS ?_)
     iterate 2 (refine cR ?_)
     (refine zcN ?_);refine cR ?_;apply aC4;rfl;rfl;rfl;(focus(simp only[fD,fI,fJ,Act.eval,fE,fF,fG,fH,fK];try rfl));(exact esS);(exact rsS);rfl;rfl;rfl;rfl;(intro _;rfl);rfl;(intro _;rfl);(refine frS ?_);apply Ai7;rfl;rfl;rfl;(focus((conv=>lhs;whnf);try rfl));(focus((conv=>lhs;whnf);try rfl));(exact esS);(exact rsS);rfl;decide;rfl;(intro F w hS;exact AC7 hS (by exact A6));(focus(try rfl));rfl;(focus(unfold maxLen;omega));(focus(omega));(intro _;rfl);(intro _;rfl);(refine frS ?_);refine cR ?_;refine Ad7 ?_;clear hS;intro w hS;have hS2:St W [L8 (nd 12) _ _ _ _,row (nd 13) 8 _ _ _,blk _ _ _,xeB _ _ _ _ _,row _ _ _ _ _,sats _] w:=hS;clear hS;have hS:=hS2.unpack [_,_,_,_,_];clear hS2;simp only[jK,jN]at hS;generalize nd 13=v9 at *;replace hS:=hS.drop;obtain⟨va,vc,rfl⟩:=hS.rowVal;go_wp2_with(first|(with_reducible apply Ae7 hS);rfl;rfl;rfl;rfl;exact esS;exact rsS;rfl;decide;exact i7;exact Src.partM (by exact aY4) (fun j u h=>D9 AO7 l (i) j u (by omega) h);(focus(rw[Ab7 AO7,List.length_drop]));exact BI7 _;(focus(unfold maxLen;omega));(focus(omega));clear hS;intro v w hS;(have hv:=hS.rowVal;obtain⟨va,vc,rfl⟩:=hv);refine frS ?_|refine zs1 hS ?_;clear hS;intro w hS)
     all_goals go_end0
     all_goals refine⟨rfl,.slice va (0+i+1+(l.length-(i))) vc,?_⟩
     all_goals rw[plS,Hpp.out,Hpb.out]
     all_goals simp only[if_true,if_false,Bool.false_eq_true]
     all_goals unfold xsP
     all_goals rw[AX7 l i (i) _ (by omega),AP7]
     all_goals have hS1:St W (row (.slice va (0+i+1+(l.length-(i))) vc) 8 141 (0+i+1+(l.length-(i))) ([]++(l.take i).flatMap seC++seC (cl,(sq,⟨r0,r1,⟨x0,x1,x2,x3⟩⟩))++(l.drop (i)).flatMap seC)::_) w:=hS
     all_goals exact hS1.s _
  ·have hi1:i<l.length:=by omega
   obtain⟨⟨g,rfl⟩,_,_⟩:=St.rowAddr hS.drop.drop (by omega);have hca:∀{K K':List HP},Take K (xsP (.S g l.length cap) l) K'->i6 K g (i*8) (.I l[i].1):=fun hu=>d8.elemM (enc:=seC) AO7 hu hi1 0 _ rfl
   have hdr:l.drop i=l[i]::l.drop (i+1):=List.drop_eq_getElem_cons hi1;rw[hdr,plI]at e1;rw[hdr,plB]at e2;generalize l[i]=x at hca e1 e2;obtain⟨xa,xv⟩:=x;simp only at hca e1 e2;clear hdr;have di:decide (i<l.length)=true:=by simpa using hi1
   by_cases hlt:xa<cl
   ·have dx:decide (xa<cl)=true:=by simpa using hlt
    rw[if_pos dx]at e1 e2;have E1:=jH e1;have E2:=jH e2;clear hlt e1 e2;go_wp2_with(first|refine zl1 hS ?_|refine zl1 hS ?_ (hc:=by exact hca (by exact i7)));go_roundw
    case rel=>exact⟨i+1,rfl,hi1,by rw[E1.out];omega,E2.out,hS⟩
    case measure=>simp[intOf];omega
   ·have dx:decide (xa<cl)=false:=by simpa using hlt
    rw[if_neg (by rw[show ltI xa cl=false from dx];simp)]at e1 e2;have E1:=jH (show plI ltI l cl=i from e1);by_cases heq:xa=cl
    ·have dq:(xa==cl)=true:=by simpa using heq
     have E2:=jH (show plB ltI l cl=true by rw[e2];simpa using heq);clear hlt e1 e2 heq;go_wp2_with(first|refine zl1 hS ?_|refine zl1 hS ?_ (hc:=by exact hca (by exact i7)))
     case inl=>
      have Hpp:=jH E1.out;have Hpb:=jH E2.out;go_wp2_with fail;refine rf2 tB36a (fun i=>i==0||i==7||i==12||i==13) [⟨some 0,some 7,fun nd=>row (nd 0) 8 141 0 []⟩,⟨some 7,some 13,fun nd=>row (nd 7) 8 141 (0+i) ([]++(l.take i).flatMap seC)⟩,⟨some 12,none,fun nd=>L8 (nd 12) 1 1 [.I cl,.I sq,.I r0,.I r1,.I x0,.I x1,.I x2,.I x3] 141⟩,⟨some 13,none,fun nd=>row (nd 13) 8 141 (0+i+1) ([]++(l.take i).flatMap seC++[.I cl,.I sq,.I r0,.I r1,.I x0,.I x1,.I x2,.I x3])⟩] [none,none,none] hS ?_;intro nd;apply Bn7;rfl;rfl;rfl;(focus(simp only[fD,fI,fJ,Act.eval,fE,fF,fG,fH,fK];try rfl));(exact esS);(exact rsS);rfl;rfl;rfl;rfl;rfl;decide;(intro _;rfl);rfl;(intro _;rfl);(refine frS ?_);refine cR ?_;refine zcn ?_;refine cR ?_;refine zc1 ?_
      iterate 2 (refine cR ?_)
      (apply Ai7;rfl;rfl;rfl;(focus((conv=>lhs;whnf);try rfl));(focus((conv=>lhs;whnf);try rfl));exact esS;exact rsS;rfl;decide;rfl;intro F w hS;exact(Src.partM (by exact A6) (C5 l i)).at hS;(focus(rw[Ab7 AO7,jT,Nat.min_eq_left (by omega)]));(focus(exact BI7 _));(focus(unfold maxLen;omega));(focus(omega));intro _;rfl;intro _;rfl;refine frS ?_)
      iterate 2 (refine cR ?_)
      (refine zcN ?_);refine cR ?_;apply aC4;rfl;rfl;rfl;(focus(simp only[fD,fI,fJ,Act.eval,fE,fF,fG,fH,fK];try rfl));(exact esS);(exact rsS);rfl;rfl;rfl;rfl;(intro _;rfl);rfl;(intro _;rfl);(refine frS ?_);apply Ai7;rfl;rfl;rfl;(focus((conv=>lhs;whnf);try rfl));(focus((conv=>lhs;whnf);try rfl));(exact esS);(exact rsS);rfl;decide;rfl;(intro F w hS;exact AC7 hS (by exact A6));(focus(try rfl));rfl;(focus(unfold maxLen;omega));(focus(omega));(intro _;rfl);(intro _;rfl);(refine frS ?_);refine cR ?_;refine Ad7 ?_;clear hS;intro w hS;have hS2:St W [L8 (nd 12) _ _ _ _,row (nd 13) 8 _ _ _,blk _ _ _,xeB _ _ _ _ _,row _ _ _ _ _,sats _] w:=hS;clear hS;have hS:=hS2.unpack [_,_,_,_,_];clear hS2;simp only[jK,jN]at hS;generalize nd 13=v9 at *;replace hS:=hS.drop;obtain⟨va,vc,rfl⟩:=hS.rowVal;go_wp2_with(first|(with_reducible apply Ae7 hS);rfl;rfl;rfl;rfl;exact esS;exact rsS;rfl;decide;exact i7;exact Src.none (l.drop (i+1)) (by rw[List.drop_eq_nil_of_le (by omega)]);(focus(rw[Ab7 AO7,List.length_drop]));exact BI7 _;(focus(unfold maxLen;omega));(focus(omega));clear hS;intro v w hS;(have hv:=hS.rowVal;obtain⟨va,vc,rfl⟩:=hv);refine frS ?_|refine zs1 hS ?_;clear hS;intro w hS)
      all_goals go_end0
      all_goals refine⟨rfl,.slice va (0+i+1+(l.length-(i+1))) vc,?_⟩
      all_goals rw[plS,Hpp.out,Hpb.out]
      all_goals simp only[if_true,if_false,Bool.false_eq_true]
      all_goals unfold xsP
      all_goals rw[AX7 l i (i+1) _ (by omega),AP7]
      all_goals have hS1:St W (row (.slice va (0+i+1+(l.length-(i+1))) vc) 8 141 (0+i+1+(l.length-(i+1))) ([]++(l.take i).flatMap seC++seC (cl,(sq,⟨r0,r1,⟨x0,x1,x2,x3⟩⟩))++(l.drop (i+1)).flatMap seC)::_) w:=hS
      all_goals exact hS1.s _
     case inr=>
      have Hpp:=jH E1.out;have Hpb:=jH E2.out;go_wp2_with fail;refine rf2 tB36a (fun i=>i==0||i==7||i==12||i==13) [⟨some 0,some 7,fun nd=>row (nd 0) 8 141 0 []⟩,⟨some 7,some 13,fun nd=>row (nd 7) 8 141 (0+i) ([]++(l.take i).flatMap seC)⟩,⟨some 12,none,fun nd=>L8 (nd 12) 1 1 [.I cl,.I sq,.I r0,.I r1,.I x0,.I x1,.I x2,.I x3] 141⟩,⟨some 13,none,fun nd=>row (nd 13) 8 141 (0+i+1) ([]++(l.take i).flatMap seC++[.I cl,.I sq,.I r0,.I r1,.I x0,.I x1,.I x2,.I x3])⟩] [none,none,none] hS ?_;intro nd;apply Bn7;rfl;rfl;rfl;(focus(simp only[fD,fI,fJ,Act.eval,fE,fF,fG,fH,fK];try rfl));(exact esS);(exact rsS);rfl;rfl;rfl;rfl;rfl;decide;(intro _;rfl);rfl;(intro _;rfl);(refine frS ?_);refine cR ?_;refine zcn ?_;refine cR ?_;refine zc1 ?_
      iterate 2 (refine cR ?_)
      (apply Ai7;rfl;rfl;rfl;(focus((conv=>lhs;whnf);try rfl));(focus((conv=>lhs;whnf);try rfl));exact esS;exact rsS;rfl;decide;rfl;intro F w hS;exact(Src.partM (by exact A6) (C5 l i)).at hS;(focus(rw[Ab7 AO7,jT,Nat.min_eq_left (by omega)]));(focus(exact BI7 _));(focus(unfold maxLen;omega));(focus(omega));intro _;rfl;intro _;rfl;refine frS ?_)
      iterate 2 (refine cR ?_)
      (refine zcN ?_);refine cR ?_;apply aC4;rfl;rfl;rfl;(focus(simp only[fD,fI,fJ,Act.eval,fE,fF,fG,fH,fK];try rfl));(exact esS);(exact rsS);rfl;rfl;rfl;rfl;(intro _;rfl);rfl;(intro _;rfl);(refine frS ?_);apply Ai7;rfl;rfl;rfl;(focus((conv=>lhs;whnf);try rfl));(focus((conv=>lhs;whnf);try rfl));(exact esS);(exact rsS);rfl;decide;rfl;(intro F w hS;exact AC7 hS (by exact A6));(focus(try rfl));rfl;(focus(unfold maxLen;omega));(focus(omega));(intro _;rfl);(intro _;rfl);(refine frS ?_);refine cR ?_;refine Ad7 ?_;clear hS;intro w hS;have hS2:St W [L8 (nd 12) _ _ _ _,row (nd 13) 8 _ _ _,blk _ _ _,xeB _ _ _ _ _,row _ _ _ _ _,sats _] w:=hS;clear hS;have hS:=hS2.unpack [_,_,_,_,_];clear hS2;simp only[jK,jN]at hS;generalize nd 13=v9 at *;replace hS:=hS.drop;obtain⟨va,vc,rfl⟩:=hS.rowVal;go_wp2_with(first|(with_reducible apply Ae7 hS);rfl;rfl;rfl;rfl;exact esS;exact rsS;rfl;decide;exact i7;exact Src.partM (by exact aY4) (fun j u h=>D9 AO7 l (i+1) j u (by omega) h);(focus(rw[Ab7 AO7,List.length_drop]));exact BI7 _;(focus(unfold maxLen;omega));(focus(omega));clear hS;intro v w hS;(have hv:=hS.rowVal;obtain⟨va,vc,rfl⟩:=hv);refine frS ?_|refine zs1 hS ?_;clear hS;intro w hS)
      all_goals go_end0
      all_goals refine⟨rfl,.slice va (0+i+1+(l.length-(i+1))) vc,?_⟩
      all_goals rw[plS,Hpp.out,Hpb.out]
      all_goals simp only[if_true,if_false,Bool.false_eq_true]
      all_goals unfold xsP
      all_goals rw[AX7 l i (i+1) _ (by omega),AP7]
      all_goals have hS1:St W (row (.slice va (0+i+1+(l.length-(i+1))) vc) 8 141 (0+i+1+(l.length-(i+1))) ([]++(l.take i).flatMap seC++seC (cl,(sq,⟨r0,r1,⟨x0,x1,x2,x3⟩⟩))++(l.drop (i+1)).flatMap seC)::_) w:=hS
      all_goals exact hS1.s _
    ·have dq:(xa==cl)=false:=by simpa using heq
     have E2:=jH (show plB ltI l cl=false by rw[e2];simpa using heq);clear hlt e1 e2 heq;go_wp2_with(first|refine zl1 hS ?_|refine zl1 hS ?_ (hc:=by exact hca (by exact i7)));have Hpp:=jH E1.out;have Hpb:=jH E2.out;go_wp2_with fail;refine rf2 tB36a (fun i=>i==0||i==7||i==12||i==13) [⟨some 0,some 7,fun nd=>row (nd 0) 8 141 0 []⟩,⟨some 7,some 13,fun nd=>row (nd 7) 8 141 (0+i) ([]++(l.take i).flatMap seC)⟩,⟨some 12,none,fun nd=>L8 (nd 12) 1 1 [.I cl,.I sq,.I r0,.I r1,.I x0,.I x1,.I x2,.I x3] 141⟩,⟨some 13,none,fun nd=>row (nd 13) 8 141 (0+i+1) ([]++(l.take i).flatMap seC++[.I cl,.I sq,.I r0,.I r1,.I x0,.I x1,.I x2,.I x3])⟩] [none,none,none] hS ?_;intro nd;apply Bn7;rfl;rfl;rfl;(focus(simp only[fD,fI,fJ,Act.eval,fE,fF,fG,fH,fK];try rfl));(exact esS);(exact rsS);rfl;rfl;rfl;rfl;rfl;decide;(intro _;rfl);rfl;(intro _;rfl);(refine frS ?_);refine cR ?_;refine zcn ?_;refine cR ?_;refine zc1 ?_
     iterate 2 (refine cR ?_)
     (apply Ai7;rfl;rfl;rfl;(focus((conv=>lhs;whnf);try rfl));(focus((conv=>lhs;whnf);try rfl));exact esS;exact rsS;rfl;decide;rfl;intro F w hS;exact(Src.partM (by exact A6) (C5 l i)).at hS;(focus(rw[Ab7 AO7,jT,Nat.min_eq_left (by omega)]));(focus(exact BI7 _));(focus(unfold maxLen;omega));(focus(omega));intro _;rfl;intro _;rfl;refine frS ?_)
     iterate 2 (refine cR ?_)
     (refine zcN ?_);refine cR ?_;apply aC4;rfl;rfl;rfl;(focus(simp only[fD,fI,fJ,Act.eval,fE,fF,fG,fH,fK];try rfl));(exact esS);(exact rsS);rfl;rfl;rfl;rfl;(intro _;rfl);rfl;(intro _;rfl);(refine frS ?_);apply Ai7;rfl;rfl;rfl;(focus((conv=>lhs;whnf);try rfl));(focus((conv=>lhs;whnf);try rfl));(exact esS);(exact rsS);rfl;decide;rfl;(intro F w hS;exact AC7 hS (by exact A6));(focus(try rfl));rfl;(focus(unfold maxLen;omega));(focus(omega));(intro _;rfl);(intro _;rfl);(refine frS ?_);refine cR ?_;refine Ad7 ?_;clear hS;intro w hS;have hS2:St W [L8 (nd 12) _ _ _ _,row (nd 13) 8 _ _ _,blk _ _ _,xeB _ _ _ _ _,row _ _ _ _ _,sats _] w:=hS;clear hS;have hS:=hS2.unpack [_,_,_,_,_];clear hS2;simp only[jK,jN]at hS;generalize nd 13=v9 at *;replace hS:=hS.drop;obtain⟨va,vc,rfl⟩:=hS.rowVal;go_wp2_with(first|(with_reducible apply Ae7 hS);rfl;rfl;rfl;rfl;exact esS;exact rsS;rfl;decide;exact i7;exact Src.partM (by exact aY4) (fun j u h=>D9 AO7 l (i) j u (by omega) h);(focus(rw[Ab7 AO7,List.length_drop]));exact BI7 _;(focus(unfold maxLen;omega));(focus(omega));clear hS;intro v w hS;(have hv:=hS.rowVal;obtain⟨va,vc,rfl⟩:=hv);refine frS ?_|refine zs1 hS ?_;clear hS;intro w hS)
     all_goals go_end0
     all_goals refine⟨rfl,.slice va (0+i+1+(l.length-(i))) vc,?_⟩
     all_goals rw[plS,Hpp.out,Hpb.out]
     all_goals simp only[if_true,if_false,Bool.false_eq_true]
     all_goals unfold xsP
     all_goals rw[AX7 l i (i) _ (by omega),AP7]
     all_goals have hS1:St W (row (.slice va (0+i+1+(l.length-(i))) vc) 8 141 (0+i+1+(l.length-(i))) ([]++(l.take i).flatMap seC++seC (cl,(sq,⟨r0,r1,⟨x0,x1,x2,x3⟩⟩))++(l.drop (i)).flatMap seC)::_) w:=hS
     all_goals exact hS1.s _
end Go.Proofs.YtienbkdjkjbelaaGreat
end
section
namespace Go.Sl
open Go.RowKit
section
variable{P:Program}{ops:Array Oper}{Q:Exit->Act->World->Prop}{a:Act}{w:World}{rest:List Oper}{o:Oper}
theorem Rm7{t:TypeId}{x y:Operand}{u i v:Value}(ho:o.op=.indexAddr t x y)(hg:Region.wanted o (yielded ops a.tmps)=true)(hx:a.eval x=u)(hy:a.eval y=i)(hr:∀w:World,(Instr.indexAt t u i).run P w=.ok v w)
  (h:wpList P ops Q rest (a.put o.dst v) w):wpList P ops Q (o::rest) a w:=by
 refine Am7 hg (v:=v) (w':=w) ?_ h;unfold execOp;simp only[ho,hx,hy,Sem.run_bind,hr,Result.andThen_ok,Sem.run_pure]
end
end Go.Sl
namespace Go.Proofs.YtienbkdjkjbelaaGreat
open Go.RowKit Go.Sl
theorem bR4{vb xB:Nat}{V:Vs}{W w:World}{R:List HP}(h:St W (xvP vb (.P xB) V.n V.ps::xkP xB V.L V.n::R) w):St W (dvP vb V::R) w:=St.mkEx xB (St.shutS [_,_] h)
theorem dl4{vb:Nat}{V:Vs}{W w:World}{R:List HP}(h:St W (dvP vb V::R) w):∃xB,St W (xvR vb xB V.ps V.L V.n R) w:=by obtain⟨xB,h⟩:=St.ex h;exact⟨xB,h.openS⟩
theorem ixR(g c:Nat)(w:World):(Instr.indexAt 81 (.S g 1 c) (.I 0)).run Tryz.prog w=.ok (.P g) w:=by kernel_rfl
theorem IR7:∀l:Ev,(l.flatMap rwC).all (·.oneCell')=true
 | []=>rfl
 | x::l=>by rw[List.flatMap_cons,List.all_append,IR7 l];rfl
theorem KN7(D:Ev)(k:ByteArray){p:Nat}(hp:plI ltB D k=p)(hb:plB ltB D k=true)(hpl:p<D.length){vb:Nat}{V:Vs}(hx:D[p]=(k,(vb,V)))(xb:Nat)(v1 v2 v3 v4:Value)(W w:World)(R:List HP)(hS:St W (xeB xb v1 v2 v3 v4::xrP v1 D::R) w):
  Calls Tryz.prog 57 #[.P xb,.string k] w fun e w'=>e=.returned (.P vb)/\St W (xeB xb v1 v2 v3 v4::xrP v1 D::R) w':=by
 obtain⟨a,cap,rfl⟩:=hS.drop.rowVal;obtain⟨⟨g,rfl⟩,_,_⟩:=St.rowAddr hS.drop (by omega);have hv:∀{K K':List HP},Take K (xrP (.S g D.length cap) D) K'->i6 K g (p*2+1) (.P vb):=fun hu=>d8.elemM (enc:=rwC) Bm7 hu hpl 1 _ (by rw[hx];rfl)
 have Hp:=jH hp;have Hb:=jH hb;clear hx hp hb;go_enter Tryz.func57,Tryz.ntmps57;go_wp2_with(first|go_at_call 97;refine(GG7 Hp.out Hb.out xb _ v2 v3 v4 W _ _ hS).mono ?_;clear hS;rintro e w ⟨rfl,hS⟩|refine zl1 hS ?_|refine zl1 hS ?_ (hc:=by exact hv (by exact i7)));go_ret;exact⟨rfl,hS⟩
theorem MN7(D:Ev)(hD:D.length<=1000000)(k:ByteArray){p:Nat}(hp:plI ltB D k=p)(hb:plB ltB D k=false)(xb:Nat)(v1 v2 v3 v4:Value)(W w:World)(R:List HP)(hS:St W (xeB xb v1 v2 v3 v4::xrP v1 D::R) w):
  Calls Tryz.prog 57 #[.P xb,.string k] w fun e w'=>∃vb r1,e=.returned (.P vb)/\St W (xeB xb r1 v2 v3 v4::xrP r1 (D.take p++(k,(vb,vs0))::D.drop p)::dvP vb vs0::R) w':=by
 obtain⟨a,cap,rfl⟩:=hS.drop.rowVal;have hpl:p<=D.length:=by rw[<-hp];exact HI7 _ _ _
 have Hp:=jH hp;have Hb:=jH hb;clear hp hb;go_enter Tryz.func57,Tryz.ntmps57
 rcases St.rowCase hS.drop with ⟨rfl,h0,rfl,hc0⟩|⟨g,rfl,hcap,hcn⟩
 ·have hH:D=[]:=List.eq_nil_of_length_eq_zero h0;subst hH;obtain rfl:p=0:=Nat.le_zero.1 hpl;have hcel:∀{K K':List HP} {g c vb:Nat},Take K (row (.S g 1 c) 2 137 1 [.string k,.P vb]) K'->i6 K g 1 (.P vb):=fun{K K' g c vb} hu=>d8.elemM (enc:=rwC) (xs:=[(k,(vb,vs0))]) (i:=0) Bm7 hu Nat.zero_lt_one 1 _ rfl
  go_wp2_with(first|go_at_call 97;refine(GG7 Hp.out Hb.out xb _ v2 v3 v4 W _ _ hS).mono ?_;clear hS;rintro e w ⟨rfl,hS⟩|refine zl1 hS ?_|(with_reducible apply Be7 (n:=0) hS);rfl;rfl;(focus(simp only[fD,fI,fJ,Act.eval,fE,fF,fG,fH,fK];try rfl));exact esS;exact rsS;rfl;rfl;rfl;rfl;rfl;decide;clear hS;intro bv w hS;refine frS ?_|(go_at_call 98;refine(fJ4 W _ _ hS).mono ?_;clear hS;rintro e w ⟨vb,xB,rfl,hS⟩;replace hS:=bR4 (V:=vs0) hS;try simp only[Nat.zero_add]at hS)|refine zbs hS ?_;clear hS;intro bS w hS|(with_reducible apply Ae7 hS);rfl;rfl;rfl;rfl;exact esS;exact rsS;rfl;decide;exact i7;exact .inl ⟨rfl,rfl,rfl⟩;(focus(rfl));exact rfl;(focus(unfold maxLen;omega));(focus(omega));clear hS;intro v w hS;(have hv:=hS.rowVal;obtain⟨va,vc,rfl⟩:=hv);refine frS ?_|(with_reducible apply Ae7 hS);rfl;rfl;rfl;rfl;exact esS;exact rsS;rfl;decide;exact i7;exact Src.mk d8.whole;(focus(rfl));exact rfl;(focus(unfold maxLen;omega));(focus(omega));clear hS;intro v w hS;(have hv:=hS.rowVal;obtain⟨va,vc,rfl⟩:=hv);refine frS ?_|(refine zs1 hS ?_;clear hS;intro w hS);obtain⟨⟨ga,rfl⟩,hcp,hcm⟩:=St.rowAddr hS (by omega)|(with_reducible apply Rm7);rfl;rfl;rfl;rfl;intro w;exact ixR _ _ w;refine frS ?_|refine zl1 hS ?_ (hc:=by exact hcel (by exact i7)));go_ret;have hS1:St W (xrP (.S ga 1 vc) [(k,(vb,vs0))]::blk bS _ _::dvP vb vs0::blk xb _ _::_::R) _:=hS;have hS2:=hS1.s (xeB xb (.S ga 1 vc) v2 v3 v4::xrP (.S ga 1 vc) [(k,(vb,vs0))]::dvP vb vs0::R);exact⟨vb,.S ga 1 vc,rfl,hS2⟩
 ·have hcel:∀{K K':List HP} {g c vb:Nat},Take K (row (.S g (p+1+(D.length-p)) c) 2 137 (p+1+(D.length-p)) ([]++(D.take p).flatMap rwC++[.string k,.P vb]++(D.drop p).flatMap rwC)) K'->i6 K g (p*2+1) (.P vb):=by
   intro K K' g c vb hu;have e1:(D.take p++(k,(vb,vs0))::D.drop p).length=p+1+(D.length-p):=by have:=AX7 D p p (k,(vb,vs0)) hpl;omega
   have e2:=AP7 rwC D p p (k,(vb,vs0));have hg:(D.take p++(k,(vb,vs0))::D.drop p)[p]? = some (k,(vb,vs0)):=by rw[List.getElem?_append_right (by rw[jT];omega),jT,Nat.min_eq_left hpl,Nat.sub_self];rfl
   have hu2:Take K (row (.S g (D.take p++(k,(vb,vs0))::D.drop p).length c) 2 137 (D.take p++(k,(vb,vs0))::D.drop p).length ((D.take p++(k,(vb,vs0))::D.drop p).flatMap rwC)) K':=by rw[e1,e2];exact hu
   obtain⟨hp1,hp2⟩:=List.getElem?_eq_some_iff.1 hg;exact d8.elemM (enc:=rwC) Bm7 hu2 hp1 1 _ (by rw[hp2];rfl)
  go_wp2_with(first|go_at_call 97;refine(GG7 Hp.out Hb.out xb _ v2 v3 v4 W _ _ hS).mono ?_;clear hS;rintro e w ⟨rfl,hS⟩|refine zl1 hS ?_|(with_reducible apply Be7 (n:=0) hS);rfl;rfl;(focus(simp only[fD,fI,fJ,Act.eval,fE,fF,fG,fH,fK];try rfl));exact esS;exact rsS;rfl;rfl;rfl;rfl;rfl;decide;clear hS;intro bv w hS;refine frS ?_|(go_at_call 98;refine(fJ4 W _ _ hS).mono ?_;clear hS;rintro e w ⟨vb,xB,rfl,hS⟩;replace hS:=bR4 (V:=vs0) hS;try simp only[Nat.zero_add]at hS)|refine zbs hS ?_;clear hS;intro bS w hS|(with_reducible apply Ae7 hS);rfl;rfl;rfl;rfl;exact esS;exact rsS;rfl;decide;exact i7;exact Src.partM (by exact aY4) (C5 D (p));(focus(rw[Ab7 Bm7,jT,Nat.min_eq_left (by omega)]));exact IR7 _;(focus(unfold maxLen;omega));(focus(omega));clear hS;intro v w hS;(have hv:=hS.rowVal;obtain⟨va,vc,rfl⟩:=hv);refine frS ?_|(with_reducible apply Ae7 hS);rfl;rfl;rfl;rfl;exact esS;exact rsS;rfl;decide;exact i7;exact Src.mk d8.whole;(focus(rfl));exact rfl;(focus(unfold maxLen;omega));(focus(omega));clear hS;intro v w hS;(have hv:=hS.rowVal;obtain⟨va,vc,rfl⟩:=hv);refine frS ?_|(with_reducible apply Ae7 hS);rfl;rfl;rfl;rfl;exact esS;exact rsS;rfl;decide;exact i7;exact Src.behindM (by exact aY4) (fun h=>⟨by omega,by rw[List.drop_eq_nil_of_le (by omega)];rfl⟩) (fun j u h=>D9 Bm7 D (p) j u (by omega) h);(focus(rw[Ab7 Bm7,List.length_drop]));exact IR7 _;(focus(unfold maxLen;omega));(focus(omega));clear hS;intro v w hS;(have hv:=hS.rowVal;obtain⟨va,vc,rfl⟩:=hv);refine frS ?_|(refine zs1 hS ?_;clear hS;intro w hS);obtain⟨⟨ga,rfl⟩,hcp,hcm⟩:=St.rowAddr hS (by omega)|refine zl1 hS ?_ (hc:=by exact hcel (by exact i7)))
  all_goals go_ret
  all_goals have e1:(D.take p++(k,(vb,vs0))::D.drop p).length=p+1+(D.length-p):=by have:=AX7 D p p (k,(vb,vs0)) hpl;omega
  all_goals refine⟨vb,rfl,.S ga (p+1+(D.length-p)) vc,?_⟩
  all_goals unfold xrP
  all_goals rw[e1,AP7]
  all_goals have hS1:St W (row (.S ga (p+1+(D.length-p)) vc) 2 137 (p+1+(D.length-p)) ([]++(D.take p).flatMap rwC++rwC (k,(vb,vs0))++(D.drop p).flatMap rwC)::blk bS _ _::dvP vb vs0::blk xb _ _::_::R) _:=hS
  all_goals exact hS1.s _
end Go.Proofs.YtienbkdjkjbelaaGreat
end
