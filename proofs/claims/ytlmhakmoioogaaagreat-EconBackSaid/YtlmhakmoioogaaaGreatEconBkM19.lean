/-
  The document's economy.
-/
import Derived.Test.YtlmhakmoioogaaaGreatEconBkM18
set_option maxHeartbeats 16000000
set_option maxRecDepth 100000
set_option linter.unusedSimpArgs false
set_option linter.unusedVariables false
section
namespace Go.Proofs.YtlmhakmoioogaaaGreat
open Go.RowKit Go.Sl
def SnR{ν:Type}(W:World)(L:List HP)(l:List ((Int×Int)×ν))(k:Int×Int)(v:Value)(w:World):Prop:=
 ∃i:Nat,v=.I i/\i<=l.length/\plI ltW l k=i+plI ltW (l.drop i) k/\St W L w
abbrev tB18b:List Nat:=[0,0,2,6,14,0,62,127,0,256,1023,2047]
theorem gF4(l:List ((Int×Int)×Tns))(hk:TsK l)(hl:l.length<=1000000)(t:Tns)(xb:Nat)(v1 v2 v3 v4:Value)(W w:World)(R:List HP)(hS:St W (xeB xb v1 v2 v3 v4::xtP v3 l::R) w):
  Calls Tryz.prog 81 #[.P xb,eTn t] w fun e w'=>e=.returned (.tuple #[])/\∃v,St W (xeB xb v1 v2 v v4::xtP v (l.take (plI ltW l (t.client,t.seq))++((t.client,t.seq),t)::l.drop (plI ltW l (t.client,t.seq)))::R) w':=by
 obtain⟨a,cap,rfl⟩:=hS.drop.rowVal;obtain⟨cl,sq,ak,aw,tk,tw,it,ct⟩:=t;have h63:l.length<=9223372036854775807:=by omega
 have Hk:=jH hk;clear hk;go_enter Tryz.func81,Tryz.ntmps81;go_wp2_with(first|refine zbx hS ?_;clear hS;intro bA w hS)
 go_loopw [4] (fun v wr=>SnR W (blk bA [.I cl,.I sq,.string ak,.string aw,.string tk,.string tw,.I it,.I ct] 40::xeB xb v1 v2 (.slice a l.length cap) v4::xtP (.slice a l.length cap) l::R) l (cl,sq) v wr) (fun v _=>l.length-(intOf v).toNat)
 case atStart=>exact⟨0,rfl,Nat.zero_le _,by simp,hS⟩
 case round=>
  clear hS;obtain⟨i,rfl,hil,e1,hS⟩:=hrel;by_cases hin:i=l.length
  ·have hdr:l.drop i=[]:=by rw[hin];exact List.drop_length
   rw[hdr]at e1;have E1:=jH (show plI ltW l (cl,sq)=i from e1);have di:decide (i<l.length)=false:=by simp;omega
   have hi0:l=[]->i=0:=fun h=>by rw[h]at hil;simpa using hil
   clear e1 hdr hin;go_wp2_with fail;refine Aa7 (by kernel_rfl) (by kernel_rfl) hS ?_
   repeat(first|go_big_quiet_skip|refine zq1 ?_|refine zqn ?_|refine qR ?_)
   clear hS;intro w hS
   rcases St.rowCase hS.drop.drop with ⟨rfl,h0,rfl,hc0⟩|⟨g,rfl,hcap,hcn⟩
   ·have hH:l=[]:=List.eq_nil_of_length_eq_zero h0;obtain rfl:=hi0 hH;clear hi0;subst hH;go_wp2_with fail;refine rf2 tB18b (fun i=>i==0||i==7||i==9||i==10) [⟨some 0,some 7,fun nd=>row (nd 0) 8 40 0 []⟩,⟨some 7,some 10,fun nd=>row (nd 7) 8 40 (0+0) ([]++([]:List Value))⟩,⟨some 9,none,fun nd=>R5 (nd 9) 1 1 [.I cl,.I sq,.string ak,.string aw,.string tk,.string tw,.I it,.I ct] 40⟩,⟨some 10,none,fun nd=>row (nd 10) 8 40 (0+0+1) ([]++([]:List Value)++[.I cl,.I sq,.string ak,.string aw,.string tk,.string tw,.I it,.I ct])⟩] [none,none,none] hS ?_;intro nd;apply BO7;rfl;rfl;rfl;(focus(simp only[fD,fI,fJ,Act.eval,fE,fF,fG,fH,fK];try rfl));(exact esS);(exact rsS);rfl;rfl;rfl;rfl;rfl;decide;(intro _;rfl);rfl;(intro _;rfl);(refine frS ?_);refine cR ?_;refine zcn ?_;refine cR ?_;refine zc1 ?_
    iterate 2 (refine cR ?_)
    (apply Ai7;rfl;rfl;rfl;(focus((conv=>lhs;whnf);try rfl));(focus((conv=>lhs;whnf);try rfl));exact esS;exact rsS;rfl;decide;rfl;intro F w hS;exact .inl ⟨rfl,rfl,rfl⟩;(focus(rfl));(focus(exact rfl));(focus(unfold maxLen;omega));(focus(omega));intro _;rfl;intro _;rfl;refine frS ?_);refine zcN ?_;apply an4;rfl;rfl;rfl;(focus(simp only[fD,fI,fJ,Act.eval,fE,fF,fG,fH,fK];try rfl));(exact esS);(exact rsS);rfl;rfl;rfl;rfl;(intro _;rfl);rfl;(intro _;rfl);(refine frS ?_);apply Ai7;rfl;rfl;rfl;(focus((conv=>lhs;whnf);try rfl));(focus((conv=>lhs;whnf);try rfl));(exact esS);(exact rsS);rfl;decide;rfl;(intro F w hS;exact AT7 hS (by exact D5));(focus(try rfl));rfl;(focus(unfold maxLen;omega));(focus(omega));(intro _;rfl);(intro _;rfl);(refine frS ?_);refine cR ?_;refine Ad7 ?_;clear hS;intro w hS;have hS2:St W [R5 (nd 9) _ _ _ _,row (nd 10) 8 _ _ _,blk _ _ _,xeB _ _ _ _ _,row _ _ _ _ _,sats _] w:=hS;clear hS;have hS:=hS2.unpack [_,_,_,_,_];clear hS2;simp only[jK,jN]at hS;generalize nd 10=v9 at *;replace hS:=hS.drop;obtain⟨va,vc,rfl⟩:=hS.rowVal;go_wp2_with(first|refine zl1 hS ?_|(with_reducible apply Ae7 hS);rfl;rfl;rfl;rfl;exact esS;exact rsS;rfl;decide;exact j5;exact .inl ⟨rfl,rfl,rfl⟩;(focus(rfl));exact rfl;(focus(unfold maxLen;omega));(focus(omega));clear hS;intro v w hS;(have hv:=hS.rowVal;obtain⟨va,vc,rfl⟩:=hv);refine frS ?_|refine zs1 hS ?_;clear hS;intro w hS);go_end0;have hS1:St W (xtP (.slice va 1 vc) [((cl,sq),⟨cl,sq,ak,aw,tk,tw,it,ct⟩)]::_) w:=hS;have hS2:=hS1.s (xeB xb v1 v2 _ v4::xtP (.slice va 1 vc) [((cl,sq),⟨cl,sq,ak,aw,tk,tw,it,ct⟩)]::R);exact⟨rfl,.slice va 1 vc,hS2⟩
   ·clear hi0;have Hpp:=jH (show plI ltW l (cl,sq)=i from E1.out);go_wp2_with fail;refine rf2 tB18b (fun i=>i==0||i==7||i==9||i==10) [⟨some 0,some 7,fun nd=>row (nd 0) 8 40 0 []⟩,⟨some 7,some 10,fun nd=>row (nd 7) 8 40 (0+i) ([]++(l.take i).flatMap tnC)⟩,⟨some 9,none,fun nd=>R5 (nd 9) 1 1 [.I cl,.I sq,.string ak,.string aw,.string tk,.string tw,.I it,.I ct] 40⟩,⟨some 10,none,fun nd=>row (nd 10) 8 40 (0+i+1) ([]++(l.take i).flatMap tnC++[.I cl,.I sq,.string ak,.string aw,.string tk,.string tw,.I it,.I ct])⟩] [none,none,none] hS ?_;intro nd;apply BO7;rfl;rfl;rfl;(focus(simp only[fD,fI,fJ,Act.eval,fE,fF,fG,fH,fK];try rfl));(exact esS);(exact rsS);rfl;rfl;rfl;rfl;rfl;decide;(intro _;rfl);rfl;(intro _;rfl);(refine frS ?_);refine cR ?_;refine zcn ?_;refine cR ?_;refine zc1 ?_
    iterate 2 (refine cR ?_)
    (apply Ai7;rfl;rfl;rfl;(focus((conv=>lhs;whnf);try rfl));(focus((conv=>lhs;whnf);try rfl));exact esS;exact rsS;rfl;decide;rfl;intro F w hS;exact(Src.partM (by exact D5) (F5 l (i))).at hS;(focus(rw[Ab7 Bh7,jT,Nat.min_eq_left (by omega)]));(focus(exact DQ7 _));(focus(unfold maxLen;omega));(focus(omega));intro _;rfl;intro _;rfl;refine frS ?_);refine zcN ?_;apply an4;rfl;rfl;rfl;(focus(simp only[fD,fI,fJ,Act.eval,fE,fF,fG,fH,fK];try rfl));(exact esS);(exact rsS);rfl;rfl;rfl;rfl;(intro _;rfl);rfl;(intro _;rfl);(refine frS ?_);apply Ai7;rfl;rfl;rfl;(focus((conv=>lhs;whnf);try rfl));(focus((conv=>lhs;whnf);try rfl));(exact esS);(exact rsS);rfl;decide;rfl;(intro F w hS;exact AT7 hS (by exact D5));(focus(try rfl));rfl;(focus(unfold maxLen;omega));(focus(omega));(intro _;rfl);(intro _;rfl);(refine frS ?_);refine cR ?_;refine Ad7 ?_;clear hS;intro w hS;have hS2:St W [R5 (nd 9) _ _ _ _,row (nd 10) 8 _ _ _,blk _ _ _,xeB _ _ _ _ _,row _ _ _ _ _,sats _] w:=hS;clear hS;have hS:=hS2.unpack [_,_,_,_,_];clear hS2;simp only[jK,jN]at hS;generalize nd 10=v9 at *;replace hS:=hS.drop;obtain⟨va,vc,rfl⟩:=hS.rowVal;go_wp2_with(first|refine zl1 hS ?_|(with_reducible apply Ae7 hS);rfl;rfl;rfl;rfl;exact esS;exact rsS;rfl;decide;exact j5;exact Src.behindM (by exact bu4) (fun h=>⟨by omega,by rw[List.drop_eq_nil_of_le (by omega)];rfl⟩) (fun j u h=>H9 Bh7 l (i) j u (by omega) h);(focus(rw[Ab7 Bh7,List.length_drop]));exact DQ7 _;(focus(unfold maxLen;omega));(focus(omega));clear hS;intro v w hS;(have hv:=hS.rowVal;obtain⟨va,vc,rfl⟩:=hv);refine frS ?_|refine zs1 hS ?_;clear hS;intro w hS)
    all_goals go_end0
    all_goals refine⟨rfl,.slice va (0+i+1+(l.length-i)) vc,?_⟩
    all_goals rw[Hpp.out]
    all_goals unfold xtP
    all_goals rw[Bu7 l (i) (i) _ (by omega),Bi7]
    all_goals have hS1:St W (row (.slice va (0+i+1+(l.length-i)) vc) 8 40 (0+i+1+(l.length-i)) ([]++(l.take (i)).flatMap tnC++tnC ((cl,sq),⟨cl,sq,ak,aw,tk,tw,it,ct⟩)++(l.drop (i)).flatMap tnC)::_) w:=hS
    all_goals exact hS1.s _
  ·have hi1:i<l.length:=by omega
   obtain⟨⟨g,rfl⟩,_,_⟩:=St.rowAddr hS.drop.drop (by omega);have hca:∀{K K':List HP},Take K (xtP (.S g l.length cap) l) K'->i9 K g (i*8) (.I l[i].2.client):=fun hu=>i8.elemM (enc:=tnC) Bh7 hu hi1 0 _ rfl
   have hcb:∀{K K':List HP},Take K (xtP (.S g l.length cap) l) K'->i9 K g (i*8+1) (.I l[i].2.seq):=fun hu=>i8.elemM (enc:=tnC) Bh7 hu hi1 1 _ rfl
   have hdr:l.drop i=l[i]::l.drop (i+1):=List.drop_eq_getElem_cons hi1;have hkk:=Hk.out _ (jW hi1);rw[hdr,plI,hkk]at e1;generalize l[i]=x at hca hcb e1;obtain⟨xk,⟨xa,xc,x2,x3,x4,x5,x6,x7⟩⟩:=x;simp only at hca hcb e1;clear hdr hkk;have di:decide (i<l.length)=true:=by simpa using hi1
   cases hlt:ltW (xa,xc) (cl,sq)with
   | true=>
    rw[hlt,if_pos rfl]at e1;have Hlt:=jH hlt;have E1:=jH e1;clear hlt e1;go_wp2_with fail;refine Aa7 (by kernel_rfl) (by kernel_rfl) hS ?_
    repeat(first|refine zq1 ?_|apply As7;rfl;rfl;rfl;decide +kernel;exact hca (by exact j5);refine frS ?_|apply As7;rfl;rfl;rfl;decide +kernel;exact hcb (by exact j5);refine frS ?_|refine zqn ?_|apply At7;rfl;intro w;apply Ag7;rfl;decide +kernel;(focus(simp only[fD,fI,fJ,Act.eval,fE,fF,fG,fH,fK];try rfl));intro w hS;exact EI7 Hlt.out W w _ hS;refine frS ?_|refine qR ?_)
    clear hS;intro w hS;go_wp2_with(fail);go_roundw
    case rel=>exact⟨i+1,rfl,hi1,by rw[E1.out];omega,hS⟩
    case measure=>simp[intOf];omega
   | false=>
    rw[hlt,if_neg (by simp)]at e1;have Hlt:=jH hlt;have E1:=jH (show plI ltW l (cl,sq)=i from e1);clear hlt e1;go_wp2_with fail;refine Aa7 (by kernel_rfl) (by kernel_rfl) hS ?_
    repeat(first|refine zq1 ?_|apply As7;rfl;rfl;rfl;decide +kernel;exact hca (by exact j5);refine frS ?_|apply As7;rfl;rfl;rfl;decide +kernel;exact hcb (by exact j5);refine frS ?_|refine zqn ?_|apply At7;rfl;intro w;apply Ag7;rfl;decide +kernel;(focus(simp only[fD,fI,fJ,Act.eval,fE,fF,fG,fH,fK];try rfl));intro w hS;exact EI7 Hlt.out W w _ hS;refine frS ?_|refine qR ?_)
    clear hS;intro w hS;have Hpp:=jH (show plI ltW l (cl,sq)=i from E1.out);go_wp2_with fail;refine rf2 tB18b (fun i=>i==0||i==7||i==9||i==10) [⟨some 0,some 7,fun nd=>row (nd 0) 8 40 0 []⟩,⟨some 7,some 10,fun nd=>row (nd 7) 8 40 (0+i) ([]++(l.take i).flatMap tnC)⟩,⟨some 9,none,fun nd=>R5 (nd 9) 1 1 [.I cl,.I sq,.string ak,.string aw,.string tk,.string tw,.I it,.I ct] 40⟩,⟨some 10,none,fun nd=>row (nd 10) 8 40 (0+i+1) ([]++(l.take i).flatMap tnC++[.I cl,.I sq,.string ak,.string aw,.string tk,.string tw,.I it,.I ct])⟩] [none,none,none] hS ?_;intro nd;apply BO7;rfl;rfl;rfl;(focus(simp only[fD,fI,fJ,Act.eval,fE,fF,fG,fH,fK];try rfl));(exact esS);(exact rsS);rfl;rfl;rfl;rfl;rfl;decide;(intro _;rfl);rfl;(intro _;rfl);(refine frS ?_);refine cR ?_;refine zcn ?_;refine cR ?_;refine zc1 ?_
    iterate 2 (refine cR ?_)
    (apply Ai7;rfl;rfl;rfl;(focus((conv=>lhs;whnf);try rfl));(focus((conv=>lhs;whnf);try rfl));exact esS;exact rsS;rfl;decide;rfl;intro F w hS;exact(Src.partM (by exact D5) (F5 l (i))).at hS;(focus(rw[Ab7 Bh7,jT,Nat.min_eq_left (by omega)]));(focus(exact DQ7 _));(focus(unfold maxLen;omega));(focus(omega));intro _;rfl;intro _;rfl;refine frS ?_);refine zcN ?_;apply an4;rfl;rfl;rfl;(focus(simp only[fD,fI,fJ,Act.eval,fE,fF,fG,fH,fK];try rfl));(exact esS);(exact rsS);rfl;rfl;rfl;rfl;(intro _;rfl);rfl;(intro _;rfl);(refine frS ?_);apply Ai7;rfl;rfl;rfl;(focus((conv=>lhs;whnf);try rfl));(focus((conv=>lhs;whnf);try rfl));(exact esS);(exact rsS);rfl;decide;rfl;(intro F w hS;exact AT7 hS (by exact D5));(focus(try rfl));rfl;(focus(unfold maxLen;omega));(focus(omega));(intro _;rfl);(intro _;rfl);(refine frS ?_);refine cR ?_;refine Ad7 ?_;clear hS;intro w hS;have hS2:St W [R5 (nd 9) _ _ _ _,row (nd 10) 8 _ _ _,blk _ _ _,xeB _ _ _ _ _,row _ _ _ _ _,sats _] w:=hS;clear hS;have hS:=hS2.unpack [_,_,_,_,_];clear hS2;simp only[jK,jN]at hS;generalize nd 10=v9 at *;replace hS:=hS.drop;obtain⟨va,vc,rfl⟩:=hS.rowVal;go_wp2_with(first|refine zl1 hS ?_|(with_reducible apply Ae7 hS);rfl;rfl;rfl;rfl;exact esS;exact rsS;rfl;decide;exact j5;exact Src.partM (by exact bu4) (fun j u h=>H9 Bh7 l (i) j u (by omega) h);(focus(rw[Ab7 Bh7,List.length_drop]));exact DQ7 _;(focus(unfold maxLen;omega));(focus(omega));clear hS;intro v w hS;(have hv:=hS.rowVal;obtain⟨va,vc,rfl⟩:=hv);refine frS ?_|refine zs1 hS ?_;clear hS;intro w hS)
    all_goals go_end0
    all_goals refine⟨rfl,.slice va (0+i+1+(l.length-i)) vc,?_⟩
    all_goals rw[Hpp.out]
    all_goals unfold xtP
    all_goals rw[Bu7 l (i) (i) _ (by omega),Bi7]
    all_goals have hS1:St W (row (.slice va (0+i+1+(l.length-i)) vc) 8 40 (0+i+1+(l.length-i)) ([]++(l.take (i)).flatMap tnC++tnC ((cl,sq),⟨cl,sq,ak,aw,tk,tw,it,ct⟩)++(l.drop (i)).flatMap tnC)::_) w:=hS
    all_goals exact hS1.s _
abbrev rpV(r:Rpl):Value:=.agg #[.I r.err,.I r.id,.I r.has.x0,.I r.has.x1,.I r.has.x2,.I r.has.x3]
abbrev ltI(a b:Int):Bool:=decide (a<b)
def RmR{ν:Type}(W:World)(L:List HP)(l:List (Int×ν))(k:Int)(v:Value)(w:World):Prop:=
 ∃i:Nat,v=.I i/\i<=l.length/\plI ltI l k=i+plI ltI (l.drop i) k/\plB ltI l k=plB ltI (l.drop i) k/\St W L w
theorem Ck7:∀l:List (Int×(Int×Rpl)),(l.flatMap seC).all (·.oneCell')=true
 | []=>rfl
 | x::l=>by rw[List.flatMap_cons,List.all_append,Ck7 l];rfl
theorem Src.none{L:List HP}{g off m c:Nat}(d:List (Int×(Int×Rpl)))(h:d=[]):Src L (.slice (some ⟨g,off,none⟩) m c) m (d.flatMap seC):=.inr ⟨g,off,c,rfl,fun j u hj=>by rw[h]at hj;simp at hj⟩
abbrev tB18a:List Nat:=[0,0,2,6,14,0,62,127,0,0,0,1792,3840,8191,16383]
theorem eq4(l:List (Int×(Int×Rpl)))(hl:l.length<=1000000)(cl sq:Int)(r:Rpl)(xb:Nat)(v1 v2 v3 v4:Value)(W w:World)(R:List HP)(hS:St W (xeB xb v1 v2 v3 v4::xsP v2 l::R) w):
  Calls Tryz.prog 55 #[.P xb,.I cl,.I sq,rpV r] w fun e w'=>e=.returned (.tuple #[])/\∃v,St W (xeB xb v1 v v3 v4::xsP v (plS ltI l cl (sq,r))::R) w':=by
 obtain⟨a,cap,rfl⟩:=hS.drop.rowVal;obtain⟨r0,r1,⟨x0,x1,x2,x3⟩⟩:=r;have h63:l.length<=9223372036854775807:=by omega
 go_enter Tryz.func55,Tryz.ntmps55;go_wp2_with(first|refine zbx hS ?_;clear hS;intro bA w hS)
 go_loopw [8] (fun v wr=>RmR W (blk bA [.I r0,.I r1,.I x0,.I x1,.I x2,.I x3] 31::xeB xb v1 (.slice a l.length cap) v3 v4::xsP (.slice a l.length cap) l::R) l cl v wr) (fun v _=>l.length-(intOf v).toNat)
 case atStart=>exact⟨0,rfl,Nat.zero_le _,by simp,rfl,hS⟩
 case round=>
  clear hS;obtain⟨i,rfl,hil,e1,e2,hS⟩:=hrel;by_cases hin:i=l.length
  ·have hdr:l.drop i=[]:=by rw[hin];exact List.drop_length
   rw[hdr]at e1 e2;have E1:=jH (show plI ltI l cl=i from e1);have E2:=jH (show plB ltI l cl=false from e2);have di:decide (i<l.length)=false:=by simp;omega
   have hi0:l=[]->i=0:=fun h=>by rw[h]at hil;simpa using hil
   clear e1 e2 hdr hin
   rcases St.rowCase hS.drop.drop with ⟨rfl,h0,rfl,hc0⟩|⟨g,rfl,hcap,hcn⟩
   ·have hH:l=[]:=List.eq_nil_of_length_eq_zero h0;obtain rfl:=hi0 hH;clear hi0;subst hH;go_wp2_with(first|refine zl1 hS ?_);go_wp2_with fail;refine rf2 tB18a (fun i=>i==0||i==7||i==12||i==13) [⟨some 0,some 7,fun nd=>row (nd 0) 8 143 0 []⟩,⟨some 7,some 13,fun nd=>row (nd 7) 8 143 (0+0) ([]++([]:List Value))⟩,⟨some 12,none,fun nd=>R5 (nd 12) 1 1 [.I cl,.I sq,.I r0,.I r1,.I x0,.I x1,.I x2,.I x3] 143⟩,⟨some 13,none,fun nd=>row (nd 13) 8 143 (0+0+1) ([]++([]:List Value)++[.I cl,.I sq,.I r0,.I r1,.I x0,.I x1,.I x2,.I x3])⟩] [none,none,none] hS ?_;intro nd;apply BO7;rfl;rfl;rfl;(focus(simp only[fD,fI,fJ,Act.eval,fE,fF,fG,fH,fK];try rfl));(exact esS);(exact rsS);rfl;rfl;rfl;rfl;rfl;decide;(intro _;rfl);rfl;(intro _;rfl);(refine frS ?_);refine cR ?_;refine zcn ?_;refine cR ?_;refine zc1 ?_
    iterate 2 (refine cR ?_)
    (apply Ai7;rfl;rfl;rfl;(focus((conv=>lhs;whnf);try rfl));(focus((conv=>lhs;whnf);try rfl));exact esS;exact rsS;rfl;decide;rfl;intro F w hS;exact .inl ⟨rfl,rfl,rfl⟩;(focus(rfl));(focus(exact rfl));(focus(unfold maxLen;omega));(focus(omega));intro _;rfl;intro _;rfl;refine frS ?_)
    iterate 2 (refine cR ?_)
    (refine zcN ?_);refine cR ?_;apply an4;rfl;rfl;rfl;(focus(simp only[fD,fI,fJ,Act.eval,fE,fF,fG,fH,fK];try rfl));(exact esS);(exact rsS);rfl;rfl;rfl;rfl;(intro _;rfl);rfl;(intro _;rfl);(refine frS ?_);apply Ai7;rfl;rfl;rfl;(focus((conv=>lhs;whnf);try rfl));(focus((conv=>lhs;whnf);try rfl));(exact esS);(exact rsS);rfl;decide;rfl;(intro F w hS;exact AT7 hS (by exact D5));(focus(try rfl));rfl;(focus(unfold maxLen;omega));(focus(omega));(intro _;rfl);(intro _;rfl);(refine frS ?_);refine cR ?_;refine Ad7 ?_;clear hS;intro w hS;have hS2:St W [R5 (nd 12) _ _ _ _,row (nd 13) 8 _ _ _,blk _ _ _,xeB _ _ _ _ _,row _ _ _ _ _,sats _] w:=hS;clear hS;have hS:=hS2.unpack [_,_,_,_,_];clear hS2;simp only[jK,jN]at hS;generalize nd 13=v9 at *;replace hS:=hS.drop;obtain⟨va,vc,rfl⟩:=hS.rowVal;go_wp2_with(first|(with_reducible apply Ae7 hS);rfl;rfl;rfl;rfl;exact esS;exact rsS;rfl;decide;exact j5;exact .inl ⟨rfl,rfl,rfl⟩;(focus(rfl));exact rfl;(focus(unfold maxLen;omega));(focus(omega));clear hS;intro v w hS;(have hv:=hS.rowVal;obtain⟨va,vc,rfl⟩:=hv);refine frS ?_|refine zs1 hS ?_;clear hS;intro w hS);go_end0;have hS1:St W (xsP (.slice va 1 vc) [(cl,(sq,⟨r0,r1,⟨x0,x1,x2,x3⟩⟩))]::_) w:=hS;have hS2:=hS1.s (xeB xb v1 _ v3 v4::xsP (.slice va 1 vc) [(cl,(sq,⟨r0,r1,⟨x0,x1,x2,x3⟩⟩))]::R);exact⟨rfl,.slice va 1 vc,hS2⟩
   ·clear hi0;go_wp2_with(first|refine zl1 hS ?_)
    case inl=>
     have Hpp:=jH E1.out;have Hpb:=jH E2.out;go_wp2_with fail;refine rf2 tB18a (fun i=>i==0||i==7||i==12||i==13) [⟨some 0,some 7,fun nd=>row (nd 0) 8 143 0 []⟩,⟨some 7,some 13,fun nd=>row (nd 7) 8 143 (0+i) ([]++(l.take i).flatMap seC)⟩,⟨some 12,none,fun nd=>R5 (nd 12) 1 1 [.I cl,.I sq,.I r0,.I r1,.I x0,.I x1,.I x2,.I x3] 143⟩,⟨some 13,none,fun nd=>row (nd 13) 8 143 (0+i+1) ([]++(l.take i).flatMap seC++[.I cl,.I sq,.I r0,.I r1,.I x0,.I x1,.I x2,.I x3])⟩] [none,none,none] hS ?_;intro nd;apply BO7;rfl;rfl;rfl;(focus(simp only[fD,fI,fJ,Act.eval,fE,fF,fG,fH,fK];try rfl));(exact esS);(exact rsS);rfl;rfl;rfl;rfl;rfl;decide;(intro _;rfl);rfl;(intro _;rfl);(refine frS ?_);refine cR ?_;refine zcn ?_;refine cR ?_;refine zc1 ?_
     iterate 2 (refine cR ?_)
     (apply Ai7;rfl;rfl;rfl;(focus((conv=>lhs;whnf);try rfl));(focus((conv=>lhs;whnf);try rfl));exact esS;exact rsS;rfl;decide;rfl;intro F w hS;exact(Src.partM (by exact D5) (F5 l i)).at hS;(focus(rw[Ab7 AX7,jT,Nat.min_eq_left (by omega)]));(focus(exact Ck7 _));(focus(unfold maxLen;omega));(focus(omega));intro _;rfl;intro _;rfl;refine frS ?_)
     iterate 2 (refine cR ?_)
     (refine zcN ?_);refine cR ?_;apply an4;rfl;rfl;rfl;(focus(simp only[fD,fI,fJ,Act.eval,fE,fF,fG,fH,fK];try rfl));(exact esS);(exact rsS);rfl;rfl;rfl;rfl;(intro _;rfl);rfl;(intro _;rfl);(refine frS ?_);apply Ai7;rfl;rfl;rfl;(focus((conv=>lhs;whnf);try rfl));(focus((conv=>lhs;whnf);try rfl));(exact esS);(exact rsS);rfl;decide;rfl;(intro F w hS;exact AT7 hS (by exact D5));(focus(try rfl));rfl;(focus(unfold maxLen;omega));(focus(omega));(intro _;rfl);(intro _;rfl);(refine frS ?_);refine cR ?_;refine Ad7 ?_;clear hS;intro w hS;have hS2:St W [R5 (nd 12) _ _ _ _,row (nd 13) 8 _ _ _,blk _ _ _,xeB _ _ _ _ _,row _ _ _ _ _,sats _] w:=hS;clear hS;have hS:=hS2.unpack [_,_,_,_,_];clear hS2;simp only[jK,jN]at hS;generalize nd 13=v9 at *;replace hS:=hS.drop;obtain⟨va,vc,rfl⟩:=hS.rowVal;go_wp2_with(first|(with_reducible apply Ae7 hS);rfl;rfl;rfl;rfl;exact esS;exact rsS;rfl;decide;exact j5;exact Src.none (l.drop (i)) (by rw[List.drop_eq_nil_of_le (by omega)]);(focus(rw[Ab7 AX7,List.length_drop]));exact Ck7 _;(focus(unfold maxLen;omega));(focus(omega));clear hS;intro v w hS;(have hv:=hS.rowVal;obtain⟨va,vc,rfl⟩:=hv);refine frS ?_|refine zs1 hS ?_;clear hS;intro w hS)
     all_goals go_end0
     all_goals refine⟨rfl,.slice va (0+i+1+(l.length-(i))) vc,?_⟩
     all_goals rw[plS,Hpp.out,Hpb.out]
     all_goals simp only[if_true,if_false,Bool.false_eq_true]
     all_goals unfold xsP
     all_goals rw[Bu7 l i (i) _ (by omega),Bi7]
     all_goals have hS1:St W (row (.slice va (0+i+1+(l.length-(i))) vc) 8 143 (0+i+1+(l.length-(i))) ([]++(l.take i).flatMap seC++seC (cl,(sq,⟨r0,r1,⟨x0,x1,x2,x3⟩⟩))++(l.drop (i)).flatMap seC)::_) w:=hS
     all_goals exact hS1.s _
    case inr=>
     have Hpp:=jH E1.out;have Hpb:=jH E2.out;go_wp2_with fail;refine rf2 tB18a (fun i=>i==0||i==7||i==12||i==13) [⟨some 0,some 7,fun nd=>row (nd 0) 8 143 0 []⟩,⟨some 7,some 13,fun nd=>row (nd 7) 8 143 (0+i) ([]++(l.take i).flatMap seC)⟩,⟨some 12,none,fun nd=>R5 (nd 12) 1 1 [.I cl,.I sq,.I r0,.I r1,.I x0,.I x1,.I x2,.I x3] 143⟩,⟨some 13,none,fun nd=>row (nd 13) 8 143 (0+i+1) ([]++(l.take i).flatMap seC++[.I cl,.I sq,.I r0,.I r1,.I x0,.I x1,.I x2,.I x3])⟩] [none,none,none] hS ?_;intro nd;apply BO7;rfl;rfl;rfl;(focus(simp only[fD,fI,fJ,Act.eval,fE,fF,fG,fH,fK];try rfl));(exact esS);(exact rsS);rfl;rfl;rfl;rfl;rfl;decide;(intro _;rfl);rfl;(intro _;rfl);(refine frS ?_);refine cR ?_;refine zcn ?_;refine cR ?_;refine zc1 ?_
     iterate 2 (refine cR ?_)
     (apply Ai7;rfl;rfl;rfl;(focus((conv=>lhs;whnf);try rfl));(focus((conv=>lhs;whnf);try rfl));exact esS;exact rsS;rfl;decide;rfl;intro F w hS;exact(Src.partM (by exact D5) (F5 l i)).at hS;(focus(rw[Ab7 AX7,jT,Nat.min_eq_left (by omega)]));(focus(exact Ck7 _));(focus(unfold maxLen;omega));(focus(omega));intro _;rfl;intro _;rfl;refine frS ?_)
     iterate 2 (refine cR ?_)
     (refine zcN ?_);refine cR ?_;apply an4;rfl;rfl;rfl;(focus(simp only[fD,fI,fJ,Act.eval,fE,fF,fG,fH,fK];try rfl));(exact esS);(exact rsS);rfl;rfl;rfl;rfl;(intro _;rfl);rfl;(intro _;rfl);(refine frS ?_);apply Ai7;rfl;rfl;rfl;(focus((conv=>lhs;whnf);try rfl));(focus((conv=>lhs;whnf);try rfl));(exact esS);(exact rsS);rfl;decide;rfl;(intro F w hS;exact AT7 hS (by exact D5));(focus(try rfl));rfl;(focus(unfold maxLen;omega));(focus(omega));(intro _;rfl);(intro _;rfl);(refine frS ?_);refine cR ?_;refine Ad7 ?_;clear hS;intro w hS;have hS2:St W [R5 (nd 12) _ _ _ _,row (nd 13) 8 _ _ _,blk _ _ _,xeB _ _ _ _ _,row _ _ _ _ _,sats _] w:=hS;clear hS;have hS:=hS2.unpack [_,_,_,_,_];clear hS2;simp only[jK,jN]at hS;generalize nd 13=v9 at *;replace hS:=hS.drop;obtain⟨va,vc,rfl⟩:=hS.rowVal;go_wp2_with(first|(with_reducible apply Ae7 hS);rfl;rfl;rfl;rfl;exact esS;exact rsS;rfl;decide;exact j5;exact Src.partM (by exact bu4) (fun j u h=>H9 AX7 l (i) j u (by omega) h);(focus(rw[Ab7 AX7,List.length_drop]));exact Ck7 _;(focus(unfold maxLen;omega));(focus(omega));clear hS;intro v w hS;(have hv:=hS.rowVal;obtain⟨va,vc,rfl⟩:=hv);refine frS ?_|refine zs1 hS ?_;clear hS;intro w hS)
     all_goals go_end0
     all_goals refine⟨rfl,.slice va (0+i+1+(l.length-(i))) vc,?_⟩
     all_goals rw[plS,Hpp.out,Hpb.out]
     all_goals simp only[if_true,if_false,Bool.false_eq_true]
     all_goals unfold xsP
     all_goals rw[Bu7 l i (i) _ (by omega),Bi7]
     all_goals have hS1:St W (row (.slice va (0+i+1+(l.length-(i))) vc) 8 143 (0+i+1+(l.length-(i))) ([]++(l.take i).flatMap seC++seC (cl,(sq,⟨r0,r1,⟨x0,x1,x2,x3⟩⟩))++(l.drop (i)).flatMap seC)::_) w:=hS
     all_goals exact hS1.s _
  ·have hi1:i<l.length:=by omega
   obtain⟨⟨g,rfl⟩,_,_⟩:=St.rowAddr hS.drop.drop (by omega);have hca:∀{K K':List HP},Take K (xsP (.S g l.length cap) l) K'->i9 K g (i*8) (.I l[i].1):=fun hu=>i8.elemM (enc:=seC) AX7 hu hi1 0 _ rfl
   have hdr:l.drop i=l[i]::l.drop (i+1):=List.drop_eq_getElem_cons hi1;rw[hdr,plI]at e1;rw[hdr,plB]at e2;generalize l[i]=x at hca e1 e2;obtain⟨xa,xv⟩:=x;simp only at hca e1 e2;clear hdr;have di:decide (i<l.length)=true:=by simpa using hi1
   by_cases hlt:xa<cl
   ·have dx:decide (xa<cl)=true:=by simpa using hlt
    rw[if_pos dx]at e1 e2;have E1:=jH e1;have E2:=jH e2;clear hlt e1 e2;go_wp2_with(first|refine zl1 hS ?_|refine zl1 hS ?_ (hc:=by exact hca (by exact j5)));go_roundw
    case rel=>exact⟨i+1,rfl,hi1,by rw[E1.out];omega,E2.out,hS⟩
    case measure=>simp[intOf];omega
   ·have dx:decide (xa<cl)=false:=by simpa using hlt
    rw[if_neg (by rw[show ltI xa cl=false from dx];simp)]at e1 e2;have E1:=jH (show plI ltI l cl=i from e1);by_cases heq:xa=cl
    ·have dq:(xa==cl)=true:=by simpa using heq
     have E2:=jH (show plB ltI l cl=true by rw[e2];simpa using heq);clear hlt e1 e2 heq;go_wp2_with(first|refine zl1 hS ?_|refine zl1 hS ?_ (hc:=by exact hca (by exact j5)))
     case inl=>
      have Hpp:=jH E1.out;have Hpb:=jH E2.out;go_wp2_with fail;refine rf2 tB18a (fun i=>i==0||i==7||i==12||i==13) [⟨some 0,some 7,fun nd=>row (nd 0) 8 143 0 []⟩,⟨some 7,some 13,fun nd=>row (nd 7) 8 143 (0+i) ([]++(l.take i).flatMap seC)⟩,⟨some 12,none,fun nd=>R5 (nd 12) 1 1 [.I cl,.I sq,.I r0,.I r1,.I x0,.I x1,.I x2,.I x3] 143⟩,⟨some 13,none,fun nd=>row (nd 13) 8 143 (0+i+1) ([]++(l.take i).flatMap seC++[.I cl,.I sq,.I r0,.I r1,.I x0,.I x1,.I x2,.I x3])⟩] [none,none,none] hS ?_;intro nd;apply BO7;rfl;rfl;rfl;(focus(simp only[fD,fI,fJ,Act.eval,fE,fF,fG,fH,fK];try rfl));(exact esS);(exact rsS);rfl;rfl;rfl;rfl;rfl;decide;(intro _;rfl);rfl;(intro _;rfl);(refine frS ?_);refine cR ?_;refine zcn ?_;refine cR ?_;refine zc1 ?_
      iterate 2 (refine cR ?_)
      (apply Ai7;rfl;rfl;rfl;(focus((conv=>lhs;whnf);try rfl));(focus((conv=>lhs;whnf);try rfl));exact esS;exact rsS;rfl;decide;rfl;intro F w hS;exact(Src.partM (by exact D5) (F5 l i)).at hS;(focus(rw[Ab7 AX7,jT,Nat.min_eq_left (by omega)]));(focus(exact Ck7 _));(focus(unfold maxLen;omega));(focus(omega));intro _;rfl;intro _;rfl;refine frS ?_)
      iterate 2 (refine cR ?_)
      (refine zcN ?_);refine cR ?_;apply an4;rfl;rfl;rfl;(focus(simp only[fD,fI,fJ,Act.eval,fE,fF,fG,fH,fK];try rfl));(exact esS);(exact rsS);rfl;rfl;rfl;rfl;(intro _;rfl);rfl;(intro _;rfl);(refine frS ?_);apply Ai7;rfl;rfl;rfl;(focus((conv=>lhs;whnf);try rfl));(focus((conv=>lhs;whnf);try rfl));(exact esS);(exact rsS);rfl;decide;rfl;(intro F w hS;exact AT7 hS (by exact D5));(focus(try rfl));rfl;(focus(unfold maxLen;omega));(focus(omega));(intro _;rfl);(intro _;rfl);(refine frS ?_);refine cR ?_;refine Ad7 ?_;clear hS;intro w hS;have hS2:St W [R5 (nd 12) _ _ _ _,row (nd 13) 8 _ _ _,blk _ _ _,xeB _ _ _ _ _,row _ _ _ _ _,sats _] w:=hS;clear hS;have hS:=hS2.unpack [_,_,_,_,_];clear hS2;simp only[jK,jN]at hS;generalize nd 13=v9 at *;replace hS:=hS.drop;obtain⟨va,vc,rfl⟩:=hS.rowVal;go_wp2_with(first|(with_reducible apply Ae7 hS);rfl;rfl;rfl;rfl;exact esS;exact rsS;rfl;decide;exact j5;exact Src.none (l.drop (i+1)) (by rw[List.drop_eq_nil_of_le (by omega)]);(focus(rw[Ab7 AX7,List.length_drop]));exact Ck7 _;(focus(unfold maxLen;omega));(focus(omega));clear hS;intro v w hS;(have hv:=hS.rowVal;obtain⟨va,vc,rfl⟩:=hv);refine frS ?_|refine zs1 hS ?_;clear hS;intro w hS)
      all_goals go_end0
      all_goals refine⟨rfl,.slice va (0+i+1+(l.length-(i+1))) vc,?_⟩
      all_goals rw[plS,Hpp.out,Hpb.out]
      all_goals simp only[if_true,if_false,Bool.false_eq_true]
      all_goals unfold xsP
      all_goals rw[Bu7 l i (i+1) _ (by omega),Bi7]
      all_goals have hS1:St W (row (.slice va (0+i+1+(l.length-(i+1))) vc) 8 143 (0+i+1+(l.length-(i+1))) ([]++(l.take i).flatMap seC++seC (cl,(sq,⟨r0,r1,⟨x0,x1,x2,x3⟩⟩))++(l.drop (i+1)).flatMap seC)::_) w:=hS
      all_goals exact hS1.s _
     case inr=>
      have Hpp:=jH E1.out;have Hpb:=jH E2.out;go_wp2_with fail;refine rf2 tB18a (fun i=>i==0||i==7||i==12||i==13) [⟨some 0,some 7,fun nd=>row (nd 0) 8 143 0 []⟩,⟨some 7,some 13,fun nd=>row (nd 7) 8 143 (0+i) ([]++(l.take i).flatMap seC)⟩,⟨some 12,none,fun nd=>R5 (nd 12) 1 1 [.I cl,.I sq,.I r0,.I r1,.I x0,.I x1,.I x2,.I x3] 143⟩,⟨some 13,none,fun nd=>row (nd 13) 8 143 (0+i+1) ([]++(l.take i).flatMap seC++[.I cl,.I sq,.I r0,.I r1,.I x0,.I x1,.I x2,.I x3])⟩] [none,none,none] hS ?_;intro nd;apply BO7;rfl;rfl;rfl;(focus(simp only[fD,fI,fJ,Act.eval,fE,fF,fG,fH,fK];try rfl));(exact esS);(exact rsS);rfl;rfl;rfl;rfl;rfl;decide;(intro _;rfl);rfl;(intro _;rfl);(refine frS ?_);refine cR ?_;refine zcn ?_;refine cR ?_;refine zc1 ?_
      iterate 2 (refine cR ?_)
      (apply Ai7;rfl;rfl;rfl;(focus((conv=>lhs;whnf);try rfl));(focus((conv=>lhs;whnf);try rfl));exact esS;exact rsS;rfl;decide;rfl;intro F w hS;exact(Src.partM (by exact D5) (F5 l i)).at hS;(focus(rw[Ab7 AX7,jT,Nat.min_eq_left (by omega)]));(focus(exact Ck7 _));(focus(unfold maxLen;omega));(focus(omega));intro _;rfl;intro _;rfl;refine frS ?_)
      iterate 2 (refine cR ?_)
      (refine zcN ?_);refine cR ?_;apply an4;rfl;rfl;rfl;(focus(simp only[fD,fI,fJ,Act.eval,fE,fF,fG,fH,fK];try rfl));(exact esS);(exact rsS);rfl;rfl;rfl;rfl;(intro _;rfl);rfl;(intro _;rfl);(refine frS ?_);apply Ai7;rfl;rfl;rfl;(focus((conv=>lhs;whnf);try rfl));(focus((conv=>lhs;whnf);try rfl));(exact esS);(exact rsS);rfl;decide;rfl;(intro F w hS;exact AT7 hS (by exact D5));(focus(try rfl));rfl;(focus(unfold maxLen;omega));(focus(omega));(intro _;rfl);(intro _;rfl);(refine frS ?_);refine cR ?_;refine Ad7 ?_;clear hS;intro w hS;have hS2:St W [R5 (nd 12) _ _ _ _,row (nd 13) 8 _ _ _,blk _ _ _,xeB _ _ _ _ _,row _ _ _ _ _,sats _] w:=hS;clear hS;have hS:=hS2.unpack [_,_,_,_,_];clear hS2;simp only[jK,jN]at hS;generalize nd 13=v9 at *;replace hS:=hS.drop;obtain⟨va,vc,rfl⟩:=hS.rowVal;go_wp2_with(first|(with_reducible apply Ae7 hS);rfl;rfl;rfl;rfl;exact esS;exact rsS;rfl;decide;exact j5;exact Src.partM (by exact bu4) (fun j u h=>H9 AX7 l (i+1) j u (by omega) h);(focus(rw[Ab7 AX7,List.length_drop]));exact Ck7 _;(focus(unfold maxLen;omega));(focus(omega));clear hS;intro v w hS;(have hv:=hS.rowVal;obtain⟨va,vc,rfl⟩:=hv);refine frS ?_|refine zs1 hS ?_;clear hS;intro w hS)
      all_goals go_end0
      all_goals refine⟨rfl,.slice va (0+i+1+(l.length-(i+1))) vc,?_⟩
      all_goals rw[plS,Hpp.out,Hpb.out]
      all_goals simp only[if_true,if_false,Bool.false_eq_true]
      all_goals unfold xsP
      all_goals rw[Bu7 l i (i+1) _ (by omega),Bi7]
      all_goals have hS1:St W (row (.slice va (0+i+1+(l.length-(i+1))) vc) 8 143 (0+i+1+(l.length-(i+1))) ([]++(l.take i).flatMap seC++seC (cl,(sq,⟨r0,r1,⟨x0,x1,x2,x3⟩⟩))++(l.drop (i+1)).flatMap seC)::_) w:=hS
      all_goals exact hS1.s _
    ·have dq:(xa==cl)=false:=by simpa using heq
     have E2:=jH (show plB ltI l cl=false by rw[e2];simpa using heq);clear hlt e1 e2 heq;go_wp2_with(first|refine zl1 hS ?_|refine zl1 hS ?_ (hc:=by exact hca (by exact j5)));have Hpp:=jH E1.out;have Hpb:=jH E2.out;go_wp2_with fail;refine rf2 tB18a (fun i=>i==0||i==7||i==12||i==13) [⟨some 0,some 7,fun nd=>row (nd 0) 8 143 0 []⟩,⟨some 7,some 13,fun nd=>row (nd 7) 8 143 (0+i) ([]++(l.take i).flatMap seC)⟩,⟨some 12,none,fun nd=>R5 (nd 12) 1 1 [.I cl,.I sq,.I r0,.I r1,.I x0,.I x1,.I x2,.I x3] 143⟩,⟨some 13,none,fun nd=>row (nd 13) 8 143 (0+i+1) ([]++(l.take i).flatMap seC++[.I cl,.I sq,.I r0,.I r1,.I x0,.I x1,.I x2,.I x3])⟩] [none,none,none] hS ?_;intro nd;apply BO7;rfl;rfl;rfl;(focus(simp only[fD,fI,fJ,Act.eval,fE,fF,fG,fH,fK];try rfl));(exact esS);(exact rsS);rfl;rfl;rfl;rfl;rfl;decide;(intro _;rfl);rfl;(intro _;rfl);(refine frS ?_);refine cR ?_;refine zcn ?_;refine cR ?_;refine zc1 ?_
     iterate 2 (refine cR ?_)
     (apply Ai7;rfl;rfl;rfl;(focus((conv=>lhs;whnf);try rfl));(focus((conv=>lhs;whnf);try rfl));exact esS;exact rsS;rfl;decide;rfl;intro F w hS;exact(Src.partM (by exact D5) (F5 l i)).at hS;(focus(rw[Ab7 AX7,jT,Nat.min_eq_left (by omega)]));(focus(exact Ck7 _));(focus(unfold maxLen;omega));(focus(omega));intro _;rfl;intro _;rfl;refine frS ?_)
     iterate 2 (refine cR ?_)
     (refine zcN ?_);refine cR ?_;apply an4;rfl;rfl;rfl;(focus(simp only[fD,fI,fJ,Act.eval,fE,fF,fG,fH,fK];try rfl));(exact esS);(exact rsS);rfl;rfl;rfl;rfl;(intro _;rfl);rfl;(intro _;rfl);(refine frS ?_);apply Ai7;rfl;rfl;rfl;(focus((conv=>lhs;whnf);try rfl));(focus((conv=>lhs;whnf);try rfl));(exact esS);(exact rsS);rfl;decide;rfl;(intro F w hS;exact AT7 hS (by exact D5));(focus(try rfl));rfl;(focus(unfold maxLen;omega));(focus(omega));(intro _;rfl);(intro _;rfl);(refine frS ?_);refine cR ?_;refine Ad7 ?_;clear hS;intro w hS;have hS2:St W [R5 (nd 12) _ _ _ _,row (nd 13) 8 _ _ _,blk _ _ _,xeB _ _ _ _ _,row _ _ _ _ _,sats _] w:=hS;clear hS;have hS:=hS2.unpack [_,_,_,_,_];clear hS2;simp only[jK,jN]at hS;generalize nd 13=v9 at *;replace hS:=hS.drop;obtain⟨va,vc,rfl⟩:=hS.rowVal;go_wp2_with(first|(with_reducible apply Ae7 hS);rfl;rfl;rfl;rfl;exact esS;exact rsS;rfl;decide;exact j5;exact Src.partM (by exact bu4) (fun j u h=>H9 AX7 l (i) j u (by omega) h);(focus(rw[Ab7 AX7,List.length_drop]));exact Ck7 _;(focus(unfold maxLen;omega));(focus(omega));clear hS;intro v w hS;(have hv:=hS.rowVal;obtain⟨va,vc,rfl⟩:=hv);refine frS ?_|refine zs1 hS ?_;clear hS;intro w hS)
     all_goals go_end0
     all_goals refine⟨rfl,.slice va (0+i+1+(l.length-(i))) vc,?_⟩
     all_goals rw[plS,Hpp.out,Hpb.out]
     all_goals simp only[if_true,if_false,Bool.false_eq_true]
     all_goals unfold xsP
     all_goals rw[Bu7 l i (i) _ (by omega),Bi7]
     all_goals have hS1:St W (row (.slice va (0+i+1+(l.length-(i))) vc) 8 143 (0+i+1+(l.length-(i))) ([]++(l.take i).flatMap seC++seC (cl,(sq,⟨r0,r1,⟨x0,x1,x2,x3⟩⟩))++(l.drop (i)).flatMap seC)::_) w:=hS
     all_goals exact hS1.s _
end Go.Proofs.YtlmhakmoioogaaaGreat
end
section
namespace Go.Sl
open Go.RowKit
section
variable{P:Program}{ops:Array Oper}{Q:Exit->Act->World->Prop}{a:Act}{w:World}{rest:List Oper}{o:Oper}
theorem Vi7{t:TypeId}{x y:Operand}{u i v:Value}(ho:o.op=.indexAddr t x y)(hg:Region.wanted o (yielded ops a.tmps)=true)(hx:a.eval x=u)(hy:a.eval y=i)(hr:∀w:World,(Instr.indexAt t u i).run P w=.ok v w)
  (h:wpList P ops Q rest (a.put o.dst v) w):wpList P ops Q (o::rest) a w:=by
 refine Aj7 hg (v:=v) (w':=w) ?_ h;unfold execOp;simp only[ho,hx,hy,Sem.run_bind,hr,Result.andThen_ok,Sem.run_pure]
end
end Go.Sl
namespace Go.Proofs.YtlmhakmoioogaaaGreat
open Go.RowKit Go.Sl
theorem bF4{vb xB:Nat}{V:Vs}{W w:World}{R:List HP}(h:St W (xvP vb (.P xB) V.n V.ps::xkP xB V.L V.n::R) w):St W (dvP vb V::R) w:=St.mkEx xB (St.shutS [_,_] h)
theorem de4{vb:Nat}{V:Vs}{W w:World}{R:List HP}(h:St W (dvP vb V::R) w):∃xB,St W (xvR vb xB V.ps V.L V.n R) w:=by obtain⟨xB,h⟩:=St.ex h;exact⟨xB,h.openS⟩
theorem ixR(g c:Nat)(w:World):(Instr.indexAt 46 (.S g 1 c) (.I 0)).run Tryz.prog w=.ok (.P g) w:=by kernel_rfl
theorem KS7:∀l:Ev,(l.flatMap rwC).all (·.oneCell')=true
 | []=>rfl
 | x::l=>by rw[List.flatMap_cons,List.all_append,KS7 l];rfl
theorem Nn7(D:Ev)(k:ByteArray){p:Nat}(hp:plI ltB D k=p)(hb:plB ltB D k=true)(hpl:p<D.length){vb:Nat}{V:Vs}(hx:D[p]=(k,(vb,V)))(xb:Nat)(v1 v2 v3 v4:Value)(W w:World)(R:List HP)(hS:St W (xeB xb v1 v2 v3 v4::xrP v1 D::R) w):
  Calls Tryz.prog 50 #[.P xb,.string k] w fun e w'=>e=.returned (.P vb)/\St W (xeB xb v1 v2 v3 v4::xrP v1 D::R) w':=by
 obtain⟨a,cap,rfl⟩:=hS.drop.rowVal;obtain⟨⟨g,rfl⟩,_,_⟩:=St.rowAddr hS.drop (by omega);have hv:∀{K K':List HP},Take K (xrP (.S g D.length cap) D) K'->i9 K g (p*2+1) (.P vb):=fun hu=>i8.elemM (enc:=rwC) Bm7 hu hpl 1 _ (by rw[hx];rfl)
 have Hp:=jH hp;have Hb:=jH hb;clear hx hp hb;go_enter Tryz.func50,Tryz.ntmps50;go_wp2_with(first|go_at_call 80;refine(EF7 Hp.out Hb.out xb _ v2 v3 v4 W _ _ hS).mono ?_;clear hS;rintro e w ⟨rfl,hS⟩|refine zl1 hS ?_|refine zl1 hS ?_ (hc:=by exact hv (by exact j5)));go_ret;exact⟨rfl,hS⟩
theorem PA7(D:Ev)(hD:D.length<=1000000)(k:ByteArray){p:Nat}(hp:plI ltB D k=p)(hb:plB ltB D k=false)(xb:Nat)(v1 v2 v3 v4:Value)(W w:World)(R:List HP)(hS:St W (xeB xb v1 v2 v3 v4::xrP v1 D::R) w):
  Calls Tryz.prog 50 #[.P xb,.string k] w fun e w'=>∃vb r1,e=.returned (.P vb)/\St W (xeB xb r1 v2 v3 v4::xrP r1 (D.take p++(k,(vb,vs0))::D.drop p)::dvP vb vs0::R) w':=by
 obtain⟨a,cap,rfl⟩:=hS.drop.rowVal;have hpl:p<=D.length:=by rw[<-hp];exact JH7 _ _ _
 have Hp:=jH hp;have Hb:=jH hb;clear hp hb;go_enter Tryz.func50,Tryz.ntmps50
 rcases St.rowCase hS.drop with ⟨rfl,h0,rfl,hc0⟩|⟨g,rfl,hcap,hcn⟩
 ·have hH:D=[]:=List.eq_nil_of_length_eq_zero h0;subst hH;obtain rfl:p=0:=Nat.le_zero.1 hpl;have hcel:∀{K K':List HP} {g c vb:Nat},Take K (row (.S g 1 c) 2 137 1 [.string k,.P vb]) K'->i9 K g 1 (.P vb):=fun{K K' g c vb} hu=>i8.elemM (enc:=rwC) (xs:=[(k,(vb,vs0))]) (i:=0) Bm7 hu Nat.zero_lt_one 1 _ rfl
  go_wp2_with(first|go_at_call 80;refine(EF7 Hp.out Hb.out xb _ v2 v3 v4 W _ _ hS).mono ?_;clear hS;rintro e w ⟨rfl,hS⟩|refine zl1 hS ?_|(with_reducible apply Bq7 (n:=0) hS);rfl;rfl;(focus(simp only[fD,fI,fJ,Act.eval,fE,fF,fG,fH,fK];try rfl));exact esS;exact rsS;rfl;rfl;rfl;rfl;rfl;decide;clear hS;intro bv w hS;refine frS ?_|(go_at_call 114;refine(gm4 W _ _ hS).mono ?_;clear hS;rintro e w ⟨vb,xB,rfl,hS⟩;replace hS:=bF4 (V:=vs0) hS;try simp only[Nat.zero_add]at hS)|refine zbs hS ?_;clear hS;intro bS w hS|(with_reducible apply Ae7 hS);rfl;rfl;rfl;rfl;exact esS;exact rsS;rfl;decide;exact j5;exact .inl ⟨rfl,rfl,rfl⟩;(focus(rfl));exact rfl;(focus(unfold maxLen;omega));(focus(omega));clear hS;intro v w hS;(have hv:=hS.rowVal;obtain⟨va,vc,rfl⟩:=hv);refine frS ?_|(with_reducible apply Ae7 hS);rfl;rfl;rfl;rfl;exact esS;exact rsS;rfl;decide;exact j5;exact Src.mk i8.whole;(focus(rfl));exact rfl;(focus(unfold maxLen;omega));(focus(omega));clear hS;intro v w hS;(have hv:=hS.rowVal;obtain⟨va,vc,rfl⟩:=hv);refine frS ?_|(refine zs1 hS ?_;clear hS;intro w hS);obtain⟨⟨ga,rfl⟩,hcp,hcm⟩:=St.rowAddr hS (by omega)|(with_reducible apply Vi7);rfl;rfl;rfl;rfl;intro w;exact ixR _ _ w;refine frS ?_|refine zl1 hS ?_ (hc:=by exact hcel (by exact j5)));go_ret;have hS1:St W (xrP (.S ga 1 vc) [(k,(vb,vs0))]::blk bS _ _::dvP vb vs0::blk xb _ _::_::R) _:=hS;have hS2:=hS1.s (xeB xb (.S ga 1 vc) v2 v3 v4::xrP (.S ga 1 vc) [(k,(vb,vs0))]::dvP vb vs0::R);exact⟨vb,.S ga 1 vc,rfl,hS2⟩
 ·have hcel:∀{K K':List HP} {g c vb:Nat},Take K (row (.S g (p+1+(D.length-p)) c) 2 137 (p+1+(D.length-p)) ([]++(D.take p).flatMap rwC++[.string k,.P vb]++(D.drop p).flatMap rwC)) K'->i9 K g (p*2+1) (.P vb):=by
   intro K K' g c vb hu;have e1:(D.take p++(k,(vb,vs0))::D.drop p).length=p+1+(D.length-p):=by have:=Bu7 D p p (k,(vb,vs0)) hpl;omega
   have e2:=Bi7 rwC D p p (k,(vb,vs0));have hg:(D.take p++(k,(vb,vs0))::D.drop p)[p]? = some (k,(vb,vs0)):=by rw[List.getElem?_append_right (by rw[jT];omega),jT,Nat.min_eq_left hpl,Nat.sub_self];rfl
   have hu2:Take K (row (.S g (D.take p++(k,(vb,vs0))::D.drop p).length c) 2 137 (D.take p++(k,(vb,vs0))::D.drop p).length ((D.take p++(k,(vb,vs0))::D.drop p).flatMap rwC)) K':=by rw[e1,e2];exact hu
   obtain⟨hp1,hp2⟩:=List.getElem?_eq_some_iff.1 hg;exact i8.elemM (enc:=rwC) Bm7 hu2 hp1 1 _ (by rw[hp2];rfl)
  go_wp2_with(first|go_at_call 80;refine(EF7 Hp.out Hb.out xb _ v2 v3 v4 W _ _ hS).mono ?_;clear hS;rintro e w ⟨rfl,hS⟩|refine zl1 hS ?_|(with_reducible apply Bq7 (n:=0) hS);rfl;rfl;(focus(simp only[fD,fI,fJ,Act.eval,fE,fF,fG,fH,fK];try rfl));exact esS;exact rsS;rfl;rfl;rfl;rfl;rfl;decide;clear hS;intro bv w hS;refine frS ?_|(go_at_call 114;refine(gm4 W _ _ hS).mono ?_;clear hS;rintro e w ⟨vb,xB,rfl,hS⟩;replace hS:=bF4 (V:=vs0) hS;try simp only[Nat.zero_add]at hS)|refine zbs hS ?_;clear hS;intro bS w hS|(with_reducible apply Ae7 hS);rfl;rfl;rfl;rfl;exact esS;exact rsS;rfl;decide;exact j5;exact Src.partM (by exact bu4) (F5 D (p));(focus(rw[Ab7 Bm7,jT,Nat.min_eq_left (by omega)]));exact KS7 _;(focus(unfold maxLen;omega));(focus(omega));clear hS;intro v w hS;(have hv:=hS.rowVal;obtain⟨va,vc,rfl⟩:=hv);refine frS ?_|(with_reducible apply Ae7 hS);rfl;rfl;rfl;rfl;exact esS;exact rsS;rfl;decide;exact j5;exact Src.mk i8.whole;(focus(rfl));exact rfl;(focus(unfold maxLen;omega));(focus(omega));clear hS;intro v w hS;(have hv:=hS.rowVal;obtain⟨va,vc,rfl⟩:=hv);refine frS ?_|(with_reducible apply Ae7 hS);rfl;rfl;rfl;rfl;exact esS;exact rsS;rfl;decide;exact j5;exact Src.behindM (by exact bu4) (fun h=>⟨by omega,by rw[List.drop_eq_nil_of_le (by omega)];rfl⟩) (fun j u h=>H9 Bm7 D (p) j u (by omega) h);(focus(rw[Ab7 Bm7,List.length_drop]));exact KS7 _;(focus(unfold maxLen;omega));(focus(omega));clear hS;intro v w hS;(have hv:=hS.rowVal;obtain⟨va,vc,rfl⟩:=hv);refine frS ?_|(refine zs1 hS ?_;clear hS;intro w hS);obtain⟨⟨ga,rfl⟩,hcp,hcm⟩:=St.rowAddr hS (by omega)|refine zl1 hS ?_ (hc:=by exact hcel (by exact j5)))
  all_goals go_ret
  all_goals have e1:(D.take p++(k,(vb,vs0))::D.drop p).length=p+1+(D.length-p):=by have:=Bu7 D p p (k,(vb,vs0)) hpl;omega
  all_goals refine⟨vb,rfl,.S ga (p+1+(D.length-p)) vc,?_⟩
  all_goals unfold xrP
  all_goals rw[e1,Bi7]
  all_goals have hS1:St W (row (.S ga (p+1+(D.length-p)) vc) 2 137 (p+1+(D.length-p)) ([]++(D.take p).flatMap rwC++rwC (k,(vb,vs0))++(D.drop p).flatMap rwC)::blk bS _ _::dvP vb vs0::blk xb _ _::_::R) _:=hS
  all_goals exact hS1.s _
def loA(D:Ev)(k:ByteArray):Ev:=D.take (plI ltB D k)
def hiA(D:Ev)(k:ByteArray):Ev:=D.drop (if plB ltB D k=true then plI ltB D k+1 else plI ltB D k)
def aa4(xb:Nat)(v2 v3 v4:Value)(D:Ev):HP:=fun f=>∃r1:Value,sats [xeB xb r1 v2 v3 v4,xrP r1 D,w8 D] f
def am4(v:Value)(xb:Nat)(v2 v3 v4:Value)(A:Ev)(k:ByteArray)(V:Vs)(B:Ev):HP:=fun f=>∃vb:Nat,v=.P vb/\(fun f=>∃r1:Value,sats [xeB xb r1 v2 v3 v4,xrP r1 (A++(k,(vb,V))::B),dvP vb V,w8 (A++B)] f) f
section
variable{W w:World}{R:List HP}{xb:Nat}{v2 v3 v4:Value}{D A B:Ev}{k:ByteArray}{V:Vs}{v:Value}
theorem cB4{x:ByteArray×(Nat×Vs)}(h:St W (w8 (A++x::B)::R) w):St W (dvP x.2.1 x.2.2::w8 (A++B)::R) w:=by
 have h1:St W (w8 (x::(A++B))::R) w:=h.imp fun _=>Fo7 (List.perm_middle.map _)
 exact St.split h1
theorem cC4{x:ByteArray×(Nat×Vs)}(h:St W (dvP x.2.1 x.2.2::w8 (A++B)::R) w):St W (w8 (A++x::B)::R) w:=by have h1:St W (w8 (x::(A++B))::R) w:=St.join h;exact h1.imp fun _=>Fo7 (List.perm_middle.symm.map _)
theorem cc4(h:St W (aa4 xb v2 v3 v4 D::R) w):∃r1,St W (xeB xb r1 v2 v3 v4::xrP r1 D::w8 D::R) w:=by obtain⟨r1,h⟩:=St.ex h;exact⟨r1,h.openS⟩
theorem bl4{r1:Value}(h:St W (xeB xb r1 v2 v3 v4::xrP r1 D::w8 D::R) w):St W (aa4 xb v2 v3 v4 D::R) w:=St.mkEx r1 (St.shutS [_,_,_] h)
theorem cd4(h:St W (am4 v xb v2 v3 v4 A k V B::R) w):∃vb r1 xB,v=.P vb/\St W (xvR vb xB V.ps V.L V.n (xeB xb r1 v2 v3 v4::xrP r1 (A++(k,(vb,V))::B)::w8 (A++B)::R)) w:=by obtain⟨vb,h⟩:=St.ex h;obtain⟨h1,h⟩:=St.and h;obtain⟨r1,h⟩:=St.ex h;have h2:St W (xeB xb r1 v2 v3 v4::xrP r1 (A++(k,(vb,V))::B)::dvP vb V::w8 (A++B)::R) w:=h.openS;obtain⟨xB,h3⟩:=de4 (h2.s (dvP vb V::xeB xb r1 v2 v3 v4::xrP r1 (A++(k,(vb,V))::B)::w8 (A++B)::R));exact⟨vb,r1,xB,h1,h3⟩
theorem RN7(vb:Nat)(V V':Vs):(A++(k,(vb,V))::B).flatMap rwC=(A++(k,(vb,V'))::B).flatMap rwC:=by rw[List.flatMap_append,List.flatMap_append,List.flatMap_cons,List.flatMap_cons];rfl
theorem Ub7(x y:ByteArray×(Nat×Vs)):(A++x::B).length=(A++y::B).length:=by rw[jA,jA];rfl
theorem cD4{vb xB:Nat}{r1:Value}(V':Vs)(h:St W (xvR vb xB V'.ps V'.L V'.n (xeB xb r1 v2 v3 v4::xrP r1 (A++(k,(vb,V))::B)::w8 (A++B)::R)) w):St W (am4 (.P vb) xb v2 v3 v4 A k V' B::R) w:=by
 have h1:=bF4 h;have h2:St W (xeB xb r1 v2 v3 v4::xrP r1 (A++(k,(vb,V'))::B)::dvP vb V'::w8 (A++B)::R) w:=by unfold xrP;rw[RN7 vb V' V,Ub7 (k,(vb,V')) (k,(vb,V))];exact h1.s _
 exact St.mkEx vb (St.mkAnd rfl (St.mkEx r1 (St.shutS [_,_,_,_] h2)))
theorem cp4(h:St W (am4 v xb v2 v3 v4 A k V B::R) w):∃vb,St W (aa4 xb v2 v3 v4 (A++(k,(vb,V))::B)::R) w:=by obtain⟨vb,r1,xB,h1,h2⟩:=cd4 h;have h3:=bF4 h2;have h4:=cC4 (x:=(k,(vb,V))) (h3.s (dvP vb V::w8 (A++B)::xeB xb r1 v2 v3 v4::xrP r1 (A++(k,(vb,V))::B)::R));exact⟨vb,bl4 (h4.s _)⟩
theorem Mk7(hA:Asc ltB D)(hb:plB ltB D k=true):∃(h:plI ltB D k<D.length) (vb:Nat) (V:Vs),D[plI ltB D k]=(k,(vb,V))/\vAt D k=V/\D=loA D k++(k,(vb,V))::hiA D k:=by
 obtain⟨h1,h2⟩:=Pv7 ltB k D hb;have hm:=jW h1;have hd:D=D.take (plI ltB D k)++D[plI ltB D k]::D.drop (plI ltB D k+1):=by rw[<-List.drop_eq_getElem_cons h1,List.take_append_drop]
 generalize hx:D[plI ltB D k]=x at h2 hm hd;obtain⟨k',vb,V⟩:=x;simp only at h2;subst h2;refine⟨h1,vb,V,hx,?_,?_⟩
 ·unfold vAt;rw[Br7 (AW7 Bp7 hA) hm];rfl
 ·unfold loA hiA;rw[hb,if_pos rfl];exact hd
theorem Ml7(hA:Asc ltB D)(hb:plB ltB D k=false):vAt D k=vs0:=by
 rw[Pw7 Bp7 hA]at hb;unfold vAt
 cases hg:m7 D k with
 | none=>rfl
 | some x=>rw[hg]at hb;cases hb
theorem bG4(hA:Asc ltB D)(hD:D.length<=1000000)(hV:vAt D k=V)(h1:loA D k=A)(h2:hiA D k=B)(hS:St W (aa4 xb v2 v3 v4 D::R) w):
  Calls Tryz.prog 50 #[.P xb,.string k] w fun e w'=>∃v,e=.returned v/\St W (am4 v xb v2 v3 v4 A k V B::R) w':=by
 obtain⟨r1,hS⟩:=cc4 hS
 cases hb:plB ltB D k with
 | true=>
  obtain⟨hp,vb,V',hx,hv,hd⟩:=Mk7 hA hb;rw[hV]at hv;subst hv;rw[h1,h2]at hd;refine(Nn7 D k rfl hb hp hx xb r1 v2 v3 v4 W w _ hS).mono ?_;rintro e w' ⟨rfl,hS⟩;rw[hd]at hS;have h3:=cB4 (hS.s (w8 (A++(k,(vb,V))::B)::xeB xb r1 v2 v3 v4::xrP r1 (A++(k,(vb,V))::B)::R));refine⟨_,rfl,St.mkEx vb (St.mkAnd rfl (St.mkEx r1 (St.shutS [_,_,_,_] ?_)))⟩;have h4:St W (dvP vb V::w8 (A++B)::xeB xb r1 v2 v3 v4::xrP r1 (A++(k,(vb,V))::B)::R) w':=h3;have h5:=h4.s (xeB xb r1 v2 v3 v4::xrP r1 (A++(k,(vb,V))::B)::dvP vb V::w8 (A++B)::R);exact h5
 | false=>
  have hv:=Ml7 hA hb;rw[hV]at hv;subst hv;have hd:A++B=D:=by rw[<-h1,<-h2];unfold loA hiA;rw[hb,if_neg (by simp),List.take_append_drop]
  have ha:D.take (plI ltB D k)=A:=h1;have hc:D.drop (plI ltB D k)=B:=by rw[<-h2];unfold hiA;rw[hb,if_neg (by simp)]
  refine(PA7 D hD k rfl hb xb r1 v2 v3 v4 W w _ hS).mono ?_;rintro e w' ⟨vb,r2,rfl,hS⟩;rw[ha,hc,<-hd]at hS;refine⟨_,rfl,St.mkEx vb (St.mkAnd rfl (St.mkEx r2 (St.shutS [_,_,_,_] ?_)))⟩;have h5:=hS.s (xeB xb r2 v2 v3 v4::xrP r2 (A++(k,(vb,vs0))::B)::dvP vb vs0::w8 (A++B)::R);exact h5
theorem fv4{i:Nat}(hok:VOk V.ps V.n i)(hi:100*i<=1000000){who:ByteArray}{x0 x1 x2 x3 r:Int}{q:Ps}(hr:Q5 V.ps who ⟨x0,x1,x2,x3⟩=r)(hq:M5 V.ps who ⟨x0,x1,x2,x3⟩=q)(hS:St W (am4 v xb v2 v3 v4 A k V B::R) w):
  Calls Tryz.prog 51 #[v,.string who,.agg #[.I x0,.I x1,.I x2,.I x3]] w fun e w'=>e=.returned (.I r)/\St W (am4 v xb v2 v3 v4 A k ⟨q,V.L,V.n⟩ B::R) w':=by
 obtain⟨vb,r1,xB,rfl,hT⟩:=cd4 hS;refine(hp4 vb _ V.n V.ps _ W w _ hok.w hi who ⟨x0,x1,x2,x3⟩ hT).mono ?_;rw[hr,hq];rintro e w' ⟨rfl,hS⟩;exact⟨rfl,cD4 ⟨q,V.L,V.n⟩ hS⟩
theorem eS4{i:Nat}(hok:VOk V.ps V.n i)(hi:100*i<=1000000){who:ByteArray}{x0 x1 x2 x3 r:Int}{q:Ps}(hr:A5 V.ps who ⟨x0,x1,x2,x3⟩=r)(hq:A8 V.ps who ⟨x0,x1,x2,x3⟩=q)(hS:St W (am4 v xb v2 v3 v4 A k V B::R) w):
  Calls Tryz.prog 120 #[v,.string who,.agg #[.I x0,.I x1,.I x2,.I x3]] w fun e w'=>e=.returned (.I r)/\St W (am4 v xb v2 v3 v4 A k ⟨q,V.L,V.n⟩ B::R) w':=by
 obtain⟨vb,r1,xB,rfl,hT⟩:=cd4 hS;refine(eG4 vb _ V.n V.ps _ W w _ hok.w hi who ⟨x0,x1,x2,x3⟩ hT).mono ?_;rw[hr,hq];rintro e w' ⟨rfl,hS⟩;exact⟨rfl,cD4 ⟨q,V.L,V.n⟩ hS⟩
theorem gG4{i:Nat}(hok:VOk V.ps V.n i)(hi:100*i+150<=1000000)(hmay:∀x∈V.L,MayP x){oi ot oc op:Int}{ou:ByteArray}{oy:Bool}{r1 r2:Int}{V2:Vs}(h1:(E6 V ⟨oi,ou,oy,ot,oc,op⟩).1=r1)(h2:(E6 V ⟨oi,ou,oy,ot,oc,op⟩).2.1=r2)(h3:(E6 V ⟨oi,ou,oy,ot,oc,op⟩).2.2=V2)(hS:St W (am4 v xb v2 v3 v4 A k V B::R) w):
  Calls Tryz.prog 121 #[v,.agg #[.I oi,.string ou,.bool oy,.I ot,.I oc,.I op]] w fun e w'=>e=.returned (.tuple #[.I r1,.I r2])/\St W (am4 v xb v2 v3 v4 A k V2 B::R) w':=by
 obtain⟨vb,s1,xB,rfl,hT⟩:=cd4 hS;refine(hq4 vb xB V _ ⟨oi,ou,oy,ot,oc,op⟩ hok.ok hok.w hi hmay hok.n0 W w _ hT).mono ?_;subst h1 h2 h3;rintro e w' ⟨rfl,hS⟩;exact⟨rfl,cD4 _ hS⟩
theorem canV_n(V:Vs)(who:ByteArray)(id:Int):(F6 V who id).2.n=V.n:=by unfold F6;split <;> rfl
theorem gH4{i:Nat}(hok:VOk V.ps V.n i)(hi:100*i+150<=1000000)(hmay:∀x∈V.L,MayP x)(hl32:V.L.length<=32){who:ByteArray}{id r:Int}{V2:Vs}(h1:(F6 V who id).1=r)(h2:(F6 V who id).2=V2)(hS:St W (am4 v xb v2 v3 v4 A k V B::R) w):
  Calls Tryz.prog 122 #[v,.string who,.I id] w fun e w'=>e=.returned (.I r)/\St W (am4 v xb v2 v3 v4 A k V2 B::R) w':=by
 obtain⟨vb,s1,xB,rfl,hT⟩:=cd4 hS;have hn:=canV_n V who id;obtain⟨p,L,n⟩:=V;refine(fc4 vb xB p L n _ who id W w _ hok.ok hok.w hi hmay hl32 hT).mono ?_;subst h1 h2;rintro e w' ⟨rfl,hS⟩;refine⟨rfl,cD4 (V:=⟨p,L,n⟩) (xB:=xB) (r1:=s1) _ ?_⟩;rw[hn];exact hS
theorem gI4{i:Nat}(hok:VOk V.ps V.n i){who:ByteArray}{x0 x1 x2 x3:Int}(hx:m5 V.ps who=⟨x0,x1,x2,x3⟩)(hS:St W (am4 v xb v2 v3 v4 A k V B::R) w):
  Calls Tryz.prog 118 #[v,.string who] w fun e w'=>e=.returned (.agg #[.I x0,.I x1,.I x2,.I x3])/\St W (am4 v xb v2 v3 v4 A k V B::R) w':=by
 obtain⟨vb,s1,xB,rfl,hT⟩:=cd4 hS;refine(bV4 hok.w hx hT).mono ?_;rintro e w' ⟨rfl,hS⟩;exact⟨rfl,cD4 V hS⟩
end
theorem eT4(xb xB:Nat)(V:Vs){r:Bool}(hr:C6 V=r)(W w:World)(R:List HP)(hS:St W (xvR xb xB V.ps V.L V.n R) w):
  Calls Tryz.prog 123 #[.P xb] w fun e w'=>e=.returned (.bool r)/\St W (xvR xb xB V.ps V.L V.n R) w':=by
 obtain⟨p,L,n⟩:=V;obtain⟨xv,hS1⟩:=bc4 hS;obtain⟨la,lc,last,hlast,hS2⟩:=bD4 (hS1.s (xkP xB L n::blk xb _ _::hdR _ (hdL p)::R));clear hS hS1;obtain⟨ha,hc,rfl⟩:=hS2.drop.drop.drop.rowVal;have hS:=hS2;clear hS2;have hlen:=Bl7 p;unfold C6 at hr;simp only at hr;rw[<-hlen]at hr;clear hlen;have hback:∀w',St W (blk xB [.slice la L.length lc,.I last] 244::j8 (.slice la L.length lc) L::blk xb [.slice ha (hdL p).length hc,.P xB,.I n] 246::hdR (.slice ha (hdL p).length hc) (hdL p)::R) w'->St W (xvR xb xB p L n R) w':=by intro w' hS;have hS1:=aT4 hlast (hS.s (blk xB _ _::j8 _ L::blk xb _ _::hdR _ (hdL p)::R));exact au4 (hS1.s (blk xb _ _::hdR _ (hdL p)::xkP xB L n::R))
 have Hback:=jH hback;clear hback;generalize hdL p=H at hS hr Hback;go_enter Tryz.func123,Tryz.ntmps123;by_cases hH:H=[]
 ·subst hH;by_cases hL:L=[]
  ·subst hL;by_cases h3:n=1
   ·have d3:(n==1)=true:=by simpa using h3
    have Hr:=jH (show r=true by rw[<-hr];simp[h3]);clear hr h3;go_wp2_with(first|go_big_skip|refine zl1 hS ?_);go_ret;rw[Hr.out];exact⟨rfl,Hback.out _ hS⟩
   ·have d3:(n==1)=false:=by simpa using h3
    have Hr:=jH (show r=false by rw[<-hr];simp[h3]);clear hr h3;go_wp2_with(first|go_big_skip|refine zl1 hS ?_);go_ret;rw[Hr.out];exact⟨rfl,Hback.out _ hS⟩
  ·have Hr:=jH (show r=false by rw[<-hr];simp[hL]);clear hr;go_wp2_with(first|go_big_skip|refine zl1 hS ?_);go_ret;rw[Hr.out];exact⟨rfl,Hback.out _ hS⟩
 ·have Hr:=jH (show r=false by rw[<-hr];simp[hH]);clear hr;go_wp2_with(first|go_big_skip|refine zl1 hS ?_);go_ret;rw[Hr.out];exact⟨rfl,Hback.out _ hS⟩
def clF(D:Ev):Ev:=D.filter fun x=>!C6 x.2.2
theorem RO7(D:Ev)(x:ByteArray×(Nat×Vs)):clF (D++[x])=clF D++(if C6 x.2.2=true then[]else[x]):=by
 unfold clF;rw[List.filter_append]
 congr 1
 by_cases h:C6 x.2.2=true
 ·rw[if_pos h,List.filter_cons,if_neg (by simpa using h)];rfl
 ·rw[if_neg h,List.filter_cons,if_pos (by simpa using h)];rfl
theorem RP7(v:Value)(F:Ev)(x:ByteArray×(Nat×Vs)):xrP v (F++[x])=row v 2 137 (F.length+1) (F.flatMap rwC++rwC x):=by unfold xrP;rw[jA,List.flatMap_append];simp
theorem df4:∀(D:Ev) {W:World} {R:List HP} {w:World},St W (w8 D::R) w->St W (w8 (clF D)::R) w
 | [],_,_,_,h=>h
 | x::D,W,R,w,h=>by
  have h1:St W (dvP x.2.1 x.2.2::w8 D::R) w:=St.split h;by_cases hn:C6 x.2.2=true
  ·have e:clF (x::D)=clF D:=by unfold clF;rw[List.filter_cons,if_neg (by simpa using hn)]
   rw[e];exact df4 D h1.drop
  ·have e:clF (x::D)=x::clF D:=by unfold clF;rw[List.filter_cons,if_pos (by simpa using hn)]
   rw[e];exact St.join (df4 D h1.swap).swap
def ClR(W:World)(R:List HP)(D:Ev)(vm vi:Value)(w:World):Prop:=∃i:Nat,vi=.I i/\i<=D.length/\(clF (D.take i)).length<=i/\St W (xrP vm (clF (D.take i))::R) w
theorem dX4(D:Ev)(hD:D.length<=1000000)(xb:Nat)(v2 v3 v4:Value)(W w:World)(R:List HP)(hS:St W (aa4 xb v2 v3 v4 D::R) w):
  Calls Tryz.prog 56 #[.P xb] w fun e w'=>e=.returned (.tuple #[])/\St W (aa4 xb v2 v3 v4 (clF D)::R) w':=by
 obtain⟨r1,hT⟩:=cc4 hS;clear hS;obtain⟨a,cap,rfl⟩:=hT.drop.rowVal;have hS:=hT;clear hT;go_enter Tryz.func56,Tryz.ntmps56;go_wp2_with(first|go_big_skip|refine zl1 hS ?_);have hS:=hS.rowNil (k:=2) (T:=137)
 go_loopw [2,3] (fun vm vi wr=>ClR W (xeB xb (.slice a D.length cap) v2 v3 v4::xrP (.slice a D.length cap) D::w8 D::R) D vm vi wr) (fun _ vi _=>D.length-(intOf vi).toNat)
 case atStart=>exact⟨0,rfl,Nat.zero_le _,Nat.le_refl _,hS⟩
 case round=>
  clear hS;obtain⟨i,rfl,hil,hfl,hS⟩:=hrel;obtain⟨ma,mc,rfl⟩:=St.rowVal hS;by_cases hin:i=D.length
  ·have di:decide (i<D.length)=false:=by simp;omega
   have hF2:clF D=clF (D.take i):=by rw[hin,List.take_length]
   clear hin hil;generalize hF:clF (D.take i)=F at *;have HF:=jH hF2;clear hF hF2;go_wp2_with(first|go_big_skip|refine zl1 hS ?_|refine zs1 hS ?_;clear hS;intro w hS);go_end0;have h1:=df4 D (hS.s (w8 D::xeB xb (.slice ma F.length mc) v2 v3 v4::xrP (.slice ma F.length mc) F::R));rw[HF.out]at h1;rw[HF.out];exact⟨rfl,bl4 (h1.s (xeB xb (.slice ma F.length mc) v2 v3 v4::xrP (.slice ma F.length mc) F::w8 F::R))⟩
  ·have hi1:i<D.length:=by omega
   obtain⟨⟨g,rfl⟩,_,_⟩:=St.rowAddr hS.drop.drop (by omega);have di:decide (i<D.length)=true:=by simpa using hi1
   have hsn:=RO7 (D.take i) D[i];rw[<-List.take_succ_eq_append_getElem hi1]at hsn;have Hsn:=jH hsn;clear hsn;have hk:∀{K K':List HP},Take K (xrP (.S g D.length cap) D) K'->i9 K g (i*2) (.string D[i].1):=fun hu=>i8.elemM (enc:=rwC) Bm7 hu hi1 0 _ rfl
   have hv:∀{K K':List HP},Take K (xrP (.S g D.length cap) D) K'->i9 K g (i*2+1) (.pointer (some ⟨D[i].2.1,0,none⟩)):=fun hu=>i8.elemM (enc:=rwC) Bm7 hu hi1 1 _ rfl
   have hx:∀{K K':List HP},Take K (xrP (.S g D.length cap) D) K'->i8 K g (i*2) [.string D[i].1,.pointer (some ⟨D[i].2.1,0,none⟩)]:=fun hu=>i8.elemM (enc:=rwC) Bm7 hu hi1
   have hd:D=D.take i++D[i]::D.drop (i+1):=by rw[<-List.drop_eq_getElem_cons hi1,List.take_append_drop]
   have h1:=hS.s (w8 D::xrP (.slice ma (clF (D.take i)).length mc) (clF (D.take i))::xeB xb (.S g D.length cap) v2 v3 v4::xrP (.S g D.length cap) D::R);have h2:St W (w8 (D.take i++D[i]::D.drop (i+1))::xrP (.slice ma (clF (D.take i)).length mc) (clF (D.take i))::xeB xb (.S g D.length cap) v2 v3 v4::xrP (.S g D.length cap) D::R) wr:=by rw[<-hd];exact h1
   clear hS h1;have hback:∀w' K,St W (dvP D[i].2.1 D[i].2.2::w8 (D.take i++D.drop (i+1))::K) w'->St W (w8 D::K) w':=by intro w' K h;have h3:=cC4 (x:=D[i]) h;rw[<-hd]at h3;exact h3
   have Hback:=jH hback;clear hback hd;have h3:=cB4 h2;clear h2;generalize D[i]=x at *;obtain⟨xk,vb,V⟩:=x;simp only at hk hv hx h3;obtain⟨xB,h4⟩:=de4 h3;clear h3;generalize clF (D.take i)=F at *;have hS:St W (xvP vb (.P xB) V.n V.ps::xkP xB V.L V.n::w8 (D.take i++D.drop (i+1))::xrP (.slice ma F.length mc) F::xeB xb (.S g D.length cap) v2 v3 v4::xrP (.S g D.length cap) D::R) wr:=h4;clear h4;by_cases hn:C6 V=true
   ·have Hn:=jH hn;clear hn;go_wp2_with(first|go_big_skip|refine zl1 hS ?_|refine zl1 hS ?_ (hc:=by exact hv (by exact j5))|go_at_call 123;refine(eT4 vb xB V Hn.out W _ _ (hS.s (xvP vb _ V.n V.ps::xkP xB V.L V.n::xrP _ F::xeB xb _ v2 v3 v4::xrP _ D::w8 _::R))).mono ?_;clear hS;rintro e w ⟨rfl,hS⟩);go_roundw
    case rel=>
     refine⟨i+1,rfl,hi1,?_,?_⟩
     ·rw[Hsn.out,if_pos Hn.out,List.append_nil];omega
     ·rw[Hsn.out,if_pos Hn.out,List.append_nil];have h1:=bF4 (V:=V) hS;have h2:=Hback.out _ _ (h1.s (dvP vb V::w8 (D.take i++D.drop (i+1))::xrP (.slice ma F.length mc) F::xeB xb (.S g D.length cap) v2 v3 v4::xrP (.S g D.length cap) D::R));exact h2.s _
    case measure=>simp[intOf];omega
   ·have Hn:=jH (show C6 V=false by simpa using hn);clear hn;go_wp2_with(first|go_big_skip|refine zl1 hS ?_|refine zl1 hS ?_ (hc:=by exact hv (by exact j5))|go_at_call 123;refine(eT4 vb xB V Hn.out W _ _ (hS.s (xvP vb _ V.n V.ps::xkP xB V.L V.n::xrP _ F::xeB xb _ v2 v3 v4::xrP _ D::w8 _::R))).mono ?_;clear hS;rintro e w ⟨rfl,hS⟩|refine zlN hS ?_ (hc:=by exact hx (by exact j5))|refine zbs hS ?_;clear hS;intro bS w hS|(with_reducible apply Ae7 hS);rfl;rfl;rfl;rfl;exact esS;exact rsS;rfl;decide;exact j5;exact(Src.mk i8.whole);rfl;exact rfl;(focus(unfold maxLen;omega));(focus(omega));clear hS;intro v w hS;refine frS ?_);go_roundw
    case rel=>
     refine⟨i+1,rfl,hi1,?_,?_⟩
     ·rw[Hsn.out,if_neg (by rw[Hn.out];exact Bool.noConfusion),jA,List.length_singleton];omega
     ·rw[Hsn.out,if_neg (by rw[Hn.out];exact Bool.noConfusion),RP7];have h0:St W (row v 2 137 (F.length+1) (F.flatMap rwC++rwC (xk,(vb,V)))::_) w:=hS;have h1:=bF4 (V:=V) (h0.s (xvP vb (.P xB) V.n V.ps::xkP xB V.L V.n::w8 (D.take i++D.drop (i+1))::row v 2 137 (F.length+1) (F.flatMap rwC++rwC (xk,(vb,V)))::xeB xb (.S g D.length cap) v2 v3 v4::xrP (.S g D.length cap) D::R));have h2:=Hback.out _ _ h1;exact h2.s _
    case measure=>simp[intOf];omega
end Go.Proofs.YtlmhakmoioogaaaGreat
end
