/-
  The document's economy.
-/
import Derived.Test.YtienbkdjkjbelaaGreatJuTM5
import Derived.Test.YtienbkdjkjbelaaGreatJuTM17
import Derived.Test.YtienbkdjkjbelaaGreatJuTM35
set_option maxHeartbeats 16000000
set_option maxRecDepth 100000
set_option linter.unusedSimpArgs false
set_option linter.unusedVariables false
section
namespace Go.Proofs.YtienbkdjkjbelaaGreat
open Go.RowKit Go.Sl
def SnR{ν:Type}(W:World)(L:List HP)(l:List ((Int×Int)×ν))(k:Int×Int)(v:Value)(w:World):Prop:=
 ∃i:Nat,v=.I i/\i<=l.length/\plI ltW l k=i+plI ltW (l.drop i) k/\St W L w
abbrev tB35a:List Nat:=[0,0,2,6,14,0,62,127,0,256,1023,2047]
theorem fL4(l:List ((Int×Int)×Tns))(hk:TsK l)(hl:l.length<=1000000)(t:Tns)(xb:Nat)(v1 v2 v3 v4:Value)(W w:World)(R:List HP)(hS:St W (xeB xb v1 v2 v3 v4::xtP v3 l::R) w):
  Calls Tryz.prog 104 #[.P xb,eTn t] w fun e w'=>e=.returned (.tuple #[])/\∃v,St W (xeB xb v1 v2 v v4::xtP v (l.take (plI ltW l (t.client,t.seq))++((t.client,t.seq),t)::l.drop (plI ltW l (t.client,t.seq)))::R) w':=by
 obtain⟨a,cap,rfl⟩:=hS.drop.rowVal;obtain⟨cl,sq,ak,aw,tk,tw,it,ct⟩:=t;have h63:l.length<=9223372036854775807:=by omega
 have Hk:=jH hk;clear hk;go_enter Tryz.func104,Tryz.ntmps104;go_wp2_with(first|refine zbx hS ?_;clear hS;intro bA w hS)
 go_loopw [4] (fun v wr=>SnR W (blk bA [.I cl,.I sq,.string ak,.string aw,.string tk,.string tw,.I it,.I ct] 97::xeB xb v1 v2 (.slice a l.length cap) v4::xtP (.slice a l.length cap) l::R) l (cl,sq) v wr) (fun v _=>l.length-(intOf v).toNat)
 case atStart=>exact⟨0,rfl,Nat.zero_le _,by simp,hS⟩
 case round=>
  clear hS;obtain⟨i,rfl,hil,e1,hS⟩:=hrel;by_cases hin:i=l.length
  ·have hdr:l.drop i=[]:=by rw[hin];exact List.drop_length
   rw[hdr]at e1;have E1:=jH (show plI ltW l (cl,sq)=i from e1);have di:decide (i<l.length)=false:=by simp;omega
   have hi0:l=[]->i=0:=fun h=>by rw[h]at hil;simpa using hil
   clear e1 hdr hin;go_wp2_with fail;refine Aa7 (by kernel_rfl) (by kernel_rfl) hS ?_
   repeat(first|go_big_quiet_skip|refine zq1 ?_|refine zqn ?_|refine qR ?_)
   clear hS;intro w hS
   rcases St.rowCase hS.drop.drop with ⟨rfl,h0,rfl,hc0⟩|⟨g,rfl,hcap,hcn⟩
   ·have hH:l=[]:=List.eq_nil_of_length_eq_zero h0;obtain rfl:=hi0 hH;clear hi0;subst hH;go_wp2_with fail;refine rf2 tB35a (fun i=>i==0||i==7||i==9||i==10) [⟨some 0,some 7,fun nd=>row (nd 0) 8 97 0 []⟩,⟨some 7,some 10,fun nd=>row (nd 7) 8 97 (0+0) ([]++([]:List Value))⟩,⟨some 9,none,fun nd=>L8 (nd 9) 1 1 [.I cl,.I sq,.string ak,.string aw,.string tk,.string tw,.I it,.I ct] 97⟩,⟨some 10,none,fun nd=>row (nd 10) 8 97 (0+0+1) ([]++([]:List Value)++[.I cl,.I sq,.string ak,.string aw,.string tk,.string tw,.I it,.I ct])⟩] [none,none,none] hS ?_;intro nd;apply Bn7;rfl;rfl;rfl;(focus(simp only[fD,fI,fJ,Act.eval,fE,fF,fG,fH,fK];try rfl));(exact esS);(exact rsS);rfl;rfl;rfl;rfl;rfl;decide;(intro _;rfl);rfl;(intro _;rfl);(refine frS ?_);refine cR ?_;refine zcn ?_;refine cR ?_;refine zc1 ?_
    iterate 2 (refine cR ?_)
    (apply Ai7;rfl;rfl;rfl;(focus((conv=>lhs;whnf);try rfl));(focus((conv=>lhs;whnf);try rfl));exact esS;exact rsS;rfl;decide;rfl;intro F w hS;exact .inl ⟨rfl,rfl,rfl⟩;(focus(rfl));(focus(exact rfl));(focus(unfold maxLen;omega));(focus(omega));intro _;rfl;intro _;rfl;refine frS ?_);refine zcN ?_;apply aC4;rfl;rfl;rfl;(focus(simp only[fD,fI,fJ,Act.eval,fE,fF,fG,fH,fK];try rfl));(exact esS);(exact rsS);rfl;rfl;rfl;rfl;(intro _;rfl);rfl;(intro _;rfl);(refine frS ?_);apply Ai7;rfl;rfl;rfl;(focus((conv=>lhs;whnf);try rfl));(focus((conv=>lhs;whnf);try rfl));(exact esS);(exact rsS);rfl;decide;rfl;(intro F w hS;exact AC7 hS (by exact A6));(focus(try rfl));rfl;(focus(unfold maxLen;omega));(focus(omega));(intro _;rfl);(intro _;rfl);(refine frS ?_);refine cR ?_;refine Ad7 ?_;clear hS;intro w hS;have hS2:St W [L8 (nd 9) _ _ _ _,row (nd 10) 8 _ _ _,blk _ _ _,xeB _ _ _ _ _,row _ _ _ _ _,sats _] w:=hS;clear hS;have hS:=hS2.unpack [_,_,_,_,_];clear hS2;simp only[jK,jN]at hS;generalize nd 10=v9 at *;replace hS:=hS.drop;obtain⟨va,vc,rfl⟩:=hS.rowVal;go_wp2_with(first|refine zl1 hS ?_|(with_reducible apply Ae7 hS);rfl;rfl;rfl;rfl;exact esS;exact rsS;rfl;decide;exact i7;exact .inl ⟨rfl,rfl,rfl⟩;(focus(rfl));exact rfl;(focus(unfold maxLen;omega));(focus(omega));clear hS;intro v w hS;(have hv:=hS.rowVal;obtain⟨va,vc,rfl⟩:=hv);refine frS ?_|refine zs1 hS ?_;clear hS;intro w hS);go_end0;have hS1:St W (xtP (.slice va 1 vc) [((cl,sq),⟨cl,sq,ak,aw,tk,tw,it,ct⟩)]::_) w:=hS;have hS2:=hS1.s (xeB xb v1 v2 _ v4::xtP (.slice va 1 vc) [((cl,sq),⟨cl,sq,ak,aw,tk,tw,it,ct⟩)]::R);exact⟨rfl,.slice va 1 vc,hS2⟩
   ·clear hi0;have Hpp:=jH (show plI ltW l (cl,sq)=i from E1.out);go_wp2_with fail;refine rf2 tB35a (fun i=>i==0||i==7||i==9||i==10) [⟨some 0,some 7,fun nd=>row (nd 0) 8 97 0 []⟩,⟨some 7,some 10,fun nd=>row (nd 7) 8 97 (0+i) ([]++(l.take i).flatMap tnC)⟩,⟨some 9,none,fun nd=>L8 (nd 9) 1 1 [.I cl,.I sq,.string ak,.string aw,.string tk,.string tw,.I it,.I ct] 97⟩,⟨some 10,none,fun nd=>row (nd 10) 8 97 (0+i+1) ([]++(l.take i).flatMap tnC++[.I cl,.I sq,.string ak,.string aw,.string tk,.string tw,.I it,.I ct])⟩] [none,none,none] hS ?_;intro nd;apply Bn7;rfl;rfl;rfl;(focus(simp only[fD,fI,fJ,Act.eval,fE,fF,fG,fH,fK];try rfl));(exact esS);(exact rsS);rfl;rfl;rfl;rfl;rfl;decide;(intro _;rfl);rfl;(intro _;rfl);(refine frS ?_);refine cR ?_;refine zcn ?_;refine cR ?_;refine zc1 ?_
    iterate 2 (refine cR ?_)
    (apply Ai7;rfl;rfl;rfl;(focus((conv=>lhs;whnf);try rfl));(focus((conv=>lhs;whnf);try rfl));exact esS;exact rsS;rfl;decide;rfl;intro F w hS;exact(Src.partM (by exact A6) (C5 l (i))).at hS;(focus(rw[Ab7 AT7,jT,Nat.min_eq_left (by omega)]));(focus(exact CX7 _));(focus(unfold maxLen;omega));(focus(omega));intro _;rfl;intro _;rfl;refine frS ?_);refine zcN ?_;apply aC4;rfl;rfl;rfl;(focus(simp only[fD,fI,fJ,Act.eval,fE,fF,fG,fH,fK];try rfl));(exact esS);(exact rsS);rfl;rfl;rfl;rfl;(intro _;rfl);rfl;(intro _;rfl);(refine frS ?_);apply Ai7;rfl;rfl;rfl;(focus((conv=>lhs;whnf);try rfl));(focus((conv=>lhs;whnf);try rfl));(exact esS);(exact rsS);rfl;decide;rfl;(intro F w hS;exact AC7 hS (by exact A6));(focus(try rfl));rfl;(focus(unfold maxLen;omega));(focus(omega));(intro _;rfl);(intro _;rfl);(refine frS ?_);refine cR ?_;refine Ad7 ?_;clear hS;intro w hS;have hS2:St W [L8 (nd 9) _ _ _ _,row (nd 10) 8 _ _ _,blk _ _ _,xeB _ _ _ _ _,row _ _ _ _ _,sats _] w:=hS;clear hS;have hS:=hS2.unpack [_,_,_,_,_];clear hS2;simp only[jK,jN]at hS;generalize nd 10=v9 at *;replace hS:=hS.drop;obtain⟨va,vc,rfl⟩:=hS.rowVal;go_wp2_with(first|refine zl1 hS ?_|(with_reducible apply Ae7 hS);rfl;rfl;rfl;rfl;exact esS;exact rsS;rfl;decide;exact i7;exact Src.behindM (by exact aY4) (fun h=>⟨by omega,by rw[List.drop_eq_nil_of_le (by omega)];rfl⟩) (fun j u h=>D9 AT7 l (i) j u (by omega) h);(focus(rw[Ab7 AT7,List.length_drop]));exact CX7 _;(focus(unfold maxLen;omega));(focus(omega));clear hS;intro v w hS;(have hv:=hS.rowVal;obtain⟨va,vc,rfl⟩:=hv);refine frS ?_|refine zs1 hS ?_;clear hS;intro w hS)
    all_goals go_end0
    all_goals refine⟨rfl,.slice va (0+i+1+(l.length-i)) vc,?_⟩
    all_goals rw[Hpp.out]
    all_goals unfold xtP
    all_goals rw[AX7 l (i) (i) _ (by omega),AP7]
    all_goals have hS1:St W (row (.slice va (0+i+1+(l.length-i)) vc) 8 97 (0+i+1+(l.length-i)) ([]++(l.take (i)).flatMap tnC++tnC ((cl,sq),⟨cl,sq,ak,aw,tk,tw,it,ct⟩)++(l.drop (i)).flatMap tnC)::_) w:=hS
    all_goals exact hS1.s _
  ·have hi1:i<l.length:=by omega
   obtain⟨⟨g,rfl⟩,_,_⟩:=St.rowAddr hS.drop.drop (by omega);have hca:∀{K K':List HP},Take K (xtP (.S g l.length cap) l) K'->i6 K g (i*8) (.I l[i].2.client):=fun hu=>d8.elemM (enc:=tnC) AT7 hu hi1 0 _ rfl
   have hcb:∀{K K':List HP},Take K (xtP (.S g l.length cap) l) K'->i6 K g (i*8+1) (.I l[i].2.seq):=fun hu=>d8.elemM (enc:=tnC) AT7 hu hi1 1 _ rfl
   have hdr:l.drop i=l[i]::l.drop (i+1):=List.drop_eq_getElem_cons hi1;have hkk:=Hk.out _ (jW hi1);rw[hdr,plI,hkk]at e1;generalize l[i]=x at hca hcb e1;obtain⟨xk,⟨xa,xc,x2,x3,x4,x5,x6,x7⟩⟩:=x;simp only at hca hcb e1;clear hdr hkk;have di:decide (i<l.length)=true:=by simpa using hi1
   cases hlt:ltW (xa,xc) (cl,sq)with
   | true=>
    rw[hlt,if_pos rfl]at e1;have Hlt:=jH hlt;have E1:=jH e1;clear hlt e1;go_wp2_with fail;refine Aa7 (by kernel_rfl) (by kernel_rfl) hS ?_
    repeat(first|refine zq1 ?_|apply Ar7;rfl;rfl;rfl;decide +kernel;exact hca (by exact i7);refine frS ?_|apply Ar7;rfl;rfl;rfl;decide +kernel;exact hcb (by exact i7);refine frS ?_|refine zqn ?_|apply At7;rfl;intro w;apply Ah7;rfl;decide +kernel;(focus(simp only[fD,fI,fJ,Act.eval,fE,fF,fG,fH,fK];try rfl));intro w hS;exact DJ7 Hlt.out W w _ hS;refine frS ?_|refine qR ?_)
    clear hS;intro w hS;go_wp2_with(fail);go_roundw
    case rel=>exact⟨i+1,rfl,hi1,by rw[E1.out];omega,hS⟩
    case measure=>simp[intOf];omega
   | false=>
    rw[hlt,if_neg (by simp)]at e1;have Hlt:=jH hlt;have E1:=jH (show plI ltW l (cl,sq)=i from e1);clear hlt e1;go_wp2_with fail;refine Aa7 (by kernel_rfl) (by kernel_rfl) hS ?_
    repeat(first|refine zq1 ?_|apply Ar7;rfl;rfl;rfl;decide +kernel;exact hca (by exact i7);refine frS ?_|apply Ar7;rfl;rfl;rfl;decide +kernel;exact hcb (by exact i7);refine frS ?_|refine zqn ?_|apply At7;rfl;intro w;apply Ah7;rfl;decide +kernel;(focus(simp only[fD,fI,fJ,Act.eval,fE,fF,fG,fH,fK];try rfl));intro w hS;exact DJ7 Hlt.out W w _ hS;refine frS ?_|refine qR ?_)
    clear hS;intro w hS;have Hpp:=jH (show plI ltW l (cl,sq)=i from E1.out);go_wp2_with fail;refine rf2 tB35a (fun i=>i==0||i==7||i==9||i==10) [⟨some 0,some 7,fun nd=>row (nd 0) 8 97 0 []⟩,⟨some 7,some 10,fun nd=>row (nd 7) 8 97 (0+i) ([]++(l.take i).flatMap tnC)⟩,⟨some 9,none,fun nd=>L8 (nd 9) 1 1 [.I cl,.I sq,.string ak,.string aw,.string tk,.string tw,.I it,.I ct] 97⟩,⟨some 10,none,fun nd=>row (nd 10) 8 97 (0+i+1) ([]++(l.take i).flatMap tnC++[.I cl,.I sq,.string ak,.string aw,.string tk,.string tw,.I it,.I ct])⟩] [none,none,none] hS ?_;intro nd;apply Bn7;rfl;rfl;rfl;(focus(simp only[fD,fI,fJ,Act.eval,fE,fF,fG,fH,fK];try rfl));(exact esS);(exact rsS);rfl;rfl;rfl;rfl;rfl;decide;(intro _;rfl);rfl;(intro _;rfl);(refine frS ?_);refine cR ?_;refine zcn ?_;refine cR ?_;refine zc1 ?_
    iterate 2 (refine cR ?_)
    (apply Ai7;rfl;rfl;rfl;(focus((conv=>lhs;whnf);try rfl));(focus((conv=>lhs;whnf);try rfl));exact esS;exact rsS;rfl;decide;rfl;intro F w hS;exact(Src.partM (by exact A6) (C5 l (i))).at hS;(focus(rw[Ab7 AT7,jT,Nat.min_eq_left (by omega)]));(focus(exact CX7 _));(focus(unfold maxLen;omega));(focus(omega));intro _;rfl;intro _;rfl;refine frS ?_);refine zcN ?_;apply aC4;rfl;rfl;rfl;(focus(simp only[fD,fI,fJ,Act.eval,fE,fF,fG,fH,fK];try rfl));(exact esS);(exact rsS);rfl;rfl;rfl;rfl;(intro _;rfl);rfl;(intro _;rfl);(refine frS ?_);apply Ai7;rfl;rfl;rfl;(focus((conv=>lhs;whnf);try rfl));(focus((conv=>lhs;whnf);try rfl));(exact esS);(exact rsS);rfl;decide;rfl;(intro F w hS;exact AC7 hS (by exact A6));(focus(try rfl));rfl;(focus(unfold maxLen;omega));(focus(omega));(intro _;rfl);(intro _;rfl);(refine frS ?_);refine cR ?_;refine Ad7 ?_;clear hS;intro w hS;have hS2:St W [L8 (nd 9) _ _ _ _,row (nd 10) 8 _ _ _,blk _ _ _,xeB _ _ _ _ _,row _ _ _ _ _,sats _] w:=hS;clear hS;have hS:=hS2.unpack [_,_,_,_,_];clear hS2;simp only[jK,jN]at hS;generalize nd 10=v9 at *;replace hS:=hS.drop;obtain⟨va,vc,rfl⟩:=hS.rowVal;go_wp2_with(first|refine zl1 hS ?_|(with_reducible apply Ae7 hS);rfl;rfl;rfl;rfl;exact esS;exact rsS;rfl;decide;exact i7;exact Src.partM (by exact aY4) (fun j u h=>D9 AT7 l (i) j u (by omega) h);(focus(rw[Ab7 AT7,List.length_drop]));exact CX7 _;(focus(unfold maxLen;omega));(focus(omega));clear hS;intro v w hS;(have hv:=hS.rowVal;obtain⟨va,vc,rfl⟩:=hv);refine frS ?_|refine zs1 hS ?_;clear hS;intro w hS)
    all_goals go_end0
    all_goals refine⟨rfl,.slice va (0+i+1+(l.length-i)) vc,?_⟩
    all_goals rw[Hpp.out]
    all_goals unfold xtP
    all_goals rw[AX7 l (i) (i) _ (by omega),AP7]
    all_goals have hS1:St W (row (.slice va (0+i+1+(l.length-i)) vc) 8 97 (0+i+1+(l.length-i)) ([]++(l.take (i)).flatMap tnC++tnC ((cl,sq),⟨cl,sq,ak,aw,tk,tw,it,ct⟩)++(l.drop (i)).flatMap tnC)::_) w:=hS
    all_goals exact hS1.s _
end Go.Proofs.YtienbkdjkjbelaaGreat
end
