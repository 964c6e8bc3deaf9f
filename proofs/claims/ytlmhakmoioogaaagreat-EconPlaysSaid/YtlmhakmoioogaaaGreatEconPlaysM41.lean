/-
  The document's economy: something is under way. For every economy.
-/
import Derived.Test.YtlmhakmoioogaaaGreatEconPlaysM5
import Derived.Test.YtlmhakmoioogaaaGreatEconPlaysM18
import Derived.Test.YtlmhakmoioogaaaGreatEconPlaysM40
set_option maxHeartbeats 16000000
set_option maxRecDepth 100000
set_option linter.unusedSimpArgs false
set_option linter.unusedVariables false
section
namespace Go.Proofs.YtlmhakmoioogaaaGreat
open Go.RowKit Go.Sl
def SnR{ν:Type}(W:World)(L:List HP)(l:List ((Int×Int)×ν))(k:Int×Int)(v:Value)(w:World):Prop:=
 ∃i:Nat,v=.int .i64 i∧i≤l.length∧plI ltW l k=i+plI ltW (l.drop i) k∧St W L w
theorem send8(l:List ((Int×Int)×Tns))(hk:TsK l)(hl:l.length≤1000000)(t:Tns)(xb:Nat)(v1 v2 v3 v4:Value)(W w:World)(R:List HP)(hS:St W (xeB xb v1 v2 v3 v4::xtP v3 l::R) w):
  Calls Tryz.prog 81 #[.pointer (some ⟨xb,0,none⟩),eTn t] w fun e w'=>e=.returned (.tuple #[])∧∃v,St W (xeB xb v1 v2 v v4::xtP v (l.take (plI ltW l (t.client,t.seq))++((t.client,t.seq),t)::l.drop (plI ltW l (t.client,t.seq)))::R) w':=by
 obtain⟨a,cap,rfl⟩:=hS.drop.rowVal
 obtain⟨cl,sq,ak,aw,tk,tw,it,ct⟩:=t
 have h63:l.length≤9223372036854775807:=by omega
 have Hk:=Lib.hid hk
 clear hk
 go_enter Tryz.func81,Tryz.ntmps81
 go_wp2_with(first|(refine zbx hS ?_;clear hS;intro bA w hS))
 go_loopw [4] (fun v wr=>SnR W (blk bA [.int .i64 cl,.int .i64 sq,.string ak,.string aw,.string tk,.string tw,.int .i64 it,.int .i64 ct] 40::xeB xb v1 v2 (.slice a l.length cap) v4::xtP (.slice a l.length cap) l::R) l (cl,sq) v wr) (fun v _=>l.length-(intOf v).toNat)
 case atStart=>exact⟨0,rfl,Nat.zero_le _,by simp,hS⟩
 case round=>
  clear hS
  obtain⟨i,rfl,hil,e1,hS⟩:=hrel
  by_cases hin:i=l.length
  ·have hdr:l.drop i=[]:=by rw[hin];exact List.drop_length
   rw[hdr]at e1
   have E1:=Lib.hid (show plI ltW l (cl,sq)=i from e1)
   have di:decide (i<l.length)=false:=by simp;omega
   have hi0:l=[]→i=0:=fun h=>by rw[h]at hil;simpa using hil
   clear e1 hdr hin
   go_wp2_with fail
   refine Aa7 (by kernel_rfl) (by kernel_rfl) hS ?_
   repeat(first|go_big_quiet_skip|(refine zq1 ?_)|(refine zqn ?_)|(refine qR ?_))
   clear hS
   intro w hS
   rcases St.rowCase hS.drop.drop with ⟨rfl,h0,rfl,hc0⟩|⟨g,rfl,hcap,hcn⟩
   ·have hH:l=[]:=List.eq_nil_of_length_eq_zero h0
    obtain rfl:=hi0 hH
    clear hi0
    subst hH
    go_wp2_with fail
    refine rf2 [0,0,2,6,14,0,62,127,0,256,1023,2047] (fun i=>i==0||i==7||i==9||i==10) [⟨some 0,some 7,fun nd=>row (nd 0) 8 40 0 []⟩,⟨some 7,some 10,fun nd=>row (nd 7) 8 40 (0+0) ([]++([]:List Value))⟩,⟨some 9,none,fun nd=>slTo (nd 9) 1 1 [.int .i64 cl,.int .i64 sq,.string ak,.string aw,.string tk,.string tw,.int .i64 it,.int .i64 ct] 40⟩,⟨some 10,none,fun nd=>row (nd 10) 8 40 (0+0+1) ([]++([]:List Value)++[.int .i64 cl,.int .i64 sq,.string ak,.string aw,.string tk,.string tw,.int .i64 it,.int .i64 ct])⟩] [none,none,none] hS ?_
    intro nd
    (apply Bx7;rfl;(with_reducible rfl);rfl;(focus(simp only[fD,fI,fJ,Act.eval,fE,fF,fG,fH,fK];try rfl));(exact esS);(exact rsS);rfl;rfl;rfl;rfl;rfl;decide;(intro _;rfl);rfl;(intro _;rfl);(refine frS ?_))
    (refine cR ?_)
    (refine zcn ?_)
    (refine cR ?_)
    (refine zc1 ?_)
    iterate 2 (refine cR ?_)
    (apply Ai7;rfl;(with_reducible rfl);rfl;(focus((conv=>lhs;whnf);try rfl));(focus((conv=>lhs;whnf);try rfl));(exact esS);(exact rsS);rfl;decide;rfl;(intro F w hS;exact .inl ⟨rfl,rfl,rfl⟩);(focus(rfl));(focus(exact rfl));(focus(unfold maxLen;omega));(focus(omega));(intro _;rfl);(intro _;rfl);(refine frS ?_))
    (refine zcN ?_)
    (apply ch_bs;rfl;(with_reducible rfl);rfl;(focus(simp only[fD,fI,fJ,Act.eval,fE,fF,fG,fH,fK];try rfl));(exact esS);(exact rsS);rfl;rfl;rfl;rfl;(intro _;rfl);rfl;(intro _;rfl);(refine frS ?_))
    (apply Ai7;rfl;(with_reducible rfl);rfl;(focus((conv=>lhs;whnf);try rfl));(focus((conv=>lhs;whnf);try rfl));(exact esS);(exact rsS);rfl;decide;rfl;(intro F w hS;exact AI7 hS (by exact takO));(focus(try rfl));rfl;(focus(unfold maxLen;omega));(focus(omega));(intro _;rfl);(intro _;rfl);(refine frS ?_))
    (refine cR ?_)
    refine Ad7 ?_
    clear hS
    intro w hS
    have hS2:St W [slTo (nd 9) _ _ _ _,row (nd 10) 8 _ _ _,blk _ _ _,xeB _ _ _ _ _,row _ _ _ _ _,sats _] w:=hS
    clear hS
    have hS:=hS2.unpack [_,_,_,_,_]
    clear hS2
    simp only[List.cons_append,List.nil_append]at hS
    generalize nd 10=v9 at *
    replace hS:=hS.drop
    obtain⟨va,vc,rfl⟩:=hS.rowVal
    go_wp2_with(first|(refine zl1 hS ?_)|((with_reducible apply Ae7 hS);(with_reducible rfl);rfl;rfl;rfl;(exact esS);(exact rsS);rfl;decide;(exact takeS);exact .inl ⟨rfl,rfl,rfl⟩;(focus(rfl));(exact rfl);(focus(unfold maxLen;omega));(focus(omega));clear hS;intro v w hS;(have hv:=hS.rowVal;obtain⟨va,vc,rfl⟩:=hv);(refine frS ?_))|(refine zs1 hS ?_;clear hS;intro w hS))
    go_end0
    have hS1:St W (xtP (.slice va 1 vc) [((cl,sq),⟨cl,sq,ak,aw,tk,tw,it,ct⟩)]::_) w:=hS
    have hS2:=hS1.s (xeB xb v1 v2 _ v4::xtP (.slice va 1 vc) [((cl,sq),⟨cl,sq,ak,aw,tk,tw,it,ct⟩)]::R)
    exact⟨rfl,.slice va 1 vc,hS2⟩
   ·clear hi0
    have Hpp:=Lib.hid (show plI ltW l (cl,sq)=i from E1.out)
    go_wp2_with fail
    refine rf2 [0,0,2,6,14,0,62,127,0,256,1023,2047] (fun i=>i==0||i==7||i==9||i==10) [⟨some 0,some 7,fun nd=>row (nd 0) 8 40 0 []⟩,⟨some 7,some 10,fun nd=>row (nd 7) 8 40 (0+i) ([]++(l.take i).flatMap tnC)⟩,⟨some 9,none,fun nd=>slTo (nd 9) 1 1 [.int .i64 cl,.int .i64 sq,.string ak,.string aw,.string tk,.string tw,.int .i64 it,.int .i64 ct] 40⟩,⟨some 10,none,fun nd=>row (nd 10) 8 40 (0+i+1) ([]++(l.take i).flatMap tnC++[.int .i64 cl,.int .i64 sq,.string ak,.string aw,.string tk,.string tw,.int .i64 it,.int .i64 ct])⟩] [none,none,none] hS ?_
    intro nd
    (apply Bx7;rfl;(with_reducible rfl);rfl;(focus(simp only[fD,fI,fJ,Act.eval,fE,fF,fG,fH,fK];try rfl));(exact esS);(exact rsS);rfl;rfl;rfl;rfl;rfl;decide;(intro _;rfl);rfl;(intro _;rfl);(refine frS ?_))
    (refine cR ?_)
    (refine zcn ?_)
    (refine cR ?_)
    (refine zc1 ?_)
    iterate 2 (refine cR ?_)
    (apply Ai7;rfl;(with_reducible rfl);rfl;(focus((conv=>lhs;whnf);try rfl));(focus((conv=>lhs;whnf);try rfl));(exact esS);(exact rsS);rfl;decide;rfl;(intro F w hS;exact(Src.partM (by exact takO) (flat_take' l (i))).at hS);(focus(rw[Ab7 AV7,List.length_take,Nat.min_eq_left (by omega)]));(focus(exact Dk7 _));(focus(unfold maxLen;omega));(focus(omega));(intro _;rfl);(intro _;rfl);(refine frS ?_))
    (refine zcN ?_)
    (apply ch_bs;rfl;(with_reducible rfl);rfl;(focus(simp only[fD,fI,fJ,Act.eval,fE,fF,fG,fH,fK];try rfl));(exact esS);(exact rsS);rfl;rfl;rfl;rfl;(intro _;rfl);rfl;(intro _;rfl);(refine frS ?_))
    (apply Ai7;rfl;(with_reducible rfl);rfl;(focus((conv=>lhs;whnf);try rfl));(focus((conv=>lhs;whnf);try rfl));(exact esS);(exact rsS);rfl;decide;rfl;(intro F w hS;exact AI7 hS (by exact takO));(focus(try rfl));rfl;(focus(unfold maxLen;omega));(focus(omega));(intro _;rfl);(intro _;rfl);(refine frS ?_))
    (refine cR ?_)
    refine Ad7 ?_
    clear hS
    intro w hS
    have hS2:St W [slTo (nd 9) _ _ _ _,row (nd 10) 8 _ _ _,blk _ _ _,xeB _ _ _ _ _,row _ _ _ _ _,sats _] w:=hS
    clear hS
    have hS:=hS2.unpack [_,_,_,_,_]
    clear hS2
    simp only[List.cons_append,List.nil_append]at hS
    generalize nd 10=v9 at *
    replace hS:=hS.drop
    obtain⟨va,vc,rfl⟩:=hS.rowVal
    go_wp2_with(first|(refine zl1 hS ?_)|((with_reducible apply Ae7 hS);(with_reducible rfl);rfl;rfl;rfl;(exact esS);(exact rsS);rfl;decide;(exact takeS);exact Src.behindM (by exact takR) (fun h=>⟨by omega,by rw[List.drop_eq_nil_of_le (by omega)];rfl⟩) (fun j u h=>flat_drop' AV7 l (i) j u (by omega) h);(focus(rw[Ab7 AV7,List.length_drop]));(exact Dk7 _);(focus(unfold maxLen;omega));(focus(omega));clear hS;intro v w hS;(have hv:=hS.rowVal;obtain⟨va,vc,rfl⟩:=hv);(refine frS ?_))|(refine zs1 hS ?_;clear hS;intro w hS))
    all_goals go_end0
    all_goals refine⟨rfl,.slice va (0+i+1+(l.length-i)) vc,?_⟩
    all_goals rw[Hpp.out]
    all_goals unfold xtP
    all_goals rw[Be7 l (i) (i) _ (by omega),AW7]
    all_goals have hS1:St W (row (.slice va (0+i+1+(l.length-i)) vc) 8 40 (0+i+1+(l.length-i)) ([]++(l.take (i)).flatMap tnC++tnC ((cl,sq),⟨cl,sq,ak,aw,tk,tw,it,ct⟩)++(l.drop (i)).flatMap tnC)::_) w:=hS
    all_goals exact hS1.s _
  ·have hi1:i<l.length:=by omega
   obtain⟨⟨g,rfl⟩,hcap,hcn⟩:=St.rowAddr hS.drop.drop (by omega)
   have hca:∀{K K':List HP},Take K (xtP (.slice (some ⟨g,0,none⟩) l.length cap) l) K'→Cell K g (i*8) (.int .i64 l[i].2.client):=fun hu=>Cells.elemM (enc:=tnC) AV7 hu hi1 0 _ rfl
   have hcb:∀{K K':List HP},Take K (xtP (.slice (some ⟨g,0,none⟩) l.length cap) l) K'→Cell K g (i*8+1) (.int .i64 l[i].2.seq):=fun hu=>Cells.elemM (enc:=tnC) AV7 hu hi1 1 _ rfl
   have hdr:l.drop i=l[i]::l.drop (i+1):=List.drop_eq_getElem_cons hi1
   have hkk:=Hk.out _ (List.getElem_mem hi1)
   rw[hdr,plI,hkk]at e1
   generalize l[i]=x at hca hcb e1
   obtain⟨xk,⟨xa,xc,x2,x3,x4,x5,x6,x7⟩⟩:=x
   simp only at hca hcb e1
   clear hdr hkk
   have di:decide (i<l.length)=true:=by simpa using hi1
   cases hlt:ltW (xa,xc) (cl,sq)with
   | true=>
    rw[hlt,if_pos rfl]at e1
    have Hlt:=Lib.hid hlt
    have E1:=Lib.hid e1
    clear hlt e1
    go_wp2_with fail
    refine Aa7 (by kernel_rfl) (by kernel_rfl) hS ?_
    repeat(first|(refine zq1 ?_)|(apply Aq7;(with_reducible rfl);rfl;rfl;decide +kernel;(exact hca (by exact takeS));(refine frS ?_))|(apply Aq7;(with_reducible rfl);rfl;rfl;decide +kernel;(exact hcb (by exact takeS));(refine frS ?_))|(refine zqn ?_)|(apply As7;rfl;(intro w;apply Af7;(with_reducible rfl);decide +kernel;(focus(simp only[fD,fI,fJ,Act.eval,fE,fF,fG,fH,fK];try rfl)));(intro w hS;exact DU7 Hlt.out W w _ hS);(refine frS ?_))|(refine qR ?_))
    clear hS
    intro w hS
    go_wp2_with(fail)
    go_roundw
    case rel=>exact⟨i+1,rfl,hi1,by rw[E1.out];omega,hS⟩
    case measure=>simp[intOf];omega
   | false=>
    rw[hlt,if_neg (by simp)]at e1
    have Hlt:=Lib.hid hlt
    have E1:=Lib.hid (show plI ltW l (cl,sq)=i from e1)
    clear hlt e1
    go_wp2_with fail
    refine Aa7 (by kernel_rfl) (by kernel_rfl) hS ?_
    repeat(first|(refine zq1 ?_)|(apply Aq7;(with_reducible rfl);rfl;rfl;decide +kernel;(exact hca (by exact takeS));(refine frS ?_))|(apply Aq7;(with_reducible rfl);rfl;rfl;decide +kernel;(exact hcb (by exact takeS));(refine frS ?_))|(refine zqn ?_)|(apply As7;rfl;(intro w;apply Af7;(with_reducible rfl);decide +kernel;(focus(simp only[fD,fI,fJ,Act.eval,fE,fF,fG,fH,fK];try rfl)));(intro w hS;exact DU7 Hlt.out W w _ hS);(refine frS ?_))|(refine qR ?_))
    clear hS
    intro w hS
    have Hpp:=Lib.hid (show plI ltW l (cl,sq)=i from E1.out)
    go_wp2_with fail
    refine rf2 [0,0,2,6,14,0,62,127,0,256,1023,2047] (fun i=>i==0||i==7||i==9||i==10) [⟨some 0,some 7,fun nd=>row (nd 0) 8 40 0 []⟩,⟨some 7,some 10,fun nd=>row (nd 7) 8 40 (0+i) ([]++(l.take i).flatMap tnC)⟩,⟨some 9,none,fun nd=>slTo (nd 9) 1 1 [.int .i64 cl,.int .i64 sq,.string ak,.string aw,.string tk,.string tw,.int .i64 it,.int .i64 ct] 40⟩,⟨some 10,none,fun nd=>row (nd 10) 8 40 (0+i+1) ([]++(l.take i).flatMap tnC++[.int .i64 cl,.int .i64 sq,.string ak,.string aw,.string tk,.string tw,.int .i64 it,.int .i64 ct])⟩] [none,none,none] hS ?_
    intro nd
    (apply Bx7;rfl;(with_reducible rfl);rfl;(focus(simp only[fD,fI,fJ,Act.eval,fE,fF,fG,fH,fK];try rfl));(exact esS);(exact rsS);rfl;rfl;rfl;rfl;rfl;decide;(intro _;rfl);rfl;(intro _;rfl);(refine frS ?_))
    (refine cR ?_)
    (refine zcn ?_)
    (refine cR ?_)
    (refine zc1 ?_)
    iterate 2 (refine cR ?_)
    (apply Ai7;rfl;(with_reducible rfl);rfl;(focus((conv=>lhs;whnf);try rfl));(focus((conv=>lhs;whnf);try rfl));(exact esS);(exact rsS);rfl;decide;rfl;(intro F w hS;exact(Src.partM (by exact takO) (flat_take' l (i))).at hS);(focus(rw[Ab7 AV7,List.length_take,Nat.min_eq_left (by omega)]));(focus(exact Dk7 _));(focus(unfold maxLen;omega));(focus(omega));(intro _;rfl);(intro _;rfl);(refine frS ?_))
    (refine zcN ?_)
    (apply ch_bs;rfl;(with_reducible rfl);rfl;(focus(simp only[fD,fI,fJ,Act.eval,fE,fF,fG,fH,fK];try rfl));(exact esS);(exact rsS);rfl;rfl;rfl;rfl;(intro _;rfl);rfl;(intro _;rfl);(refine frS ?_))
    (apply Ai7;rfl;(with_reducible rfl);rfl;(focus((conv=>lhs;whnf);try rfl));(focus((conv=>lhs;whnf);try rfl));(exact esS);(exact rsS);rfl;decide;rfl;(intro F w hS;exact AI7 hS (by exact takO));(focus(try rfl));rfl;(focus(unfold maxLen;omega));(focus(omega));(intro _;rfl);(intro _;rfl);(refine frS ?_))
    (refine cR ?_)
    refine Ad7 ?_
    clear hS
    intro w hS
    have hS2:St W [slTo (nd 9) _ _ _ _,row (nd 10) 8 _ _ _,blk _ _ _,xeB _ _ _ _ _,row _ _ _ _ _,sats _] w:=hS
    clear hS
    have hS:=hS2.unpack [_,_,_,_,_]
    clear hS2
    simp only[List.cons_append,List.nil_append]at hS
    generalize nd 10=v9 at *
    replace hS:=hS.drop
    obtain⟨va,vc,rfl⟩:=hS.rowVal
    go_wp2_with(first|(refine zl1 hS ?_)|((with_reducible apply Ae7 hS);(with_reducible rfl);rfl;rfl;rfl;(exact esS);(exact rsS);rfl;decide;(exact takeS);exact Src.partM (by exact takR) (fun j u h=>flat_drop' AV7 l (i) j u (by omega) h);(focus(rw[Ab7 AV7,List.length_drop]));(exact Dk7 _);(focus(unfold maxLen;omega));(focus(omega));clear hS;intro v w hS;(have hv:=hS.rowVal;obtain⟨va,vc,rfl⟩:=hv);(refine frS ?_))|(refine zs1 hS ?_;clear hS;intro w hS))
    all_goals go_end0
    all_goals refine⟨rfl,.slice va (0+i+1+(l.length-i)) vc,?_⟩
    all_goals rw[Hpp.out]
    all_goals unfold xtP
    all_goals rw[Be7 l (i) (i) _ (by omega),AW7]
    all_goals have hS1:St W (row (.slice va (0+i+1+(l.length-i)) vc) 8 40 (0+i+1+(l.length-i)) ([]++(l.take (i)).flatMap tnC++tnC ((cl,sq),⟨cl,sq,ak,aw,tk,tw,it,ct⟩)++(l.drop (i)).flatMap tnC)::_) w:=hS
    all_goals exact hS1.s _
end Go.Proofs.YtlmhakmoioogaaaGreat
end
