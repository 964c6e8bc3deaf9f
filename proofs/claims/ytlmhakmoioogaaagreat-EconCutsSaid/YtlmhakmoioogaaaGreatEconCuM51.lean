/-
  The document's Cut.
-/
import Derived.Test.YtlmhakmoioogaaaGreatEconCuM5
import Derived.Test.YtlmhakmoioogaaaGreatEconCuM17
import Derived.Test.YtlmhakmoioogaaaGreatEconCuM39
import Derived.Test.YtlmhakmoioogaaaGreatEconCuM43
import Derived.Test.YtlmhakmoioogaaaGreatEconCuM50
set_option maxHeartbeats 16000000
set_option maxRecDepth 100000
set_option linter.unusedSimpArgs false
set_option linter.unusedVariables false
section
namespace Go.Sl
open Go.RowKit
section
variable{P:Program}{W:World}{ops:Array Oper}{t:List Nat}{toks:List Tok}{fresh:Nat->Bool}{pin:Nat->Option Value}{Qf:Act->Prop}{nd:Nat->Value}{i:Nat}{l:List Oper}{a:Act}{o:Oper}
theorem Qs7{ty:TypeId}{xs:Array (Nat×Operand)}{vs:Array (Nat×Value)}{v:Value}(hf:fresh i=false)(hn:ap4 toks i=true)(ho:o.op=.build ty xs)(hg:Region.wanted o (yielded ops a.tmps)=true)(hx:(xs.map fun(i,x)=>(i,a.eval x))=vs)
  (hv:∀F w,St W (kpL toks t i nd++F) w->(Instr.build ty vs).run P w=.ok v w) (h:l7 P W ops t toks fresh pin Qf nd (i+1) l (a.put o.dst v)):l7 P W ops t toks fresh pin Qf nd i (o::l) a:=
 DQ7 hf hn hg (fun F w hS=>by unfold execOp;simp only[ho,hx,Sem.run_bind,hv F w hS,Result.andThen_ok,Sem.run_pure]) h
end
end Go.Sl
namespace Go.Proofs.YtlmhakmoioogaaaGreat
open Go.RowKit Go.Sl
theorem eL4{A B:Ev}{W w:World}{R:List HP}(h:St W (l6 (A++B)::R) w):St W (l6 A::l6 B::R) w:=
 St.split (h.imp fun f hf=>ct4 (by have h1:sats ((A++B).map fun x=>dvP x.2.1 x.2.2) f:=hf;rwa [List.map_append]at h1))
theorem fe4{A B:Ev}{W w:World}{R:List HP}(h:St W (l6 A::l6 B::R) w):St W (l6 (A++B)::R) w:=
 (St.join h).imp fun f hf=>by
  have h1:=cs4 hf;show sats ((A++B).map fun x=>dvP x.2.1 x.2.2) f
  rwa [List.map_append]
theorem dY4{A B:Ev}(hp:A.Perm B){W w:World}{R:List HP}(h:St W (l6 A::R) w):St W (l6 B::R) w:=h.imp fun _=>Du7 (hp.map _)
theorem fT4(a c:Option Addr)(n n' m m':Nat)(w:World):(Instr.build 50 #[(1,.slice a n n'),(3,.slice c m m')]).run Tryz.prog w=.ok (.agg #[.slice none 0 0,.slice a n n',.slice none 0 0,.slice c m m']) w:=by kernel_rfl
theorem FF7{α:Type}{p:α->Bool}{l:List α}{i:Nat}(h:i<l.length)(hp:p l[i]=true):(l.take (i+1)).filter p=(l.take i).filter p++[l[i]]:=by rw[List.take_succ_eq_append_getElem h,List.filter_append,List.filter_cons,if_pos hp,List.filter_nil]
theorem HU7{α:Type}{p:α->Bool}{l:List α}{i:Nat}(h:i<l.length)(hp:p l[i]=false):(l.take (i+1)).filter p=(l.take i).filter p:=by rw[List.take_succ_eq_append_getElem h,List.filter_append,List.filter_cons,if_neg (by rw[hp];simp),List.filter_nil,List.append_nil]
theorem cQ4{α:Type}{enc:α->List Value}{v:Value}{k:Nat}{T:TypeId}{A:List α}{x:α}{W w:World}{R:List HP}(h:St W (row v k T (A.length+1) (A.flatMap enc++enc x)::R) w):St W (row v k T (A++[x]).length ((A++[x]).flatMap enc)::R) w:=by rw[jA,List.flatMap_append,List.length_singleton,List.flatMap_singleton];exact h
def C8R(W:World)(F:List HP)(ob:Nat)(s2 s4:Value)(D:Ev)(p:ByteArray×(Nat×Vs)->Bool)(v6 v8:Value)(w:World):Prop:=
 ∃(i:Nat) (v1:Value),v8=.I i/\i<=D.length/\St W (xrP v6 ((D.take i).filter fun x=>!p x)::blk ob [v1,s2,.slice none 0 0,s4] 50::xrP v1 ((D.take i).filter p)::F) w
def C9R(W:World)(F:List HP)(ob:Nat)(v1 s2 s4:Value)(ts:List ((Int×Int)×Tns))(p:(Int×Int)×Tns->Bool)(v7 v9:Value)(w:World):Prop:=
 ∃(i:Nat) (v3:Value),v9=.I i/\i<=ts.length/\St W (xtP v7 ((ts.take i).filter fun x=>!p x)::blk ob [v1,s2,v3,s4] 50::xtP v3 ((ts.take i).filter p)::F) w
abbrev tB50a:List Nat:=[0,0,2,6,14,0,32,96,224,0,992,2016,4064,8190,16383,32767,65535]
theorem Td7{xb:Nat}{d:Ec}(f t:ByteArray)(hl1:d.vs.length<=1000000)(hl2:d.ss.length<=1000000)(hl3:d.ts.length<=1000000)(hl4:d.ar.length<=1000000)(W w:World)(R:List HP)(hS:St W (xU6 xb d::R) w):
  Calls Tryz.prog 31 #[.P xb,.agg #[.string f,.string t]] w fun x w'=>∃ob,x=.returned (.P ob)/\St W (xU6 xb (aS4 d f t)::xU6 ob (inE d f t)::R) w':=by
 obtain⟨v1,v2,v3,v4,D,hd,hS0⟩:=aG4 hS;clear hS;obtain⟨a1,c1,rfl⟩:=hS0.drop.rowVal;obtain⟨a2,c2,rfl⟩:=hS0.drop.drop.drop.rowVal;obtain⟨a3,c3,rfl⟩:=hS0.drop.drop.drop.drop.rowVal;obtain⟨a4,c4,rfl⟩:=hS0.drop.drop.drop.drop.drop.rowVal;have hS:=hS0;clear hS0;have hD:D.length<=1000000:=by rw[<-BH7,hd];exact hl1
 have Hd:=jH hd;clear hd hl1;go_enter Tryz.func31,Tryz.ntmps31;go_wp2_with(first|go_big_skip|refine zbx hS ?_;clear hS;intro bO w hS);have hS1:=hS.s (xeB xb (.slice a1 D.length c1) (.slice a2 d.ss.length c2) (.slice a3 d.ts.length c3) (.slice a4 d.ar.length c4)::xsP (.slice a2 d.ss.length c2) d.ss::xmP (.slice a4 d.ar.length c4) d.ar::blk bO _ _::xrP (.slice a1 D.length c1) D::l6 D::xtP (.slice a3 d.ts.length c3) d.ts::R);clear hS;refine rf2 [0,0,2,6,14,31,0,0,128,384,896,2047,4095,8191,16383] (fun i=>i==0||i==5||i==6||i==11||i==13) [⟨some 0,some 5,fun nd=>row (nd 0) 8 143 0 []⟩,⟨some 5,none,fun nd=>row (nd 5) 8 143 (0+d.ss.length) ([]++d.ss.flatMap seC)⟩,⟨some 6,some 11,fun nd=>row (nd 6) 2 140 0 []⟩,⟨some 11,none,fun nd=>row (nd 11) 2 140 (0+d.ar.length) ([]++d.ar.flatMap mkC)⟩,⟨some 13,none,fun nd=>j5 (nd 13) [.slice none 0 0,nd 5,.slice none 0 0,nd 11] 50⟩] [none,none,none,none] hS1 ?_;clear hS1;intro nd;apply Bl7;rfl;rfl;rfl;(focus(simp only[fD,fI,fJ,Act.eval,fE,fF,fG,fH,fK];try rfl));(exact esS);(exact rsS);rfl;rfl;rfl;rfl;rfl;decide;(intro _;rfl);rfl;(intro _;rfl);(refine frS ?_);refine cR ?_;refine zcn ?_;refine cR ?_;refine zc1 ?_;apply Af7;rfl;rfl;rfl;(focus((conv=>lhs;whnf);try rfl));(focus((conv=>lhs;whnf);try rfl));(exact esS);(exact rsS);rfl;decide;rfl;(intro F w hS;exact EH7 (k:=8) (by decide) hS (by exact r6));(focus(rw[Ab7 AC7]));(focus(exact BL7 _));(focus(unfold maxLen;omega));(focus(omega));(intro _;rfl);(intro _;rfl);(refine frS ?_);apply Bl7;rfl;rfl;rfl;(focus(simp only[fD,fI,fJ,Act.eval,fE,fF,fG,fH,fK];try rfl));(exact esS);(exact rsS);rfl;rfl;rfl;rfl;rfl;decide;(intro _;rfl);rfl;(intro _;rfl);(refine frS ?_);refine cR ?_;refine zcn ?_;refine cR ?_;refine zc1 ?_
 (apply Af7;rfl;rfl;rfl;(focus((conv=>lhs;whnf);try rfl));(focus((conv=>lhs;whnf);try rfl));exact esS;exact rsS;rfl;decide;rfl;intro F w hS;exact EH7 (k:=2) (by decide) hS (by exact r6);(focus(rw[Ab7 Bu7]));(focus(exact ES7 _));(focus(unfold maxLen;omega));(focus(omega));intro _;rfl;intro _;rfl;refine frS ?_);apply Qs7 (vs:=#[(1,nd 5),(3,nd 11)]) (v:=.agg #[.slice none 0 0,nd 5,.slice none 0 0,nd 11]);rfl;kernel_rfl;rfl;rfl;(focus(simp only[fD,fI,fJ,Act.eval,fE,fF,fG,fH,fK];try rfl));(intro F w hS;have h9:St W (row (nd 5) 8 143 (0+d.ss.length) ([]++d.ss.flatMap seC)::row (nd 11) 2 140 (0+d.ar.length) ([]++d.ar.flatMap mkC)::_) w:=hS;obtain⟨y1,y2,g2⟩:=h9.rowVal;obtain⟨x1,x2,g1⟩:=h9.drop.rowVal;rw[g1,g2];exact fT4 _ _ _ _ _ _ w);(refine frS ?_);apply Sw7 (z:=[.slice none 0 0,nd 5,.slice none 0 0,nd 11]);rfl;rfl;rfl;rfl;rfl;(intro _;rfl);rfl;(intro _;rfl);(refine frS ?_);refine cR ?_;refine Ad7 ?_;intro w hS;have hS2:St W [row (nd 5) 8 143 (0+d.ss.length) ([]++d.ss.flatMap seC),row (nd 11) 2 140 (0+d.ar.length) ([]++d.ar.flatMap mkC),j5 (nd 13) _ _,xeB xb (.slice a1 D.length c1) (.slice a2 d.ss.length c2) (.slice a3 d.ts.length c3) (.slice a4 d.ar.length c4),xsP (.slice a2 d.ss.length c2) d.ss,xmP (.slice a4 d.ar.length c4) d.ar,blk bO _ _,sats (xrP (.slice a1 D.length c1) D::l6 D::xtP (.slice a3 d.ts.length c3) d.ts::R)] w:=hS;clear hS;have hS:=hS2.unpack [_,_,_,_,_,_,_];clear hS2;simp only[jK,jN]at hS;generalize nd 5=s5 at *;generalize nd 11=s11 at *;generalize nd 13=s13 at *;simp only[Nat.zero_add,jN]at hS;obtain⟨b2,e2,rfl⟩:=hS.rowVal;obtain⟨b4,e4,rfl⟩:=hS.drop.rowVal
 have hS1:=hS.s (j5 s13 _ _::xsP (.slice b2 d.ss.length e2) d.ss::xmP (.slice b4 d.ar.length e4) d.ar::xeB xb (.slice a1 D.length c1) (.slice a2 d.ss.length c2) (.slice a3 d.ts.length c3) (.slice a4 d.ar.length c4)::xsP (.slice a2 d.ss.length c2) d.ss::xmP (.slice a4 d.ar.length c4) d.ar::blk bO [.string f,.string t] 54::xrP (.slice a1 D.length c1) D::l6 D::xtP (.slice a3 d.ts.length c3) d.ts::R);clear hS;obtain⟨ob,rfl,hS0⟩:=hS1.ptr;clear hS1;have hS1:=(hS0.rowNil (k:=2) (T:=137)).rowNil (k:=2) (T:=137);clear hS0;have hS:St W (xrP (.slice none 0 0) []::xrP (.slice none 0 0) []::blk ob [.slice none 0 0,.slice b2 d.ss.length e2,.slice none 0 0,.slice b4 d.ar.length e4] 50::_) w:=hS1;clear hS1;go_wp2_with(first|go_big_skip)
 go_loopw [6,8] (fun v6 v8 wr=>C8R W (blk bO [.string f,.string t] 54::xeB xb (.slice a1 D.length c1) (.slice a2 d.ss.length c2) (.slice a3 d.ts.length c3) (.slice a4 d.ar.length c4)::xrP (.slice a1 D.length c1) D::xtP (.slice a3 d.ts.length c3) d.ts::l6 D::xsP (.slice a2 d.ss.length c2) d.ss::xmP (.slice a4 d.ar.length c4) d.ar::xsP (.slice b2 d.ss.length e2) d.ss::xmP (.slice b4 d.ar.length e4) d.ar::R) ob (.slice b2 d.ss.length e2) (.slice b4 d.ar.length e4) D (fun x=>inB f t x.1) v6 v8 wr) (fun _ v8 _=>D.length-(intOf v8).toNat)
 case atStart=>exact⟨0,.slice none 0 0,rfl,Nat.zero_le _,hS.s (xrP (.slice none 0 0) []::blk ob [.slice none 0 0,.slice b2 d.ss.length e2,.slice none 0 0,.slice b4 d.ar.length e4] 50::xrP (.slice none 0 0) []::blk bO [.string f,.string t] 54::xeB xb (.slice a1 D.length c1) (.slice a2 d.ss.length c2) (.slice a3 d.ts.length c3) (.slice a4 d.ar.length c4)::xrP (.slice a1 D.length c1) D::xtP (.slice a3 d.ts.length c3) d.ts::l6 D::xsP (.slice a2 d.ss.length c2) d.ss::xmP (.slice a4 d.ar.length c4) d.ar::xsP (.slice b2 d.ss.length e2) d.ss::xmP (.slice b4 d.ar.length e4) d.ar::R)⟩
 case round=>
  clear hS;obtain⟨i,v1,rfl,hi,hS⟩:=hrel;by_cases hin:i<D.length
  case pos=>
   have hd1:decide (i<D.length)=true:=decide_eq_true hin;obtain⟨⟨g,rfl⟩,_,_⟩:=St.rowAddr hS.drop.drop.drop.drop.drop (by omega);have hcx:∀{K K':List HP},Take K (xrP (.S g D.length c1) D) K'->i5 K g (i*2) (rwC D[i]):=fun hu=>i5.elemM (enc:=rwC) AE7 hu hin
   have hck:∀{K K':List HP},Take K (xrP (.S g D.length c1) D) K'->i8 K g (i*2) (.string D[i].1):=fun hu=>i5.elemM (enc:=rwC) AE7 hu hin 0 _ rfl
   have hla:((D.take i).filter fun x=>inB f t x.1).length<=1000000:=Nat.le_trans (List.length_filter_le ..) (by rw[jT];omega);have hlb:((D.take i).filter fun x=>!inB f t x.1).length<=1000000:=Nat.le_trans (List.length_filter_le ..) (by rw[jT];omega)
   cases hb:inB f t D[i].1 with
   | true=>
    have hs1:=FF7 (p:=fun x:ByteArray×(Nat×Vs)=>inB f t x.1) hin hb;have hs2:=HU7 (p:=fun x:ByteArray×(Nat×Vs)=>!inB f t x.1) hin (by simp only[hb,Bool.not_true]);generalize ((D.take i).filter fun x=>inB f t x.1)=A at hS hs1 hla;generalize ((D.take i).filter fun x=>!inB f t x.1)=B at hS hs2 hlb;generalize D[i]=x at hcx hck hb hs1;obtain⟨xk,vb,V⟩:=x;simp only[rwC]at hcx hck;have Hin:=jH hb;have Hs1:=jH hs1;have Hs2:=jH hs2;clear hb hs1 hs2 hi;go_wp2_with(first|go_big_skip|refine zl1 hS ?_);refine rt 9 hS ?_
    repeat(first|go_big_quiet_skip|apply Aj7;rfl;rfl;rfl;decide +kernel;exact hck (by exact i6);refine frS ?_|refine zqN ?_|refine zq1 ?_|refine zqn ?_|refine qR ?_)
    clear hS;intro w hS;simp only[jD,List.drop_zero];go_wp2_with fail;refine(LD7 Hin.out W _ _ hS).mono ?_;clear hS;rintro ex w ⟨rfl,hS⟩;go_wp2_with(first|go_big_skip);have hS1:=hS.s (blk ob [v1,.slice b2 d.ss.length e2,.slice none 0 0,.slice b4 d.ar.length e4] 50::xrP v1 A::xrP _ B::blk bO [.string f,.string t] 54::xeB xb (.S g D.length c1) (.slice a2 d.ss.length c2) (.slice a3 d.ts.length c3) (.slice a4 d.ar.length c4)::xrP (.S g D.length c1) D::xtP (.slice a3 d.ts.length c3) d.ts::l6 D::xsP (.slice a2 d.ss.length c2) d.ss::xmP (.slice a4 d.ar.length c4) d.ar::xsP (.slice b2 d.ss.length e2) d.ss::xmP (.slice b4 d.ar.length e4) d.ar::R);clear hS;refine rf2 tB50a (fun i=>i==12||i==13) [⟨some 12,none,fun nd=>G6 (nd 12) 1 1 [.string xk,.P vb] 137⟩,⟨some 13,none,fun nd=>row (nd 13) 2 137 (A.length+1) (A.flatMap rwC++[.string xk,.P vb])⟩,⟨some 16,none,fun nd=>blk ob [nd 13,.slice b2 d.ss.length e2,.slice none 0 0,.slice b4 d.ar.length e4] 50⟩] [some 16,some 13,none,none,none,none] hS1 ?_;clear hS1;intro nd
    iterate 2 (refine cR ?_)
    (refine zcn ?_);refine cR ?_;refine zc1 ?_;refine cR ?_;refine zcn ?_;refine cR ?_;refine zc1 ?_
    iterate 2 (refine cR ?_)
    (refine zcN ?_ (hc:=by(intro F;exact hcx (by exact r6))));apply M9;rfl;rfl;rfl;(focus(simp only[fD,fI,fJ,Act.eval,fE,fF,fG,fH,fK];try rfl));(exact esS);(exact rsS);rfl;rfl;rfl;rfl;(intro _;rfl);rfl;(intro _;rfl);(refine frS ?_);apply Af7;rfl;rfl;rfl;(focus((conv=>lhs;whnf);try rfl));(focus((conv=>lhs;whnf);try rfl));(exact esS);(exact rsS);rfl;decide;rfl;(intro F w hS;exact AD7 hS (by exact r6));(focus(try rfl));rfl;(focus(unfold maxLen;omega));(focus(omega));(intro _;rfl);(intro _;rfl);(refine frS ?_);refine zcn ?_;refine cR ?_;(apply EZ7;rfl;rfl;rfl;rfl;(focus((conv=>lhs;whnf);try rfl));kernel_rfl;rfl;intro F w hS;exact hS.rowOne (by exact r6);(focus(simp));rfl;rfl;try(refine frS ?_));refine Ad7 ?_;intro w hS;have hS2:St W [G6 (nd 12) _ _ _ _,row (nd 13) 2 _ _ _,blk ob [nd 13,.slice b2 d.ss.length e2,.slice none 0 0,.slice b4 d.ar.length e4] 50,xrP _ B,blk bO _ _,xeB _ _ _ _ _,xrP _ D,sats (xtP (.slice a3 d.ts.length c3) d.ts::l6 D::xsP (.slice a2 d.ss.length c2) d.ss::xmP (.slice a4 d.ar.length c4) d.ar::xsP (.slice b2 d.ss.length e2) d.ss::xmP (.slice b4 d.ar.length e4) d.ar::R)] w:=hS;clear hS;have hS:=hS2.drop.unpack [_,_,_,_,_,_];clear hS2;simp only[jK,jN]at hS;generalize nd 13=v13 at *;go_wp2_with(first|go_big_skip);go_roundw
    case rel=>
     refine⟨i+1,v13,rfl,hin,?_⟩;rw[Hs1.out,Hs2.out];have h0:St W (row v13 2 137 (A.length+1) (A.flatMap rwC++rwC (xk,vb,V))::_) w:=hS;exact(cQ4 h0).s _
    case measure=>simp[intOf];omega
   | false=>
    have hs1:=HU7 (p:=fun x:ByteArray×(Nat×Vs)=>inB f t x.1) hin hb;have hs2:=FF7 (p:=fun x:ByteArray×(Nat×Vs)=>!inB f t x.1) hin (by simp only[hb,Bool.not_false]);generalize ((D.take i).filter fun x=>inB f t x.1)=A at hS hs1 hla;generalize ((D.take i).filter fun x=>!inB f t x.1)=B at hS hs2 hlb;generalize D[i]=x at hcx hck hb hs2;obtain⟨xk,vb,V⟩:=x;simp only[rwC]at hcx hck;have Hin:=jH hb;have Hs1:=jH hs1;have Hs2:=jH hs2;clear hb hs1 hs2 hi;go_wp2_with(first|go_big_skip|refine zl1 hS ?_);refine rt 9 hS ?_
    repeat(first|go_big_quiet_skip|apply Aj7;rfl;rfl;rfl;decide +kernel;exact hck (by exact i6);refine frS ?_|refine zqN ?_|refine zq1 ?_|refine zqn ?_|refine qR ?_)
    clear hS;intro w hS;simp only[jD,List.drop_zero];go_wp2_with fail;refine(LD7 Hin.out W _ _ hS).mono ?_;clear hS;rintro ex w ⟨rfl,hS⟩;go_wp2_with(first|go_big_skip|refine zlN hS ?_ (hc:=by exact hcx (by exact i6))|refine zl1 hS ?_|refine zbs hS ?_;clear hS;intro bS w hS|refine zap hS ?_ (h63:=by unfold maxLen;omega) (hb:=by omega);clear hS;intro v w hS);go_roundw
    case rel=>
     refine⟨i+1,v1,rfl,hin,?_⟩;rw[Hs1.out,Hs2.out];have h0:St W (row v 2 137 (B.length+1) (B.flatMap rwC++rwC (xk,vb,V))::_) w:=hS;exact(cQ4 h0).s _
    case measure=>simp[intOf];omega
  have hd1:decide (i<D.length)=false:=decide_eq_false hin;have hie:i=D.length:=by omega
  rw[hie,List.take_length]at hS;clear hin hi hie;have hla:(D.filter fun x=>inB f t x.1).length<=1000000:=Nat.le_trans (List.length_filter_le ..) hD;have hlb:(D.filter fun x=>!inB f t x.1).length<=1000000:=Nat.le_trans (List.length_filter_le ..) hD;generalize hA:(D.filter fun x=>inB f t x.1)=A at hS hla;generalize hB:(D.filter fun x=>!inB f t x.1)=B at hS hlb;have HA:=jH hA;have HB:=jH hB;clear hA hB;obtain⟨z6,y6,rfl⟩:=hS.rowVal;go_wp2_with(first|go_big_skip|refine zl1 hS ?_);have hS1:=(hS.rowNil (k:=8) (T:=40)).rowNil (k:=8) (T:=40);clear hS;have hS:St W (xtP (.slice none 0 0) []::xtP (.slice none 0 0) []::_) _:=hS1;clear hS1
  go_loopw [7,9] (fun v7 v9 wr=>C9R W (xrP v1 A::xrP (.slice z6 B.length y6) B::blk bO [.string f,.string t] 54::xeB xb (.slice a1 D.length c1) (.slice a2 d.ss.length c2) (.slice a3 d.ts.length c3) (.slice a4 d.ar.length c4)::xrP (.slice a1 D.length c1) D::xtP (.slice a3 d.ts.length c3) d.ts::l6 D::xsP (.slice a2 d.ss.length c2) d.ss::xmP (.slice a4 d.ar.length c4) d.ar::xsP (.slice b2 d.ss.length e2) d.ss::xmP (.slice b4 d.ar.length e4) d.ar::R) ob v1 (.slice b2 d.ss.length e2) (.slice b4 d.ar.length e4) d.ts (fun x=>inB f t x.2.ak) v7 v9 wr) (fun _ v9 _=>d.ts.length-(intOf v9).toNat)
  case atStart=>exact⟨0,.slice none 0 0,rfl,Nat.zero_le _,hS.s (xtP (.slice none 0 0) []::blk ob [v1,.slice b2 d.ss.length e2,.slice none 0 0,.slice b4 d.ar.length e4] 50::xtP (.slice none 0 0) []::xrP v1 A::xrP (.slice z6 B.length y6) B::blk bO [.string f,.string t] 54::xeB xb (.slice a1 D.length c1) (.slice a2 d.ss.length c2) (.slice a3 d.ts.length c3) (.slice a4 d.ar.length c4)::xrP (.slice a1 D.length c1) D::xtP (.slice a3 d.ts.length c3) d.ts::l6 D::xsP (.slice a2 d.ss.length c2) d.ss::xmP (.slice a4 d.ar.length c4) d.ar::xsP (.slice b2 d.ss.length e2) d.ss::xmP (.slice b4 d.ar.length e4) d.ar::R)⟩
  case round=>
   clear hS;obtain⟨i,v3,rfl,hi,hS⟩:=hrel;by_cases hin:i<d.ts.length
   case pos=>
    have hd2:decide (i<d.ts.length)=true:=decide_eq_true hin;obtain⟨⟨g,rfl⟩,_,_⟩:=St.rowAddr hS.drop.drop.drop.drop.drop.drop.drop.drop (by omega);have hcx:∀{K K':List HP},Take K (xtP (.S g d.ts.length c3) d.ts) K'->i5 K g (i*8) (tnC d.ts[i]):=fun hu=>i5.elemM (enc:=tnC) AH7 hu hin
    have hck:∀{K K':List HP},Take K (xtP (.S g d.ts.length c3) d.ts) K'->i8 K g (i*8+2) (.string d.ts[i].2.ak):=fun hu=>i5.elemM (enc:=tnC) AH7 hu hin 2 _ rfl
    have hla2:((d.ts.take i).filter fun x=>inB f t x.2.ak).length<=1000000:=Nat.le_trans (List.length_filter_le ..) (by rw[jT];omega);have hlb2:((d.ts.take i).filter fun x=>!inB f t x.2.ak).length<=1000000:=Nat.le_trans (List.length_filter_le ..) (by rw[jT];omega)
    cases hb:inB f t d.ts[i].2.ak with
    | true=>
     have hs1:=FF7 (p:=fun x:(Int×Int)×Tns=>inB f t x.2.ak) hin hb;have hs2:=HU7 (p:=fun x:(Int×Int)×Tns=>!inB f t x.2.ak) hin (by simp only[hb,Bool.not_true]);generalize ((d.ts.take i).filter fun x=>inB f t x.2.ak)=X at hS hs1 hla2;generalize ((d.ts.take i).filter fun x=>!inB f t x.2.ak)=Y at hS hs2 hlb2;generalize d.ts[i]=x at hcx hck hb hs1;obtain⟨⟨y1,y2⟩,⟨t0,t1,t2,t3,t4,t5,t6,t7⟩⟩:=x;simp only[tnC,Tns.cells]at hcx hck;have Hin:=jH hb;have Hs1:=jH hs1;have Hs2:=jH hs2;clear hb hs1 hs2 hi;go_wp2_with(first|go_big_skip|refine zl1 hS ?_);refine rt 10 hS ?_
     repeat(first|go_big_quiet_skip|apply Aj7;rfl;rfl;rfl;decide +kernel;exact hck (by exact i6);refine frS ?_|refine zqN ?_|refine zq1 ?_|refine zqn ?_|refine qR ?_)
     clear hS;intro w hS;simp only[jD,List.drop_zero];go_wp2_with fail;refine(LD7 Hin.out W _ _ hS).mono ?_;clear hS;rintro ex w ⟨rfl,hS⟩;go_wp2_with(first|go_big_skip);have hS1:=hS.s (blk ob [v1,.slice b2 d.ss.length e2,v3,.slice b4 d.ar.length e4] 50::xtP v3 X::xtP _ Y::blk bO [.string f,.string t] 54::xeB xb (.slice a1 D.length c1) (.slice a2 d.ss.length c2) (.S g d.ts.length c3) (.slice a4 d.ar.length c4)::xtP (.S g d.ts.length c3) d.ts::xrP v1 A::xrP (.slice z6 B.length y6) B::xrP (.slice a1 D.length c1) D::l6 D::xsP (.slice a2 d.ss.length c2) d.ss::xmP (.slice a4 d.ar.length c4) d.ar::xsP (.slice b2 d.ss.length e2) d.ss::xmP (.slice b4 d.ar.length e4) d.ar::R);clear hS;refine rf2 tB50a (fun i=>i==12||i==13) [⟨some 12,none,fun nd=>G6 (nd 12) 1 1 [.I t0,.I t1,.string t2,.string t3,.string t4,.string t5,.I t6,.I t7] 40⟩,⟨some 13,none,fun nd=>row (nd 13) 8 40 (X.length+1) (X.flatMap tnC++[.I t0,.I t1,.string t2,.string t3,.string t4,.string t5,.I t6,.I t7])⟩,⟨some 16,none,fun nd=>blk ob [v1,.slice b2 d.ss.length e2,nd 13,.slice b4 d.ar.length e4] 50⟩] [some 16,some 13,none,none,none,none] hS1 ?_;clear hS1;intro nd
     iterate 2 (refine cR ?_)
     (refine zcn ?_);refine cR ?_;refine zc1 ?_;refine cR ?_;refine zcn ?_;refine cR ?_;refine zc1 ?_
     iterate 2 (refine cR ?_)
     (refine zcN ?_ (hc:=by(intro F;exact hcx (by exact r6))));apply M9;rfl;rfl;rfl;(focus(simp only[fD,fI,fJ,Act.eval,fE,fF,fG,fH,fK];try rfl));(exact esS);(exact rsS);rfl;rfl;rfl;rfl;(intro _;rfl);rfl;(intro _;rfl);(refine frS ?_);apply Af7;rfl;rfl;rfl;(focus((conv=>lhs;whnf);try rfl));(focus((conv=>lhs;whnf);try rfl));(exact esS);(exact rsS);rfl;decide;rfl;(intro F w hS;exact AD7 hS (by exact r6));(focus(try rfl));rfl;(focus(unfold maxLen;omega));(focus(omega));(intro _;rfl);(intro _;rfl);(refine frS ?_);refine zcn ?_;refine cR ?_;(apply EZ7;rfl;rfl;rfl;rfl;(focus((conv=>lhs;whnf);try rfl));kernel_rfl;rfl;intro F w hS;exact hS.rowOne (by exact r6);(focus(simp));rfl;rfl;try(refine frS ?_));refine Ad7 ?_;intro w hS;have hS2:St W [G6 (nd 12) _ _ _ _,row (nd 13) 8 _ _ _,blk ob [v1,.slice b2 d.ss.length e2,nd 13,.slice b4 d.ar.length e4] 50,xtP _ Y,blk bO _ _,xeB _ _ _ _ _,xtP _ d.ts,sats (xrP v1 A::xrP (.slice z6 B.length y6) B::xrP (.slice a1 D.length c1) D::l6 D::xsP (.slice a2 d.ss.length c2) d.ss::xmP (.slice a4 d.ar.length c4) d.ar::xsP (.slice b2 d.ss.length e2) d.ss::xmP (.slice b4 d.ar.length e4) d.ar::R)] w:=hS;clear hS;have hS:=hS2.drop.unpack [_,_,_,_,_,_];clear hS2;simp only[jK,jN]at hS;generalize nd 13=v13 at *;go_wp2_with(first|go_big_skip);go_roundw
     case rel=>
      refine⟨i+1,v13,rfl,hin,?_⟩;rw[Hs1.out,Hs2.out];have h0:St W (row v13 8 40 (X.length+1) (X.flatMap tnC++tnC ((y1,y2),⟨t0,t1,t2,t3,t4,t5,t6,t7⟩))::_) w:=hS;exact(cQ4 h0).s _
     case measure=>simp[intOf];omega
    | false=>
     have hs1:=HU7 (p:=fun x:(Int×Int)×Tns=>inB f t x.2.ak) hin hb;have hs2:=FF7 (p:=fun x:(Int×Int)×Tns=>!inB f t x.2.ak) hin (by simp only[hb,Bool.not_false]);generalize ((d.ts.take i).filter fun x=>inB f t x.2.ak)=X at hS hs1 hla2;generalize ((d.ts.take i).filter fun x=>!inB f t x.2.ak)=Y at hS hs2 hlb2;generalize d.ts[i]=x at hcx hck hb hs2;obtain⟨⟨y1,y2⟩,⟨t0,t1,t2,t3,t4,t5,t6,t7⟩⟩:=x;simp only[tnC,Tns.cells]at hcx hck;have Hin:=jH hb;have Hs1:=jH hs1;have Hs2:=jH hs2;clear hb hs1 hs2 hi;go_wp2_with(first|go_big_skip|refine zl1 hS ?_);refine rt 10 hS ?_
     repeat(first|go_big_quiet_skip|apply Aj7;rfl;rfl;rfl;decide +kernel;exact hck (by exact i6);refine frS ?_|refine zqN ?_|refine zq1 ?_|refine zqn ?_|refine qR ?_)
     clear hS;intro w hS;simp only[jD,List.drop_zero];go_wp2_with fail;refine(LD7 Hin.out W _ _ hS).mono ?_;clear hS;rintro ex w ⟨rfl,hS⟩;go_wp2_with(first|go_big_skip|refine zlN hS ?_ (hc:=by exact hcx (by exact i6))|refine zl1 hS ?_|refine zbs hS ?_;clear hS;intro bS w hS|refine zap hS ?_ (h63:=by unfold maxLen;omega) (hb:=by omega);clear hS;intro v w hS);go_roundw
     case rel=>
      refine⟨i+1,v3,rfl,hin,?_⟩;rw[Hs1.out,Hs2.out];have h0:St W (row v 8 40 (Y.length+1) (Y.flatMap tnC++tnC ((y1,y2),⟨t0,t1,t2,t3,t4,t5,t6,t7⟩))::_) w:=hS;exact(cQ4 h0).s _
     case measure=>simp[intOf];omega
   have hd2:decide (i<d.ts.length)=false:=decide_eq_false hin;have hie:i=d.ts.length:=by omega
   rw[hie,List.take_length]at hS;clear hin hi hie;obtain⟨z7,y7,rfl⟩:=hS.rowVal;go_wp2_with(first|go_big_skip|refine zl1 hS ?_|refine zs1 hS ?_;clear hS;intro w hS);go_ret;have e1:k8 A=(inE d f t).vs:=by rw[<-HA.out,<-Cq7 D fun k=>inB f t k,Hd.out];rfl
   have e2':k8 B=(aS4 d f t).vs:=by rw[<-HB.out,<-Cq7 D fun k=>!inB f t k,Hd.out];rfl
   have hp:D.Perm (A++B):=by rw[<-HA.out,<-HB.out];exact GE7 _ D
   have h1:=eL4 (dY4 hp (hS.s (l6 D::xtP (.slice z7 _ y7) (d.ts.filter fun x=>!inB f t x.2.ak)::blk ob [v1,.slice b2 d.ss.length e2,v3,.slice b4 d.ar.length e4] 50::xtP v3 (d.ts.filter fun x=>inB f t x.2.ak)::xrP v1 A::xrP (.slice z6 B.length y6) B::xeB xb (.slice z6 B.length y6) (.slice a2 d.ss.length c2) (.slice z7 _ y7) (.slice a4 d.ar.length c4)::xsP (.slice a2 d.ss.length c2) d.ss::xmP (.slice a4 d.ar.length c4) d.ar::xsP (.slice b2 d.ss.length e2) d.ss::xmP (.slice b4 d.ar.length e4) d.ar::R)));have h2:St W (bU4 xb (.slice z6 B.length y6) (.slice a2 d.ss.length c2) (.slice z7 _ y7) (.slice a4 d.ar.length c4) B (aS4 d f t) (blk ob [v1,.slice b2 d.ss.length e2,v3,.slice b4 d.ar.length e4] 50::xtP v3 (d.ts.filter fun x=>inB f t x.2.ak)::xrP v1 A::l6 A::xsP (.slice b2 d.ss.length e2) d.ss::xmP (.slice b4 d.ar.length e4) d.ar::R)) w:=h1.s (xeB xb (.slice z6 B.length y6) (.slice a2 d.ss.length c2) (.slice z7 _ y7) (.slice a4 d.ar.length c4)::xrP (.slice z6 B.length y6) B::l6 B::xsP (.slice a2 d.ss.length c2) d.ss::xtP (.slice z7 _ y7) (d.ts.filter fun x=>!inB f t x.2.ak)::xmP (.slice a4 d.ar.length c4) d.ar::blk ob [v1,.slice b2 d.ss.length e2,v3,.slice b4 d.ar.length e4] 50::xtP v3 (d.ts.filter fun x=>inB f t x.2.ak)::xrP v1 A::l6 A::xsP (.slice b2 d.ss.length e2) d.ss::xmP (.slice b4 d.ar.length e4) d.ar::R);have h3:=J5 e2' h2;have h4:St W (bU4 ob v1 (.slice b2 d.ss.length e2) v3 (.slice b4 d.ar.length e4) A (inE d f t) (xU6 xb (aS4 d f t)::R)) w:=h3.s (blk ob [v1,.slice b2 d.ss.length e2,v3,.slice b4 d.ar.length e4] 50::xrP v1 A::l6 A::xsP (.slice b2 d.ss.length e2) d.ss::xtP v3 (d.ts.filter fun x=>inB f t x.2.ak)::xmP (.slice b4 d.ar.length e4) d.ar::xU6 xb (aS4 d f t)::R);exact⟨ob,rfl,(J5 e1 h4).swap⟩
def SqR(W:World)(L:List HP)(l:List (Int×(Int×Rpl)))(c:Int)(v:Value)(w:World):Prop:=
 ∃i:Nat,v=.I i/\i<=l.length/\i9 l c=i9 (l.drop i) c/\St W L w
def sqL(l:List (Int×(Int×Rpl)))(c:Int):Int:=((i9 l c).getD (0,rp0)).1
theorem Jt7(l:List (Int×(Int×Rpl)))(c:Int){r:Int}(hr:sqL l c=r)(xb:Nat)(v1 v2 v3 v4:Value)(W w:World)(R:List HP)(hS:St W (xeB xb v1 v2 v3 v4::xsP v2 l::R) w):
  Calls Tryz.prog 83 #[.P xb,.I c] w fun e w'=>e=.returned (.I r)/\St W (xeB xb v1 v2 v3 v4::xsP v2 l::R) w':=by
 obtain⟨a,cap,rfl⟩:=hS.drop.rowVal
 have h63:l.length<=9223372036854775807:=by
  rcases St.rowCase hS.drop with ⟨_,h0,_⟩|⟨_,_,h1,h2⟩
  ·omega
  ·omega
 have Hr:=jH hr;clear hr;go_enter Tryz.func83,Tryz.ntmps83;go_wp2_with fail
 go_loopw [5] (fun v wr=>SqR W (xeB xb v1 (.slice a l.length cap) v3 v4::xsP (.slice a l.length cap) l::R) l c v wr) (fun v _=>l.length-(intOf v).toNat)
 case atStart=>exact⟨0,rfl,Nat.zero_le _,rfl,hS⟩
 case round=>
  clear hS;obtain⟨i,rfl,hil,e1,hS⟩:=hrel;by_cases hin:i<l.length
  case neg=>
   have hie:i=l.length:=by omega
   have hd1:decide (i<l.length)=false:=decide_eq_false hin;have E1:=jH (show r=0 by rw[<-Hr.out,sqL,e1,hie,List.drop_length];rfl);clear e1 hie hin hil;go_wp2_with(first|refine zl1 hS ?_);go_ret;rw[E1.out];exact⟨rfl,hS⟩
  have hd1:decide (i<l.length)=true:=decide_eq_true hin;obtain⟨⟨g,rfl⟩,_,_⟩:=St.rowAddr hS.drop (by omega);have hca:∀{K K':List HP},Take K (xsP (.S g l.length cap) l) K'->i8 K g (i*8) (.I l[i].1):=fun hu=>i5.elemM (enc:=seC) AC7 hu hin 0 _ rfl
  have hcb:∀{K K':List HP},Take K (xsP (.S g l.length cap) l) K'->i8 K g (i*8+1) (.I l[i].2.1):=fun hu=>i5.elemM (enc:=seC) AC7 hu hin 1 _ rfl
  rw[List.drop_eq_getElem_cons hin,Bb7]at e1;generalize l[i]=x at hca hcb e1;obtain⟨xc,xq,xr⟩:=x;simp only at hca hcb e1;by_cases hx:xc=c
  ·rw[if_pos hx]at e1;have hq:(xc==c)=true:=by simpa using hx
   have E1:=jH (show r=xq by rw[<-Hr.out,sqL,e1];rfl);clear e1 hx;go_wp2_with(first|refine zl1 hS ?_ (hc:=by exact hca (by exact i6))|refine zl1 hS ?_ (hc:=by exact hcb (by exact i6))|refine zl1 hS ?_);go_ret;rw[E1.out];exact⟨rfl,hS⟩
  ·rw[if_neg hx]at e1;have hq:(xc==c)=false:=by simpa using hx
   have E1:=jH e1;clear e1 hx;go_wp2_with(first|refine zl1 hS ?_ (hc:=by exact hca (by exact i6))|refine zl1 hS ?_);go_roundw
   case rel=>exact⟨i+1,rfl,hin,E1.out,hS⟩
   case measure=>simp[intOf];omega
end Go.Proofs.YtlmhakmoioogaaaGreat
end
