/-
  What is under way, in order.
-/
import Derived.Test.YtlmhakmoioogaaaGreatEconWjM5
import Derived.Test.YtlmhakmoioogaaaGreatEconWjM9
import Derived.Test.YtlmhakmoioogaaaGreatEconWjM20
import Derived.Test.YtlmhakmoioogaaaGreatEconWjM27
import Derived.Test.YtlmhakmoioogaaaGreatEconWjM28
set_option maxHeartbeats 16000000
set_option maxRecDepth 100000
set_option linter.unusedSimpArgs false
set_option linter.unusedVariables false
section
namespace Go.Proofs.YtlmhakmoioogaaaGreat
open Go.RowKit Go.Sl
theorem Mo7(mb:Option Nat)(W w:World)(L:List HP)(hS:St W L w):
  Calls Tryz.prog 45 #[.map mb] w fun e w'=>∃g,e=.returned (.func (.func 110) #[] #[.pointer (jP g)])/\St W (blk g [.map mb] 81::L) w':=by
 go_enter Tryz.func45,Tryz.ntmps45;go_wp2_with(refine zbx hS ?_;clear hS;intro b w hS);go_ret
 exact⟨b,rfl,hS⟩
theorem IQ7:∀args w,(callFunc 110 args).run Tryz.prog w=.ok (.enter 110 args) w:=enters_of Tryz.func110 (by kernel_rfl) rfl
abbrev tn0:Tns:=⟨0,0,⟨#[]⟩,⟨#[]⟩,⟨#[]⟩,⟨#[]⟩,0,0⟩
theorem Kb7{ν:Type}{ts:List ((Int×Int)×ν)}{ks:List (Int×Int)}(z:ν)(hn:(ts.map (·.1)).Nodup)(hp:ks.Perm (ts.map (·.1)))(hs:ks.Pairwise fun x y=>ltW x y=true):
  ∃T:List ((Int×Int)×ν),T.map (·.1)=ks/\T.Perm ts/\Asc ltW T:=by
 have e1:(ks.map fun k=>(k,(i9 ts k).getD z)).map (·.1)=ks:=by rw[List.map_map];exact List.map_id ks
 refine⟨ks.map fun k=>(k,(i9 ts k).getD z),e1,?_,?_⟩
 ·have h1:=hp.map fun k=>(k,(i9 ts k).getD z)
  refine h1.trans ?_;rw[List.map_map]
  have h2:∀l':List ((Int×Int)×ν),(∀x∈l',x∈ts)->l'.map ((fun k=>(k,(i9 ts k).getD z))∘fun x=>x.1)=l':=by
   intro l'
   induction l' with
   | nil=>exact fun _=>rfl
   | cons x l' ih=>
    intro h;rw[List.map_cons,ih fun y hy=>h y (List.mem_cons_of_mem _ hy)];have hx:i9 ts x.1=some x.2:=AT7 hn (h x (List.mem_cons_self ..))
    show(x.1,(i9 ts x.1).getD z)::l'=_
    rw[hx];rfl
  rw[h2 ts fun x hx=>hx]
 ·unfold Asc
  exact List.pairwise_map.2 hs
theorem Kc7{ν:Type}{ev:ν->Value}{g b:Nat}{l:List ((Int×Int)×ν)}{W:World}{R:List HP}:
  ca4 Tryz.prog eWh (l.map (·.1)).length 110 #[.pointer (jP g)] (fun ss=>ss.Perm (l.map (·.1))) W (blk g [.map (some b)] 81::d8 eWh ev b l::R):=
 fun lp m X w hT hS=>PJ7 (by rw[jM]at hT;exact hT) hS
def tnC(x:(Int×Int)×Tns):List Value:=x.2.cells
theorem AQ7(x:(Int×Int)×Tns):(tnC x).length=8:=rfl
theorem DF7:∀l:List ((Int×Int)×Tns),(l.flatMap tnC).all (·.oneCell')=true
 | []=>rfl
 | x::l=>by rw[List.flatMap_cons,List.all_append,DF7 l];rfl
def TrR(W:World)(F:List HP)(T:List ((Int×Int)×Tns))(v3 v15:Value)(w:World):Prop:=
 ∃k:Nat,v15=.I k/\k<=T.length/\St W (row v3 8 40 k ((T.take k).flatMap tnC)::F) w
theorem Ee7{eb:Nat}{ec:Ec}(hl:ec.ts.length<=1000000000)(W w:World)(R:List HP)(hS:St W (ecP eb ec::R) w):
  Calls Tryz.prog 17 #[.pointer (jP eb)] w fun e w'=>∃v T,e=.returned v/\T.Perm ec.ts/\Asc ltW T/\St W (row v 8 40 T.length (T.flatMap tnC)::ecP eb ec::R) w':=by
 obtain⟨m1,m2,m3,m4,E,hp,hn,hS⟩:=M7 hS;have hS1:=B8 hS;clear hS;have hS:=hS1.s (ebB eb m1 m2 m3 m4::d8 eW eTn m3 ec.ts::d8 eS eN m1 (i7 E)::j8 E::d8 eI eSs m2 ec.ss::d8 eW eU m4 ec.ar::R);clear hS1;have hnt:=u6 hS.drop;have Hp:=jH hp;clear hp hn;go_enter Tryz.func17,Tryz.ntmps17;go_wp2_with(first|go_big_skip|(refine zl1 hS ?_)|(go_at_call 45;refine(Mo7 (some m3) W _ _ (hS.s (d8 eW eTn m3 ec.ts::ebB eb m1 m2 m3 m4::d8 eS eN m1 (i7 E)::j8 E::d8 eI eSs m2 ec.ss::d8 eW eU m4 ec.ar::R))).mono ?_;clear hS;rintro e w ⟨g,rfl,hS⟩)|(go_at_call 44;refine(dW4 hnt (by rw[jM];exact hl) Kc7 IQ7 hS).mono ?_;clear hS;rintro e w ⟨v,ks,rfl,hkp,hks,hS⟩;obtain⟨sa,sc,rfl⟩:=hS.rowVal));obtain⟨T,rfl,hT1,hT2⟩:=Kb7 tn0 hnt hkp hks;have hlk:(T.map (·.1)).length=T.length:=jM _;have Hk:=jH (show ∀(k:Nat) (h:k<T.length) (h2:k<(T.map (·.1)).length),(T.map (·.1))[k]=T[k].1 from fun k h h2=>List.getElem_map _);have hTl:T.length<=1000000000:=by rw[hT1.length_eq];exact hl
 have Hg:=jH (show ∀x∈T,i9 ec.ts x.1=some x.2 from fun x hx=>AT7 hnt (hT1.mem_iff.1 hx));generalize T.map (·.1)=ks at hS hlk Hk;have HT1:=jH hT1;have HT2:=jH hT2;have Hl:=jH hlk;clear hT1 hT2 hkp hks hl hnt;have hS1:=hS.rowNil (k:=8) (T:=40);clear hS;have hS:=hS1;clear hS1
 go_loopw [3,15] (fun v3 v15 wr=>TrR W (row (.slice sa ks.length sc) 2 94 ks.length (ks.flatMap whC)::blk g [.map (some m3)] 81::d8 eW eTn m3 ec.ts::ebB eb m1 m2 m3 m4::d8 eS eN m1 (i7 E)::j8 E::d8 eI eSs m2 ec.ss::d8 eW eU m4 ec.ar::R) T v3 v15 wr) (fun _ v15 _=>T.length-(intOf v15).toNat)
 case atStart=>exact⟨0,rfl,Nat.zero_le _,hS⟩
 case round=>
  clear hS;obtain⟨k,rfl,hkl,hS⟩:=hrel
  by_cases hkn:k=T.length
  ·rw[hkn,List.take_length]at hS;have hd1:decide (k<ks.length)=false:=by simp;omega
   clear hkl hkn hTl hlk;go_wp2_with(first|go_big_skip);go_ret
   exact⟨u3,T,rfl,HT1.out,HT2.out,(K6 Hp.out (hS.s (ebB eb m1 m2 m3 m4::d8 eS eN m1 (i7 E)::j8 E::d8 eI eSs m2 ec.ss::d8 eW eTn m3 ec.ts::d8 eW eU m4 ec.ar::row u3 8 _ _ _::R))).swap⟩
  ·have hk1:k<T.length:=by omega
   have hk2:k<ks.length:=by omega
   obtain⟨⟨gk,rfl⟩,_,_⟩:=St.rowAddr hS.drop (by omega);have hcells:∀{K K':List HP},Take K (row (.slice (jP gk) ks.length sc) 2 94 ks.length (ks.flatMap whC)) K'->i5 K gk (k*2) (whC ks[k]):=fun hu=>i5.elemM (enc:=whC) Ct7 hu hk2
   have hgt:=Hg.out _ (List.getElem_mem hk1);have hstep:(T.take (k+1)).flatMap tnC=(T.take k).flatMap tnC++tnC T[k]:=by rw[List.take_succ_eq_append_getElem hk1,List.flatMap_append];simp
   rw[Hk.out k hk1 hk2]at hcells;have Hstep:=jH hstep;have hd2:decide (k<ks.length)=true:=by simp;omega
   clear hstep hkn hkl hlk;generalize T[k]=x at hcells hgt Hstep;obtain⟨⟨c,q⟩,⟨t0,t1,t2,t3,t4,t5,t6,t7⟩⟩:=x;simp only[whC]at hcells;simp only at hgt;have hts:N9 false (eTn tn0) ((i9 ec.ts (c,q)).map eTn)=.agg #[.I t0,.I t1,.string t2,.string t3,.string t4,.string t5,.I t6,.I t7]:=by rw[hgt];rfl
   have Hts:=jH hts;clear hts hgt;generalize (T.take k).flatMap tnC=acc at hS Hstep;go_wp2_with(first|go_big_skip|(refine zlN hS ?_ (hc:=by exact hcells (by exact i6)))|(refine zal hS ?_;clear hS;intro b w hS)|(refine zsN hS ?_;clear hS;intro w hS));have hS1:=hS.s (row u3 8 _ _ _::d8 eW eTn m3 ec.ts::ebB eb m1 m2 m3 m4::blk b _ _::row (.slice (jP gk) ks.length sc) 2 _ _ _::blk g _ _::d8 eS eN m1 (i7 E)::j8 E::d8 eI eSs m2 ec.ss::d8 eW eU m4 ec.ar::R);clear hS;have hb9:k<=1000000000:=by omega
   refine rf2 [0,0,2,6,14,0,62,126,255,511] (fun i=>i==7||i==8) [⟨some 7,none,fun nd=>I7 (nd 7) 1 1 [.I t0,.I t1,.string t2,.string t3,.string t4,.string t5,.I t6,.I t7] 40⟩,⟨some 8,none,fun nd=>row (nd 8) 8 40 (k+1) (acc++[.I t0,.I t1,.string t2,.string t3,.string t4,.string t5,.I t6,.I t7])⟩] [some 8,none,none,none] hS1 ?_;clear hS1;intro nd
   iterate 2 (refine cR ?_)
   (refine zcn ?_);(refine cR ?_);(refine zc1 ?_);(refine zcN ?_);(apply AA7 (ek:=eW) (ev:=eTn) (k:=(c,q));rfl;kernel_rfl;rfl;rfl;rfl;rfl;(intro F;exact⟨_,by exact s7⟩);exact mT;exact kW;exact zT;exact Hts.out;(refine frS ?_));(apply O9;rfl;rfl;rfl;(focus(simp only[fD,fI,fJ,Act.eval,fE,fF,fG,fH,fK];try rfl));(exact esS);(exact rsS);rfl;rfl;rfl;rfl;(intro _;rfl);rfl;(intro _;rfl);(refine frS ?_));(apply Af7;rfl;rfl;rfl;(focus((conv=>lhs;whnf);try rfl));(focus((conv=>lhs;whnf);try rfl));(exact esS);(exact rsS);rfl;decide;rfl;(intro F w hS;exact AH7 hS (by exact s7));(focus(try rfl));rfl;(focus(unfold maxLen;omega));(focus(omega));(intro _;rfl);(intro _;rfl);(refine frS ?_));(refine cR ?_);refine Ad7 ?_;intro w hS;have hS2:St W [I7 (nd 7) _ _ _ _,row (nd 8) 8 _ _ _,d8 eW eTn m3 ec.ts,ebB eb m1 m2 m3 m4,blk b _ _,sats (row (.slice (jP gk) ks.length sc) 2 94 ks.length (ks.flatMap whC)::blk g [.map (some m3)] 81::d8 eS eN m1 (i7 E)::j8 E::d8 eI eSs m2 ec.ss::d8 eW eU m4 ec.ar::R)] w:=hS;clear hS;have hS:=hS2.unpack [_,_,_,_,_];clear hS2;simp only[List.cons_append,List.nil_append]at hS;generalize nd 8=v8 at *;replace hS:=hS.drop;go_wp2_with fail
   go_roundw
   case rel=>
    have hS2:=hS.s (row v8 8 _ _ _::row (.slice (jP gk) ks.length sc) 2 _ _ _::blk g _ _::d8 eW eTn m3 ec.ts::ebB eb m1 m2 m3 m4::d8 eS eN m1 (i7 E)::j8 E::d8 eI eSs m2 ec.ss::d8 eW eU m4 ec.ar::R)
    exact⟨k+1,rfl,by omega,by rw[Hstep.out];exact hS2⟩
   case measure=>simp[intOf];omega
theorem dF4(k:ByteArray)(W w:World)(R:List HP)(hS:St W R w):
  Calls Tryz.prog 115 #[.string k] w fun e w'=>e=.returned (.bool (B7 k))/\St W R w':=by
 go_enter Tryz.func115,Tryz.ntmps115
 by_cases h1:k.size<1
 ·have e:B7 k=false:=by unfold B7;simp;omega
  have d1:decide ((1:Int)<=(k.size:Int))=false:=by simp;omega
  rw[e];go_wp2_with(fail);go_ret
  exact⟨rfl,hS⟩
 ·have d1:(1:Int)<=(k.size:Int):=by omega
  by_cases h2:k.size<=16
  ·have e:B7 k=true:=by unfold B7;simp;omega
   have d2:(k.size:Int)<=16:=by omega
   rw[e];go_wp2_with(fail);go_ret
   exact⟨rfl,hS⟩
  ·have e:B7 k=false:=by unfold B7;simp;omega
   have d2:decide ((k.size:Int)<=16)=false:=by simp;omega
   rw[e];go_wp2_with(fail);go_ret
   exact⟨rfl,hS⟩
theorem is8(i:It)(W w:World)(R:List HP)(hS:St W R w):
  Calls Tryz.prog 116 #[.agg i.cells.toArray] w fun e w'=>e=.returned (.bool (s8 i))/\St W R w':=by
 obtain⟨x0,x1,x2,x3⟩:=i;simp only[It.cells];go_enter Tryz.func116,Tryz.ntmps116;go_wp2_with(first|(refine zbx hS ?_;clear hS;intro b w hS))
 go_loopw [3] (fun v wr=>IsR W (blk b [.I x0,.I x1,.I x2,.I x3] 29::R) ⟨x0,x1,x2,x3⟩ v wr) (fun v _=>4-(intOf v).toNat)
 case atStart=>exact⟨hS,.inl rfl⟩
 case round=>
  clear hS;obtain⟨hS,hk⟩:=hrel;simp only at hk
  rcases hk with rfl|⟨rfl,q0⟩|⟨rfl,q0,q1⟩|⟨rfl,q0,q1,q2⟩|⟨rfl,q0,q1,q2,q3⟩
  ·skip
   by_cases h1:x0<0
   ·have hx:=CT7 h1;go_wp2_with(first|(refine zl1 hS ?_));go_ret;refine⟨by simp only[s8,hx,Bool.false_and,Bool.and_false,hx];rfl,hS.drop⟩
   ·have d1:decide (x0<0)=false:=by simpa using h1
    by_cases h2:1152921504606846976<x0
    ·have hx:=Cf7 h2;go_wp2_with(first|(refine zl1 hS ?_));go_ret;refine⟨by simp only[s8,hx,Bool.false_and,Bool.and_false,hx];rfl,hS.drop⟩
    ·have d2:decide (1152921504606846976<x0)=false:=by simpa using h2
     have hx:inH x0=true:=BK7.2 ⟨by omega,by omega⟩;clear h1 h2;go_wp2_with(first|(refine zl1 hS ?_))
     go_roundw
     case rel=>exact⟨hS,.inr (.inl ⟨rfl,hx⟩)⟩
     case measure=>simp[intOf]
  ·skip
   by_cases h1:x1<0
   ·have hx:=CT7 h1;go_wp2_with(first|(refine zl1 hS ?_));go_ret;refine⟨by simp only[s8,hx,Bool.false_and,Bool.and_false,q0];rfl,hS.drop⟩
   ·have d1:decide (x1<0)=false:=by simpa using h1
    by_cases h2:1152921504606846976<x1
    ·have hx:=Cf7 h2;go_wp2_with(first|(refine zl1 hS ?_));go_ret;refine⟨by simp only[s8,hx,Bool.false_and,Bool.and_false,q0];rfl,hS.drop⟩
    ·have d2:decide (1152921504606846976<x1)=false:=by simpa using h2
     have hx:inH x1=true:=BK7.2 ⟨by omega,by omega⟩;clear h1 h2;go_wp2_with(first|(refine zl1 hS ?_))
     go_roundw
     case rel=>exact⟨hS,.inr (.inr (.inl ⟨rfl,q0,hx⟩))⟩
     case measure=>simp[intOf]
  ·skip
   by_cases h1:x2<0
   ·have hx:=CT7 h1;go_wp2_with(first|(refine zl1 hS ?_));go_ret;refine⟨by simp only[s8,hx,Bool.false_and,Bool.and_false,q0];rfl,hS.drop⟩
   ·have d1:decide (x2<0)=false:=by simpa using h1
    by_cases h2:1152921504606846976<x2
    ·have hx:=Cf7 h2;go_wp2_with(first|(refine zl1 hS ?_));go_ret;refine⟨by simp only[s8,hx,Bool.false_and,Bool.and_false,q0];rfl,hS.drop⟩
    ·have d2:decide (1152921504606846976<x2)=false:=by simpa using h2
     have hx:inH x2=true:=BK7.2 ⟨by omega,by omega⟩;clear h1 h2;go_wp2_with(first|(refine zl1 hS ?_))
     go_roundw
     case rel=>exact⟨hS,.inr (.inr (.inr (.inl ⟨rfl,q0,q1,hx⟩)))⟩
     case measure=>simp[intOf]
  ·skip
   by_cases h1:x3<0
   ·have hx:=CT7 h1;go_wp2_with(first|(refine zl1 hS ?_));go_ret;refine⟨by simp only[s8,hx,Bool.false_and,Bool.and_false,q0];rfl,hS.drop⟩
   ·have d1:decide (x3<0)=false:=by simpa using h1
    by_cases h2:1152921504606846976<x3
    ·have hx:=Cf7 h2;go_wp2_with(first|(refine zl1 hS ?_));go_ret;refine⟨by simp only[s8,hx,Bool.false_and,Bool.and_false,q0];rfl,hS.drop⟩
    ·have d2:decide (1152921504606846976<x3)=false:=by simpa using h2
     have hx:inH x3=true:=BK7.2 ⟨by omega,by omega⟩;clear h1 h2;go_wp2_with(first|(refine zl1 hS ?_))
     go_roundw
     case rel=>exact⟨hS,.inr (.inr (.inr (.inr ⟨rfl,q0,q1,q2,hx⟩)))⟩
     case measure=>simp[intOf]
  ·go_wp2_with(fail);go_ret;refine⟨by simp only[s8,q0,q1,q2,q3];rfl,hS.drop⟩
theorem CB7(x0 x1 x2 x3:Int)(W w:World)(R:List HP)(hS:St W R w):
  Calls Tryz.prog 116 #[.agg #[.I x0,.I x1,.I x2,.I x3]] w fun e w'=>e=.returned (.bool (s8 ⟨x0,x1,x2,x3⟩))/\St W R w':=is8 ⟨x0,x1,x2,x3⟩ W w R hS
theorem fj4(x0 x1 x2 x3 y0 y1 y2 y3:Int)(W w:World)(R:List HP)(hS:St W R w):
  Calls Tryz.prog 226 #[.agg #[.I x0,.I x1,.I x2,.I x3],.agg #[.I y0,.I y1,.I y2,.I y3]] w fun e w'=>e=.returned (.bool (M9 ⟨x0,x1,x2,x3⟩ ⟨y0,y1,y2,y3⟩))/\St W R w':=by
 go_enter Tryz.func226,Tryz.ntmps226;go_wp2_with(first|((fail_if_success (have:=bA));(with_reducible apply AE7 hS);rfl;rfl;rfl;rfl;clear hS;intro bA w hS;(refine frS ?_))|((have:=bA);(with_reducible apply AE7 hS);rfl;rfl;rfl;rfl;clear hS;intro bB w hS;(refine frS ?_)))
 go_loopw [5] (fun v wr=>LsR W (blk bB [.I y0,.I y1,.I y2,.I y3] 29::blk bA [.I x0,.I x1,.I x2,.I x3] 29::R) ⟨x0,x1,x2,x3⟩ ⟨y0,y1,y2,y3⟩ v wr) (fun v _=>4-(intOf v).toNat)
 case atStart=>exact⟨hS,.inl rfl⟩
 case round=>
  clear hS;obtain⟨hS,hk⟩:=hrel;simp only at hk
  rcases hk with rfl|⟨rfl,q0⟩|⟨rfl,q0,q1⟩|⟨rfl,q0,q1,q2⟩|⟨rfl,q0,q1,q2,q3⟩
  ·skip
   by_cases h1:x0<y0
   ·have hx:decide (x0<y0)=true:=by simpa using h1
    go_wp2_with(fail);refine Aa7 (by kernel_rfl) (by kernel_rfl) hS ?_
    iterate 2 (refine qR ?_)
    (refine zq1 ?_)
    iterate 2 (refine qR ?_)
    (refine zq1 ?_);(refine qR ?_);clear hS;intro w hS;go_wp2_with(fail);go_ret;refine⟨by simp only[M9,hx,Bool.true_or,Bool.or_true];rfl,hS.drop.drop⟩
   ·have hx:decide (x0<y0)=false:=by simpa using h1
    clear h1;go_wp2_with(fail);refine Aa7 (by kernel_rfl) (by kernel_rfl) hS ?_
    iterate 2 (refine qR ?_)
    (refine zq1 ?_)
    iterate 2 (refine qR ?_)
    (refine zq1 ?_);(refine qR ?_);clear hS;intro w hS;go_wp2_with(fail)
    go_roundw
    case rel=>exact⟨hS,.inr (.inl ⟨rfl,hx⟩)⟩
    case measure=>simp[intOf]
  ·skip
   by_cases h1:x1<y1
   ·have hx:decide (x1<y1)=true:=by simpa using h1
    go_wp2_with(fail);refine Aa7 (by kernel_rfl) (by kernel_rfl) hS ?_
    iterate 2 (refine qR ?_)
    (refine zq1 ?_)
    iterate 2 (refine qR ?_)
    (refine zq1 ?_);(refine qR ?_);clear hS;intro w hS;go_wp2_with(fail);go_ret;refine⟨by simp only[M9,hx,Bool.true_or,Bool.or_true];rfl,hS.drop.drop⟩
   ·have hx:decide (x1<y1)=false:=by simpa using h1
    clear h1;go_wp2_with(fail);refine Aa7 (by kernel_rfl) (by kernel_rfl) hS ?_
    iterate 2 (refine qR ?_)
    (refine zq1 ?_)
    iterate 2 (refine qR ?_)
    (refine zq1 ?_);(refine qR ?_);clear hS;intro w hS;go_wp2_with(fail)
    go_roundw
    case rel=>exact⟨hS,.inr (.inr (.inl ⟨rfl,q0,hx⟩))⟩
    case measure=>simp[intOf]
  ·skip
   by_cases h1:x2<y2
   ·have hx:decide (x2<y2)=true:=by simpa using h1
    go_wp2_with(fail);refine Aa7 (by kernel_rfl) (by kernel_rfl) hS ?_
    iterate 2 (refine qR ?_)
    (refine zq1 ?_)
    iterate 2 (refine qR ?_)
    (refine zq1 ?_);(refine qR ?_);clear hS;intro w hS;go_wp2_with(fail);go_ret;refine⟨by simp only[M9,hx,Bool.true_or,Bool.or_true];rfl,hS.drop.drop⟩
   ·have hx:decide (x2<y2)=false:=by simpa using h1
    clear h1;go_wp2_with(fail);refine Aa7 (by kernel_rfl) (by kernel_rfl) hS ?_
    iterate 2 (refine qR ?_)
    (refine zq1 ?_)
    iterate 2 (refine qR ?_)
    (refine zq1 ?_);(refine qR ?_);clear hS;intro w hS;go_wp2_with(fail)
    go_roundw
    case rel=>exact⟨hS,.inr (.inr (.inr (.inl ⟨rfl,q0,q1,hx⟩)))⟩
    case measure=>simp[intOf]
  ·skip
   by_cases h1:x3<y3
   ·have hx:decide (x3<y3)=true:=by simpa using h1
    go_wp2_with(fail);refine Aa7 (by kernel_rfl) (by kernel_rfl) hS ?_
    iterate 2 (refine qR ?_)
    (refine zq1 ?_)
    iterate 2 (refine qR ?_)
    (refine zq1 ?_);(refine qR ?_);clear hS;intro w hS;go_wp2_with(fail);go_ret;refine⟨by simp only[M9,hx,Bool.true_or,Bool.or_true];rfl,hS.drop.drop⟩
   ·have hx:decide (x3<y3)=false:=by simpa using h1
    clear h1;go_wp2_with(fail);refine Aa7 (by kernel_rfl) (by kernel_rfl) hS ?_
    iterate 2 (refine qR ?_)
    (refine zq1 ?_)
    iterate 2 (refine qR ?_)
    (refine zq1 ?_);(refine qR ?_);clear hS;intro w hS;go_wp2_with(fail)
    go_roundw
    case rel=>exact⟨hS,.inr (.inr (.inr (.inr ⟨rfl,q0,q1,q2,hx⟩)))⟩
    case measure=>simp[intOf]
  ·go_wp2_with(fail);go_ret;refine⟨by simp only[M9,q0,q1,q2,q3];rfl,hS.drop.drop⟩
theorem gl4(i j:It)(W w:World)(R:List HP)(hS:St W R w):
  Calls Tryz.prog 181 #[.agg i.cells.toArray,.agg j.cells.toArray] w fun e w'=>e=.returned (.tuple #[.agg (ck4 i j).cells.toArray,.bool (J5 i j)])/\St W R w':=by
 obtain⟨x0,x1,x2,x3⟩:=i;obtain⟨y0,y1,y2,y3⟩:=j
 cases hi:s8 ⟨x0,x1,x2,x3⟩with
 | false=>
  have e:J5 ⟨x0,x1,x2,x3⟩ ⟨y0,y1,y2,y3⟩=false:=by unfold J5;rw[hi];rfl
  unfold ck4;rw[e];simp only[It.cells];go_enter Tryz.func181,Tryz.ntmps181;go_wp2_with(first|go_big_skip|(go_at_call 116;refine(CB7 _ _ _ _ W _ _ hS).mono ?_;clear hS;(try rw[hi]);(try rw[hj]);rintro e w ⟨rfl,hS⟩)|((fail_if_success (have:=bA));(with_reducible apply AE7 hS);rfl;rfl;rfl;rfl;clear hS;intro bA w hS;(refine frS ?_))|((have:=bA);(with_reducible apply AE7 hS);rfl;rfl;rfl;rfl;clear hS;intro bB w hS;(refine frS ?_))|(refine zlN hS ?_)|(refine zsN hS ?_;clear hS;intro w hS)|((with_reducible apply Al7 hS);rfl;rfl;(exact zsS);clear hS;intro b w hS;(refine frS ?_)));(apply Ac7;rfl;rfl;rfl;rfl;exact hS;decide +kernel;(exact n9);kernel_rfl)
  exact⟨rfl,hS.drop.drop.drop⟩
 | true=>
  cases hj:s8 ⟨y0,y1,y2,y3⟩with
  | false=>
   have e:J5 ⟨x0,x1,x2,x3⟩ ⟨y0,y1,y2,y3⟩=false:=by unfold J5;rw[hi,hj];rfl
   unfold ck4;rw[e];simp only[It.cells];go_enter Tryz.func181,Tryz.ntmps181;go_wp2_with(first|go_big_skip|(go_at_call 116;refine(CB7 _ _ _ _ W _ _ hS).mono ?_;clear hS;(try rw[hi]);(try rw[hj]);rintro e w ⟨rfl,hS⟩)|((fail_if_success (have:=bA));(with_reducible apply AE7 hS);rfl;rfl;rfl;rfl;clear hS;intro bA w hS;(refine frS ?_))|((have:=bA);(with_reducible apply AE7 hS);rfl;rfl;rfl;rfl;clear hS;intro bB w hS;(refine frS ?_))|(refine zlN hS ?_)|(refine zsN hS ?_;clear hS;intro w hS)|((with_reducible apply Al7 hS);rfl;rfl;(exact zsS);clear hS;intro b w hS;(refine frS ?_)));(apply Ac7;rfl;rfl;rfl;rfl;exact hS;decide +kernel;(exact n9);kernel_rfl)
   exact⟨rfl,hS.drop.drop.drop⟩
  | true=>
   cases hl:M9 ⟨x0,x1,x2,x3⟩ ⟨y0,y1,y2,y3⟩with
   | true=>
    have e:J5 ⟨x0,x1,x2,x3⟩ ⟨y0,y1,y2,y3⟩=false:=by unfold J5;rw[hi,hj,hl];rfl
    unfold ck4;rw[e];simp only[It.cells];go_enter Tryz.func181,Tryz.ntmps181;go_wp2_with(first|(go_at_call 116;refine(CB7 _ _ _ _ W _ _ hS).mono ?_;clear hS;(try rw[hi]);(try rw[hj]);rintro e w ⟨rfl,hS⟩)|(go_at_call 226;refine(fj4 _ _ _ _ _ _ _ _ W _ _ hS).mono ?_;clear hS;rw[hl];rintro e w ⟨rfl,hS⟩)|((fail_if_success (have:=bA));(with_reducible apply AE7 hS);rfl;rfl;rfl;rfl;clear hS;intro bA w hS;(refine frS ?_))|((have:=bA);(with_reducible apply AE7 hS);rfl;rfl;rfl;rfl;clear hS;intro bB w hS;(refine frS ?_))|(refine zlN hS ?_)|(refine zsN hS ?_;clear hS;intro w hS)|((with_reducible apply Al7 hS);rfl;rfl;(exact zsS);clear hS;intro b w hS;(refine frS ?_)));(apply Ac7;rfl;rfl;rfl;rfl;exact hS;decide +kernel;(exact n9);kernel_rfl)
    exact⟨rfl,hS.drop.drop.drop⟩
   | false=>
    have e:J5 ⟨x0,x1,x2,x3⟩ ⟨y0,y1,y2,y3⟩=true:=by unfold J5;rw[hi,hj,hl];rfl
    obtain⟨a0,a1,a2,a3⟩:=Ah7.1 hi;obtain⟨b0,b1,b2,b3⟩:=Ah7.1 hj;simp only at a0 a1 a2 a3 b0 b1 b2 b3;unfold ck4;rw[e,if_pos rfl];simp only[It.cells];go_enter Tryz.func181,Tryz.ntmps181;go_wp2_with(first|(go_at_call 116;refine(CB7 _ _ _ _ W _ _ hS).mono ?_;clear hS;(try rw[hi]);(try rw[hj]);rintro e w ⟨rfl,hS⟩)|(go_at_call 226;refine(fj4 _ _ _ _ _ _ _ _ W _ _ hS).mono ?_;clear hS;rw[hl];rintro e w ⟨rfl,hS⟩)|((fail_if_success (have:=bA));(with_reducible apply AE7 hS);rfl;rfl;rfl;rfl;clear hS;intro bA w hS;(refine frS ?_))|((have:=bA);(with_reducible apply AE7 hS);rfl;rfl;rfl;rfl;clear hS;intro bB w hS;(refine frS ?_))|(refine zlN hS ?_)|((with_reducible apply Al7 hS);rfl;rfl;(exact zsS);clear hS;intro b w hS;(refine frS ?_)))
    go_loopw [6] (fun v wr=>Sb4 W (fun q=>[blk b [.I 0,.I 0,.I 0,.I 0] 29,blk bB [.I y0,.I y1,.I y2,.I y3] 29,blk bA [.I q.x0,.I q.x1,.I q.x2,.I q.x3] 29]++R) ⟨x0,x1,x2,x3⟩ ⟨y0,y1,y2,y3⟩ v wr) (fun v _=>4-(intOf v).toNat)
    case atStart=>exact .inl ⟨rfl,hS⟩
    case round=>
     clear hS hi hj hl;simp only[Sb4,bC4,List.cons_append,List.nil_append]at hrel
     rcases hrel with ⟨rfl,hS⟩|⟨rfl,hS⟩|⟨rfl,hS⟩|⟨rfl,hS⟩|⟨rfl,hS⟩
     ·skip
      go_wp2_with(fail);refine rt 9 hS ?_
      iterate 3 (refine qR ?_)
      (refine zq1 ?_)
      iterate 2 (refine qR ?_)
      (refine zq1 ?_)
      iterate 2 (refine qR ?_)
      clear hS;intro w hS;simp only[List.drop_succ_cons,List.drop_zero];go_wp2_with(first|(refine zs1 hS ?_;clear hS;intro w hS))
      go_roundw
      case rel=>exact .inr (.inl ⟨rfl,hS⟩)
      case measure=>simp[intOf]
     ·skip
      go_wp2_with(fail);refine rt 9 hS ?_
      iterate 3 (refine qR ?_)
      (refine zq1 ?_)
      iterate 2 (refine qR ?_)
      (refine zq1 ?_)
      iterate 2 (refine qR ?_)
      clear hS;intro w hS;simp only[List.drop_succ_cons,List.drop_zero];go_wp2_with(first|(refine zs1 hS ?_;clear hS;intro w hS))
      go_roundw
      case rel=>exact .inr (.inr (.inl ⟨rfl,hS⟩))
      case measure=>simp[intOf]
     ·skip
      go_wp2_with(fail);refine rt 9 hS ?_
      iterate 3 (refine qR ?_)
      (refine zq1 ?_)
      iterate 2 (refine qR ?_)
      (refine zq1 ?_)
      iterate 2 (refine qR ?_)
      clear hS;intro w hS;simp only[List.drop_succ_cons,List.drop_zero];go_wp2_with(first|(refine zs1 hS ?_;clear hS;intro w hS))
      go_roundw
      case rel=>exact .inr (.inr (.inr (.inl ⟨rfl,hS⟩)))
      case measure=>simp[intOf]
     ·skip
      go_wp2_with(fail);refine rt 9 hS ?_
      iterate 3 (refine qR ?_)
      (refine zq1 ?_)
      iterate 2 (refine qR ?_)
      (refine zq1 ?_)
      iterate 2 (refine qR ?_)
      clear hS;intro w hS;simp only[List.drop_succ_cons,List.drop_zero];go_wp2_with(first|(refine zs1 hS ?_;clear hS;intro w hS))
      go_roundw
      case rel=>exact .inr (.inr (.inr (.inr ⟨rfl,hS⟩)))
      case measure=>simp[intOf]
     ·go_wp2_with(first|(refine zlN hS ?_)|(refine zsN hS ?_;clear hS;intro w hS));(apply Ac7;rfl;rfl;rfl;rfl;exact hS;decide +kernel;(exact n9);kernel_rfl)
      exact⟨rfl,hS.drop.drop.drop⟩
theorem fF4(o:Ord)(hm:MayP o)(W w:World)(R:List HP)(hS:St W R w):
  Calls Tryz.prog 183 #[.agg o.cells.toArray] w fun e w'=>e=.returned (.agg (j9 o).cells.toArray)/\St W R w':=by
 have h1:=hm.item0;have h2:=hm.item1;have h3:=Ci7 (by have:=hm.cnt0;omega) hm.cnt1 (by have:=hm.price0;omega) hm.price1;obtain⟨i,u,y,t,c,pr⟩:=o;simp only at h1 h2 h3;clear hm
 cases y with
 | true=>
  have e:j9 ⟨i,u,true,t,c,pr⟩=⟨c*pr,0,0,0⟩:=rfl;rw[e];simp only[Ord.cells,It.cells];have h4:c*pr<=9223372036854775807:=by omega
  have h5 : -9223372036854775808<=c*pr:=by omega
  clear e h1 h2;go_enter Tryz.func183,Tryz.ntmps183;go_wp2_with(first|(refine zl1 hS ?_)|(refine zlN hS ?_)|(refine zs1 hS ?_;clear hS;intro w hS)|(refine zsN hS ?_;clear hS;intro w hS)|(refine zbx hS ?_;clear hS;intro b w hS)|(refine zal hS ?_;clear hS;intro b w hS));(apply As7;rfl;rfl;rfl;exact hS;decide +kernel;(exact n9);kernel_rfl)
  exact⟨rfl,hS.s _⟩
 | false=>
  have ht:t=1\/t=2\/t=3:=by omega
  rcases ht with rfl|rfl|rfl
  ·have e:j9 ⟨i,u,false,1,c,pr⟩=⟨0,c,0,0⟩:=rfl;rw[e];simp only[Ord.cells,It.cells];clear e h1 h2 h3;go_enter Tryz.func183,Tryz.ntmps183;go_wp2_with(first|(refine zl1 hS ?_)|(refine zlN hS ?_)|(refine zs1 hS ?_;clear hS;intro w hS)|(refine zsN hS ?_;clear hS;intro w hS)|(refine zbx hS ?_;clear hS;intro b w hS)|(refine zal hS ?_;clear hS;intro b w hS));(apply As7;rfl;rfl;rfl;exact hS;decide +kernel;(exact n9);kernel_rfl)
   exact⟨rfl,hS.s _⟩
  ·have e:j9 ⟨i,u,false,2,c,pr⟩=⟨0,0,c,0⟩:=rfl;rw[e];simp only[Ord.cells,It.cells];clear e h1 h2 h3;go_enter Tryz.func183,Tryz.ntmps183;go_wp2_with(first|(refine zl1 hS ?_)|(refine zlN hS ?_)|(refine zs1 hS ?_;clear hS;intro w hS)|(refine zsN hS ?_;clear hS;intro w hS)|(refine zbx hS ?_;clear hS;intro b w hS)|(refine zal hS ?_;clear hS;intro b w hS));(apply As7;rfl;rfl;rfl;exact hS;decide +kernel;(exact n9);kernel_rfl)
   exact⟨rfl,hS.s _⟩
  ·have e:j9 ⟨i,u,false,3,c,pr⟩=⟨0,0,0,c⟩:=rfl;rw[e];simp only[Ord.cells,It.cells];clear e h1 h2 h3;go_enter Tryz.func183,Tryz.ntmps183;go_wp2_with(first|(refine zl1 hS ?_)|(refine zlN hS ?_)|(refine zs1 hS ?_;clear hS;intro w hS)|(refine zsN hS ?_;clear hS;intro w hS)|(refine zbx hS ?_;clear hS;intro b w hS)|(refine zal hS ?_;clear hS;intro b w hS));(apply As7;rfl;rfl;rfl;exact hS;decide +kernel;(exact n9);kernel_rfl)
   exact⟨rfl,hS.s _⟩
def spI:List Hd->ByteArray->Nat
 | [],_=>0
 | h::H,k=>if Op.bytesLess h.who.toList k.toList=true then spI H k+1 else 0
def spB:List Hd->ByteArray->Bool
 | [],_=>false
 | h::H,k=>if Op.bytesLess h.who.toList k.toList=true then spB H k else h.who.toList==k.toList
theorem QQ7:∀(H:List Hd) (k:ByteArray),spI H k<=H.length
 | [],_=>Nat.le_refl _
 | h::H,k=>by
  have:=QQ7 H k;rw[spI,jC]
  split <;> omega
theorem Od7:∀(H:List Hd) (k:ByteArray),spB H k=true->spI H k<H.length
 | [],_,h=>by cases h
 | x::H,k,h=>by
  rw[spB]at h;rw[spI,jC]
  split
  ·rename_i hc
   rw[if_pos hc]at h;have:=Od7 H k h;omega
  ·omega
abbrev xvL(xb:Nat)(v vB:Value)(n:Int)(H:List Hd)(R:List HP):List HP:=blk xb [v,vB,.I n] 246::hdR v H::R
def SpR(W:World)(L:List HP)(H:List Hd)(k:ByteArray)(v:Value)(w:World):Prop:=
 ∃i:Nat,v=.I i/\i<=H.length/\spI H k=i+spI (H.drop i) k/\spB H k=spB (H.drop i) k/\St W L w
theorem Oe7(H:List Hd)(k:ByteArray)(xb:Nat)(v vB:Value)(n:Int)(W w:World)(R:List HP)(hS:St W (xvL xb v vB n H R) w):
  Calls Tryz.prog 180 #[.pointer (jP xb),.string k] w fun e w'=>e=.returned (.tuple #[.I (spI H k),.bool (spB H k)])/\St W (xvL xb v vB n H R) w':=by
 obtain⟨a,cap,rfl⟩:=hS.drop.rowVal
 have h63:H.length<=9223372036854775807:=by
  rcases St.rowCase hS.drop with ⟨_,h0,_⟩|⟨_,_,h1,h2⟩
  ·omega
  ·omega
 go_enter Tryz.func180,Tryz.ntmps180;go_wp2_with fail
 go_loopw [6] (fun v wr=>SpR W (xvL xb (.slice a H.length cap) vB n H R) H k v wr) (fun v _=>H.length-(intOf v).toNat)
 case atStart=>exact⟨0,rfl,Nat.zero_le _,by simp,rfl,hS⟩
 case round=>
  clear hS;obtain⟨i,rfl,hil,e1,e2,hS⟩:=hrel
  by_cases hin:i=H.length
  ·subst hin;rw[List.drop_length]at e1 e2;have E1:=jH (show spI H k=H.length from e1);have E2:=jH (show spB H k=false from e2);clear e1 e2;go_wp2_with(first|go_big_skip|(refine zl1 hS ?_));go_ret2;rw[E1.out,E2.out]
   exact⟨rfl,hS⟩
  ·have hi1:i<H.length:=by omega
   obtain⟨⟨g,rfl⟩,_,_⟩:=St.rowAddr hS.drop (by omega);have hname:∀{K K':List HP},Take K (hdR (.slice (jP g) H.length cap) H) K'->i8 K g (i*5) (.string H[i].who):=fun hu=>i5.elemM (enc:=Hd.cells) Hd.len hu hi1 0 _ rfl
   have hdr:H.drop i=H[i]::H.drop (i+1):=List.drop_eq_getElem_cons hi1;rw[hdr]at e1 e2;generalize H[i]=x at hname e1 e2;obtain⟨xw,xi⟩:=x;simp only at hname;rw[spI]at e1;rw[spB]at e2;simp only at e1 e2;clear hdr
   cases hb:Op.bytesLess xw.toList k.toList with
   | true=>
    rw[if_pos hb]at e1 e2;have E1:=jH e1;have E2:=jH e2;clear e1 e2;go_wp2_with(first|go_big_skip|(refine zl1 hS ?_)|(refine zl1 hS ?_ (hc:=by exact hname (by exact i6))))
    go_roundw
    case rel=>exact⟨i+1,rfl,hi1,by rw[E1.out];omega,E2.out,hS⟩
    case measure=>simp[intOf];omega
   | false=>
    rw[if_neg (by rw[hb];simp)]at e1 e2;have E1:=jH (show spI H k=i from e1);have E2:=jH e2;clear e1 e2;go_wp2_with(first|go_big_skip|(refine zl1 hS ?_)|(refine zl1 hS ?_ (hc:=by exact hname (by exact i6))));refine Aa7 (by kernel_rfl) (by kernel_rfl) hS ?_
    iterate 2 (refine qR ?_)
    (refine zqn ?_);(refine qR ?_);(refine zq1 ?_)
    iterate 3 (refine qR ?_)
    (apply Ak7;rfl;rfl;rfl;decide +kernel;(exact hname (by exact i6));(refine frS ?_))
    iterate 4 (refine qR ?_)
    clear hS;intro w hS;go_wp2_with fail;go_ret2;rw[E1.out,E2.out]
    exact⟨rfl,hS⟩
theorem Db7{H:List Hd}{k:ByteArray}{p:Nat}{b:Bool}(h1:spI H k=p)(h2:spB H k=b)(xb:Nat)(v vB:Value)(n:Int)(W w:World)(R:List HP)(hS:St W (xvL xb v vB n H R) w):
  Calls Tryz.prog 180 #[.pointer (jP xb),.string k] w fun e w'=>e=.returned (.tuple #[.I p,.bool b])/\St W (xvL xb v vB n H R) w':=
 (Oe7 H k xb v vB n W w R hS).mono fun e w' ⟨he,hS⟩=>⟨by rw[he,h1,h2],hS⟩
def eP4(H:List Hd)(k:ByteArray):It:=if spB H k=true then(H.getD (spI H k) ⟨⟨#[]⟩,it0⟩).has else it0
theorem hh4(H:List Hd)(k:ByteArray)(xb:Nat)(v vB:Value)(n:Int)(W w:World)(R:List HP)(hS:St W (xvL xb v vB n H R) w):
  Calls Tryz.prog 118 #[.pointer (jP xb),.string k] w fun e w'=>e=.returned (eP (eP4 H k))/\St W (xvL xb v vB n H R) w':=by
 obtain⟨a,cap,rfl⟩:=hS.drop.rowVal;unfold eP4
 cases hb:spB H k with
 | false=>
  obtain⟨p,hp⟩:∃p,spI H k=p:=⟨_,rfl⟩
  have Hp:=jH hp;have Hb:=jH hb;clear hp hb;rw[if_neg (by simp)];go_enter Tryz.func118,Tryz.ntmps118;go_wp2_with(first|go_big_skip|(go_at_call 180;refine(Db7 Hp.out Hb.out xb _ vB n W _ (_::R) (hS.s (blk xb _ _::hdR _ H::blk b _ _::R))).mono ?_;clear hS;rintro e w ⟨rfl,hS⟩)|(refine zl1 hS ?_)|(refine zlN hS ?_)|(refine zs1 hS ?_;clear hS;intro w hS)|(refine zsN hS ?_;clear hS;intro w hS)|(refine zbx hS ?_;clear hS;intro b w hS)|(refine zal hS ?_;clear hS;intro b w hS));(apply As7;rfl;rfl;rfl;exact hS;decide +kernel;(exact n9);kernel_rfl)
  exact⟨rfl,hS.s _⟩
 | true=>
  rw[if_pos rfl];have hlt:=Od7 H k hb;obtain⟨p,hp⟩:∃p,spI H k=p:=⟨_,rfl⟩
  rw[hp]at hlt ⊢;have Hp:=jH hp;have Hb:=jH hb;clear hp hb;obtain⟨⟨g,rfl⟩,_,_⟩:=St.rowAddr hS.drop (by omega)
  have hitems:∀{K K':List HP},Take K (hdR (.slice (jP g) H.length cap) H) K'->i5 K g (p*5+1) (H[p].has.cells):=fun hu j v hj=>by
   have h1:=i5.elemM (enc:=Hd.cells) Hd.len hu hlt (1+j) v (by rw[Nat.add_comm];exact hj);rwa [<-Nat.add_assoc]at h1
  have e:H.getD p ⟨⟨#[]⟩,it0⟩=H[p]:=by simp[List.getD_eq_getElem?_getD,List.getElem?_eq_getElem hlt]
  rw[e];clear e;generalize H[p]=x at hitems;obtain⟨xw,⟨x0,x1,x2,x3⟩⟩:=x;simp only[It.cells]at hitems;go_enter Tryz.func118,Tryz.ntmps118;go_wp2_with(first|go_big_skip|(go_at_call 180;refine(Db7 Hp.out Hb.out xb _ vB n W _ (_::R) (hS.s (blk xb _ _::hdR _ H::blk b _ _::R))).mono ?_;clear hS;rintro e w ⟨rfl,hS⟩)|(refine zl1 hS ?_)|(refine zlN hS ?_ (hc:=by exact hitems (by exact i6)))|(refine zsN hS ?_;clear hS;intro w hS)|(refine zal hS ?_;clear hS;intro b w hS));(apply As7;rfl;rfl;rfl;exact hS;decide +kernel;(exact n9);kernel_rfl)
  exact⟨rfl,hS.s _⟩
end Go.Proofs.YtlmhakmoioogaaaGreat
end
