/-
  The document's Place.
-/
import Derived.Test.YtienbkdjkjbelaaGreatJuTM1
import Derived.Test.YtienbkdjkjbelaaGreatJuTM5
import Derived.Test.YtienbkdjkjbelaaGreatJuTM15
import Derived.Test.YtienbkdjkjbelaaGreatJuTM16
import Derived.Deep.LoopGhost
import Derived.OwnWalk
import Derived.Test.YtienbkdjkjbelaaGreatRows
import Derived.Lib.SmallJoins
import Derived.ChangeArms
import Derived.ProofKit
import Derived.Deep.Slices
import Derived.Deep.Fields
import Derived.ChangeSame
set_option maxHeartbeats 16000000
set_option maxRecDepth 100000
set_option linter.unusedSimpArgs false
set_option linter.unusedVariables false
section
namespace Go.Proofs.YtienbkdjkjbelaaGreat
open Go.RowKit Go.Sl
theorem Dr7{α:Type}{l:List α}{i:Nat}{a:α}(h:l[i]? = some a):l.set i a=l:=by
 apply List.ext_getElem?;intro j;rw[List.getElem?_set];split
 ·rename_i hj
  subst hj;split
  ·exact h.symm
  ·rename_i hlt
   rw[List.getElem?_eq_none (by omega)]at h
   cases h
 ·rfl
theorem JE7(L:List Ord)(junk:List Value)(k:Nat)(hk:k<L.length)(i:Int)(u:ByteArray)(y:Bool)(t c p c':Int)(hx:L[k]=⟨i,u,y,t,c,p⟩):B9 (L.flatMap Ord.cells++junk) (k*6+4) [.I c']=(L.set k ⟨i,u,y,t,c',p⟩).flatMap Ord.cells++junk:=by
 rw[<-Gi7 Ord.len L junk k hk ⟨i,u,y,t,c',p⟩];have h:∀j,j<6->(L.flatMap Ord.cells++junk)[k*6+j]? = (Ord.cells ⟨i,u,y,t,c,p⟩)[j]? := fun j hj=>by rw[<-hx];exact AS7 Ord.len L junk k hk j hj
 generalize L.flatMap Ord.cells++junk=l at h;simp only[B9,Ord.cells];have h0:l.set (k*6) (.I i)=l:=Dr7 (h 0 (by omega));have h1:l.set (k*6+1) (.string u)=l:=Dr7 (h 1 (by omega));have h2:l.set (k*6+1+1) (.bool y)=l:=Dr7 (h 2 (by omega));have h3:l.set (k*6+1+1+1) (.I t)=l:=Dr7 (h 3 (by omega));rw[h0,h1,h2,h3];refine(Dr7 (i:=k*6+1+1+1+1+1) ?_).symm;rw[List.getElem?_set_ne (by omega)];exact h 5 (by omega)
theorem Ed7(a b:Int):I6 a b=min a b:=by unfold I6;split <;> omega
theorem PS7{W w:World}{L R:List HP}{v:Value}{k n:Nat}{T:TypeId}{cs:List Value}(hk:0<k)(hS:St W L w)(hu:Take L (row v k T n cs) R):cG4 w v n cs:=(St.src hk (hS.take hu)).at (hS.take hu)
def eQ4(W:World)(Lr:List HP)(ob xb:Nat)(i:Int)(u:ByteArray)(y:Bool)(t p:Int)(r:Ord×List Ord×List Trd)(f:Nat)(v7:Value)(w:World):Prop:=
 ∃(c:Int) (L:List Ord) (ts:List Trd) (v:Value),m7 f ⟨i,u,y,t,c,p⟩ L ts=r/\(L.length<f\/(c=0/\0<f))/\L.length<=32/\ts.length+f<=80/\(∀x∈L,1<=x.cnt/\x.cnt<=1048576)/\0<=c/\c<=1048576 /\
  St W (blk xb [v,.I i] 186::j7 v L::blk ob [.I i,.string u,.bool y,.I t,.I c,.I p] 173::row v7 8 230 ts.length (ts.flatMap Trd.cells)::Lr) w
abbrev tB16a:List Nat:=[0,1,3,7,0,0,32,0,224,511,1023,2047]
theorem Ix7(L:List Ord)(last:Int)(o:Ord)(xb:Nat)(v:Value)(hb:J7 o=true)(hgt:last<o.id)(hfew:¬32<=L.length)(hcnt:∀x∈L,1<=x.cnt/\x.cnt<=1048576)(W w:World)(Lr:List HP)(hS:St W (blk xb [v,.I last] 186::j7 v L::Lr) w):
  Calls Tryz.prog 135 #[.P xb,.agg o.cells.toArray] w fun e w'=>∃v7 v',e=.returned (.tuple #[v7,.I (F9 L last o).left,.I 0]) /\
   St W (blk xb [v',.I o.id] 186::j7 v' (F9 L last o).L::row v7 8 230 (F9 L last o).trades.length ((F9 L last o).trades.flatMap Trd.cells)::Lr) w':=by
 obtain⟨a,cap,rfl⟩:=hS.drop.rowVal;obtain⟨i,u,y,t,c,p⟩:=o;have hmay:=Ao7.1 hb;have hc0:1<=c:=hmay.cnt0;have hc1:c<=1048576:=hmay.cnt1;unfold F9;rw[if_neg (by rintro(h|h);(rw[hb]at h;cases h);exact absurd hgt (by simpa using h)),if_neg hfew];dsimp only;generalize hr:m7 (L.length+1) ⟨i,u,y,t,c,p⟩ L []=r;have Hr:=jH hr;clear hr hmay;simp only[Ord.cells];have hgt':¬i<=last:=Int.not_le.2 hgt;have hgd:decide (i<=last)=false:=by simpa using hgt
 have hfd:decide ((32:Int)<=(L.length:Int))=false:=by simp;omega
 have hf32:¬(32:Int)<=(L.length:Int):=by omega
 clear hgt;have Hcnt:=jH hcnt;clear hcnt;generalize hPL:(if 0<r.1.cnt then r.2.1++[r.1]else r.2.1)=PL;have HPL:=jH hPL;clear hPL;go_enter Tryz.func135,Tryz.ntmps135;go_wp2_with(first|refine zbx hS ?_;clear hS;intro b w hS);refine rf3 [0,1,3,7,15,31,15,79,207,463,1023,2047] (fun _=>false) (fun i=>if i==1 then some (.bool true)else none) [] [none,none] hS ?_;intro nd;refine zcN ?_;refine zcv ?_ (hs:=by(intro F w hS;(try clear hS0);exact hb▸Ba7 ⟨i,u,y,t,c,p⟩ W w _ hS))
 iterate 3 (refine cR ?_)
 (refine zc1 ?_);refine cR ?_;refine zcn ?_;refine cR ?_;refine zc1 ?_
 iterate 2 (refine cR ?_)
 refine Ad7 ?_;clear hS;intro w hS;have hS2:St W [blk b _ _,blk xb _ _,sats (_::Lr)] w:=hS;clear hS;have hS:=hS2.unpack [_,_];clear hS2;simp only[jK,jN]at hS;go_wp2_with(first|refine zl1 hS ?_|refine zs1 hS ?_;clear hS;intro w hS);replace hS:=(((hS.take .t2).take .t2).rowNil (k:=8) (T:=230))
 replace hS:=hS.perm (List.perm_middle (l₁:=[_,_,_])).symm
 go_loopg [7] (L.length+1) (fun f v7 wr=>eQ4 W Lr b xb i u y t p r f v7 wr)
 case atStart=>exact⟨c,L,[],_,Hr.out,.inl (Nat.lt_succ_self _),by omega,by simp;omega,Hcnt.out,by omega,hc1,hS⟩
 case round=>
  clear hS Hr Hcnt hc0 hc1 hb hgd hfd hf32 hgt' hfew;obtain⟨c,L,ts,v,hl,hqf,hL32,htf,hcnt,hc0,hc1,hS⟩:=hrel;have Hcnt:=jH hcnt;clear hcnt;obtain⟨f,rfl⟩:∃f,gk=f+1:=⟨gk-1,by omega⟩
  by_cases hcz:0<c
  ·cases hbt:s9 ⟨i,u,y,t,c,p⟩ L L.length with
   | none=>
    have Hr:=jH (show r=(⟨i,u,y,t,c,p⟩,L,ts)by rw[<-hl,m7,if_pos hcz,hbt]);clear hl;have Hbt:=jH hbt;clear hbt;have hk1:kI (none:Option Nat) = -1:=rfl;go_wp2_with(first|go_at_call 182;refine(Gs7 ⟨i,u,y,t,c,p⟩ L xb i _ hL32 W _ _ hS).mono ?_;clear hS;rw[Hbt.out,hk1];rintro e w ⟨rfl,hS⟩|refine zl1 hS ?_|refine zlN hS ?_);refine rf2 [0,0,0,4,12,28,62,0,128,510,1023,2047,4095] (fun i=>i==1||i==6||i==8||i==9) [⟨some 1,some 6,fun nd=>row (nd 1) 6 173 0 []⟩,⟨some 6,some 9,fun nd=>row (nd 6) 6 173 (0+L.length) ([]++L.flatMap Ord.cells)⟩,⟨some 8,none,fun nd=>L8 (nd 8) 1 1 [.I i,.string u,.bool y,.I t,.I c,.I p] 173⟩,⟨some 9,none,fun nd=>row (nd 9) 6 173 (0+L.length+1) ([]++L.flatMap Ord.cells++[.I i,.string u,.bool y,.I t,.I c,.I p])⟩,⟨some 12,none,fun nd=>blk xb [nd 9,.I i] 186⟩] [some 12,none,none] hS ?_;intro nd;refine cR ?_;apply Bn7;rfl;rfl;rfl;(focus(simp only[fD,fI,fJ,Act.eval,fE,fF,fG,fH,fK];try rfl));(exact esS);(exact rsS);rfl;rfl;rfl;rfl;rfl;decide;(intro _;rfl);rfl;(intro _;rfl);(refine frS ?_);refine cR ?_;refine zcn ?_;refine cR ?_;refine zc1 ?_;apply Ai7;rfl;rfl;rfl;(focus((conv=>lhs;whnf);try rfl));(focus((conv=>lhs;whnf);try rfl));(exact esS);(exact rsS);rfl;decide;rfl;(intro F w hS;exact PS7 (k:=6) (by decide) hS (by exact i7));(focus(rw[Ab7 Ord.len]));(focus(exact EE7 _));(focus(unfold maxLen;omega));(focus(omega));(intro _;rfl);(intro _;rfl);(refine frS ?_);refine zcN ?_;apply aC4;rfl;rfl;rfl;(focus(simp only[fD,fI,fJ,Act.eval,fE,fF,fG,fH,fK];try rfl));(exact esS);(exact rsS);rfl;rfl;rfl;rfl;(intro _;rfl);rfl;(intro _;rfl);(refine frS ?_)
    (apply Ai7;rfl;rfl;rfl;(focus((conv=>lhs;whnf);try rfl));(focus((conv=>lhs;whnf);try rfl));exact esS;exact rsS;rfl;decide;rfl;intro F w hS;exact AC7 hS (by exact A6);(focus(try rfl));rfl;(focus(unfold maxLen;omega));(focus(omega));intro _;rfl;intro _;rfl;refine frS ?_);refine zcn ?_;refine cR ?_;(apply Jo7;rfl;rfl;rfl;rfl;(focus((conv=>lhs;whnf);try rfl));kernel_rfl;rfl;intro F w hS;exact hS.rowOne (by exact A6);(focus(simp));rfl;rfl;try(refine frS ?_));refine Ad7 ?_;clear hS;intro w hS;have hS2:St W [L8 (nd 8) _ _ _ _,row (nd 9) 6 _ _ _,blk xb _ _,j7 _ _,blk _ _ _,sats _] w:=hS;clear hS;have hS:=hS2.unpack [_,_,_,_,_];clear hS2;simp only[jK,jN]at hS;generalize nd 9=v9 at *;replace hS:=((hS.drop.take .t2).drop).take .t2;go_wp2_with(fail);refine rf2 [0,0,2,1,15,31] (fun _=>false) [] [none,none,none] hS ?_;intro nd
    iterate 2 (refine cR ?_)
    (refine zc1 ?_)
    iterate 3 (refine cR ?_)
    refine Ad7 ?_;clear hS;intro w hS;have hS2:St W [_,_,_,sats _] w:=hS;clear hS;have hS:=hS2.unpack [_,_,_];clear hS2;simp only[jK,jN]at hS;go_wp2_with fail;go_ret3;refine⟨u7,v9,by rw[Hr.out];rfl,?_⟩;have hB:=HPL.out;rw[Hr.out,if_pos hcz]at hB;rw[Hr.out,<-hB];unfold j7;have e2:(L++[Ord.mk i u y t c p]).length=0+L.length+1:=by rw[jA];simp
    have e3:(L++[Ord.mk i u y t c p]).flatMap Ord.cells=L.flatMap Ord.cells++[.I i,.string u,.bool y,.I t,.I c,.I p]:=by rw[List.flatMap_append];rfl
    rw[e2,e3];exact hS.drop.swap
   | some k=>
    obtain⟨hk,_,_⟩:=AG7 hbt;have hxm:=Hcnt.out _ (H8 hk);have hl2:=hl;rw[m7,if_pos (show 0<(Ord.mk i u y t c p).cnt from hcz),hbt]at hl2;simp only at hl2;have hxe:L[k]=at' L k:=(m5 hk).symm;have hbyid:=H8 hk;generalize hx:at' L k=x at hxm hl2 hxe;obtain⟨xi,xu,xy,xt,xc,xp⟩:=x;have Hl:=jH hl2;have Hx:=jH hx;have Hxe:=jH hxe;have Hbt:=jH hbt;clear hl hl2 hx hbt hbyid;simp only at hxm;obtain⟨sa,sc,rfl⟩:=hS.drop.rowVal;obtain⟨⟨g,rfl⟩,_,_⟩:=St.rowAddr hS.drop (by omega);have hcells:d8 (j7 (.S g L.length sc) L::blk b [.I i,.string u,.bool y,.I t,.I c,.I p] 173::row u7 8 230 ts.length (ts.flatMap Trd.cells)::Lr) g (k*6) [.I xi,.string xu,.bool xy,.I xt,.I xc,.I xp]:=by have:=d8.rowE (g:=g) (c:=sc) (T:=173) (L:=blk b [.I i,.string u,.bool y,.I t,.I c,.I p] 173::row u7 8 230 ts.length (ts.flatMap Trd.cells)::Lr) Ord.len hk;rw[hxe]at this;exact this
    clear hxe;have hk1:kI (some k)=(k:Int):=rfl
    cases y
    ·skip
     go_wp2_with(first|go_at_call 182;refine(Gs7 ⟨i,u,false,t,c,p⟩ L xb i _ hL32 W _ _ hS).mono ?_;clear hS;rw[Hbt.out,hk1];rintro e w ⟨rfl,hS⟩|refine zlN hS ?_ (hc:=by exact d8.there hcells)|refine zbs hS ?_;clear hS;intro bS w hS|refine zap hS ?_ (h63:=by unfold maxLen;omega) (hb:=by omega);clear hS;intro v w hS|refine zl1 hS ?_|refine zlN hS ?_|refine zs1 hS ?_;clear hS;intro w hS|refine zsN hS ?_;clear hS;intro w hS|refine zal hS ?_;clear hS;intro b w hS);rcases(hS.take .t5).rowOpen with ⟨hv0,_⟩|⟨g',cap',junk,hv',hn1,hm1,hj1,hl1,hS0⟩
     ·cases hv0
     injection hv' with e1 e2 e3
     injection e1 with e1
     injection e1 with e1
     subst e1;subst e3;clear hS hcells;have hS:=(((hS0.take .t2).drop).take .t2).drop;clear hS0;refine rf2 tB16a (fun _=>false) [⟨some 11,none,fun _=>blk g ((L.set k ⟨xi,xu,xy,xt,xc-min c xc,xp⟩).flatMap Ord.cells++junk) 173⟩] [some 11,none,none,none,none] hS ?_;intro nd;refine cR ?_;refine zcn ?_;refine cR ?_;refine zc1 ?_
     iterate 2 (refine cR ?_)
     (refine zc1 ?_)
     iterate 4 (refine cR ?_)
     (apply cR4 (vs:=[Value.int .i64 (xc-min c xc)]);rfl;rfl;rfl;rfl;(focus((conv=>lhs;whnf);try rfl));rfl;kernel_rfl;rfl;rfl;simp only[jC,List.length_nil];rw[jA,Ab7 Ord.len];omega;exact JE7 L junk k hk xi xu xy xt xc xp _ Hxe.out;rfl;try(refine frS ?_));refine Ad7 ?_;clear hS;intro w hS;have hS2:St W [blk g _ _,row _ _ _ _ _,blk _ _ _,blk xb _ _,blk _ _ _,sats Lr] w:=hS;clear hS;have hS:=hS2.unpack [_,_,_,_,_];clear hS2;simp only[jK,jN]at hS;have hx1:at' (L.set k ⟨xi,xu,xy,xt,xc-min c xc,xp⟩) k=⟨xi,xu,xy,xt,xc-min c xc,xp⟩:=by rw[m5 (by simpa using hk),List.getElem_set_self]
     have hset:(L.set k ⟨xi,xu,xy,xt,xc-min c xc,xp⟩).eraseIdx k=L.eraseIdx k:=List.eraseIdx_set_eq;have hl3:=Hl.out;rw[Ed7]at hl3;unfold aT4 at hl3;rw[Hx.out]at hl3
     have hcn2:∀z∈L.set k ⟨xi,xu,xy,xt,xc-min c xc,xp⟩,xc-min c xc≠0->1<=z.cnt/\z.cnt<=1048576:=fun z hz hne=>by
      rcases List.mem_or_eq_of_mem_set hz with hz|rfl
      ·exact Hcnt.out z hz
      ·simp only;omega
     generalize hL1:L.set k ⟨xi,xu,xy,xt,xc-min c xc,xp⟩=L1 at *;have hlen1:L.length=L1.length:=by rw[<-hL1,List.length_set]
     have hk2:k<L1.length:=by omega
     have q4:(Ord.cells L1[k])[4]? = some (.I (xc-min c xc)):=by rw[<-m5 hk2,hx1];rfl
     clear hx1;have hfl1:=Ab7 Ord.len L1;have hS3:St W (j7 (.S g L1.length sc) L1::_) w:=St.rowShut hS (by omega) hm1 (by rw[jA,hl1]at hj1;rw[jA,hfl1,<-hlen1];exact hj1) (by rw[hfl1]);clear hS;have hS:=hS3.take .t3;clear hS3;rw[hlen1]at hS;by_cases hz:xc-min c xc=0
     ·rw[if_pos hz]at hl3;have Hl3:=jH hl3;have Hset:=jH hset;have hz2:((xc-min c xc:Int)==0)=true:=by simpa using hz
      clear hl3 hset hL1;go_wp2_with(first|refine zl1 hS ?_ (hc:=by exact i6.there (i6.rowE Ord.len hk2 q4))|go_at_call 183;refine(Gt7 L1 k xb i _ (by omega) hk2 W _ _ hS).mono ?_;clear hS;rintro e w ⟨rfl,v3,hS⟩;rw[Hset.out]at hS|refine zl1 hS ?_)
      go_roundg f
      case measure=>omega
      case rel=>exact⟨c-min c xc,L.eraseIdx k,ts++[F5 ⟨i,u,false,t,c,p⟩ ⟨xi,xu,xy,xt,xc,xp⟩],v3,Hl3.out,.inl (by rw[List.length_eraseIdx];split <;> omega),by rw[List.length_eraseIdx];split <;> omega,by simp only[jA,jC,List.length_nil];omega,fun z hz=>Hcnt.out z (List.mem_of_mem_eraseIdx hz),by omega,by omega,by
       rw[jA,List.flatMap_append];have e:[F5 ⟨i,u,false,t,c,p⟩ ⟨xi,xu,xy,xt,xc,xp⟩].flatMap Trd.cells=[.string xu,.string u,.I xi,.I i,.I t,.I (min c xc),.I xp,.I xp]:=by simp[F5,Trd.cells,Ed7]
       rw[e];exact((hS.take .t3).drop).perm (((List.Perm.swap _ _ _).cons _).cons _)⟩
     ·rw[if_neg hz]at hl3;have Hl3:=jH hl3;have hz2:((xc-min c xc:Int)==0)=false:=by simpa using hz
      have hcn3:=jH fun z hz'=>hcn2 z hz' hz
      clear hl3 hset hL1 hcn2;go_wp2_with(first|refine zl1 hS ?_ (hc:=by exact i6.there (i6.rowE Ord.len hk2 q4))|refine zl1 hS ?_)
      go_roundg f
      case measure=>omega
      case rel=>exact⟨c-min c xc,L1,ts++[F5 ⟨i,u,false,t,c,p⟩ ⟨xi,xu,xy,xt,xc,xp⟩],_,Hl3.out,.inr ⟨by omega,by omega⟩,by omega,by simp only[jA,jC,List.length_nil];omega,hcn3.out,by omega,by omega,by
       rw[jA,List.flatMap_append];have e:[F5 ⟨i,u,false,t,c,p⟩ ⟨xi,xu,xy,xt,xc,xp⟩].flatMap Trd.cells=[.string xu,.string u,.I xi,.I i,.I t,.I (min c xc),.I xp,.I xp]:=by simp[F5,Trd.cells,Ed7]
       rw[e];exact((hS.take .t3).drop).perm (((List.Perm.swap _ _ _).cons _).cons _)⟩
    ·skip
     go_wp2_with(first|go_at_call 182;refine(Gs7 ⟨i,u,true,t,c,p⟩ L xb i _ hL32 W _ _ hS).mono ?_;clear hS;rw[Hbt.out,hk1];rintro e w ⟨rfl,hS⟩|refine zlN hS ?_ (hc:=by exact d8.there hcells)|refine zbs hS ?_;clear hS;intro bS w hS|refine zap hS ?_ (h63:=by unfold maxLen;omega) (hb:=by omega);clear hS;intro v w hS|refine zl1 hS ?_|refine zlN hS ?_|refine zs1 hS ?_;clear hS;intro w hS|refine zsN hS ?_;clear hS;intro w hS|refine zal hS ?_;clear hS;intro b w hS);rcases(hS.take .t5).rowOpen with ⟨hv0,_⟩|⟨g',cap',junk,hv',hn1,hm1,hj1,hl1,hS0⟩
     ·cases hv0
     injection hv' with e1 e2 e3
     injection e1 with e1
     injection e1 with e1
     subst e1;subst e3;clear hS hcells;have hS:=(((hS0.take .t2).drop).take .t2).drop;clear hS0;refine rf2 tB16a (fun _=>false) [⟨some 11,none,fun _=>blk g ((L.set k ⟨xi,xu,xy,xt,xc-min c xc,xp⟩).flatMap Ord.cells++junk) 173⟩] [some 11,none,none,none,none] hS ?_;intro nd;refine cR ?_;refine zcn ?_;refine cR ?_;refine zc1 ?_
     iterate 2 (refine cR ?_)
     (refine zc1 ?_)
     iterate 4 (refine cR ?_)
     (apply cR4 (vs:=[Value.int .i64 (xc-min c xc)]);rfl;rfl;rfl;rfl;(focus((conv=>lhs;whnf);try rfl));rfl;kernel_rfl;rfl;rfl;simp only[jC,List.length_nil];rw[jA,Ab7 Ord.len];omega;exact JE7 L junk k hk xi xu xy xt xc xp _ Hxe.out;rfl;try(refine frS ?_));refine Ad7 ?_;clear hS;intro w hS;have hS2:St W [blk g _ _,row _ _ _ _ _,blk _ _ _,blk xb _ _,blk _ _ _,sats Lr] w:=hS;clear hS;have hS:=hS2.unpack [_,_,_,_,_];clear hS2;simp only[jK,jN]at hS;have hx1:at' (L.set k ⟨xi,xu,xy,xt,xc-min c xc,xp⟩) k=⟨xi,xu,xy,xt,xc-min c xc,xp⟩:=by rw[m5 (by simpa using hk),List.getElem_set_self]
     have hset:(L.set k ⟨xi,xu,xy,xt,xc-min c xc,xp⟩).eraseIdx k=L.eraseIdx k:=List.eraseIdx_set_eq;have hl3:=Hl.out;rw[Ed7]at hl3;unfold aT4 at hl3;rw[Hx.out]at hl3
     have hcn2:∀z∈L.set k ⟨xi,xu,xy,xt,xc-min c xc,xp⟩,xc-min c xc≠0->1<=z.cnt/\z.cnt<=1048576:=fun z hz hne=>by
      rcases List.mem_or_eq_of_mem_set hz with hz|rfl
      ·exact Hcnt.out z hz
      ·simp only;omega
     generalize hL1:L.set k ⟨xi,xu,xy,xt,xc-min c xc,xp⟩=L1 at *;have hlen1:L.length=L1.length:=by rw[<-hL1,List.length_set]
     have hk2:k<L1.length:=by omega
     have q4:(Ord.cells L1[k])[4]? = some (.I (xc-min c xc)):=by rw[<-m5 hk2,hx1];rfl
     clear hx1;have hfl1:=Ab7 Ord.len L1;have hS3:St W (j7 (.S g L1.length sc) L1::_) w:=St.rowShut hS (by omega) hm1 (by rw[jA,hl1]at hj1;rw[jA,hfl1,<-hlen1];exact hj1) (by rw[hfl1]);clear hS;have hS:=hS3.take .t3;clear hS3;rw[hlen1]at hS;by_cases hz:xc-min c xc=0
     ·rw[if_pos hz]at hl3;have Hl3:=jH hl3;have Hset:=jH hset;have hz2:((xc-min c xc:Int)==0)=true:=by simpa using hz
      clear hl3 hset hL1;go_wp2_with(first|refine zl1 hS ?_ (hc:=by exact i6.there (i6.rowE Ord.len hk2 q4))|go_at_call 183;refine(Gt7 L1 k xb i _ (by omega) hk2 W _ _ hS).mono ?_;clear hS;rintro e w ⟨rfl,v3,hS⟩;rw[Hset.out]at hS|refine zl1 hS ?_)
      go_roundg f
      case measure=>omega
      case rel=>exact⟨c-min c xc,L.eraseIdx k,ts++[F5 ⟨i,u,true,t,c,p⟩ ⟨xi,xu,xy,xt,xc,xp⟩],v3,Hl3.out,.inl (by rw[List.length_eraseIdx];split <;> omega),by rw[List.length_eraseIdx];split <;> omega,by simp only[jA,jC,List.length_nil];omega,fun z hz=>Hcnt.out z (List.mem_of_mem_eraseIdx hz),by omega,by omega,by
       rw[jA,List.flatMap_append];have e:[F5 ⟨i,u,true,t,c,p⟩ ⟨xi,xu,xy,xt,xc,xp⟩].flatMap Trd.cells=[.string u,.string xu,.I i,.I xi,.I t,.I (min c xc),.I xp,.I p]:=by simp[F5,Trd.cells,Ed7]
       rw[e];exact((hS.take .t3).drop).perm (((List.Perm.swap _ _ _).cons _).cons _)⟩
     ·rw[if_neg hz]at hl3;have Hl3:=jH hl3;have hz2:((xc-min c xc:Int)==0)=false:=by simpa using hz
      have hcn3:=jH fun z hz'=>hcn2 z hz' hz
      clear hl3 hset hL1 hcn2;go_wp2_with(first|refine zl1 hS ?_ (hc:=by exact i6.there (i6.rowE Ord.len hk2 q4))|refine zl1 hS ?_)
      go_roundg f
      case measure=>omega
      case rel=>exact⟨c-min c xc,L1,ts++[F5 ⟨i,u,true,t,c,p⟩ ⟨xi,xu,xy,xt,xc,xp⟩],_,Hl3.out,.inr ⟨by omega,by omega⟩,by omega,by simp only[jA,jC,List.length_nil];omega,hcn3.out,by omega,by omega,by
       rw[jA,List.flatMap_append];have e:[F5 ⟨i,u,true,t,c,p⟩ ⟨xi,xu,xy,xt,xc,xp⟩].flatMap Trd.cells=[.string u,.string xu,.I i,.I xi,.I t,.I (min c xc),.I xp,.I p]:=by simp[F5,Trd.cells,Ed7]
       rw[e];exact((hS.take .t3).drop).perm (((List.Perm.swap _ _ _).cons _).cons _)⟩
  ·have Hr:=jH (show r=(⟨i,u,y,t,c,p⟩,L,ts)by rw[<-hl,m7,if_neg hcz]);clear hl;obtain rfl:c=0:=by omega
   go_wp2_with(first|refine zl1 hS ?_);refine rf2 [0,0,2,1,15,31] (fun _=>false) [] [none,none,none] hS ?_;intro nd
   iterate 2 (refine cR ?_)
   (refine zc1 ?_)
   iterate 3 (refine cR ?_)
   refine Ad7 ?_;clear hS;intro w hS;have hS2:St W [_,_,_,sats _] w:=hS;clear hS;have hS:=hS2.unpack [_,_,_];clear hS2;simp only[jK,jN]at hS;go_wp2_with fail;go_ret3;refine⟨u7,v,by rw[Hr.out];rfl,?_⟩;have hB:=HPL.out;rw[Hr.out,if_neg (show ¬(0:Int)<0 by omega)]at hB;rw[Hr.out,<-hB];exact(hS.take .t2).drop
end Go.Proofs.YtienbkdjkjbelaaGreat
end
section
namespace Go.Proofs.YtienbkdjkjbelaaGreat
open Go.Joins Go.ChangeShapes Go.WideShapes Go.RowKit Go.Deep Go.Sl
def C8{α:Type}(enc:α->List Value)(k:Nat)(w:World)(v:Value)(xs:List α):Prop:=
 ∃a cap,v=.slice a xs.length cap/\xs.length<=9223372036854775807/\∀i (h:i<xs.length), ∃b off,a=some ⟨b,off,none⟩/\∀j u,(enc xs[i])[j]? = some u->w.cell? ⟨b,off+i*k+j,none⟩=some u
section
variable{H:Type}{enc:TypeId×Value->H}{P:Program}{w:World}{base:Nat}{spare:Nat->Bool}{held:Bool}
theorem Iy7{α:Type}{r:Reach}{b0:Nat}{t e:TypeId}{k:Nat}{v:Value}{d:DataW H}{p:List MemPlace}(en:α->List Value)(x0:α)(hk:∀x,(en x).length=k)(h0:0<k)(ht:P.underlying t=some (.slice e))(hC:P.cellsOf e=k)
  (hE:∀(n:Nat) (cs:List Value) (y:DataW H×List MemPlace),cs.length=k->DataW.trod enc P w base spare held n e cs=some y->∃x,cs=en x)
  (hv:Value.okWide P w r b0 t v) (h:DataW.Trod enc P w base spare held t v d p):∃xs,C8 en k w v xs:=by
 obtain⟨a0,len,cap,rfl⟩:=okWide_slice ht hv;obtain⟨fuel,hf⟩:=h
 rcases open_slice ht hf with ⟨hcs,hx⟩|⟨a,len',cap',m,n,D,Pl,hcs,hb,hl,hm,hmm,hx,hi⟩
 ·simp[Value.cells]at hcs;obtain⟨rfl,rfl,rfl⟩:=hcs;exact⟨[],none,0,rfl,by simp,fun i hi=>absurd hi (Nat.not_lt_zero _)⟩
 ·simp[Value.cells]at hcs;obtain⟨rfl,rfl,rfl⟩:=hcs;have hlm:len<=m:=by rw[hmm];split <;> omega
  have hex:∀i, ∃x:α,i<len->∀j u,(en x)[j]? = some u->w.cell? ((a.add (i*k)).add j)=some u:=fun i=>by
   by_cases hil:i<len
   ·obtain⟨cs',hc,ht'⟩:=hi i (by omega);rw[hC]at hc;obtain⟨_,hcl,hat⟩:=World.cells?_some hc;obtain⟨x,rfl⟩:=hE n cs' _ hcl ht';refine⟨x,fun _ j u hj=>?_⟩;have hjk:j<k:=by have:=(List.getElem?_eq_some_iff.1 hj).1;rwa [hk]at this
    rw[hat j hjk];exact hj
   ·exact⟨x0,fun h=>absurd h hil⟩
  obtain⟨f,hf'⟩:=Classical.axiomOfChoice hex;have hll:((List.range len).map f).length=len:=by simp
  refine⟨(List.range len).map f,some a,cap,by rw[hll],by rw[hll];unfold maxLen at hm;omega,fun i hi2=>?_⟩;rw[hll]at hi2;have hspot:a.spot=none:=by have hc:=hf' 0 (by omega);have h1:(en (f 0))[0]? = some ((en (f 0))[0]'(by rw[hk];exact h0)):=jG _;have:=World.cell?_spot (hc 0 _ h1);simpa[Addr.add]using this
  obtain⟨b,off,spot⟩:=a;simp only at hspot;subst hspot;refine⟨b,off,rfl,fun j u hj=>?_⟩;have e1:((List.range len).map f)[i]=f i:=by simp
  rw[e1]at hj;have:=hf' i hi2 j u hj;rwa [Addr.add_lit,Addr.add_lit]at this
end
end Go.Proofs.YtienbkdjkjbelaaGreat
end
section
namespace Go.Proofs.YtienbkdjkjbelaaGreat
open Go.RowKit Go.Sl
def cj4(l:List Ord):Nat->Int
 | 0=>0
 | j+1=>(at' l j).id
def bI4(l:List Ord)(i:Nat):Bool:=!(J7 (at' l i))||(decide ((at' l i).id<=cj4 l i)||(s9 (at' l i) (l.take i) (l.take i).length).isSome)
def dy4(l:List Ord)(i:Nat):Prop:=∀j,j<i->bI4 l j=false
def ei4(l:List Ord):Prop:=32<l.length\/∃i,i<l.length/\bI4 l i=true
theorem dy4.step{l:List Ord}{i:Nat}(h:dy4 l i)(hb:bI4 l i=false):dy4 l (i+1):=fun j hj=>by
 by_cases hji:j=i
 ·rw[hji];exact hb
 ·exact h j (by omega)
theorem LT7{l:List Ord}{i:Nat}(hi:i<l.length):l.take (i+1)=l.take i++[at' l i]:=by rw[List.take_succ_eq_append_getElem hi,m5 hi]
def OfR(W:World)(Lr:List HP)(l:List Ord)(xb:Nat)(v:Value)(w:World):Prop:=
 ∃(i:Nat) (vx:Value),v=.I i/\i<=l.length/\dy4 l i/\St W (blk xb [vx,.I (cj4 l i)] 186::j7 vx (l.take i)::Lr) w
end Go.Proofs.YtienbkdjkjbelaaGreat
end
