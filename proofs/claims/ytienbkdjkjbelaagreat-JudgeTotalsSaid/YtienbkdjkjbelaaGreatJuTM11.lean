/-
  A book as a resource.
-/
import Derived.Test.YtienbkdjkjbelaaGreatJuTM5
import Derived.Test.YtienbkdjkjbelaaGreatJuTM10
set_option maxHeartbeats 16000000
set_option maxRecDepth 100000
set_option linter.unusedSimpArgs false
set_option linter.unusedVariables false
section
namespace Go.Proofs.YtienbkdjkjbelaaGreat
open Go.RowKit Go.Sl
structure Bk where
 ps:List (List Ord)
 last:Int
def j7(v:Value)(p:List Ord):HP:=row v 6 173 p.length (p.flatMap Ord.cells)
def C7(vs:List Value)(ps:List (List Ord)):List HP:=List.zipWith j7 vs ps
def w9(bb:Nat)(b:Bk):HP:=fun f=>∃vs:List Value,(vs.length=8/\b.ps.length=8)/\sats [blk bb (vs++[.I b.last]) 279,sats (C7 vs b.ps)] f
theorem BC7{α:Type}:∀(l:List α) (k:Nat) (h:k<l.length),(l[k]::l.eraseIdx k).Perm l
 | _::_,0,_=>.refl _
 | x::l,k+1,h=>(List.Perm.swap x _ _).trans ((BC7 l k (Nat.lt_of_succ_lt_succ h)).cons x)
section
variable{W w:World}{L:List HP}
theorem Kk7{L:List HP}{S:Nat->Bool}{h:O8}(x:sats L (D7 S h)):sats L h:=by
 have e:D7 S h=l8 (fun b=>!S b) h:=by funext b;simp only[D7,l8];cases S b <;> rfl
 exact BK7 (e▸x)
theorem ae4{bb:Nat}{b:Bk}(h:St W (w9 bb b::L) w):∃vs:List Value,vs.length=8/\b.ps.length=8/\St W (blk bb (vs++[.I b.last]) 279::sats (C7 vs b.ps)::L) w:=by obtain⟨vs,h⟩:=St.ex h;obtain⟨⟨h1,h2⟩,h⟩:=St.and h;refine⟨vs,h1,h2,?_⟩;have h3:=(St.split h).swap;exact(h3.imp (Y:=sats (C7 vs b.ps)) fun f ⟨S,x,_⟩=>Kk7 x).swap
theorem K8{bb:Nat}{b:Bk}{vs:List Value}(h1:vs.length=8)(h2:b.ps.length=8)(h:St W (blk bb (vs++[.I b.last]) 279::sats (C7 vs b.ps)::L) w):St W (w9 bb b::L) w:=by refine St.mkEx vs (St.mkAnd ⟨h1,h2⟩ ?_);refine St.join ?_;refine St.swap (St.imp h.swap ?_);intro f hf;exact⟨fun _=>true,hf,trivial⟩
theorem bb4{vs:List Value}{ps:List (List Ord)}(k:Nat)(h1:k<vs.length)(h2:k<ps.length)(h:St W (sats (C7 vs ps)::L) w):St W (j7 vs[k] ps[k]::sats ((C7 vs ps).eraseIdx k)::L) w:=by
 have hk:k<(C7 vs ps).length:=by simp[C7];omega
 have e:(C7 vs ps)[k]=j7 vs[k] ps[k]:=by simp[C7]
 refine St.split (St.imp h fun f hf=>?_);rw[<-e];exact AQ7 (BC7 _ k hk).symm hf
theorem bc4{vs:List Value}{ps:List (List Ord)}{v:Value}{p:List Ord}(k:Nat)(h1:k<vs.length)(h2:k<ps.length)(h:St W (j7 v p::sats ((C7 vs ps).eraseIdx k)::L) w):St W (sats (C7 (vs.set k v) (ps.set k p))::L) w:=by
 have e1:C7 (vs.set k v) (ps.set k p)=(C7 vs ps).set k (j7 v p):=by
  apply List.ext_getElem?;intro i;simp only[C7,List.getElem?_zipWith,List.getElem?_set];by_cases hi:k=i
  ·subst hi;simp[h1,h2,show k<min vs.length ps.length by omega]
  ·simp[hi]
 have hk:k<((C7 vs ps).set k (j7 v p)).length:=by simp[C7];omega
 have e2:((C7 vs ps).set k (j7 v p))[k]=j7 v p:=by simp
 have e3:((C7 vs ps).set k (j7 v p)).eraseIdx k=(C7 vs ps).eraseIdx k:=List.eraseIdx_set_eq;refine St.imp (St.join h) fun f hf=>?_
 rw[e1];have hp:=BC7 _ k hk;rw[e2,e3]at hp;exact AQ7 hp hf
theorem do4{vs:List Value}{ps:List (List Ord)}(k:Nat)(h1:k<vs.length)(h2:k<ps.length)(h:St W (sats (C7 vs ps)::L) w):∃b c,vs[k]=.slice b ps[k].length c:=(bb4 k h1 h2 h).rowVal
end
def br4:List Nat:=[0,4,1,5,2,6,3,7]
def cn4(bb:Nat):List Value:=br4.map fun o=>.pointer (some ⟨bb,o,none⟩)
def dJ4(W:World)(L:List HP)(bb:Nat)(v3 v5:Value)(w:World):Prop:=
 ∃k:Nat,v5=.I k/\k<=4/\St W (row v3 1 253 (2*k) ((cn4 bb).take (2*k))::L) w
abbrev tB10a:List Nat:=[0,0,0,2,10,30,0,0,64,320,960,2046,4095,8191]
theorem DX7(bb:Nat)(W w:World)(L:List HP)
  (hS:St W L w):
  Calls Tryz.prog 159 #[.P bb] w fun e w'=>∃v,e=.returned v/\St W (row v 1 253 8 (cn4 bb)::L) w':=by
 go_enter Tryz.func159,Tryz.ntmps159;go_wp2_with fail
 go_loopw [3,5] (fun v3 v5 wr=>dJ4 W L bb v3 v5 wr) (fun v3 v5 _=>4-(intOf v5).toNat)
 case atStart=>exact⟨0,rfl,by omega,hS.rowNil⟩
 case round=>
  clear hS;obtain⟨k,rfl,hk,hS⟩:=hrel;by_cases h4:k=4
  ·subst h4;go_wp2_with fail;go_ret;exact⟨_,rfl,hS⟩
  ·obtain h|h|h|h:k=0\/k=1\/k=2\/k=3:=by omega
   all_goals subst h
   all_goals clear hk h4
   all_goals go_wp2_with fail
   (refine rf2 tB10a (fun i=>i==11||i==12) [⟨some 11,none,fun nd=>L8 (nd 11) 2 2 [.P bb,.pointer (some ⟨bb,4+0,none⟩)] 253⟩,⟨some 12,none,fun nd=>row (nd 12) 1 253 (2*0+2) ((cn4 bb).take (2*0)++[.P bb,.pointer (some ⟨bb,4+0,none⟩)])⟩] [some 12] hS ?_;intro nd;(iterate 3 (refine cR ?_));refine zcn ?_;(iterate 4 (refine cR ?_));refine zcn ?_;(iterate 2 (refine cR ?_));apply aC4;rfl;rfl;rfl;(focus(simp only[fD,fI,fJ,Act.eval,fE,fF,fG,fH,fK];try rfl));(exact esS);(exact rsS);rfl;rfl;rfl;rfl;(intro _;rfl);rfl;(intro _;rfl);(refine frS ?_);apply Ai7;rfl;rfl;rfl;(focus((conv=>lhs;whnf);try rfl));(focus((conv=>lhs;whnf);try rfl));(exact esS);(exact rsS);rfl;decide;rfl;(intro F w hS;exact AC7 hS (by exact A6));(focus(try rfl));rfl;(focus(unfold maxLen;omega));(focus(omega));(intro _;rfl);(intro _;rfl);(refine frS ?_);refine cR ?_;refine Ad7 ?_;clear hS;intro w hS;have hS:St W [L8 (nd 11) 2 2 _ _,row (nd 12) 1 _ _ _,sats L] w:=hS;generalize nd 12=v12 at *;replace hS:=hS.drop.unpack [_];simp only[jK,jN]at hS;go_wp2_with fail;go_roundw;(case rel=>exact⟨0+1,rfl,by omega,hS⟩);(case measure=>simp[intOf]))
   (refine rf2 tB10a (fun i=>i==11||i==12) [⟨some 11,none,fun nd=>L8 (nd 11) 2 2 [.pointer (some ⟨bb,1,none⟩),.pointer (some ⟨bb,4+1,none⟩)] 253⟩,⟨some 12,none,fun nd=>row (nd 12) 1 253 (2*1+2) ((cn4 bb).take (2*1)++[.pointer (some ⟨bb,1,none⟩),.pointer (some ⟨bb,4+1,none⟩)])⟩] [some 12] hS ?_;intro nd;(iterate 3 (refine cR ?_));refine zcn ?_;(iterate 4 (refine cR ?_));refine zcn ?_;(iterate 2 (refine cR ?_));apply aC4;rfl;rfl;rfl;(focus(simp only[fD,fI,fJ,Act.eval,fE,fF,fG,fH,fK];try rfl));(exact esS);(exact rsS);rfl;rfl;rfl;rfl;(intro _;rfl);rfl;(intro _;rfl);(refine frS ?_);apply Ai7;rfl;rfl;rfl;(focus((conv=>lhs;whnf);try rfl));(focus((conv=>lhs;whnf);try rfl));(exact esS);(exact rsS);rfl;decide;rfl;(intro F w hS;exact AC7 hS (by exact A6));(focus(try rfl));rfl;(focus(unfold maxLen;omega));(focus(omega));(intro _;rfl);(intro _;rfl);(refine frS ?_);refine cR ?_;refine Ad7 ?_;clear hS;intro w hS;have hS:St W [L8 (nd 11) 2 2 _ _,row (nd 12) 1 _ _ _,sats L] w:=hS;generalize nd 12=v12 at *;replace hS:=hS.drop.unpack [_];simp only[jK,jN]at hS;go_wp2_with fail;go_roundw;(case rel=>exact⟨1+1,rfl,by omega,hS⟩);(case measure=>simp[intOf]))
   (refine rf2 tB10a (fun i=>i==11||i==12) [⟨some 11,none,fun nd=>L8 (nd 11) 2 2 [.pointer (some ⟨bb,2,none⟩),.pointer (some ⟨bb,4+2,none⟩)] 253⟩,⟨some 12,none,fun nd=>row (nd 12) 1 253 (2*2+2) ((cn4 bb).take (2*2)++[.pointer (some ⟨bb,2,none⟩),.pointer (some ⟨bb,4+2,none⟩)])⟩] [some 12] hS ?_;intro nd;(iterate 3 (refine cR ?_));refine zcn ?_;(iterate 4 (refine cR ?_));refine zcn ?_;(iterate 2 (refine cR ?_));apply aC4;rfl;rfl;rfl;(focus(simp only[fD,fI,fJ,Act.eval,fE,fF,fG,fH,fK];try rfl));(exact esS);(exact rsS);rfl;rfl;rfl;rfl;(intro _;rfl);rfl;(intro _;rfl);(refine frS ?_);apply Ai7;rfl;rfl;rfl;(focus((conv=>lhs;whnf);try rfl));(focus((conv=>lhs;whnf);try rfl));(exact esS);(exact rsS);rfl;decide;rfl;(intro F w hS;exact AC7 hS (by exact A6));(focus(try rfl));rfl;(focus(unfold maxLen;omega));(focus(omega));(intro _;rfl);(intro _;rfl);(refine frS ?_);refine cR ?_;refine Ad7 ?_;clear hS;intro w hS;have hS:St W [L8 (nd 11) 2 2 _ _,row (nd 12) 1 _ _ _,sats L] w:=hS;generalize nd 12=v12 at *;replace hS:=hS.drop.unpack [_];simp only[jK,jN]at hS;go_wp2_with fail;go_roundw;(case rel=>exact⟨2+1,rfl,by omega,hS⟩);(case measure=>simp[intOf]))
   (refine rf2 tB10a (fun i=>i==11||i==12) [⟨some 11,none,fun nd=>L8 (nd 11) 2 2 [.pointer (some ⟨bb,3,none⟩),.pointer (some ⟨bb,4+3,none⟩)] 253⟩,⟨some 12,none,fun nd=>row (nd 12) 1 253 (2*3+2) ((cn4 bb).take (2*3)++[.pointer (some ⟨bb,3,none⟩),.pointer (some ⟨bb,4+3,none⟩)])⟩] [some 12] hS ?_;intro nd;(iterate 3 (refine cR ?_));refine zcn ?_;(iterate 4 (refine cR ?_));refine zcn ?_;(iterate 2 (refine cR ?_));apply aC4;rfl;rfl;rfl;(focus(simp only[fD,fI,fJ,Act.eval,fE,fF,fG,fH,fK];try rfl));(exact esS);(exact rsS);rfl;rfl;rfl;rfl;(intro _;rfl);rfl;(intro _;rfl);(refine frS ?_);apply Ai7;rfl;rfl;rfl;(focus((conv=>lhs;whnf);try rfl));(focus((conv=>lhs;whnf);try rfl));(exact esS);(exact rsS);rfl;decide;rfl;(intro F w hS;exact AC7 hS (by exact A6));(focus(try rfl));rfl;(focus(unfold maxLen;omega));(focus(omega));(intro _;rfl);(intro _;rfl);(refine frS ?_);refine cR ?_;refine Ad7 ?_;clear hS;intro w hS;have hS:St W [L8 (nd 11) 2 2 _ _,row (nd 12) 1 _ _ _,sats L] w:=hS;generalize nd 12=v12 at *;replace hS:=hS.drop.unpack [_];simp only[jK,jN]at hS;go_wp2_with fail;go_roundw;(case rel=>exact⟨3+1,rfl,by omega,hS⟩);(case measure=>simp[intOf]))
def t8(ps:List (List Ord)):Nat->Nat
 | 0=>0
 | k+1=>t8 ps k+(ps.getD (br4.getD k 0) []).length
def Bk.len(b:Bk):Nat:=t8 b.ps 8
theorem Jw7(ps:List (List Ord))(k:Nat):∀d,t8 ps k<=t8 ps (k+d)
 | 0=>Nat.le_refl _
 | d+1=>Nat.le_trans (Jw7 ps k d) (Nat.le_add_right _ _)
theorem As7(ps:List (List Ord)){k j:Nat}(h:k<=j):t8 ps k<=t8 ps j:=by obtain⟨d,rfl⟩:=Nat.exists_eq_add_of_le h;exact Jw7 ps k d
def eM4(W:World)(L:List HP)(ps:List (List Ord))(v3 v11:Value)(w:World):Prop:=
 ∃k:Nat,v3=.I (t8 ps k)/\v11=.I k/\k<=8/\St W L w
theorem cellsOf{W w:World}{L:List HP}{vs:List Value}{ps:List (List Ord)}{last:Value}(h1:vs.length=8)(h2:ps.length=8)(h:St W (sats (C7 vs ps)::L) w)(o:Nat)(ho:o<8):∃b c,(vs++[last])[o]? = some (.slice b (ps.getD o []).length c):=by obtain⟨b,c,e⟩:=do4 o (by omega) (by omega) h;refine⟨b,c,?_⟩;rw[List.getElem?_append_left (by omega),jG (by omega),e];simp[List.getD_eq_getElem?_getD,jG (show o<ps.length by omega)]
theorem Gp7(bb:Nat)(b:Bk)(hb:b.len<=4294967296)(W w:World)(L:List HP)
  (hS:St W (w9 bb b::L) w):
  Calls Tryz.prog 149 #[.P bb] w fun e w'=>e=.returned (.I b.len)/\St W (w9 bb b::L) w':=by
 obtain⟨vs,h1,h2,hS0⟩:=ae4 hS;have hcs:=cellsOf (last:=.I b.last) h1 h2 hS0.swap;clear hS;have hS:=hS0;clear hS0;unfold Bk.len at hb;go_enter Tryz.func149,Tryz.ntmps149;go_wp2_with(first|(go_at_call 159;refine(DX7 bb W _ _ hS).mono ?_;clear hS;rintro e w ⟨v,rfl,hS⟩;rcases hS.rowOpen with ⟨_,h0,_⟩|⟨g,cap,junk,rfl,hn1,hm1,hj1,hl1,hS'⟩;exfalso;omega;clear hS;have hS:=hS';clear hS';unfold maxLen at hm1))
 go_loopw [3,11] (fun v3 v11 wr=>eM4 W (blk g (cn4 bb++junk) 253::blk bb (vs++[.I b.last]) 279::sats (C7 vs b.ps)::L) b.ps v3 v11 wr) (fun v3 v11 _=>8-(intOf v11).toNat)
 case atStart=>exact⟨0,rfl,rfl,by omega,hS⟩
 case round=>
  clear hS;obtain⟨k,rfl,rfl,hk,hS⟩:=hrel;by_cases h8:k=8
  ·subst h8;go_wp2_with fail;go_ret;exact⟨rfl,K8 h1 h2 hS.drop⟩
  ·obtain h|h|h|h|h|h|h|h:k=0\/k=1\/k=2\/k=3\/k=4\/k=5\/k=6\/k=7:=by omega
   all_goals subst h
   all_goals clear hk h8
   ·(have hk3:=jH (show t8 b.ps (0+1)=t8 b.ps 0+(b.ps.getD 0 []).length from rfl);have hk5:t8 b.ps 0+(b.ps.getD 0 []).length<=4294967296:=Nat.le_trans (As7 b.ps (k:=0+1) (j:=8) (by omega)) hb;obtain⟨b1,c1,hv⟩:=hcs 0 (by omega);have hk6:=jH hb;clear hb;generalize hs0:t8 b.ps 0=s0 at *;generalize hn0:(b.ps.getD 0 []).length=n0 at *;clear hs0 hn0;go_wp2_with(first|refine zl1 hS ?_ (hc:=by exact i6.there (i6.here hv))|refine zl1 hS ?_ (hc:=by exact i6.here rfl));go_roundw;(case rel=>exact⟨0+1,by rw[hk3.out];rfl,rfl,by omega,hS⟩);try(case measure=>simp[intOf]))
   ·(have hk3:=jH (show t8 b.ps (1+1)=t8 b.ps 1+(b.ps.getD 4 []).length from rfl);have hk5:t8 b.ps 1+(b.ps.getD 4 []).length<=4294967296:=Nat.le_trans (As7 b.ps (k:=1+1) (j:=8) (by omega)) hb;obtain⟨b1,c1,hv⟩:=hcs 4 (by omega);have hk6:=jH hb;clear hb;generalize hs0:t8 b.ps 1=s0 at *;generalize hn0:(b.ps.getD 4 []).length=n0 at *;clear hs0 hn0;go_wp2_with(first|refine zl1 hS ?_ (hc:=by exact i6.there (i6.here hv))|refine zl1 hS ?_ (hc:=by exact i6.here rfl));go_roundw;(case rel=>exact⟨1+1,by rw[hk3.out];rfl,rfl,by omega,hS⟩);try(case measure=>simp[intOf]))
   ·(have hk3:=jH (show t8 b.ps (2+1)=t8 b.ps 2+(b.ps.getD 1 []).length from rfl);have hk5:t8 b.ps 2+(b.ps.getD 1 []).length<=4294967296:=Nat.le_trans (As7 b.ps (k:=2+1) (j:=8) (by omega)) hb;obtain⟨b1,c1,hv⟩:=hcs 1 (by omega);have hk6:=jH hb;clear hb;generalize hs0:t8 b.ps 2=s0 at *;generalize hn0:(b.ps.getD 1 []).length=n0 at *;clear hs0 hn0;go_wp2_with(first|refine zl1 hS ?_ (hc:=by exact i6.there (i6.here hv))|refine zl1 hS ?_ (hc:=by exact i6.here rfl));go_roundw;(case rel=>exact⟨2+1,by rw[hk3.out];rfl,rfl,by omega,hS⟩);try(case measure=>simp[intOf]))
   ·(have hk3:=jH (show t8 b.ps (3+1)=t8 b.ps 3+(b.ps.getD 5 []).length from rfl);have hk5:t8 b.ps 3+(b.ps.getD 5 []).length<=4294967296:=Nat.le_trans (As7 b.ps (k:=3+1) (j:=8) (by omega)) hb;obtain⟨b1,c1,hv⟩:=hcs 5 (by omega);have hk6:=jH hb;clear hb;generalize hs0:t8 b.ps 3=s0 at *;generalize hn0:(b.ps.getD 5 []).length=n0 at *;clear hs0 hn0;go_wp2_with(first|refine zl1 hS ?_ (hc:=by exact i6.there (i6.here hv))|refine zl1 hS ?_ (hc:=by exact i6.here rfl));go_roundw;(case rel=>exact⟨3+1,by rw[hk3.out];rfl,rfl,by omega,hS⟩);try(case measure=>simp[intOf]))
   ·(have hk3:=jH (show t8 b.ps (4+1)=t8 b.ps 4+(b.ps.getD 2 []).length from rfl);have hk5:t8 b.ps 4+(b.ps.getD 2 []).length<=4294967296:=Nat.le_trans (As7 b.ps (k:=4+1) (j:=8) (by omega)) hb;obtain⟨b1,c1,hv⟩:=hcs 2 (by omega);have hk6:=jH hb;clear hb;generalize hs0:t8 b.ps 4=s0 at *;generalize hn0:(b.ps.getD 2 []).length=n0 at *;clear hs0 hn0;go_wp2_with(first|refine zl1 hS ?_ (hc:=by exact i6.there (i6.here hv))|refine zl1 hS ?_ (hc:=by exact i6.here rfl));go_roundw;(case rel=>exact⟨4+1,by rw[hk3.out];rfl,rfl,by omega,hS⟩);try(case measure=>simp[intOf]))
   ·(have hk3:=jH (show t8 b.ps (5+1)=t8 b.ps 5+(b.ps.getD 6 []).length from rfl);have hk5:t8 b.ps 5+(b.ps.getD 6 []).length<=4294967296:=Nat.le_trans (As7 b.ps (k:=5+1) (j:=8) (by omega)) hb;obtain⟨b1,c1,hv⟩:=hcs 6 (by omega);have hk6:=jH hb;clear hb;generalize hs0:t8 b.ps 5=s0 at *;generalize hn0:(b.ps.getD 6 []).length=n0 at *;clear hs0 hn0;go_wp2_with(first|refine zl1 hS ?_ (hc:=by exact i6.there (i6.here hv))|refine zl1 hS ?_ (hc:=by exact i6.here rfl));go_roundw;(case rel=>exact⟨5+1,by rw[hk3.out];rfl,rfl,by omega,hS⟩);try(case measure=>simp[intOf]))
   ·(have hk3:=jH (show t8 b.ps (6+1)=t8 b.ps 6+(b.ps.getD 3 []).length from rfl);have hk5:t8 b.ps 6+(b.ps.getD 3 []).length<=4294967296:=Nat.le_trans (As7 b.ps (k:=6+1) (j:=8) (by omega)) hb;obtain⟨b1,c1,hv⟩:=hcs 3 (by omega);have hk6:=jH hb;clear hb;generalize hs0:t8 b.ps 6=s0 at *;generalize hn0:(b.ps.getD 3 []).length=n0 at *;clear hs0 hn0;go_wp2_with(first|refine zl1 hS ?_ (hc:=by exact i6.there (i6.here hv))|refine zl1 hS ?_ (hc:=by exact i6.here rfl));go_roundw;(case rel=>exact⟨6+1,by rw[hk3.out];rfl,rfl,by omega,hS⟩);try(case measure=>simp[intOf]))
   ·(have hk3:=jH (show t8 b.ps (7+1)=t8 b.ps 7+(b.ps.getD 7 []).length from rfl);have hk5:t8 b.ps 7+(b.ps.getD 7 []).length<=4294967296:=Nat.le_trans (As7 b.ps (k:=7+1) (j:=8) (by omega)) hb;obtain⟨b1,c1,hv⟩:=hcs 7 (by omega);have hk6:=jH hb;clear hb;generalize hs0:t8 b.ps 7=s0 at *;generalize hn0:(b.ps.getD 7 []).length=n0 at *;clear hs0 hn0;go_wp2_with(first|refine zl1 hS ?_ (hc:=by exact i6.there (i6.here hv))|refine zl1 hS ?_ (hc:=by exact i6.here rfl));go_roundw;(case rel=>exact⟨7+1,by rw[hk3.out];rfl,rfl,by omega,hS⟩);try(case measure=>simp[intOf]))
def af4(xs:List Ord)(o:Ord):List Ord:=upF xs.length (xs++[o]) xs.length
def bs4(xs:List Ord):List Ord:=if h:0<xs.length then(aS4 xs (xs.length-1) (by omega)).take (xs.length-1)else[]
def eN4(xs:List Ord)(h:0<xs.length):Ord:=(aS4 xs (xs.length-1) (by omega))[xs.length-1]'(by rw[AM7];omega)
theorem Eu7(xs:List Ord)(o:Ord):(af4 xs o).length=xs.length+1:=by simp[af4,BX7]
theorem BD7(xs:List Ord):(bs4 xs).length=xs.length-1:=by
 unfold bs4;split
 ·rw[jT,AM7];omega
 ·simp;omega
theorem LF7(xs:List Ord)(o:Ord)(l:List Value)(T:TypeId)(bb off:Nat)(v:Value)(h63:xs.length<=4294967296)(hl:l[off]? = some v)(W w:World)(L:List HP)
  (hS:St W (blk bb l T::j7 v xs::L) w):
  Calls Tryz.prog 190 #[.iface 253 (.pointer (some ⟨bb,off,none⟩)),.iface 173 (.agg o.cells.toArray)] w fun e w'=>∃v',e=.returned (.tuple #[])/\St W (blk bb (l.set off v') T::j7 v' (af4 xs o)::L) w':=by
 refine(Kj7 xs o l T bb off xs.length v rfl h63 hl W w L hS).mono ?_;rintro e w' ⟨v',rfl,hS⟩;refine⟨v',rfl,?_⟩;unfold j7;rw[Eu7];exact hS
theorem NR7(xs:List Ord)(hx:0<xs.length)(l:List Value)(T:TypeId)(bb off:Nat)(v:Value)(h63:xs.length<=4294967296)(hl:l[off]? = some v)(W w:World)(L:List HP)
  (hS:St W (blk bb l T::j7 v xs::L) w):
  Calls Tryz.prog 192 #[.iface 253 (.pointer (some ⟨bb,off,none⟩))] w fun e w'=>∃v',e=.returned (.iface 173 (.agg (eN4 xs hx).cells.toArray))/\St W (blk bb (l.set off v') T::j7 v' (bs4 xs)::L) w':=by
 have h1:=hS.swap.rowOpen
 rcases h1 with ⟨_,h0,_⟩|⟨g,cap,junk,rfl,hn1,hm1,hj1,hl1,hS1⟩
 ·omega
 ·obtain⟨n,hn⟩:∃n,xs.length=n+1:=⟨xs.length-1,by omega⟩
  have hpt:bs4 xs=(aS4 xs n hn).take n:=by unfold bs4;rw[dif_pos hx];simp only[hn,Nat.add_sub_cancel]
  have hpv:eN4 xs hx=(aS4 xs n hn)[n]'(by rw[AM7];omega):=by unfold eN4;simp only[hn,Nat.add_sub_cancel]
  rw[hn]at hn1 hl1 hl;refine(LD7 xs junk l T bb off g n cap hn hn1 hm1 (by omega) hl W w L hS1.swap).mono ?_;rintro e w' ⟨rfl,hS⟩;refine⟨.S g n cap,by rw[hpv],?_⟩;unfold j7;rw[BD7,hn,hpt];have e:(aS4 xs n hn).flatMap Ord.cells++junk=((aS4 xs n hn).take n).flatMap Ord.cells++(((aS4 xs n hn).drop n).flatMap Ord.cells++junk):=by rw[<-jS,<-List.flatMap_append,List.take_append_drop]
  rw[e]at hS;refine(St.rowShut hS.swap (by omega) hm1 ?_ ?_).swap
  ·rw[<-e,jA,Ab7 Ord.len,AM7];rw[jA,Ab7 Ord.len,hn]at hj1;exact hj1
  ·rw[Ab7 Ord.len,jT,AM7];simp
def m8(k:Nat)(y:Bool):Nat:=cond y k (4+k)
theorem BY7(bb k:Nat)(hk:k<4)(y:Bool)(W w:World)(L:List HP)(hS:St W L w):
  Calls Tryz.prog 188 #[.P bb,.I k,.bool y] w fun e w'=>e=.returned (.pointer (some ⟨bb,m8 k y,none⟩))/\St W L w':=by
 obtain h|h|h|h:k=0\/k=1\/k=2\/k=3:=by omega
 all_goals subst h
 all_goals cases y
 all_goals go_enter Tryz.func188,Tryz.ntmps188
 all_goals go_wp2_with(first|refine zl1 hS ?_|refine zlN hS ?_|refine zs1 hS ?_;clear hS;intro w hS|refine zsN hS ?_;clear hS;intro w hS|refine zbx hS ?_;clear hS;intro b w hS|refine zal hS ?_;clear hS;intro b w hS)
 all_goals go_ret
 all_goals exact⟨rfl,hS⟩
def K5:Nat->Ord->List Ord->List Trd->Ord×List Ord×List Trd
 | 0,o,q,l=>(o,q,l)
 | _+1,o,[],l=>(o,[],l)
 | f+1,o,x::q,l=>
  if 0<o.cnt/\av4 o x=true then
   K5 f { o with cnt:=o.cnt-(P5 o x).cnt }
    (if x.cnt-(P5 o x).cnt=0 then bs4 ({ x with cnt:=x.cnt-(P5 o x).cnt }::q)else{ x with cnt:=x.cnt-(P5 o x).cnt }::q)
    (l++[P5 o x])
  else(o,x::q,l)
def Bk.pile(b:Bk)(k:Nat):List Ord:=b.ps.getD k []
def bd4(o:Ord):Nat:=o.item.toNat
structure Placed where
 trades:List Trd
 left:Int
 errno:Int
 book:Bk
def E6(b:Bk)(o:Ord):Placed:=
 if J7 o=false\/o.id<=b.last then⟨[],0,1,b⟩
 else if 32<=b.len then⟨[],0,6,b⟩
 else
  let k:=m8 (bd4 o) (!o.buy)
  let r:=K5 ((b.pile k).length+1) o (b.pile k) []
  let ps:=b.ps.set k r.2.1
  let j:=m8 (bd4 o) o.buy
  ⟨r.2.2,r.1.cnt,0,⟨if 0<r.1.cnt then ps.set j (af4 (ps.getD j []) r.1)else ps,o.id⟩⟩
theorem AK7{α:Type}(xs:List α)(i j:Nat)(hi:i<xs.length)(hj:j<xs.length):(F7 xs i j hi hj).Perm xs:=List.set_set_perm hi hj
theorem Hk7{α:Type}(xs:List α)(i j:Nat)(hi:i<xs.length)(hj:j<xs.length)(k:Nat)(hk:k<(F7 xs i j hi hj).length):
  (F7 xs i j hi hj)[k]=if k=j then xs[i]else if k=i then xs[j]else xs[k]'(by rw[Af7]at hk;exact hk):=by
 simp only[F7,List.getElem_set];by_cases h1:j=k
 ·subst h1;simp
 ·by_cases h2:i=k
  ·subst h2;simp[h1,Ne.symm h1]
  ·simp[h1,h2,Ne.symm h1,Ne.symm h2]
theorem Gq7:∀(f:Nat) (xs:List Ord) (j:Nat),(upF f xs j).Perm xs
 | 0,_,_=>.refl _
 | f+1,xs,j=>by
  rw[upF];split
  ·split
   ·exact(Gq7 f _ _).trans (AK7 _ _ _ _ _)
   ·exact .refl _
  ·exact .refl _
theorem CD7:∀(f:Nat) (xs:List Ord) (i n:Nat),(C9 f xs i n).1.Perm xs
 | 0,_,_,_=>.refl _
 | f+1,xs,i,n=>by
  rw[C9];split
  ·split
   ·exact(CD7 f _ _ _).trans (AK7 _ _ _ _ _)
   ·exact .refl _
  ·exact .refl _
theorem BO7:∀(f:Nat) (xs:List Ord) (i n k:Nat),n<=k->(C9 f xs i n).1[k]? = xs[k]?
 | 0,_,_,_,_,_=>rfl
 | f+1,xs,i,n,k,hk=>by
  rw[C9];split
  ·rename_i h
   split
   ·have hk1:=Hh7 h.2 h.1;rw[BO7 f _ _ _ _ hk];simp only[F7];rw[List.getElem?_set_ne (by omega),List.getElem?_set_ne (by omega)]
   ·rfl
  ·rfl
theorem LG7(xs:List Ord)(n:Nat)(h:xs.length=n+1):(aS4 xs n h)[n]? = xs[0]? := by unfold aS4;rw[BO7 _ _ _ _ _ (Nat.le_refl _),jG (by rw[Af7];omega),Hk7];rw[if_pos rfl,jG (by omega)]
theorem LH7(xs:List Ord)(n:Nat)(h:xs.length=n+1):(aS4 xs n h).Perm xs:=(CD7 _ _ _ _).trans (AK7 _ _ _ _ _)
theorem Cu7(x:Ord)(q:List Ord):(bs4 (x::q)).Perm q:=by
 have h:(x::q).length=q.length+1:=rfl;have e:bs4 (x::q)=(aS4 (x::q) q.length h).take q.length:=by unfold bs4;rw[dif_pos (by simp)];rfl
 rw[e];have h1:=LH7 (x::q) q.length h;have h2:=LG7 (x::q) q.length h;have h3:=AM7 h;rw[jG (by rw[h3];omega)]at h2
 have h4:(aS4 (x::q) q.length h)=(aS4 (x::q) q.length h).take q.length++[x]:=by
  have h5:(aS4 (x::q) q.length h).drop q.length=[x]:=by rw[List.drop_eq_getElem_cons (by rw[h3];omega),List.drop_eq_nil_of_le (by rw[h3];omega)];simp only[List.getElem?_cons_zero,Option.some.injEq]at h2;rw[h2]
  rw[<-h5,List.take_append_drop]
 rw[h4]at h1;exact List.Perm.cons_inv ((List.perm_append_singleton x _).symm.trans h1)
theorem DY7(xs:List Ord)(o:Ord):(af4 xs o).Perm (o::xs):=(Gq7 _ _ _).trans (List.perm_append_singleton o xs)
end Go.Proofs.YtienbkdjkjbelaaGreat
end
