/-
  The document's book.
-/
import Derived.Test.YtienbkdjkjbelaaGreatJuTM5
import Derived.Test.YtienbkdjkjbelaaGreatJuTM14
import Derived.Test.YtienbkdjkjbelaaGreatJuTM15
set_option maxHeartbeats 16000000
set_option maxRecDepth 100000
set_option linter.unusedSimpArgs false
set_option linter.unusedVariables false
section
namespace Go.Proofs.YtienbkdjkjbelaaGreat
open Go.RowKit Go.Sl
theorem Kt7(o s:Ord)(W w:World)(L:List HP)(hS:St W L w):
  Calls Tryz.prog 215 #[.agg o.cells.toArray,.agg s.cells.toArray] w fun e w'=>e=.returned (.bool (K9 o s))/\St W L w':=by
 obtain⟨i,u,y,t,c,p⟩:=o;obtain⟨i',u',y',t',c',p'⟩:=s;simp only[Ord.cells];by_cases ht:t=t'
 ·subst ht
  cases y <;> cases y'
  all_goals go_enter Tryz.func215,Tryz.ntmps215
  all_goals go_wp2_with(first|refine zbx hS ?_;clear hS;intro b w hS|refine zl1 hS ?_)
  all_goals go_ret
  all_goals exact⟨by simp[K9],hS.drop.drop⟩
 ·have ht2:(t != t')=true:=by simpa using ht
  have ht3:(t==t')=false:=by simpa using ht
  go_enter Tryz.func215,Tryz.ntmps215;go_wp2_with(first|refine zbx hS ?_;clear hS;intro b w hS|refine zl1 hS ?_)
  all_goals go_ret
  all_goals exact⟨by simp[K9,ht],hS.drop.drop⟩
theorem CI7{o s:Ord}{r:Bool}(h:K9 o s=r)(W w:World)(L:List HP)(hS:St W L w):
  Calls Tryz.prog 215 #[.agg o.cells.toArray,.agg s.cells.toArray] w fun e w'=>e=.returned (.bool r)/\St W L w':=h▸Kt7 o s W w L hS
def kI:Option Nat->Int
 | none => -1
 | some k=>k
def fo4(W:World)(Lr:List HP)(o:Ord)(L:List Ord)(v5 v6:Value)(w:World):Prop:=
 ∃i:Nat,v5=.I (kI (s9 o L i))/\v6=.I i/\i<=L.length/\St W Lr w
theorem LQ7{o:Ord}{L:List Ord}{i:Nat}(h:K9 o (at' L i)=false):s9 o L (i+1)=s9 o L i:=by rw[s9,h];rfl
theorem Ec7{o:Ord}{L:List Ord}{i:Nat}(h:K9 o (at' L i)=true)(hg:cD4 o L i (s9 o L i)=true):s9 o L (i+1)=some i:=by rw[s9,h,hg];rfl
theorem Ga7{o:Ord}{L:List Ord}{i:Nat}(hg:cD4 o L i (s9 o L i)=false):s9 o L (i+1)=s9 o L i:=by rw[s9,hg];simp
abbrev tB15a:List Nat:=[0,0,2,6,14,0,62,126,255,511]
abbrev tB15b:List Nat:=[0,1,3,7,15,31,63,127,255,511,63,2047,4095,8191,63,16447,49215,114751,63,507967,1032255,2080831,4194303,8388607,16777215,33554431,67108863,134217727,268435455,536870911,1073741823,2147483647,4294967295,8589934591,1073741823,34359738367,68719476735,137438953471,1073741823,275951648767,825707462655,1925219090431,1073741823,8522288857087,17318381879295,34910567923711,70368744177663,140737488355327,281474976710655]
theorem Gs7(o:Ord)(L:List Ord)(xb:Nat)(last:Int)(v:Value)(hlen:L.length<=32)(W w:World)(Lr:List HP)(hS:St W (blk xb [v,.I last] 186::j7 v L::Lr) w):
  Calls Tryz.prog 182 #[.P xb,.agg o.cells.toArray] w fun e w'=>e=.returned (.I (kI (s9 o L L.length)))/\St W (blk xb [v,.I last] 186::j7 v L::Lr) w':=by
 obtain⟨a,cap,rfl⟩:=hS.drop.rowVal;obtain⟨i,u,y,t,c,p⟩:=o;simp only[Ord.cells];go_enter Tryz.func182,Tryz.ntmps182;go_wp2_with(first|refine zbx hS ?_;clear hS;intro b w hS)
 go_loopw [5,6] (fun v5 v6 wr=>fo4 W (blk b [.I i,.string u,.bool y,.I t,.I c,.I p] 173::blk xb [.slice a L.length cap,.I last] 186::j7 (.slice a L.length cap) L::Lr) ⟨i,u,y,t,c,p⟩ L v5 v6 wr) (fun _ v _=>L.length-(intOf v).toNat)
 case atStart=>exact⟨0,rfl,rfl,by omega,hS⟩
 case round=>
  clear hS;obtain⟨j,rfl,rfl,hj,hS⟩:=hrel;by_cases hjn:j=L.length
  ·subst hjn;go_wp2_with(first|refine zl1 hS ?_);go_ret;exact⟨rfl,hS.drop⟩
  ·have hil:j<L.length:=by omega
   clear hjn hj;obtain⟨⟨g,rfl⟩,hcap,hcn⟩:=St.rowAddr hS.drop.drop (by omega);have f5:(Ord.cells L[j])[5]? = some (.I L[j].price):=rfl
   cases hm:K9 ⟨i,u,y,t,c,p⟩ L[j]
   ·have hb:=LQ7 (i:=j) (by rw[m5 hil];exact hm);go_wp2_with(first|refine zl1 hS ?_);refine rf3 tB15a (fun _=>false) (fun i=>if i==8 then some (.bool false)else none) [] [none,none,none] hS ?_;intro nd;refine zcN ?_;refine cR ?_;refine zcn ?_;refine cR ?_;refine zc1 ?_
    iterate 2 (refine cR ?_)
    (refine zcN ?_ (hc:=by(intro F;exact d8.there (d8.there (d8.rowE Ord.len hil)))));refine zcv ?_ (hs:=by(intro F w hS;(try clear hS0);exact CI7 hm W w _ hS));refine cR ?_;refine Ad7 ?_;clear hS;intro w hS;have hS2:St W [blk b _ _,blk xb _ _,j7 _ _,sats _] w:=hS;clear hS;have hS:=hS2.unpack [_,_,_];clear hS2;simp only[jK,jN]at hS;go_wp2_with(fail);go_roundw
    case rel=>exact⟨j+1,by rw[hb],rfl,hil,hS⟩
    case measure=>simp[intOf];omega
   ·have hm':K9 ⟨i,u,y,t,c,p⟩ (at' L j)=true:=by rw[m5 hil];exact hm
    cases hbt:s9 ⟨i,u,y,t,c,p⟩ L j with
    | none=>
     have hb:=Ec7 hm' (by rw[hbt];rfl);have hk1:kI (none:Option Nat) = -1:=rfl;go_wp2_with(first|refine zl1 hS ?_);refine rf3 tB15a (fun _=>false) (fun i=>if i==8 then some (.bool true)else none) [] [none,none,none] hS ?_;intro nd;refine zcN ?_;refine cR ?_;refine zcn ?_;refine cR ?_;refine zc1 ?_
     iterate 2 (refine cR ?_)
     (refine zcN ?_ (hc:=by(intro F;exact d8.there (d8.there (d8.rowE Ord.len hil)))));refine zcv ?_ (hs:=by(intro F w hS;(try clear hS0);exact CI7 hm W w _ hS));refine cR ?_;refine Ad7 ?_;clear hS;intro w hS;have hS2:St W [blk b _ _,blk xb _ _,j7 _ _,sats _] w:=hS;clear hS;have hS:=hS2.unpack [_,_,_];clear hS2;simp only[jK,jN]at hS;go_wp2_with(fail);refine rf2 tB15b (fun _=>false) [] [none,none,none] hS ?_;intro nd
     iterate 3 (refine cR ?_)
     iterate 21 (refine Bk7 (by kernel_rfl) rfl ?_;refine frS ?_)
     iterate 2 (refine cR ?_)
     iterate 22 (refine Bk7 (by kernel_rfl) rfl ?_;refine frS ?_)
     (refine cR ?_);refine Ad7 ?_;clear hS;intro w hS;have hS2:St W [blk b _ _,blk xb _ _,j7 _ _,sats _] w:=hS;clear hS;have hS:=hS2.unpack [_,_,_];clear hS2;simp only[jK,jN]at hS;go_wp2_with(fail);go_roundw
     case rel=>exact⟨j+1,by rw[hb];rfl,rfl,hil,hS⟩
     case measure=>simp[intOf];omega
    | some k=>
     have hkj:=(AG7 hbt).1;have hkl:k<L.length:=by omega
     have hk1:kI (some k)=(k:Int):=rfl;have g5:(Ord.cells L[k])[5]? = some (.I L[k].price):=rfl;have hgd:cD4 ⟨i,u,y,t,c,p⟩ L j (some k)=ah4 ⟨i,u,y,t,c,p⟩ L[j] L[k]:=by show ah4 _ (at' L j) (at' L k)=_;rw[m5 hil,m5 hkl]
     unfold ah4 at hgd;generalize L[j].price=pj at f5 hgd;generalize L[k].price=pk at g5 hgd
     cases y
     ·simp only[Bool.false_eq_true,if_false]at hgd;by_cases hlt:pk<pj
      ·have hb:=Ec7 hm' (by rw[hbt,hgd];simpa using hlt);have hd:decide (pk<pj)=true:=by simpa using hlt
       go_wp2_with(first|refine zl1 hS ?_);refine rf3 tB15a (fun _=>false) (fun i=>if i==8 then some (.bool true)else none) [] [none,none,none] hS ?_;intro nd;refine zcN ?_;refine cR ?_;refine zcn ?_;refine cR ?_;refine zc1 ?_
       iterate 2 (refine cR ?_)
       (refine zcN ?_ (hc:=by(intro F;exact d8.there (d8.there (d8.rowE Ord.len hil)))));refine zcv ?_ (hs:=by(intro F w hS;(try clear hS0);exact CI7 hm W w _ hS));refine cR ?_;refine Ad7 ?_;clear hS;intro w hS;have hS2:St W [blk b _ _,blk xb _ _,j7 _ _,sats _] w:=hS;clear hS;have hS:=hS2.unpack [_,_,_];clear hS2;simp only[jK,jN]at hS;go_wp2_with(fail);refine rf2 tB15b (fun _=>false) [] [none,none,none] hS ?_;intro nd
       iterate 3 (refine cR ?_)
       (refine cR ?_);refine zc1 ?_;refine cR ?_
       iterate 17 (refine Bk7 (by kernel_rfl) rfl ?_;refine frS ?_)
       iterate 4 (refine cR ?_)
       (refine zc1 ?_)
       iterate 2 (refine cR ?_)
       iterate 1 (refine cR ?_)
       (refine zcn ?_);refine cR ?_;refine zc1 ?_
       iterate 3 (refine cR ?_)
       (refine zc1 ?_ (hc:=by(intro F;exact i6.there (i6.there (i6.rowE Ord.len hil f5)))));refine cR ?_;refine zcn ?_;refine cR ?_;refine zc1 ?_
       iterate 3 (refine cR ?_)
       (refine zc1 ?_ (hc:=by(intro F;exact i6.there (i6.there (i6.rowE Ord.len hkl g5)))));refine cR ?_
       iterate 2 (refine cR ?_)
       refine Ad7 ?_;clear hS;intro w hS;have hS2:St W [blk b _ _,blk xb _ _,j7 _ _,sats _] w:=hS;clear hS;have hS:=hS2.unpack [_,_,_];clear hS2;simp only[jK,jN]at hS;go_wp2_with(fail);go_roundw
       case rel=>exact⟨j+1,by rw[hb];rfl,rfl,hil,hS⟩
       case measure=>simp[intOf];omega
      ·have hb:=Ga7 (i:=j) (o:=⟨i,u,false,t,c,p⟩) (L:=L) (by rw[hbt,hgd];simpa using hlt);have hd:decide (pk<pj)=false:=by simpa using hlt
       go_wp2_with(first|refine zl1 hS ?_);refine rf3 tB15a (fun _=>false) (fun i=>if i==8 then some (.bool true)else none) [] [none,none,none] hS ?_;intro nd;refine zcN ?_;refine cR ?_;refine zcn ?_;refine cR ?_;refine zc1 ?_
       iterate 2 (refine cR ?_)
       (refine zcN ?_ (hc:=by(intro F;exact d8.there (d8.there (d8.rowE Ord.len hil)))));refine zcv ?_ (hs:=by(intro F w hS;(try clear hS0);exact CI7 hm W w _ hS));refine cR ?_;refine Ad7 ?_;clear hS;intro w hS;have hS2:St W [blk b _ _,blk xb _ _,j7 _ _,sats _] w:=hS;clear hS;have hS:=hS2.unpack [_,_,_];clear hS2;simp only[jK,jN]at hS;go_wp2_with(fail);refine rf2 tB15b (fun _=>false) [] [none,none,none] hS ?_;intro nd
       iterate 3 (refine cR ?_)
       (refine cR ?_);refine zc1 ?_;refine cR ?_
       iterate 17 (refine Bk7 (by kernel_rfl) rfl ?_;refine frS ?_)
       iterate 4 (refine cR ?_)
       (refine zc1 ?_)
       iterate 2 (refine cR ?_)
       iterate 1 (refine cR ?_)
       (refine zcn ?_);refine cR ?_;refine zc1 ?_
       iterate 3 (refine cR ?_)
       (refine zc1 ?_ (hc:=by(intro F;exact i6.there (i6.there (i6.rowE Ord.len hil f5)))));refine cR ?_;refine zcn ?_;refine cR ?_;refine zc1 ?_
       iterate 3 (refine cR ?_)
       (refine zc1 ?_ (hc:=by(intro F;exact i6.there (i6.there (i6.rowE Ord.len hkl g5)))));refine cR ?_
       iterate 2 (refine cR ?_)
       refine Ad7 ?_;clear hS;intro w hS;have hS2:St W [blk b _ _,blk xb _ _,j7 _ _,sats _] w:=hS;clear hS;have hS:=hS2.unpack [_,_,_];clear hS2;simp only[jK,jN]at hS;go_wp2_with(fail);go_roundw
       case rel=>exact⟨j+1,by rw[hb,hbt];rfl,rfl,hil,hS⟩
       case measure=>simp[intOf];omega
     ·simp only[if_true]at hgd;by_cases hlt:pj<pk
      ·have hb:=Ec7 hm' (by rw[hbt,hgd];simpa using hlt);have hd:decide (pj<pk)=true:=by simpa using hlt
       go_wp2_with(first|refine zl1 hS ?_);refine rf3 tB15a (fun _=>false) (fun i=>if i==8 then some (.bool true)else none) [] [none,none,none] hS ?_;intro nd;refine zcN ?_;refine cR ?_;refine zcn ?_;refine cR ?_;refine zc1 ?_
       iterate 2 (refine cR ?_)
       (refine zcN ?_ (hc:=by(intro F;exact d8.there (d8.there (d8.rowE Ord.len hil)))));refine zcv ?_ (hs:=by(intro F w hS;(try clear hS0);exact CI7 hm W w _ hS));refine cR ?_;refine Ad7 ?_;clear hS;intro w hS;have hS2:St W [blk b _ _,blk xb _ _,j7 _ _,sats _] w:=hS;clear hS;have hS:=hS2.unpack [_,_,_];clear hS2;simp only[jK,jN]at hS;go_wp2_with(fail);refine rf2 tB15b (fun _=>false) [] [none,none,none] hS ?_;intro nd
       iterate 3 (refine cR ?_)
       (refine cR ?_);refine zc1 ?_;refine cR ?_
       iterate 1 (refine cR ?_)
       (refine zcn ?_);refine cR ?_;refine zc1 ?_
       iterate 3 (refine cR ?_)
       (refine zc1 ?_ (hc:=by(intro F;exact i6.there (i6.there (i6.rowE Ord.len hil f5)))));refine cR ?_;refine zcn ?_;refine cR ?_;refine zc1 ?_
       iterate 3 (refine cR ?_)
       (refine zc1 ?_ (hc:=by(intro F;exact i6.there (i6.there (i6.rowE Ord.len hkl g5)))));refine cR ?_
       iterate 3 (refine cR ?_)
       iterate 22 (refine Bk7 (by kernel_rfl) rfl ?_;refine frS ?_)
       (refine cR ?_);refine Ad7 ?_;clear hS;intro w hS;have hS2:St W [blk b _ _,blk xb _ _,j7 _ _,sats _] w:=hS;clear hS;have hS:=hS2.unpack [_,_,_];clear hS2;simp only[jK,jN]at hS;go_wp2_with(fail);go_roundw
       case rel=>exact⟨j+1,by rw[hb];rfl,rfl,hil,hS⟩
       case measure=>simp[intOf];omega
      ·have hb:=Ga7 (i:=j) (o:=⟨i,u,true,t,c,p⟩) (L:=L) (by rw[hbt,hgd];simpa using hlt);have hd:decide (pj<pk)=false:=by simpa using hlt
       go_wp2_with(first|refine zl1 hS ?_);refine rf3 tB15a (fun _=>false) (fun i=>if i==8 then some (.bool true)else none) [] [none,none,none] hS ?_;intro nd;refine zcN ?_;refine cR ?_;refine zcn ?_;refine cR ?_;refine zc1 ?_
       iterate 2 (refine cR ?_)
       (refine zcN ?_ (hc:=by(intro F;exact d8.there (d8.there (d8.rowE Ord.len hil)))));refine zcv ?_ (hs:=by(intro F w hS;(try clear hS0);exact CI7 hm W w _ hS));refine cR ?_;refine Ad7 ?_;clear hS;intro w hS;have hS2:St W [blk b _ _,blk xb _ _,j7 _ _,sats _] w:=hS;clear hS;have hS:=hS2.unpack [_,_,_];clear hS2;simp only[jK,jN]at hS;go_wp2_with(fail);refine rf2 tB15b (fun _=>false) [] [none,none,none] hS ?_;intro nd
       iterate 3 (refine cR ?_)
       (refine cR ?_);refine zc1 ?_;refine cR ?_
       iterate 1 (refine cR ?_)
       (refine zcn ?_);refine cR ?_;refine zc1 ?_
       iterate 3 (refine cR ?_)
       (refine zc1 ?_ (hc:=by(intro F;exact i6.there (i6.there (i6.rowE Ord.len hil f5)))));refine cR ?_;refine zcn ?_;refine cR ?_;refine zc1 ?_
       iterate 3 (refine cR ?_)
       (refine zc1 ?_ (hc:=by(intro F;exact i6.there (i6.there (i6.rowE Ord.len hkl g5)))));refine cR ?_
       iterate 4 (refine cR ?_)
       (refine zc1 ?_)
       iterate 2 (refine cR ?_)
       iterate 17 (refine Bk7 (by kernel_rfl) rfl ?_;refine frS ?_)
       iterate 2 (refine cR ?_)
       refine Ad7 ?_;clear hS;intro w hS;have hS2:St W [blk b _ _,blk xb _ _,j7 _ _,sats _] w:=hS;clear hS;have hS:=hS2.unpack [_,_,_];clear hS2;simp only[jK,jN]at hS;go_wp2_with(fail);go_roundw
       case rel=>exact⟨j+1,by rw[hb,hbt];rfl,rfl,hil,hS⟩
       case measure=>simp[intOf];omega
theorem LR7(L:List Ord)(i j:Nat)(u:Value)(h:((L.take i).flatMap Ord.cells)[j]? = some u):(L.flatMap Ord.cells)[0+j]? = some u:=by
 rw[Nat.zero_add];have e:L.flatMap Ord.cells=(L.take i).flatMap Ord.cells++(L.drop i).flatMap Ord.cells:=by rw[<-List.flatMap_append,List.take_append_drop]
 rw[e,List.getElem?_append_left (List.getElem?_eq_some_iff.1 h).1];exact h
theorem LS7(L:List Ord)(i j:Nat)(u:Value)(hi:i<=L.length)(h:((L.drop i).flatMap Ord.cells)[j]? = some u):(L.flatMap Ord.cells)[i*6+j]? = some u:=by
 have e:L.flatMap Ord.cells=(L.take i).flatMap Ord.cells++(L.drop i).flatMap Ord.cells:=by rw[<-List.flatMap_append,List.take_append_drop]
 have hl:((L.take i).flatMap Ord.cells).length=i*6:=by rw[Ab7 Ord.len,jT,Nat.min_eq_left hi]
 rw[e,List.getElem?_append_right (by omega),hl,Nat.add_sub_cancel_left];exact h
theorem Ku7{W w:World}{L:List HP}{R:List HP}{g c c':Nat}{Lo:List Ord}{i:Nat}(hi:i<=Lo.length)(hc:Lo.length<=c)(hS:St W L w)(hu:Take L (j7 (.S g Lo.length c) Lo) R):
  cG4 w (.slice (if c=i then some ⟨g,0,none⟩else some ⟨g,i*6,none⟩) (Lo.length-i) c') (Lo.length-i) ((Lo.drop i).flatMap Ord.cells):=by
 split
 ·have h0:Lo.drop i=[]:=List.drop_eq_nil_of_le (by omega);rw[h0];exact Gm7 hS hu (fun j u h=>by simp at h)
 ·exact Gm7 hS hu (fun j u h=>LS7 Lo i j u hi h)
theorem Gt7(L:List Ord)(i xb:Nat)(last:Int)(v:Value)(hlen:L.length<=32)(hi:i<L.length)(W w:World)(Lr:List HP)(hS:St W (blk xb [v,.I last] 186::j7 v L::Lr) w):
  Calls Tryz.prog 183 #[.P xb,.I i] w fun e w'=>e=.returned (.tuple #[])/\∃v',St W (blk xb [v',.I last] 186::j7 v' (L.eraseIdx i)::Lr) w':=by
 obtain⟨a,cap,rfl⟩:=hS.drop.rowVal;obtain⟨⟨g,rfl⟩,hcap,hcn⟩:=St.rowAddr hS.drop (by omega);have hi1:i<=cap:=by omega
 have hi2:i+1<=L.length:=by omega
 go_enter Tryz.func183,Tryz.ntmps183;refine rf2 [0,0,0,4,12,28,0,124,254,0,512,1536,3584,0,8192,32256,65534,131071,262143,524287] (fun i=>i==1||i==8||i==16) [⟨some 1,some 8,fun nd=>row (nd 1) 6 173 0 []⟩,⟨some 8,some 16,fun nd=>row (nd 8) 6 173 (0+i) ([]++(L.take i).flatMap Ord.cells)⟩,⟨some 16,none,fun nd=>row (nd 16) 6 173 (0+i+(L.length-(i+1))) ([]++(L.take i).flatMap Ord.cells++(L.drop (i+1)).flatMap Ord.cells)⟩,⟨some 19,none,fun nd=>blk xb [nd 16,.I last] 186⟩] [some 19,none] hS ?_;intro nd;refine cR ?_;apply Bn7;rfl;rfl;rfl;(focus(simp only[fD,fI,fJ,Act.eval,fE,fF,fG,fH,fK];try rfl));(exact esS);(exact rsS);rfl;rfl;rfl;rfl;rfl;decide;(intro _;rfl);rfl;(intro _;rfl);(refine frS ?_);refine cR ?_;refine zcn ?_;refine cR ?_;refine zc1 ?_;refine cR ?_;refine cR ?_;apply Ai7;rfl;rfl;rfl;(focus((conv=>lhs;whnf);try rfl));(focus((conv=>lhs;whnf);try rfl));(exact esS);(exact rsS);rfl;decide;rfl;(intro F w hS;exact Gm7 hS (by exact i7) (fun j u h=>LR7 L i j u h));(focus(rw[Ab7 Ord.len,jT,Nat.min_eq_left (by omega)]));(focus(exact EE7 _));(focus(unfold maxLen;omega));(focus(omega));(intro _;rfl);(intro _;rfl);(refine frS ?_);refine cR ?_;refine zcn ?_;refine cR ?_;refine zc1 ?_
 iterate 3 (refine cR ?_)
 (apply Ai7;rfl;rfl;rfl;(focus((conv=>lhs;whnf);try rfl));(focus((conv=>lhs;whnf);try rfl));exact esS;exact rsS;rfl;decide;rfl;intro F w hS;exact Ku7 hi2 hcn hS (by exact i7);(focus(rw[Ab7 Ord.len,List.length_drop]));(focus(exact EE7 _));(focus(unfold maxLen;omega));(focus(omega));intro _;rfl;intro _;rfl;refine frS ?_);refine zcn ?_;refine cR ?_;(apply Jo7;rfl;rfl;rfl;rfl;(focus((conv=>lhs;whnf);try rfl));kernel_rfl;rfl;intro F w hS;exact hS.rowOne (by exact A6);(focus(simp));rfl;rfl;try(refine frS ?_));refine Ad7 ?_;clear hS;intro w hS;have hS2:St W [row (nd 16) 6 _ _ _,blk xb _ _,j7 _ _,sats Lr] w:=hS;clear hS;have hS:=hS2.unpack [_,_,_];clear hS2;simp only[jK,jN]at hS;generalize nd 16=v16 at *;have e1:L.eraseIdx i=L.take i++L.drop (i+1):=List.eraseIdx_eq_take_drop_succ L i;have e2:(L.take i++L.drop (i+1)).length=0+i+(L.length-(i+1)):=by rw[jA,jT,List.length_drop,Nat.min_eq_left (by omega)];omega
 have fin:St W (blk xb [v16,.I last] 186::j7 v16 (L.eraseIdx i)::Lr) w:=by have h1:=(hS.take .t2).drop.swap;unfold j7;rw[e1,List.flatMap_append,e2];exact h1
 have Fin:=jH fin;clear fin hS e1 e2;go_wp2_with fail
 all_goals go_end0
 all_goals exact⟨rfl,v16,Fin.out⟩
def fp4(W:World)(Lr:List HP)(L:List Ord)(id:Int)(v6:Value)(w:World):Prop:=
 ∃k:Nat,v6=.I k/\k<=L.length/\(∀j,j<k->(at' L j).id≠id)/\St W Lr w
theorem Kv7{L:List Ord}{id:Int}(h:∀j,j<L.length->(at' L j).id≠id):m9 L id=⟨o0,7,L⟩:=by unfold m9;rw[List.findIdx?_eq_none_iff.2];intro x hx;obtain⟨j,hj,rfl⟩:=cq4 hx;simpa using h j hj
theorem Iw7{L:List Ord}{id:Int}{k:Nat}(hk:k<L.length)(h:∀j,j<k->(at' L j).id≠id)(hx:(at' L k).id=id):m9 L id=⟨at' L k,0,L.eraseIdx k⟩:=by unfold m9;rw[List.findIdx?_eq_some_iff_getElem.2 ⟨hk,by rw[<-m5 hk];simpa using hx,fun j hj=>by rw[<-m5 (show j<L.length by omega)];simpa using h j hj⟩]
theorem FP7(L:List Ord)(id:Int)(xb:Nat)(last:Int)(v:Value)(hlen:L.length<=32)(W w:World)(Lr:List HP)(hS:St W (blk xb [v,.I last] 186::j7 v L::Lr) w):
  Calls Tryz.prog 137 #[.P xb,.I id] w fun e w'=>e=.returned (.tuple #[.agg (m9 L id).o.cells.toArray,.I (m9 L id).errno])/\∃v',St W (blk xb [v',.I last] 186::j7 v' (m9 L id).L::Lr) w':=by
 obtain⟨a,cap,rfl⟩:=hS.drop.rowVal;go_enter Tryz.func137,Tryz.ntmps137;go_wp2_with(first|refine zl1 hS ?_|refine zlN hS ?_|refine zs1 hS ?_;clear hS;intro w hS|refine zsN hS ?_;clear hS;intro w hS|refine zbx hS ?_;clear hS;intro b w hS|refine zal hS ?_;clear hS;intro b w hS)
 go_loopw [6] (fun v6 wr=>fp4 W (blk b [.I 0,.string ⟨#[]⟩,.bool false,.I 0,.I 0,.I 0] 173::blk xb [.slice a L.length cap,.I last] 186::j7 (.slice a L.length cap) L::Lr) L id v6 wr) (fun v _=>L.length-(intOf v).toNat)
 case atStart=>exact⟨0,rfl,by omega,fun j hj=>absurd hj (Nat.not_lt_zero _),hS⟩
 case round=>
  clear hS;obtain⟨k,rfl,hk,hno,hS⟩:=hrel;by_cases hkn:k=L.length
  ·have E:=jH (Kv7 (L:=L) (id:=id) (hkn▸hno));subst hkn;clear hno;go_wp2_with(first|refine zl1 hS ?_|refine zlN hS ?_|refine zs1 hS ?_;clear hS;intro w hS|refine zsN hS ?_;clear hS;intro w hS|refine zbx hS ?_;clear hS;intro b w hS|refine zal hS ?_;clear hS;intro b w hS);apply Ac7;rfl;rfl;rfl;rfl;exact hS;decide +kernel;(exact r6);kernel_rfl;rw[E.out];exact⟨rfl,_,hS.drop⟩
  ·have hkl:k<L.length:=by omega
   clear hkn hk;obtain⟨⟨g,rfl⟩,hcap,hcn⟩:=St.rowAddr hS.drop.drop (by omega);have q0:(Ord.cells L[k])[0]? = some (.I L[k].id):=rfl;by_cases hid:L[k].id=id
   ·have E:=jH (Iw7 hkl hno (by rw[m5 hkl];exact hid));rw[hid]at q0;have hxe:L[k]=at' L k:=(m5 hkl).symm;clear hno hid;have hcells:d8 (j7 (.S g L.length cap) L::Lr) g (k*6) (Ord.cells (at' L k)):=by rw[<-hxe];exact d8.rowE Ord.len hkl
    clear hxe;generalize at' L k=x at E hcells;obtain⟨xi,xu,xy,xt,xc,xp⟩:=x;simp only[Ord.cells]at hcells;go_wp2_with(first|refine zl1 hS ?_ (hc:=by exact i6.there (i6.there (i6.rowE Ord.len hkl q0)))|refine zlN hS ?_ (hc:=by exact d8.there (d8.there hcells))|go_at_call 183;refine(Gt7 L k xb last _ hlen hkl W _ _ ((hS.take .t3).take .t3)).mono ?_;clear hS;rintro e w ⟨rfl,v',hS⟩|refine zl1 hS ?_|refine zlN hS ?_|refine zs1 hS ?_;clear hS;intro w hS|refine zsN hS ?_;clear hS;intro w hS|refine zbx hS ?_;clear hS;intro b w hS|refine zal hS ?_;clear hS;intro b w hS);apply Ac7;rfl;rfl;rfl;rfl;exact hS;decide +kernel;(exact r6);kernel_rfl;rw[E.out];exact⟨rfl,v',(((hS.take .t2).drop).take .t2).drop⟩
   ·have hno':∀j,j<k+1->(at' L j).id≠id:=fun j hj=>by
     by_cases hjk:j=k
     ·rw[hjk,m5 hkl];exact hid
     ·exact hno j (by omega)
    have Hno:=jH hno';have hbf:(L[k].id==id)=false:=by simpa using hid
    clear hno hno' hid;generalize L[k].id=qi at q0 hbf;go_wp2_with(first|refine zl1 hS ?_ (hc:=by exact i6.there (i6.there (i6.rowE Ord.len hkl q0)))|refine zl1 hS ?_|refine zlN hS ?_|refine zs1 hS ?_;clear hS;intro w hS|refine zsN hS ?_;clear hS;intro w hS|refine zbx hS ?_;clear hS;intro b w hS|refine zal hS ?_;clear hS;intro b w hS);go_roundw
    case rel=>exact⟨k+1,rfl,hkl,Hno.out,hS⟩
    case measure=>simp[intOf];omega
end Go.Proofs.YtienbkdjkjbelaaGreat
end
