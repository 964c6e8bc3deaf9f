/-
  The document's book.
-/
import Derived.Test.YtlmhakmoioogaaaGreatEconDcM1
import Derived.Test.YtlmhakmoioogaaaGreatEconDcM4
import Derived.Test.YtlmhakmoioogaaaGreatEconDcM10
import Derived.Test.YtlmhakmoioogaaaGreatEconDcM11
import Derived.Deep.LoopGhost
import Derived.OwnWalk
import Derived.Test.YtlmhakmoioogaaaGreatRows
import Derived.Lib.SmallJoins
import Derived.ChangeArms
import Derived.ProofKit
import Derived.Deep.Slices
import Derived.Deep.Fields
import Derived.ChangeSame
set_option maxHeartbeats 16000000
set_option maxRecDepth 100000
set_option linter.unusedSimpArgs false
set_option linter.unusedVariables false
section
namespace Go.Proofs.YtlmhakmoioogaaaGreat
open Go.RowKit Go.Sl
theorem ML7(o s:Ord)(W w:World)(L:List HP)(hS:St W L w):
  Calls Tryz.prog 256 #[.agg o.cells.toArray,.agg s.cells.toArray] w fun e w'=>e=.returned (.bool (O9 o s))/\St W L w':=by
 obtain⟨i,u,y,t,c,p⟩:=o;obtain⟨i',u',y',t',c',p'⟩:=s;simp only[Ord.cells];by_cases ht:t=t'
 ·subst ht
  cases y <;> cases y'
  all_goals go_enter Tryz.func256,Tryz.ntmps256
  all_goals go_wp2_with(first|refine zbx hS ?_;clear hS;intro b w hS|refine zl1 hS ?_)
  all_goals go_ret
  all_goals exact⟨by simp[O9],hS.drop.drop⟩
 ·have ht2:(t != t')=true:=by simpa using ht
  have ht3:(t==t')=false:=by simpa using ht
  go_enter Tryz.func256,Tryz.ntmps256;go_wp2_with(first|refine zbx hS ?_;clear hS;intro b w hS|refine zl1 hS ?_)
  all_goals go_ret
  all_goals exact⟨by simp[O9,ht],hS.drop.drop⟩
theorem DN7{o s:Ord}{r:Bool}(h:O9 o s=r)(W w:World)(L:List HP)(hS:St W L w):
  Calls Tryz.prog 256 #[.agg o.cells.toArray,.agg s.cells.toArray] w fun e w'=>e=.returned (.bool r)/\St W L w':=h▸ML7 o s W w L hS
def kI:Option Nat->Int
 | none => -1
 | some k=>k
def fs4(W:World)(Lr:List HP)(o:Ord)(L:List Ord)(v5 v6:Value)(w:World):Prop:=
 ∃i:Nat,v5=.I (kI (x8 o L i))/\v6=.I i/\i<=L.length/\St W Lr w
theorem NS7{o:Ord}{L:List Ord}{i:Nat}(h:O9 o (at' L i)=false):x8 o L (i+1)=x8 o L i:=by rw[x8,h];rfl
theorem Fi7{o:Ord}{L:List Ord}{i:Nat}(h:O9 o (at' L i)=true)(hg:cG4 o L i (x8 o L i)=true):x8 o L (i+1)=some i:=by rw[x8,h,hg];rfl
theorem HC7{o:Ord}{L:List Ord}{i:Nat}(hg:cG4 o L i (x8 o L i)=false):x8 o L (i+1)=x8 o L i:=by rw[x8,hg];simp
abbrev tB11a:List Nat:=[0,0,2,6,14,0,62,126,255,511]
abbrev tB11b:List Nat:=[0,1,3,7,15,31,63,127,255,511,63,2047,4095,8191,63,16447,49215,114751,63,507967,1032255,2080831,4194303,8388607,16777215,33554431,67108863,134217727,268435455,536870911,1073741823,2147483647,4294967295,8589934591,1073741823,34359738367,68719476735,137438953471,1073741823,275951648767,825707462655,1925219090431,1073741823,8522288857087,17318381879295,34910567923711,70368744177663,140737488355327,281474976710655]
theorem PW7(o:Ord)(L:List Ord)(xb:Nat)(last:Int)(v:Value)(hlen:L.length<=32)(W w:World)(Lr:List HP)(hS:St W (blk xb [v,.I last] 244::i9 v L::Lr) w):
  Calls Tryz.prog 227 #[.P xb,.agg o.cells.toArray] w fun e w'=>e=.returned (.I (kI (x8 o L L.length)))/\St W (blk xb [v,.I last] 244::i9 v L::Lr) w':=by
 obtain⟨a,cap,rfl⟩:=hS.drop.rowVal;obtain⟨i,u,y,t,c,p⟩:=o;simp only[Ord.cells];go_enter Tryz.func227,Tryz.ntmps227;go_wp2_with(first|refine zbx hS ?_;clear hS;intro b w hS)
 go_loopw [5,6] (fun v5 v6 wr=>fs4 W (blk b [.I i,.string u,.bool y,.I t,.I c,.I p] 166::blk xb [.slice a L.length cap,.I last] 244::i9 (.slice a L.length cap) L::Lr) ⟨i,u,y,t,c,p⟩ L v5 v6 wr) (fun _ v _=>L.length-(intOf v).toNat)
 case atStart=>exact⟨0,rfl,rfl,by omega,hS⟩
 case round=>
  clear hS;obtain⟨j,rfl,rfl,hj,hS⟩:=hrel;by_cases hjn:j=L.length
  ·subst hjn;go_wp2_with(first|refine zl1 hS ?_);go_ret;exact⟨rfl,hS.drop⟩
  ·have hil:j<L.length:=by omega
   clear hjn hj;obtain⟨⟨g,rfl⟩,_,_⟩:=St.rowAddr hS.drop.drop (by omega);have f5:(Ord.cells L[j])[5]? = some (.I L[j].price):=rfl
   cases hm:O9 ⟨i,u,y,t,c,p⟩ L[j]
   ·have hb:=NS7 (i:=j) (by rw[x7 hil];exact hm);go_wp2_with(first|refine zl1 hS ?_);refine rf3 tB11a (fun _=>false) (fun i=>if i==8 then some (.bool false)else none) [] [none,none,none] hS ?_;intro nd;refine zcN ?_;refine cR ?_;refine zcn ?_;refine cR ?_;refine zc1 ?_
    iterate 2 (refine cR ?_)
    (refine zcN ?_ (hc:=by(intro F;exact d7.there (d7.there (d7.rowE Ord.len hil)))));refine zcv ?_ (hs:=by(intro F w hS;(try clear hS0);exact DN7 hm W w _ hS));refine cR ?_;refine Ac7 ?_;clear hS;intro w hS;have hS2:St W [blk b _ _,blk xb _ _,i9 _ _,sats _] w:=hS;clear hS;have hS:=hS2.unpack [_,_,_];clear hS2;simp only[jK,jN]at hS;go_wp2_with(fail);go_roundw
    case rel=>exact⟨j+1,by rw[hb],rfl,hil,hS⟩
    case measure=>simp[intOf];omega
   ·have hm':O9 ⟨i,u,y,t,c,p⟩ (at' L j)=true:=by rw[x7 hil];exact hm
    cases hbt:x8 ⟨i,u,y,t,c,p⟩ L j with
    | none=>
     have hb:=Fi7 hm' (by rw[hbt];rfl);have hk1:kI (none:Option Nat) = -1:=rfl;go_wp2_with(first|refine zl1 hS ?_);refine rf3 tB11a (fun _=>false) (fun i=>if i==8 then some (.bool true)else none) [] [none,none,none] hS ?_;intro nd;refine zcN ?_;refine cR ?_;refine zcn ?_;refine cR ?_;refine zc1 ?_
     iterate 2 (refine cR ?_)
     (refine zcN ?_ (hc:=by(intro F;exact d7.there (d7.there (d7.rowE Ord.len hil)))));refine zcv ?_ (hs:=by(intro F w hS;(try clear hS0);exact DN7 hm W w _ hS));refine cR ?_;refine Ac7 ?_;clear hS;intro w hS;have hS2:St W [blk b _ _,blk xb _ _,i9 _ _,sats _] w:=hS;clear hS;have hS:=hS2.unpack [_,_,_];clear hS2;simp only[jK,jN]at hS;go_wp2_with(fail);refine rf2 tB11b (fun _=>false) [] [none,none,none] hS ?_;intro nd
     iterate 3 (refine cR ?_)
     iterate 21 (refine Bw7 (by kernel_rfl) rfl ?_;refine frS ?_)
     iterate 2 (refine cR ?_)
     iterate 22 (refine Bw7 (by kernel_rfl) rfl ?_;refine frS ?_)
     (refine cR ?_);refine Ac7 ?_;clear hS;intro w hS;have hS2:St W [blk b _ _,blk xb _ _,i9 _ _,sats _] w:=hS;clear hS;have hS:=hS2.unpack [_,_,_];clear hS2;simp only[jK,jN]at hS;go_wp2_with(fail);go_roundw
     case rel=>exact⟨j+1,by rw[hb];rfl,rfl,hil,hS⟩
     case measure=>simp[intOf];omega
    | some k=>
     have hkj:=(Br7 hbt).1;have hkl:k<L.length:=by omega
     have hk1:kI (some k)=(k:Int):=rfl;have g5:(Ord.cells L[k])[5]? = some (.I L[k].price):=rfl;have hgd:cG4 ⟨i,u,y,t,c,p⟩ L j (some k)=an4 ⟨i,u,y,t,c,p⟩ L[j] L[k]:=by show an4 _ (at' L j) (at' L k)=_;rw[x7 hil,x7 hkl]
     unfold an4 at hgd;generalize L[j].price=pj at f5 hgd;generalize L[k].price=pk at g5 hgd
     cases y
     ·simp only[Bool.false_eq_true,if_false]at hgd;by_cases hlt:pk<pj
      ·have hb:=Fi7 hm' (by rw[hbt,hgd];simpa using hlt);have hd:decide (pk<pj)=true:=by simpa using hlt
       go_wp2_with(first|refine zl1 hS ?_);refine rf3 tB11a (fun _=>false) (fun i=>if i==8 then some (.bool true)else none) [] [none,none,none] hS ?_;intro nd;refine zcN ?_;refine cR ?_;refine zcn ?_;refine cR ?_;refine zc1 ?_
       iterate 2 (refine cR ?_)
       (refine zcN ?_ (hc:=by(intro F;exact d7.there (d7.there (d7.rowE Ord.len hil)))));refine zcv ?_ (hs:=by(intro F w hS;(try clear hS0);exact DN7 hm W w _ hS));refine cR ?_;refine Ac7 ?_;clear hS;intro w hS;have hS2:St W [blk b _ _,blk xb _ _,i9 _ _,sats _] w:=hS;clear hS;have hS:=hS2.unpack [_,_,_];clear hS2;simp only[jK,jN]at hS;go_wp2_with(fail);refine rf2 tB11b (fun _=>false) [] [none,none,none] hS ?_;intro nd
       iterate 3 (refine cR ?_)
       (refine cR ?_);refine zc1 ?_;refine cR ?_
       iterate 17 (refine Bw7 (by kernel_rfl) rfl ?_;refine frS ?_)
       iterate 4 (refine cR ?_)
       (refine zc1 ?_)
       iterate 2 (refine cR ?_)
       iterate 1 (refine cR ?_)
       (refine zcn ?_);refine cR ?_;refine zc1 ?_
       iterate 3 (refine cR ?_)
       (refine zc1 ?_ (hc:=by(intro F;exact e8.there (e8.there (e8.rowE Ord.len hil f5)))));refine cR ?_;refine zcn ?_;refine cR ?_;refine zc1 ?_
       iterate 3 (refine cR ?_)
       (refine zc1 ?_ (hc:=by(intro F;exact e8.there (e8.there (e8.rowE Ord.len hkl g5)))));refine cR ?_
       iterate 2 (refine cR ?_)
       refine Ac7 ?_;clear hS;intro w hS;have hS2:St W [blk b _ _,blk xb _ _,i9 _ _,sats _] w:=hS;clear hS;have hS:=hS2.unpack [_,_,_];clear hS2;simp only[jK,jN]at hS;go_wp2_with(fail);go_roundw
       case rel=>exact⟨j+1,by rw[hb];rfl,rfl,hil,hS⟩
       case measure=>simp[intOf];omega
      ·have hb:=HC7 (i:=j) (o:=⟨i,u,false,t,c,p⟩) (L:=L) (by rw[hbt,hgd];simpa using hlt);have hd:decide (pk<pj)=false:=by simpa using hlt
       go_wp2_with(first|refine zl1 hS ?_);refine rf3 tB11a (fun _=>false) (fun i=>if i==8 then some (.bool true)else none) [] [none,none,none] hS ?_;intro nd;refine zcN ?_;refine cR ?_;refine zcn ?_;refine cR ?_;refine zc1 ?_
       iterate 2 (refine cR ?_)
       (refine zcN ?_ (hc:=by(intro F;exact d7.there (d7.there (d7.rowE Ord.len hil)))));refine zcv ?_ (hs:=by(intro F w hS;(try clear hS0);exact DN7 hm W w _ hS));refine cR ?_;refine Ac7 ?_;clear hS;intro w hS;have hS2:St W [blk b _ _,blk xb _ _,i9 _ _,sats _] w:=hS;clear hS;have hS:=hS2.unpack [_,_,_];clear hS2;simp only[jK,jN]at hS;go_wp2_with(fail);refine rf2 tB11b (fun _=>false) [] [none,none,none] hS ?_;intro nd
       iterate 3 (refine cR ?_)
       (refine cR ?_);refine zc1 ?_;refine cR ?_
       iterate 17 (refine Bw7 (by kernel_rfl) rfl ?_;refine frS ?_)
       iterate 4 (refine cR ?_)
       (refine zc1 ?_)
       iterate 2 (refine cR ?_)
       iterate 1 (refine cR ?_)
       (refine zcn ?_);refine cR ?_;refine zc1 ?_
       iterate 3 (refine cR ?_)
       (refine zc1 ?_ (hc:=by(intro F;exact e8.there (e8.there (e8.rowE Ord.len hil f5)))));refine cR ?_;refine zcn ?_;refine cR ?_;refine zc1 ?_
       iterate 3 (refine cR ?_)
       (refine zc1 ?_ (hc:=by(intro F;exact e8.there (e8.there (e8.rowE Ord.len hkl g5)))));refine cR ?_
       iterate 2 (refine cR ?_)
       refine Ac7 ?_;clear hS;intro w hS;have hS2:St W [blk b _ _,blk xb _ _,i9 _ _,sats _] w:=hS;clear hS;have hS:=hS2.unpack [_,_,_];clear hS2;simp only[jK,jN]at hS;go_wp2_with(fail);go_roundw
       case rel=>exact⟨j+1,by rw[hb,hbt];rfl,rfl,hil,hS⟩
       case measure=>simp[intOf];omega
     ·simp only[if_true]at hgd;by_cases hlt:pj<pk
      ·have hb:=Fi7 hm' (by rw[hbt,hgd];simpa using hlt);have hd:decide (pj<pk)=true:=by simpa using hlt
       go_wp2_with(first|refine zl1 hS ?_);refine rf3 tB11a (fun _=>false) (fun i=>if i==8 then some (.bool true)else none) [] [none,none,none] hS ?_;intro nd;refine zcN ?_;refine cR ?_;refine zcn ?_;refine cR ?_;refine zc1 ?_
       iterate 2 (refine cR ?_)
       (refine zcN ?_ (hc:=by(intro F;exact d7.there (d7.there (d7.rowE Ord.len hil)))));refine zcv ?_ (hs:=by(intro F w hS;(try clear hS0);exact DN7 hm W w _ hS));refine cR ?_;refine Ac7 ?_;clear hS;intro w hS;have hS2:St W [blk b _ _,blk xb _ _,i9 _ _,sats _] w:=hS;clear hS;have hS:=hS2.unpack [_,_,_];clear hS2;simp only[jK,jN]at hS;go_wp2_with(fail);refine rf2 tB11b (fun _=>false) [] [none,none,none] hS ?_;intro nd
       iterate 3 (refine cR ?_)
       (refine cR ?_);refine zc1 ?_;refine cR ?_
       iterate 1 (refine cR ?_)
       (refine zcn ?_);refine cR ?_;refine zc1 ?_
       iterate 3 (refine cR ?_)
       (refine zc1 ?_ (hc:=by(intro F;exact e8.there (e8.there (e8.rowE Ord.len hil f5)))));refine cR ?_;refine zcn ?_;refine cR ?_;refine zc1 ?_
       iterate 3 (refine cR ?_)
       (refine zc1 ?_ (hc:=by(intro F;exact e8.there (e8.there (e8.rowE Ord.len hkl g5)))));refine cR ?_
       iterate 3 (refine cR ?_)
       iterate 22 (refine Bw7 (by kernel_rfl) rfl ?_;refine frS ?_)
       (refine cR ?_);refine Ac7 ?_;clear hS;intro w hS;have hS2:St W [blk b _ _,blk xb _ _,i9 _ _,sats _] w:=hS;clear hS;have hS:=hS2.unpack [_,_,_];clear hS2;simp only[jK,jN]at hS;go_wp2_with(fail);go_roundw
       case rel=>exact⟨j+1,by rw[hb];rfl,rfl,hil,hS⟩
       case measure=>simp[intOf];omega
      ·have hb:=HC7 (i:=j) (o:=⟨i,u,true,t,c,p⟩) (L:=L) (by rw[hbt,hgd];simpa using hlt);have hd:decide (pj<pk)=false:=by simpa using hlt
       go_wp2_with(first|refine zl1 hS ?_);refine rf3 tB11a (fun _=>false) (fun i=>if i==8 then some (.bool true)else none) [] [none,none,none] hS ?_;intro nd;refine zcN ?_;refine cR ?_;refine zcn ?_;refine cR ?_;refine zc1 ?_
       iterate 2 (refine cR ?_)
       (refine zcN ?_ (hc:=by(intro F;exact d7.there (d7.there (d7.rowE Ord.len hil)))));refine zcv ?_ (hs:=by(intro F w hS;(try clear hS0);exact DN7 hm W w _ hS));refine cR ?_;refine Ac7 ?_;clear hS;intro w hS;have hS2:St W [blk b _ _,blk xb _ _,i9 _ _,sats _] w:=hS;clear hS;have hS:=hS2.unpack [_,_,_];clear hS2;simp only[jK,jN]at hS;go_wp2_with(fail);refine rf2 tB11b (fun _=>false) [] [none,none,none] hS ?_;intro nd
       iterate 3 (refine cR ?_)
       (refine cR ?_);refine zc1 ?_;refine cR ?_
       iterate 1 (refine cR ?_)
       (refine zcn ?_);refine cR ?_;refine zc1 ?_
       iterate 3 (refine cR ?_)
       (refine zc1 ?_ (hc:=by(intro F;exact e8.there (e8.there (e8.rowE Ord.len hil f5)))));refine cR ?_;refine zcn ?_;refine cR ?_;refine zc1 ?_
       iterate 3 (refine cR ?_)
       (refine zc1 ?_ (hc:=by(intro F;exact e8.there (e8.there (e8.rowE Ord.len hkl g5)))));refine cR ?_
       iterate 4 (refine cR ?_)
       (refine zc1 ?_)
       iterate 2 (refine cR ?_)
       iterate 17 (refine Bw7 (by kernel_rfl) rfl ?_;refine frS ?_)
       iterate 2 (refine cR ?_)
       refine Ac7 ?_;clear hS;intro w hS;have hS2:St W [blk b _ _,blk xb _ _,i9 _ _,sats _] w:=hS;clear hS;have hS:=hS2.unpack [_,_,_];clear hS2;simp only[jK,jN]at hS;go_wp2_with(fail);go_roundw
       case rel=>exact⟨j+1,by rw[hb,hbt];rfl,rfl,hil,hS⟩
       case measure=>simp[intOf];omega
def gN4(W:World)(Lr:List HP)(L:List Ord)(id:Int)(v6:Value)(w:World):Prop:=
 ∃k:Nat,v6=.I k/\k<=L.length/\(∀j,j<k->(at' L j).id≠id)/\St W Lr w
theorem Kp7{W w:World}{L R:List HP}{v:Value}{k n:Nat}{T:TypeId}{cs:List Value}(hk:0<k)(hS:St W L w)(hu:Take L (row v k T n cs) R):dp4 w v n cs:=(St.src hk (hS.take hu)).at (hS.take hu)
def gf4(W:World)(Lr:List HP)(ob xb:Nat)(i:Int)(u:ByteArray)(y:Bool)(t p:Int)(r:Ord×List Ord×List Trd)(f:Nat)(v7:Value)(w:World):Prop:=
 ∃(c:Int) (L:List Ord) (ts:List Trd) (v:Value),C5 f ⟨i,u,y,t,c,p⟩ L ts=r/\(L.length<f\/(c=0/\0<f))/\L.length<=32/\ts.length+f<=80/\(∀x∈L,1<=x.cnt/\x.cnt<=1048576)/\0<=c/\c<=1048576 /\
  St W (blk xb [v,.I i] 244::i9 v L::blk ob [.I i,.string u,.bool y,.I t,.I c,.I p] 166::row v7 8 251 ts.length (ts.flatMap Trd.cells)::Lr) w
end Go.Proofs.YtlmhakmoioogaaaGreat
end
section
namespace Go.Proofs.YtlmhakmoioogaaaGreat
open Go.Joins Go.ChangeShapes Go.WideShapes Go.RowKit Go.Deep Go.Sl
def dW4{α:Type}(enc:α->List Value)(k:Nat)(w:World)(v:Value)(xs:List α):Prop:=
 ∃a cap,v=.slice a xs.length cap/\xs.length<=9223372036854775807/\∀i (h:i<xs.length), ∃b off,a=some ⟨b,off,none⟩/\∀j u,(enc xs[i])[j]? = some u->w.cell? ⟨b,off+i*k+j,none⟩=some u
section
variable{H:Type}{enc:TypeId×Value->H}{P:Program}{w:World}{base:Nat}{spare:Nat->Bool}{held:Bool}
end
end Go.Proofs.YtlmhakmoioogaaaGreat
end
section
namespace Go.Proofs.YtlmhakmoioogaaaGreat
open Go.RowKit Go.Sl
def I8(l:List Ord):Nat->Int
 | 0=>0
 | j+1=>(at' l j).id
def aL4(l:List Ord)(i:Nat):Bool:=!(O5 (at' l i))||(decide ((at' l i).id<=I8 l i)||(x8 (at' l i) (l.take i) (l.take i).length).isSome)
def bX4(l:List Ord)(i:Nat):Prop:=∀j,j<i->aL4 l j=false
def ap4(l:List Ord):Prop:=32<l.length\/∃i,i<l.length/\aL4 l i=true
theorem bX4.step{l:List Ord}{i:Nat}(h:bX4 l i)(hb:aL4 l i=false):bX4 l (i+1):=fun j hj=>by
 by_cases hji:j=i
 ·rw[hji];exact hb
 ·exact h j (by omega)
theorem Cn7{l:List Ord}(h32:l.length<=32)(h:bX4 l l.length):¬ap4 l:=by
 rintro(h1|⟨i,hi,hb⟩)
 ·omega
 ·rw[h i hi]at hb;cases hb
theorem Jp7{l:List Ord}{i:Nat}(hi:i<l.length):l.take (i+1)=l.take i++[at' l i]:=by rw[List.take_succ_eq_append_getElem hi,x7 hi]
def OfR(W:World)(Lr:List HP)(l:List Ord)(xb:Nat)(v:Value)(w:World):Prop:=
 ∃(i:Nat) (vx:Value),v=.I i/\i<=l.length/\bX4 l i/\St W (blk xb [vx,.I (I8 l i)] 244::i9 vx (l.take i)::Lr) w
theorem LE7{o:Ord}{r:Bool}(h:O5 o=r)(W w:World)(L:List HP)(hS:St W L w):
  Calls Tryz.prog 182 #[.agg o.cells.toArray] w fun e w'=>e=.returned (.bool r)/\St W L w':=h▸Kl7 o W w L hS
theorem NT7{o:Ord}{L:List Ord}{r:Int}(hr:kI (x8 o L L.length)=r)(xb:Nat)(last:Int)(v:Value)(hlen:L.length<=32)(W w:World)(Lr:List HP)(hS:St W (blk xb [v,.I last] 244::i9 v L::Lr) w):
  Calls Tryz.prog 227 #[.P xb,.agg o.cells.toArray] w fun e w'=>e=.returned (.I r)/\St W (blk xb [v,.I last] 244::i9 v L::Lr) w':=hr▸PW7 o L xb last v hlen W w Lr hS
abbrev tB11c:List Nat:=[0,0,3,7,15,31,63,127,127,511,1023,2047,127,4223,12415,28799,65535,131071,262143,524287,524287,524287,3670015,7864319,16777215,33554431,67108863]
theorem MM7(l:List Ord)(v:Value)(V:World)(hv:dW4 Ord.cells 6 V v l)(W w:World)(Lr:List HP)(hS:St W (Old V::Lr) w):
  Calls Tryz.prog 199 #[v] w fun e w'=>(ap4 l/\e=.returned (.tuple #[.pointer none,.I 1])/\St W (Old V::Lr) w') \/
   (l.length<=32/\bX4 l l.length/\∃xb vx,e=.returned (.tuple #[.P xb,.I 0])/\St W (blk xb [vx,.I (I8 l l.length)] 244::i9 vx l::Old V::Lr) w'):=by
 obtain⟨a,cap,rfl,h63,hc⟩:=hv;have Hc:=jH hc;clear hc;by_cases h32:l.length<=32
 ·have hd32:decide ((32:Int)<(l.length:Int))=false:=by simp;omega
  go_enter Tryz.func199,Tryz.ntmps199;go_wp2_with(first|(with_reducible apply Df7 hS);rfl;rfl;rfl;rfl;clear hS;intro xb w hS;refine frS ?_);replace hS:=(hS.rowNil (k:=6) (T:=166)).swap
  go_loopw [5] (fun v wr=>OfR W (Old V::Lr) l xb v wr) (fun v _=>l.length-(intOf v).toNat)
  case atStart=>exact⟨0,_,rfl,by omega,fun j hj=>absurd hj (Nat.not_lt_zero _),hS⟩
  case round=>
   clear hS;obtain⟨i,vx,rfl,hi,hok,hS⟩:=hrel;have Hok:=jH hok;clear hok;by_cases hin:i=l.length
   ·subst hin;rw[List.take_length]at hS;go_wp2_with fail;go_ret2;exact .inr ⟨h32,Hok.out,xb,vx,rfl,hS⟩
   ·have hil:i<l.length:=by omega
    clear hin hi;obtain⟨pb,poff,rfl,hj⟩:=Hc.out i hil;have hxe:l[i]=at' l i:=(x7 hil).symm;rw[hxe]at hj;have hbad:aL4 l i=(!(O5 (at' l i))||(decide ((at' l i).id<=I8 l i)||(x8 (at' l i) (l.take i) (l.take i).length).isSome)):=rfl;have hts:=Jp7 hil;have hll:I8 l (i+1)=(at' l i).id:=rfl;generalize at' l i=x at hj hbad hts hll;obtain⟨xi,xu,xy,xt,xc,xp⟩:=x;have call:∀(j:Nat) (u:Value),[Value.int .i64 xi,.string xu,.bool xy,.I xt,.I xc,.I xp][j]? = some u->V.cell? ⟨pb,poff+i*6+j,none⟩=some u:=hj;have cid:V.cell? ⟨pb,poff+i*6,none⟩=some (.I xi):=hj 0 _ rfl;have Hts:=jH hts;have Hll:=jH hll;clear hj hxe hts hll;have hl32:(l.take i).length<=32:=by rw[jT];omega
    obtain⟨xa,xcap,rfl⟩:=hS.drop.rowVal
    cases hm:O5 ⟨xi,xu,xy,xt,xc,xp⟩
    ·have Hbad:=jH (show aL4 l i=true by rw[hbad,hm];rfl);clear hbad;go_wp2_with fail;refine rf3 tB11c (fun _=>false) (fun i=>if i==4 then some (.bool false)else if i==24 then some (.I 0)else none) [] [none,none,none] hS ?_;intro nd
     iterate 3 (refine cR ?_)
     (refine zcN ?_ (hc:=by(intro F;exact d7.old (.tail (.tail .head)) call)));refine zcv ?_ (hs:=by(intro F w hS;(try clear hS0);exact LE7 hm W w _ hS))
     iterate 2 (refine cR ?_)
     iterate 10 (refine Bw7 (by kernel_rfl) rfl ?_;refine frS ?_)
     iterate 2 (refine cR ?_)
     iterate 7 (refine Bw7 (by kernel_rfl) rfl ?_;refine frS ?_)
     (refine cR ?_);refine Ac7 ?_;clear hS;intro w hS;have hS2:St W [blk xb _ _,i9 _ _,Old _,sats _] w:=hS;clear hS;have hS:=hS2.unpack [_,_,_];clear hS2;simp only[jK,jN]at hS;go_wp2_with fail;go_ret2;exact .inl ⟨.inr ⟨i,hil,Hbad.out⟩,rfl,hS.drop.drop⟩
    ·by_cases hle:xi<=I8 l i
     ·have Hbad:=jH (show aL4 l i=true by rw[hbad,hm];simp[hle]);have hd:decide (xi<=I8 l i)=true:=by simpa using hle
      clear hbad;go_wp2_with fail;refine rf3 tB11c (fun _=>false) (fun i=>if i==4 then some (.bool true)else if i==24 then some (.I 0)else none) [] [none,none,none] hS ?_;intro nd
      iterate 3 (refine cR ?_)
      (refine zcN ?_ (hc:=by(intro F;exact d7.old (.tail (.tail .head)) call)));refine zcv ?_ (hs:=by(intro F w hS;(try clear hS0);exact LE7 hm W w _ hS))
      iterate 2 (refine cR ?_)
      iterate 4 (refine cR ?_)
      (apply IR7;rfl;kernel_rfl;rfl;rfl;rfl;decide +kernel;(intro F;first|exact e8.old .head cid|exact e8.old (.tail .head) cid|exact e8.old (.tail (.tail .head)) cid|exact e8.old (.tail (.tail (.tail .head))) cid);refine frS ?_);refine cR ?_;refine zcn ?_;refine cR ?_;refine zc1 ?_
      iterate 3 (refine cR ?_)
      iterate 7 (refine Bw7 (by kernel_rfl) rfl ?_;refine frS ?_)
      (refine cR ?_);refine Ac7 ?_;clear hS;intro w hS;have hS2:St W [blk xb _ _,i9 _ _,Old _,sats _] w:=hS;clear hS;have hS:=hS2.unpack [_,_,_];clear hS2;simp only[jK,jN]at hS;go_wp2_with fail;go_ret2;exact .inl ⟨.inr ⟨i,hil,Hbad.out⟩,rfl,hS.drop.drop⟩
     ·have hd:decide (xi<=I8 l i)=false:=by simpa using hle
      cases hbt:x8 ⟨xi,xu,xy,xt,xc,xp⟩ (l.take i) (l.take i).length with
      | some k=>
       have Hbad:=jH (show aL4 l i=true by rw[hbad,hbt];simp);have hk1:kI (x8 ⟨xi,xu,xy,xt,xc,xp⟩ (l.take i) (l.take i).length)=(k:Int):=by rw[hbt];rfl
       clear hbad hbt;go_wp2_with fail;refine rf3 tB11c (fun _=>false) (fun i=>if i==4 then some (.bool true)else if i==24 then some (.I (k:Int))else none) [] [none,none,none] hS ?_;intro nd
       iterate 3 (refine cR ?_)
       (refine zcN ?_ (hc:=by(intro F;exact d7.old (.tail (.tail .head)) call)));refine zcv ?_ (hs:=by(intro F w hS;(try clear hS0);exact LE7 hm W w _ hS))
       iterate 2 (refine cR ?_)
       iterate 4 (refine cR ?_)
       (apply IR7;rfl;kernel_rfl;rfl;rfl;rfl;decide +kernel;(intro F;first|exact e8.old .head cid|exact e8.old (.tail .head) cid|exact e8.old (.tail (.tail .head)) cid|exact e8.old (.tail (.tail (.tail .head))) cid);refine frS ?_);refine cR ?_;refine zcn ?_;refine cR ?_;refine zc1 ?_
       iterate 3 (refine cR ?_)
       iterate 4 (refine cR ?_)
       (refine zcN ?_ (hc:=by(intro F;exact d7.old (.tail (.tail .head)) call)));refine zcv ?_ (hs:=by(intro F w hS;(try clear hS0);exact NT7 hk1 xb _ _ hl32 W w _ hS))
       iterate 2 (refine cR ?_)
       refine Ac7 ?_;clear hS;intro w hS;have hS2:St W [blk xb _ _,i9 _ _,Old _,sats _] w:=hS;clear hS;have hS:=hS2.unpack [_,_,_];clear hS2;simp only[jK,jN]at hS;go_wp2_with fail;go_ret2;exact .inl ⟨.inr ⟨i,hil,Hbad.out⟩,rfl,hS.drop.drop⟩
      | none=>
       have Hok2:=jH (Hok.out.step (show aL4 l i=false by rw[hbad,hm,hbt,hd];rfl));have hk1:kI (x8 ⟨xi,xu,xy,xt,xc,xp⟩ (l.take i) (l.take i).length) = -1:=by rw[hbt];rfl
       clear hbad hbt;go_wp2_with fail;refine rf3 tB11c (fun _=>false) (fun i=>if i==4 then some (.bool true)else if i==24 then some (.I (-1))else none) [] [none,none,none] hS ?_;intro nd
       iterate 3 (refine cR ?_)
       (refine zcN ?_ (hc:=by(intro F;exact d7.old (.tail (.tail .head)) call)));refine zcv ?_ (hs:=by(intro F w hS;(try clear hS0);exact LE7 hm W w _ hS))
       iterate 2 (refine cR ?_)
       iterate 4 (refine cR ?_)
       (apply IR7;rfl;kernel_rfl;rfl;rfl;rfl;decide +kernel;(intro F;first|exact e8.old .head cid|exact e8.old (.tail .head) cid|exact e8.old (.tail (.tail .head)) cid|exact e8.old (.tail (.tail (.tail .head))) cid);refine frS ?_);refine cR ?_;refine zcn ?_;refine cR ?_;refine zc1 ?_
       iterate 3 (refine cR ?_)
       iterate 4 (refine cR ?_)
       (refine zcN ?_ (hc:=by(intro F;exact d7.old (.tail (.tail .head)) call)));refine zcv ?_ (hs:=by(intro F w hS;(try clear hS0);exact NT7 hk1 xb _ _ hl32 W w _ hS))
       iterate 2 (refine cR ?_)
       refine Ac7 ?_;clear hS;intro w hS;have hS2:St W [blk xb _ _,i9 _ _,Old _,sats _] w:=hS;clear hS;have hS:=hS2.unpack [_,_,_];clear hS2;simp only[jK,jN]at hS;go_wp2_with fail;refine rf2 [0,0,2,6,14,0,0,96,224,480,1022,2047,4095,8191] (fun i=>i==9||i==10) [⟨some 9,none,fun nd=>R5 (nd 9) 1 1 [.I xi,.string xu,.bool xy,.I xt,.I xc,.I xp] 166⟩,⟨some 10,none,fun nd=>row (nd 10) 6 166 ((l.take i).length+1) ((l.take i).flatMap Ord.cells++[.I xi,.string xu,.bool xy,.I xt,.I xc,.I xp])⟩,⟨some 13,none,fun nd=>blk xb [nd 10,.I (I8 l i)] 244⟩] [some 13,some 10,none] hS ?_;intro nd
       iterate 2 (refine cR ?_)
       (refine zcn ?_);refine cR ?_;refine zc1 ?_
       iterate 3 (refine cR ?_)
       (refine zcN ?_ (hc:=by(intro F;exact d7.old (.tail (.tail .head)) call)));apply aI4;rfl;rfl;rfl;(focus(simp only[fD,fI,fJ,Act.eval,fE,fF,fG,fH,fK];try rfl));(exact esS);(exact rsS);rfl;rfl;rfl;rfl;(intro _;rfl);rfl;(intro _;rfl);(refine frS ?_);apply AJ7;rfl;rfl;rfl;(focus((conv=>lhs;whnf);try rfl));(focus((conv=>lhs;whnf);try rfl));(exact esS);(exact rsS);rfl;decide;rfl;(intro F w hS;exact Bp7 hS (by exact A9));(focus(try rfl));rfl;(focus(unfold maxLen;omega));(focus(omega));(intro _;rfl);(intro _;rfl);(refine frS ?_);refine zcn ?_;refine cR ?_;(apply Fz7;rfl;rfl;rfl;rfl;(focus((conv=>lhs;whnf);try rfl));kernel_rfl;rfl;intro F w hS;exact hS.rowOne (by exact A9);(focus(simp));rfl;rfl;try(refine frS ?_));refine Ac7 ?_;clear hS;intro w hS;have hS2:St W [R5 (nd 9) _ _ _ _,row (nd 10) 6 _ _ _,blk xb _ _,Old V,sats _] w:=hS;clear hS;have hS:=hS2.unpack [_,_,_,_];clear hS2;simp only[jK,jN]at hS;generalize nd 10=v10 at *;replace hS:=hS.drop.swap;go_wp2_with(first|(with_reducible apply Rg7 hS);rfl;rfl;rfl;decide +kernel;(first|exact e8.old .head cid|exact e8.old (.tail .head) cid|exact e8.old (.tail (.tail .head)) cid|exact e8.old (.tail (.tail (.tail .head))) cid);refine frS ?_|refine zl1 hS ?_|refine zlN hS ?_|refine zs1 hS ?_;clear hS;intro w hS|refine zsN hS ?_;clear hS;intro w hS|refine zbx hS ?_;clear hS;intro b w hS|refine zal hS ?_;clear hS;intro b w hS);go_roundw
       case rel=>
        refine⟨i+1,v10,rfl,hil,Hok2.out,?_⟩;rw[Hll.out,Hts.out];unfold i9;rw[jA,List.flatMap_append];exact hS
       case measure=>simp[intOf];omega
 ·have h32':(32:Int)<(l.length:Int):=by omega
  go_enter Tryz.func199,Tryz.ntmps199;go_wp2_with fail;go_ret2;exact .inl ⟨.inl (by omega),rfl,hS⟩
end Go.Proofs.YtlmhakmoioogaaaGreat
end
