/-
  PlanHot, PlanCold, and the move that is known.
-/
import Derived.Test.YtjcfifkjbaffnaaPeQM5
import Derived.Test.YtjcfifkjbaffnaaPeQM6
import Derived.Laws.Bits64b
import Derived.Laws.IdiomArrays
import Derived.Deep.LoopGhost
import Derived.OwnWalk
import Derived.Deep.Slices
import Derived.Deep.Fields
import Derived.ChangeSame
import Derived.Laws.IdiomStrings
import Derived.Lib.SliceRun
set_option maxHeartbeats 16000000
set_option maxRecDepth 100000
set_option linter.unusedSimpArgs false
set_option linter.unusedVariables false
section
namespace Go.Proofs.Ytjcfifkjbaffnaa
open Go.RowKit Go.Sl
abbrev bN:ByteArray:=⟨#[]⟩
abbrev bM:ByteArray:=⟨#[109]⟩
theorem FM7{l:List Ro}{zs:List Zo}{hs:List Int}{n:Nat}{s t:Pn}(h:MovI l zs hs n s t)(hno:∀a b,J5 (fun h=>d6 l s h zs) hs a->F8 (fun h=>d6 l s h zs) hs b->∀z∈zs,at4 l s a (d6 l s a zs) (d6 l s b zs) z=false):t=s:=by
 cases h with
 | done=>rfl
 | none=>rfl
 | some ha hb hn hk h=>
  obtain⟨_,hk2,hc⟩:=Bn7 l _ (Nat.le_refl _) _ hn;rw[hno _ _ ha hb _ (jW hk2)]at hc
  cases hc
abbrev bQ4:Zo:=⟨1,bN,bN,8,1,0,0,bN,0⟩
abbrev cs4:Mp:=⟨1,2,[bQ4]⟩
theorem HX7:p7 [8,9]:=⟨by decide,by decide,fun h hh=>by simp at hh;omega,by simp⟩
theorem HY7{k:ByteArray}(h:1<=k.size):ltU bN k=true:=by
 obtain⟨⟨l⟩⟩:=k
 cases l with
 | nil=>simp[ByteArray.size]at h
 | cons x l=>
  unfold ltU;rw[Lib.toList_data,Lib.toList_data];rfl
abbrev twZ(o2 ep:Int):List Zo:=[⟨1,bN,bM,8,ep,0,0,bN,0⟩,⟨2,bM,bN,o2,ep,0,0,bN,0⟩]
theorem IQ7{o2 ep v:Int}(h1:1<=o2)(h2:o2<=1048576)(h3:1<=ep)(h4:ep<=1099511627776)(h5:1<=v)(h6:v<=1099511627776):t8 ⟨v,3,twZ o2 ep⟩:=by
 refine⟨h5,h6,(by decide:(1:Int)<=3),(by decide:(3:Int)<=1099511627776),(by decide:2<=16),fun i h=>?_,?_⟩
 ·have h0:i=0\/i=1:=by have:i<2:=h;omega
  rcases h0 with rfl|rfl
  ·exact⟨⟨(by decide:(1:Int)<=1),(by decide:(1:Int)<3),rfl,(by decide:(1:Int)<=8),(by decide:(8:Int)<=1048576),h3,h4⟩,.inl ⟨rfl,rfl,rfl,rfl⟩⟩
  ·exact⟨⟨(by decide:(1:Int)<=2),(by decide:(2:Int)<3),rfl,h1,h2,h3,h4⟩,.inl ⟨rfl,rfl,rfl,rfl⟩⟩
 ·show(spB bN bM&&(decide (bN=bN)&&((true||!w7 bN)&&(spB bM bN&&(decide (bM=bM)&&((false||!w7 bM)&&(!false&&w7 bN)))))))=true
  decide +kernel
theorem IR7(o2 ep:Int):as4 (twZ o2 ep):=by unfold as4;simp
theorem bR4{o2 ep:Int}{Z:List Zo}(h:Z.Perm (twZ o2 ep))(ha:as4 Z):Z=twZ o2 ep:=FL7 ha (IR7 o2 ep) h
theorem CM7(l:List Ro)(hot:Int):∀(Z:List Zo) (s:Pn×Int),(∀z∈Z,i6 l z<=hot)->G6 l hot Z s=s
 | [],_,_=>rfl
 | z::Z,s,h=>by
  have e:M5 l hot s z=s:=by unfold M5 aM4;rw[decide_eq_false (Int.not_lt.2 (h z (List.mem_cons_self ..)))];simp
  unfold G6;rw[List.foldl_cons,e];exact CM7 l hot Z s fun y hy=>h y (List.mem_cons_of_mem _ hy)
theorem Fa7{a:List Cg}(h:L6 ⟨3,3,twZ 8 2⟩ [8,9] [⟨1,5,bN⟩,⟨2,4,bN⟩] 100 0 a):a=[⟨3,1,0,9,bN⟩]:=by
 rcases h with ⟨h1,_⟩|⟨_,Z,s,p1,p2,p3,rfl⟩
 ·exact absurd ⟨IQ7 (by decide) (by decide) (by decide) (by decide) (by decide) (by decide),HX7⟩ h1
 obtain rfl:=bR4 p1 p2;rw[CM7 _ _ _ _ (by decide)]at p3;have h3:MovI [⟨1,5,bN⟩,⟨2,4,bN⟩] (twZ 8 2) [8,9] 2 pn0 s:=p3;clear p3
 cases h3 with
 | none ha hb hn=>
  have e1:=Bt7 ha (⟨by decide,by decide⟩:J5 _ _ 8);have e2:=BS7 hb (⟨by decide,by decide⟩:F8 _ _ 9);subst e1 e2;exact absurd hn (by decide)
 | some ha hb hn hk h=>
  have e1:=Bt7 ha (⟨by decide,by decide⟩:J5 _ _ 8);have e2:=BS7 hb (⟨by decide,by decide⟩:F8 _ _ 9);subst e1 e2
  rename_i k
  have e3:some k=some 0:=by rw[<-hn];decide
  obtain rfl:=Option.some.inj e3;have h4:MovI [⟨1,5,bN⟩,⟨2,4,bN⟩] (twZ 8 2) [8,9] 1 (I6 pn0 ⟨1,bN,bM,8,2,0,0,bN,0⟩ 9) s:=h;clear h
  have e4:=FM7 h4 fun a b ha hb z hz=>by
   have e1:=Bt7 ha (⟨by decide,by decide⟩:J5 _ _ 9);subst e1
   rcases List.mem_cons.1 hz with rfl|hz
   ·rfl
   ·obtain rfl:=List.mem_singleton.1 hz;rfl
  clear h4 hn hk;subst e4;show(A8 [⟨1,5,bN⟩,⟨2,4,bN⟩] 0 (twZ 8 2) (I6 pn0 ⟨1,bN,bM,8,2,0,0,bN,0⟩ 9) 1).out=_
  rfl
def ct4(a:List Cg):Nat:=(a.filter fun c=>decide (c.kind=2)).length
theorem Ez7(l:List (Int×Int))(k x v:Int):l6 ((k,v)::A6 l k) x=if k=x then some v else l6 l x:=by
 unfold l6 A6;by_cases h:k=x
 ·rw[if_pos h,List.find?_cons_of_pos (by simpa using h)];rfl
 ·rw[if_neg h,List.find?_cons_of_neg (by simpa using h)]
  congr 1
  rw[List.find?_filter]
  congr 1
  funext y
  by_cases hy:y.1=x
  ·have:y.1≠k:=fun e=>h (e.symm.trans hy)
   simp[hy,this];exact fun e=>h e.symm
  ·simp[hy]
theorem FN7(s:Pn)(z y:Zo)(to:Int):atZ (I6 s z to) y=if z.id=y.id then to else atZ s y:=by unfold atZ I6;simp only;rw[Ez7];split <;> rfl
theorem Dv7(l:List Ro)(s:Pn)(to h:Int):∀(zs:List Zo) {z:Zo},z∈zs->(zs.map (·.id)).Nodup->d6 l (I6 s z to) h zs=d6 l s h zs-(if atZ s z=h then i6 l z else 0)+(if to=h then i6 l z else 0)
 | [],_,hz,_=>by cases hz
 | y::zs,z,hz,hn=>by
  rw[List.map_cons,List.nodup_cons]at hn;rw[d6,d6,FN7]
  rcases List.mem_cons.1 hz with rfl|hz
  ·rw[if_pos rfl]
   have hno:∀(zs:List Zo),(∀x∈zs,x.id≠z.id)->d6 l (I6 s z to) h zs=d6 l s h zs:=by
    intro zs
    induction zs with
    | nil=>intro _;rfl
    | cons x zs ih=>
     intro hx;rw[d6,d6,FN7,if_neg (c:=z.id=x.id) (fun e=>hx x (List.mem_cons_self ..) e.symm),ih fun w hw=>hx w (List.mem_cons_of_mem _ hw)]
   rw[hno zs fun x hx e=>hn.1 (List.mem_map.2 ⟨x,hx,e⟩)];omega
  ·have hne:z.id≠y.id:=fun e=>hn.1 (List.mem_map.2 ⟨z,hz,e⟩)
   rw[if_neg hne,Dv7 l s to h zs hz hn.2];omega
def evF(ld:Int->Int)(own to n:Int):Int->Int:=fun h=>ld h-(if own=h then n else 0)+(if to=h then n else 0)
def EvI(l:List Ro)(zs:List Zo)(was:Int):(Int->Int)->List Cg->Prop
 | ld,[]=>∀h,8<=h->h<=10->ld h<=was
 | ld,c::cs=>c.kind=3/\8<=c.to/\c.to<=10/\∃k, ∃hk:k<zs.length,c.zone=k+1/\evF ld zs[k].own c.to (i6 l zs[k]) c.to<was/\EvI l zs was (evF ld zs[k].own c.to (i6 l zs[k])) cs
theorem Dw7{l:List Ro}{zs:List Zo}{was:Int}(hz:∀k (h:k<zs.length),zs[k].id=k+1/\zs[k].pend=0)(hnd:(zs.map (·.id)).Nodup):∀{n:Nat} {s t:Pn},MovI l zs [8,9,10] n s t->(∀z∈zs,z.id∉s.nm->l6 s.mv z.id=none)->(∀h,8<=h->h<=10->d6 l s h zs<=was)->∃cs,t.out=s.out++cs/\EvI l zs was (fun h=>d6 l s h zs) cs
 | 0,s,_,.done _,_,hw=>⟨[],by simp,hw⟩
 | n+1,s,_,.none _ _ _,_,hw=>⟨[],by simp,hw⟩
 | n+1,s,t,.some (k:=k) (a:=a) (b:=b) ha hb hn hk hm,hmv,hw=>by
  obtain⟨_,_,hc⟩:=Bn7 l _ (Nat.le_refl _) _ hn;unfold at4 at hc;simp only[jB,decide_eq_true_eq]at hc;obtain⟨c1,c2,c3,c4⟩:=hc;obtain⟨f1,f2⟩:=EZ7 c2;have hat:atZ s zs[k]=zs[k].own:=by unfold atZ;rw[hmv _ (jW hk) f2,if_neg (by omega)];rfl
  have hb8:8<=b/\b<=10:=by have:=hb.1;simp at this;omega
  have ha8:8<=a/\a<=10:=by have:=ha.1;simp at this;omega
  have hld:(fun h=>d6 l (I6 s zs[k] b) h zs)=evF (fun h=>d6 l s h zs) zs[k].own b (i6 l zs[k]):=by
   funext h
   show d6 l (I6 s zs[k] b) h zs=_
   rw[Dv7 l s b h zs (jW hk) hnd,hat];rfl
  have hab:a≠b:=fun e=>by subst e;omega
  have hlt:evF (fun h=>d6 l s h zs) zs[k].own b (i6 l zs[k]) b<was:=by
   have:=hw a ha8.1 ha8.2;show d6 l s b zs-(if zs[k].own=b then i6 l zs[k]else 0)+(if b=b then i6 l zs[k]else 0)<was
   rw[if_pos rfl,if_neg (by rw[c1];exact hab)];omega
  have hw2:∀h,8<=h->h<=10->d6 l (I6 s zs[k] b) h zs<=was:=fun h h8 h10=>by
   have e:d6 l (I6 s zs[k] b) h zs=evF (fun h=>d6 l s h zs) zs[k].own b (i6 l zs[k]) h:=congrFun hld h;rw[e];by_cases hh:b=h
   ·subst hh;omega
   ·show d6 l s h zs-(if zs[k].own=h then i6 l zs[k]else 0)+(if b=h then i6 l zs[k]else 0)<=was
    rw[if_neg hh];have:=hw h h8 h10;have:=(Av7 l zs[k]).1;split <;> omega
  obtain⟨cs,e1,e2⟩:=Dw7 hz hnd hm (fun z hzm hnn=>by
   have h1:z.id≠zs[k].id:=fun e=>hnn (by rw[e];exact List.mem_cons_self ..)
   show l6 ((zs[k].id,b)::A6 s.mv zs[k].id) z.id=none
   rw[Ez7,if_neg (fun e=>h1 e.symm)];exact hmv z hzm fun f=>hnn (List.mem_cons_of_mem _ f)) hw2
  refine⟨⟨3,zs[k].id,0,b,⟨#[]⟩⟩::cs,?_,rfl,hb8.1,hb8.2,k,hk,(hz k hk).1,hlt,?_⟩
  ·rw[e1];show(s.out++[_])++cs=_
   rw[jS];rfl
  ·rw[<-hld];exact e2
theorem DZ7(l:List Ro){cold:Int}(hc:cold<=0)(zs:List Zo)(s:Pn):∀i,A8 l cold zs s i=s
 | 0=>rfl
 | i+1=>by
  rw[A8,DZ7 l hc zs s i];split
  ·rename_i a b _ _
   rw[if_neg];unfold bg4;rw[decide_eq_false (p:=i6 l a+i6 l b<cold) (by have:=(Av7 l a).1;have:=(Av7 l b).1;omega)];simp
  ·rfl
theorem Fb7{l:List Ro}{zs:List Zo}{was v nx hot:Int}{out:List Cg}(hz:∀k (h:k<zs.length),zs[k].id=k+1/\zs[k].pend=0)(hh:∀z∈zs,i6 l z<=hot)(hw:∀h,8<=h->h<=10->d6 l pn0 h zs<=was)(hM:L6 ⟨v,nx,zs⟩ [8,9,10] l hot 0 out):EvI l zs was (fun h=>d6 l pn0 h zs) out:=by
 rcases hM with ⟨_,rfl⟩|⟨hm,Z,s,p1,p2,p3,rfl⟩
 ·exact hw
 ·rw[CM7 _ _ _ _ fun z hz=>hh z (p1.mem_iff.1 hz)]at p3;rw[DZ7 _ (Int.le_refl _)];obtain⟨cs,e1,e2⟩:=Dw7 (was:=was) hz (Cq7 hm.1) p3 (fun _ _ _=>rfl) hw;rw[e1];exact e2
section
variable{α:Type}
def swB(xs:List α)(i j:Nat)(hi:i<xs.length)(hj:j<xs.length):List α:=(xs.set i xs[j]).set j xs[i]
theorem AE7(xs:List α)(i j:Nat)(hi:i<xs.length)(hj:j<xs.length):(swB xs i j hi hj).length=xs.length:=by simp[swB]
theorem FO7(xs:List α)(i j:Nat)(hi:i<xs.length)(hj:j<xs.length)(k:Nat)(hk:k<xs.length):(swB xs i j hi hj)[k]'(by rw[AE7];exact hk)=if k=j then xs[i]else if k=i then xs[j]else xs[k]:=by
 simp only[swB,List.getElem_set];by_cases h1:j=k
 ·subst h1;simp
 ·have g1:¬k=j:=fun e=>h1 e.symm
  by_cases h2:i=k
  ·subst h2;simp[h1,g1]
  ·have g2:¬k=i:=fun e=>h2 e.symm
   simp[h1,h2,g1,g2]
def upB(lt:α->α->Bool):Nat->List α->Nat->List α
 | 0,xs,_=>xs
 | f+1,xs,j=>
  if h:0<j/\j<xs.length then
   if lt (xs[j]'h.2) (xs[(j-1) / 2]'(by omega))=true then upB lt f (swB xs ((j-1) / 2) j (by omega) h.2) ((j-1) / 2)else xs
  else xs
theorem Ea7(lt:α->α->Bool):∀(f:Nat) (xs:List α) (j:Nat),(upB lt f xs j).length=xs.length
 | 0,_,_=>rfl
 | f+1,xs,j=>by
  rw[upB];split
  ·split
   ·rw[Ea7,AE7]
   ·rfl
  ·rfl
theorem EA7(lt:α->α->Bool):∀(f f':Nat) (xs:List α) (j:Nat),j<=f->j<=f'->upB lt f xs j=upB lt f' xs j
 | 0,f',xs,j,h,_=>by
  obtain rfl:j=0:=by omega
  cases f' with
  | zero=>rfl
  | succ f'=>rw[upB,upB,dif_neg (by omega)]
 | f+1,0,xs,j,_,h=>by
  obtain rfl:j=0:=by omega
  rw[upB,upB,dif_neg (by omega)]
 | f+1,f'+1,xs,j,h,h'=>by
  rw[upB,upB];split
  ·split
   ·exact EA7 lt f f' _ _ (by omega) (by omega)
   ·rfl
  ·rfl
theorem EB7(lt:α->α->Bool):∀(f:Nat) (xs:List α) (j:Nat),(upB lt f xs j).Perm xs
 | 0,_,_=>List.Perm.refl _
 | f+1,xs,j=>by
  rw[upB];split
  ·rename_i h
   split
   ·refine(EB7 lt f _ _).trans ?_;unfold swB;exact List.set_set_perm (by omega) h.2
   ·exact List.Perm.refl _
  ·exact List.Perm.refl _
theorem FP7{lt:α->α->Bool}(hirr:∀a,lt a a=false)(hneg:∀a b c,lt a b=true->lt c b=false->lt a c=true):∀(f:Nat) (xs:List α) (j:Nat) (hj:j<xs.length),j<=f->(∀i (h:i<xs.length),i≠j->lt xs[i] (xs[0]'(by omega))=false)->
  (upB lt f xs j)[0]? = some (if lt xs[j] (xs[0]'(by omega))=true then xs[j]else xs[0]'(by omega))
 | 0,xs,j,hj,hf,_=>by
  obtain rfl:j=0:=by omega
  rw[upB,hirr,if_neg Bool.false_ne_true,jG hj]
 | f+1,xs,j,hj,hf,hm=>by
  rw[upB];by_cases h0:j=0
  ·subst h0;rw[dif_neg (by omega),hirr,if_neg Bool.false_ne_true,jG hj]
  ·rw[dif_pos ⟨by omega,hj⟩];have hx0:0<xs.length:=by omega
   obtain⟨p,hpe⟩:∃p,p=(j-1) / 2:=⟨_,rfl⟩
   have hp:p<j:=by omega
   simp only[<-hpe];have hpl:p<xs.length:=by omega
   by_cases hlt:lt xs[j] xs[p]=true
   ·rw[if_pos hlt];have ep:(swB xs p j hpl hj)[p]'(by rw[AE7];exact hpl)=xs[j]:=by rw[FO7 _ _ _ _ _ _ hpl,if_neg (by omega),if_pos rfl]
    have e0:(swB xs p j hpl hj)[0]'(by rw[AE7];exact hx0)=if p=0 then xs[j]else xs[0]:=by
     rw[FO7 _ _ _ _ _ _ hx0,if_neg (by omega)];by_cases hp0:p=0
     ·rw[if_pos hp0.symm,if_pos hp0]
     ·rw[if_neg fun e=>hp0 e.symm,if_neg hp0]
    by_cases hp0:p=0
    ·subst hp0;rw[if_pos hlt]
     cases f with
     | zero=>rw[upB,jG (by rw[AE7];exact hx0),ep]
     | succ f=>rw[upB,dif_neg (by omega),jG (by rw[AE7];exact hx0),ep]
    ·rw[if_neg hp0]at e0;rw[FP7 hirr hneg f _ p (by rw[AE7];exact hpl) (by omega) fun i hi hne=>?_]
     ·rw[ep,e0]
     ·rw[AE7]at hi;rw[e0,FO7 _ _ _ _ _ _ hi];by_cases hij:i=j
      ·rw[if_pos hij];exact hm p hpl (by omega)
      ·rw[if_neg hij,if_neg hne];exact hm i hi hij
   ·rw[if_neg hlt,jG hx0,if_neg];intro f2
    rcases Nat.eq_zero_or_pos p with rfl|hp1
    ·exact hlt f2
    ·exact hlt (hneg _ _ _ f2 (hm p hpl (by omega)))
end
def l8(least:Bool)(x y:Int×Int):Bool:=if x.2≠y.2 then(decide (x.2<y.2)==least)else decide (x.1<y.1)
theorem Dx7(b:Bool)(x:Int×Int):l8 b x x=false:=by unfold l8;rw[if_neg (by simp)];simp
theorem AT7(b:Bool)(x y:Int×Int):l8 b x y=true↔(if b=true then x.2<y.2 else y.2<x.2)\/(x.2=y.2/\x.1<y.1):=by
 unfold l8
 cases b
 ·by_cases h:x.2=y.2
  ·rw[if_neg (by simp[h])];simp[h]
  ·rw[if_pos h];simp;omega
 ·by_cases h:x.2=y.2
  ·rw[if_neg (by simp[h])];simp[h]
  ·rw[if_pos h];simp;omega
theorem FQ7(b:Bool)(x y z:Int×Int)(h:l8 b x y=true)(h2:l8 b z y=false):l8 b x z=true:=by
 rw[AT7]at h ⊢;have h3:¬l8 b z y=true:=by rw[h2];exact Bool.false_ne_true
 rw[AT7]at h3
 cases b
 ·simp only[Bool.false_eq_true,if_false]at h h3 ⊢;omega
 ·simp only[if_true]at h h3 ⊢;omega
def J6{α:Type}(lt:α->α->Bool)(xs:List α)(x:α):List α:=upB lt xs.length (xs++[x]) xs.length
theorem Bu7{α:Type}(lt:α->α->Bool)(xs:List α)(x:α):(J6 lt xs x).Perm (x::xs):=
 (EB7 lt _ _ _).trans (List.perm_append_comm (l₁:=xs) (l₂:=[x]))
structure TopI{α:Type}(lt:α->α->Bool)(ys:List α)(t:α):Prop where
 top:ys[0]? = some t
 best:∀y∈ys,lt y t=false
theorem GT7{α:Type}{lt:α->α->Bool}(hirr:∀a,lt a a=false)(x:α):TopI lt (J6 lt [] x) x:=
 ⟨rfl,fun y hy=>by obtain rfl:y=x:=List.mem_singleton.1 ((Bu7 lt [] x).mem_iff.1 hy);exact hirr y⟩
theorem GU7{α:Type}{lt:α->α->Bool}(hirr:∀a,lt a a=false)(hasy:∀a b,lt a b=true->lt b a=false)(hneg:∀a b c,lt a b=true->lt c b=false->lt a c=true){xs:List α}{t:α}(h:TopI lt xs t)(x:α):TopI lt (J6 lt xs x) (if lt x t=true then x else t):=by
 obtain⟨h1,h2⟩:=h
 have hl:0<xs.length:=by
  rcases Nat.eq_zero_or_pos xs.length with h|h
  ·rw[List.getElem?_eq_none (by omega)]at h1;cases h1
  ·exact h
 have e0:xs[0]=t:=by rw[jG hl]at h1;exact Option.some.inj h1
 have e1:(xs++[x])[0]'(by simp)=t:=by rw[List.getElem_append_left hl];exact e0
 have e2:(xs++[x])[xs.length]'(by simp)=x:=by simp
 have h3:=FP7 hirr hneg xs.length (xs++[x]) xs.length (by simp) (Nat.le_refl _) fun i hi hne=>by
  have hil:i<xs.length:=by simp at hi;omega
  rw[e1,List.getElem_append_left hil];exact h2 _ (jW hil)
 rw[e1,e2]at h3;refine⟨h3,fun y hy=>?_⟩;have hy2:=(Bu7 lt xs x).mem_iff.1 hy;by_cases hc:lt x t=true
 ·rw[if_pos hc]
  rcases List.mem_cons.1 hy2 with rfl|hy2
  ·exact hirr y
  ·cases hyx:lt y x with
   | false=>rfl
   | true=>
    exfalso
    have g1:=h2 y hy2;have:=hneg _ _ _ hyx (hasy x t hc);rw[g1]at this
    cases this
 ·rw[if_neg hc]
  rcases List.mem_cons.1 hy2 with rfl|hy2
  ·simpa using hc
  ·exact h2 y hy2
theorem FR7(b:Bool)(x y:Int×Int)(h:l8 b x y=true):l8 b y x=false:=by
 rw[<-Bool.not_eq_true];intro h2;rw[AT7]at h h2
 cases b
 ·simp only[Bool.false_eq_true,if_false]at h h2;omega
 ·simp only[if_true]at h h2;omega
def y9(b:Bool)(ld:Int->Int)(hs:List Int):List (Int×Int):=hs.foldl (fun xs h=>J6 (l8 b) xs (h,ld h)) []
theorem BH7(b:Bool)(ld:Int->Int){hs:List Int}{i:Nat}(h:i<hs.length):y9 b ld (hs.take (i+1))=J6 (l8 b) (y9 b ld (hs.take i)) (hs[i],ld hs[i]):=by unfold y9;rw[List.take_succ_eq_append_getElem h,List.foldl_append];rfl
theorem AZ7(b:Bool)(ld:Int->Int)(hs:List Int):∀i,i<=hs.length->(y9 b ld (hs.take i)).Perm ((hs.take i).map fun h=>(h,ld h))
 | 0,_=>by rw[List.take_zero];exact List.Perm.refl _
 | i+1,h=>by rw[BH7 b ld (by omega),List.take_succ_eq_append_getElem (by omega),List.map_append];refine(Bu7 _ _ _).trans (((AZ7 b ld hs i (by omega)).cons _).trans ?_);exact List.perm_append_comm (l₁:=[(hs[i],ld hs[i])])
theorem BT7(b:Bool)(ld:Int->Int)(hs:List Int):∀i,i<hs.length->∃t,TopI (l8 b) (y9 b ld (hs.take (i+1))) t
 | 0,h=>by refine⟨(hs[0],ld hs[0]),?_⟩;rw[BH7 b ld h,List.take_zero];exact GT7 (Dx7 b) _
 | i+1,h=>by obtain⟨t,ht⟩:=BT7 b ld hs i (by omega);have h2:=GU7 (Dx7 b) (FR7 b) (FQ7 b) ht (hs[i+1],ld hs[i+1]);rw[<-BH7 b ld h]at h2;exact⟨_,h2⟩
theorem FS7(ld:Int->Int){hs:List Int}(h:0<hs.length):∃a,(y9 false ld hs)[0]? = some (a,ld a)/\J5 ld hs a:=by
 obtain⟨t,h1,h2⟩:=BT7 false ld hs (hs.length-1) (by omega);have hp:=AZ7 false ld hs hs.length (Nat.le_refl _);rw[show hs.length-1+1=hs.length by omega,List.take_length]at h1 h2;rw[List.take_length]at hp;obtain⟨a,ha,rfl⟩:=List.mem_map.1 (hp.mem_iff.1 (List.mem_of_getElem? h1));refine⟨a,h1,ha,fun x hx=>?_⟩;have h3:¬l8 false (x,ld x) (a,ld a)=true:=by rw[h2 _ (hp.mem_iff.2 (List.mem_map.2 ⟨x,hx,rfl⟩))];exact Bool.false_ne_true
 rw[AT7]at h3;simp only[Bool.false_eq_true,if_false]at h3;omega
theorem Fc7(ld:Int->Int){hs:List Int}(h:0<hs.length):∃a,(y9 true ld hs)[0]? = some (a,ld a)/\F8 ld hs a:=by
 obtain⟨t,h1,h2⟩:=BT7 true ld hs (hs.length-1) (by omega);have hp:=AZ7 true ld hs hs.length (Nat.le_refl _);rw[show hs.length-1+1=hs.length by omega,List.take_length]at h1 h2;rw[List.take_length]at hp;obtain⟨a,ha,rfl⟩:=List.mem_map.1 (hp.mem_iff.1 (List.mem_of_getElem? h1));refine⟨a,h1,ha,fun x hx=>?_⟩;have h3:¬l8 true (x,ld x) (a,ld a)=true:=by rw[h2 _ (hp.mem_iff.2 (List.mem_map.2 ⟨x,hx,rfl⟩))];exact Bool.false_ne_true
 rw[AT7]at h3;simp only[if_true]at h3;omega
def D6:Nat->Nat->List Int
 | 0,u=>[(u:Int)]
 | f+1,u=>if 128<=u then((u%128+128:Nat):Int)::D6 f (u / 128)else[(u:Int)]
def E7(n:Int):Nat:=if 4611686018427387904<n then 4611686018427387904 else if 0<n then n.toNat else 0
def p9(n:Int):List Int:=D6 8 (E7 n)
theorem Cr7{f u:Nat}(h:u<128):D6 f u=[(u:Int)]:=by
 cases f with
 | zero=>rfl
 | succ f=>rw[D6,if_neg (by omega)]
theorem EC7:∀f u,(D6 f u).length<=f+1
 | 0,u=>Nat.le_refl _
 | f+1,u=>by
  rw[D6];split
  ·have:=EC7 f (u / 128);rw[jC];omega
  ·simp
theorem CN7(n:Int):E7 n<=4611686018427387904:=by
 unfold E7
 repeat' split
 all_goals omega
theorem Ao7(n:Int):(p9 n).length<=9:=EC7 _ _
theorem IS7:∀v:Fin 256,bits .or .u8 ((v.val:Nat):Int) 128=((v.val%128+128:Nat):Int):=by decide +kernel
theorem HZ7(u:Nat):bits .or .u8 ((u:Int)%256) 128=((u%128+128:Nat):Int):=by
 have h:=IS7 ⟨u%256,Nat.mod_lt _ (by decide)⟩;have e:((u:Int)%256)=((u%256:Nat):Int):=by omega
 rw[e,h];have:u%256%128=u%128:=Nat.mod_mod_of_dvd _ (by decide);simp only[this]
theorem Eb7{u:Nat}(h:u<=4611686018427387904):u<128^(8+1):=by
 have:(128:Nat)^(8+1)=9223372036854775808:=by decide
 omega
abbrev u8s(l:List Int):List Value:=l.map (Value.int .u8)
abbrev byR(v:Value)(l:List Int):HP:=row v 1 5 l.length (u8s l)
def NmR(W:World)(L:List HP)(t:List Int)(v3 v4:Value)(w:World):Prop:=
 ∃(f u:Nat) (d:List Int),v3=.int .u64 u/\u<128^(f+1)/\u<=4611686018427387904/\f<=8/\d.length<=8-f/\d++D6 f u=t/\St W (byR v4 d::L) w
theorem ED7(d:List Int)(x:Int):u8s (d++[x])=u8s d++[Value.int .u8 x]:=by unfold u8s;rw[List.map_append];rfl
theorem Cs7{v:Value}{n:Nat}{l:List Int}{L:List HP}{W w:World}(hl:l.length=n)(h:St W (row v 1 5 n (u8s l)::L) w):St W (byR v l::L) w:=by unfold byR;rw[hl];exact h
end Go.Proofs.Ytjcfifkjbaffnaa
end
section
namespace Go.Sl
open Go.RowKit
def s7(s:ByteArray):List Int:=s.data.toList.map fun b=>(b.toNat:Int)
theorem An7(s:ByteArray):(s7 s).length=s.size:=by unfold s7;rw[jM];rfl
def sbR(g:Nat)(s:ByteArray):HP:=fun f=>∃o:Obj,(∀w:World,w.heap[g]? = some o->∀(j:Nat) (u:Value),((s7 s).map (Value.int .u8))[j]? = some u->w.cell? ⟨g,j,none⟩=some u)/\J9 g o f
section
variable{P:Program}{ops:Array Oper}{Q:Exit->Act->World->Prop}{a:Act}{w:World}{W:World}{L:List HP}{rest:List Oper}{o:Oper}
theorem a7.sb{g:Nat}{s:ByteArray}:a7 (sbR g s::L) g 0 ((s7 s).map (Value.int .u8)):=fun j v hj W w hS=>by obtain⟨o,hS⟩:=St.ex hS;obtain⟨h1,hS⟩:=St.and hS;rw[Nat.zero_add];exact h1 w (hS.get .head) j v hj
theorem Be7{src dst e:TypeId}{x:Operand}{s:ByteArray}(hS:St W L w)(ho:o.op=.convert src dst x)(hg:Region.wanted o (yielded ops a.tmps)=true)(hx:a.eval x=.string s)
  (hs:P.underlying src=some .string) (hd:P.underlying dst=some (.slice e)) (he:P.underlying e=some (.int .u8))
  (h:∀g c w',St W (sbR g s::L) w'->wpList P ops Q rest (a.put o.dst (.S g s.size c)) w'):wpList P ops Q (o::rest) a w:=by
 have h1:=run_bytes_of_string (P:=P) w src dst e s hs hd he;refine Ag7 hg (v:=.slice (some ⟨w.heap.size,0,none⟩) s.size (grownCap w s.size 0 e)) (w':=w.drew.alloc (.cells (bytesRow s (grownCap w s.size 0 e)) e ((bytesRow s (grownCap w s.size 0 e)).size,(bytesRow s (grownCap w s.size 0 e)).size+1))) ?_ (h _ _ _ ?_)
 ·unfold execOp;simp[ho,hx,h1]
 ·have h2:=(hS.drawn (w.drawn+1)).alloc (.cells (bytesRow s (grownCap w s.size 0 e)) e ((bytesRow s (grownCap w s.size 0 e)).size,(bytesRow s (grownCap w s.size 0 e)).size+1));refine St.mkEx _ (St.mkAnd ?_ h2);intro w' hw j u hj;rw[List.getElem?_map]at hj;unfold s7 at hj;rw[List.getElem?_map]at hj;have hw2:w'.heap[w.heap.size]? = some (.cells (bytesRow s (grownCap w s.size 0 e)) e ((bytesRow s (grownCap w s.size 0 e)).size,(bytesRow s (grownCap w s.size 0 e)).size+1)):=hw
  cases hb:s.data.toList[j]? with
  | none=>rw[hb]at hj;cases hj
  | some b=>
   rw[hb]at hj;simp only[Option.map_some,Option.some.injEq]at hj;have hb2:s.data[j]? = some b:=by rw[<-hb];simp
   have hjl:j<s.data.size:=(Array.getElem?_eq_some_iff.1 hb2).1;have h3:(bytesRow s (grownCap w s.size 0 e))[j]? = some u:=by unfold bytesRow;rw[Array.getElem?_append_left (by simpa using hjl),Array.getElem?_map,hb2,<-hj];rfl
   show w'.cell? ⟨w.heap.size,j,none⟩=some u
   simp[World.cell?,hw2,h3]
end
end Go.Sl
namespace Go.Proofs.Ytjcfifkjbaffnaa
open Go.RowKit Go.Sl
theorem EE7(l:List Int):(u8s l).all (·.oneCell')=true:=by rw[List.all_eq_true];intro v hv;obtain⟨x,_,rfl⟩:=List.mem_map.1 hv;rfl
theorem FT7(a b:List Int):u8s (a++b)=u8s a++u8s b:=List.map_append
theorem Ec7(a:List Int):(u8s a).length=a.length:=jM ..
theorem CO7(ns:List Int):(ns.flatMap p9).length<=9*ns.length:=by
 induction ns with
 | nil=>simp
 | cons n ns ih=>
  have:=Ao7 n;rw[List.flatMap_cons,jA,jC];omega
def m8(s:ByteArray):List Int:=p9 s.size++s7 s
def k7(ns:List Int):List Int:=ns.flatMap p9
theorem Dy7(a b c d:Int):(k7 [a,b,c,d]).length<=36:=by have h:=CO7 [a,b,c,d];simp only[jC,List.length_nil]at h;exact h
def wrR(wb:Nat)(d:List Int):HP:=fun f=>∃v:Value,sats [blk wb [v] 77,byR v d] f
section
variable{W w:World}{wb:Nat}{d:List Int}{R:List HP}
theorem ao4(h:St W (wrR wb d::R) w):∃a c,St W (blk wb [.slice a d.length c] 77::byR (.slice a d.length c) d::R) w:=by obtain⟨v,h⟩:=St.ex h;have hS:=(St.split (St.split h).swap).swap.drop.swap;obtain⟨a,c,rfl⟩:=hS.drop.rowVal;exact⟨a,c,hS⟩
theorem K7{v:Value}(h:St W (blk wb [v] 77::byR v d::R) w):St W (wrR wb d::R) w:=by refine St.mkEx v ?_;refine St.join ?_;refine St.swap (St.imp h.swap ?_);intro f hf;exact⟨fun _=>true,hf,trivial⟩
end
def WnR(W:World)(L:List HP)(wb:Nat)(d:List Int)(ns:List Int)(v:Value)(w:World):Prop:=
 ∃i:Nat,v=.I i/\i<=ns.length/\St W (wrR wb (d++(ns.take i).flatMap p9)::L) w
def WuR(W:World)(L:List HP)(wb:Nat)(t:List Int)(v:Value)(w:World):Prop:=
 ∃(f u:Nat) (d:List Int),v=.int .u64 u/\u<128^(f+1)/\u<=4611686018427387904/\d.length<=100000000+(8-f)/\f<=8/\d++D6 f u=t/\St W (wrR wb d::L) w
theorem IT7(wb:Nat)(d:List Int)(ns:List Int)(g off c:Nat)(hd:d.length<=90000000)(hl:ns.length<=100)(hn:∀x∈ns, -9223372036854775808<=x/\x<=9223372036854775807)(W w:World)(R:List HP)(hcell:∀i, ∀hi:i<ns.length,b8 R g (off+i) (.I ns[i]))(hS:St W (wrR wb d::R) w):
  Calls Try.prog 32 #[.P wb,.slice (some ⟨g,off,none⟩) ns.length c] w fun e w'=>e=.returned (.tuple #[])/\St W (wrR wb (d++ns.flatMap p9)::R) w':=by
 have Hcell:=jH hcell;clear hcell;have Hn:=jH hn;clear hn;go_enter Try.func32,Try.ntmps32;go_wp2_with(first|go_big_skip)
 go_loopw [11] (fun v wr=>WnR W R wb d ns v wr) (fun v _=>ns.length-(intOf v).toNat)
 case atStart=>exact⟨0,rfl,Nat.zero_le _,by simpa using hS⟩
 case round=>
  clear hS;obtain⟨i,rfl,hil,hS⟩:=hrel;by_cases hin:i=ns.length
  ·subst hin;rw[List.take_length]at hS;go_wp2_with(first|go_big_skip);go_end0;exact⟨rfl,hS⟩
  ·have hi1:i<ns.length:=by omega
   have hx:=Hcell.out i hi1;have hr:=Hn.out _ (jW hi1);have hst:d++(ns.take (i+1)).flatMap p9=d++(ns.take i).flatMap p9++p9 ns[i]:=by rw[List.take_succ_eq_append_getElem hi1,List.flatMap_append,jS];simp
   have hle:=CO7 (ns.take i);rw[jT]at hle;generalize hdd:d++(ns.take i).flatMap p9=dd at hS hst;have hdl:dd.length<=90000900:=by rw[<-hdd,jA];omega
   generalize ns[i]=x at hx hr hst;obtain⟨r1,r2⟩:=hr;have Hst:=jH hst;clear hst hin hil hdd hle;go_wp2_with(first|go_big_skip|refine zl1 hS ?_ (hc:=by exact b8.there hx))
   have eu:max 0 (min x 4611686018427387904)=((E7 x:Nat):Int):=by
    unfold E7
    repeat' split
    all_goals omega
   have hul:=CN7 x;have hnb:p9 x=D6 8 (E7 x):=rfl;rw[hnb]at Hst;have Eu:=jH eu;clear eu hnb;generalize E7 x=u0 at Eu hul Hst
   go_loopw [6] (fun v wr=>WuR W R wb (dd++D6 8 u0) v wr) (fun v _=>(intOf v).toNat)
   case atStart=>exact⟨8,u0,dd,by rw[Eu.out],Eb7 hul,hul,by omega,by omega,rfl,hS⟩
   case round=>
    clear hS;obtain⟨f,u,d2,rfl,hu,hu2,hd2,hf,hE,hS⟩:=hrel;obtain⟨wa,wc,hS1⟩:=ao4 hS;clear hS;have hS:=hS1;clear hS1;by_cases h128:128<=u
    ·obtain⟨f,rfl⟩:∃f',f=f'+1:=by
      cases f with
      | zero=>simp at hu;omega
      | succ f=>exact⟨f,rfl⟩
     have hu3:u / 128<128^(f+1):=Nat.div_lt_of_lt_mul (by rw[Nat.pow_succ]at hu;omega);rw[D6,if_pos h128]at hE;have Hu3:=jH hu3;have HE:=jH hE;clear hE hu hu3;go_wp2_with(first|go_big_skip|refine zl1 hS ?_|refine zbs hS ?_;clear hS;intro bS w hS|(with_reducible apply Am7 hS);rfl;rfl;rfl;rfl;exact esS;exact rsS;rfl;decide;exact c7;exact Src.mk a7.whole;(focus(try rfl));rfl;(focus(unfold maxLen;omega));(focus(omega));clear hS;intro v w hS;(have hv:=hS.rowVal;obtain⟨va,vc,rfl⟩:=hv);refine frS ?_|refine zs1 hS ?_;clear hS;intro w hS);have hS1:=hS.s (row (.slice va (d2.length+1) vc) 1 _ _ _::blk wb _ _::R);have hb:=HZ7 u;have h0:St W (row (.slice va (d2.length+1) vc) 1 5 (d2.length+1) (u8s d2++[Value.int .u8 (bits .or .u8 ((u:Int)%256) 128)])::_) w:=hS1;rw[hb,<-ED7]at h0;have h2:=K7 (Cs7 (by rw[jA,List.length_singleton]) h0).swap;go_roundw
     case rel=>exact⟨f,u / 128,d2++[((u%128+128:Nat):Int)],by rw[Int.natCast_ediv];rfl,Hu3.out,by omega,by rw[jA,List.length_singleton];omega,by omega,by rw[jS];exact HE.out,h2⟩
     case measure=>simp[intOf];omega
    ·have hu4:u<128:=by omega
     rw[Cr7 hu4]at hE;have HE:=jH hE;clear hE hu h128;go_wp2_with(first|go_big_skip|refine zl1 hS ?_|refine zbs hS ?_;clear hS;intro bS w hS|(with_reducible apply Am7 hS);rfl;rfl;rfl;rfl;exact esS;exact rsS;rfl;decide;exact c7;exact Src.mk a7.whole;(focus(try rfl));rfl;(focus(unfold maxLen;omega));(focus(omega));clear hS;intro v w hS;(have hv:=hS.rowVal;obtain⟨va,vc,rfl⟩:=hv);refine frS ?_|refine zs1 hS ?_;clear hS;intro w hS);have hS1:=hS.s (row (.slice va (d2.length+1) vc) 1 _ _ _::blk wb _ _::R);have h0:St W (row (.slice va (d2.length+1) vc) 1 5 (d2.length+1) (u8s d2++[Value.int .u8 (u:Int)])::_) w:=hS1;rw[<-ED7]at h0;have h2:=K7 (Cs7 (by rw[jA,List.length_singleton]) h0).swap;rw[HE.out,<-Hst.out]at h2;go_roundw
     case rel=>exact⟨i+1,rfl,hi1,h2⟩
     case measure=>simp[intOf];omega
theorem FU7(wb:Nat)(d:List Int)(ns:List Int)(b c:Nat)(hd:d.length<=90000000)(hl:ns.length<=100)(hn:∀x∈ns, -9223372036854775808<=x/\x<=9223372036854775807)(W w:World)(R:List HP)(hS:St W (wrR wb d::blk b (ns.map (Value.int .i64)) 3::R) w):
  Calls Try.prog 32 #[.P wb,.S b ns.length c] w fun e w'=>e=.returned (.tuple #[])/\St W (wrR wb (d++ns.flatMap p9)::blk b (ns.map (Value.int .i64)) 3::R) w':=
 IT7 wb d ns b 0 c hd hl hn W w _ (fun i hi=>b8.here (by rw[Nat.zero_add,List.getElem?_map,jG hi];rfl)) hS
end Go.Proofs.Ytjcfifkjbaffnaa
end
section
namespace Go.Sl
open Go.RowKit
section
variable{P:Program}{ops:Array Oper}{Q:Exit->Act->World->Prop}{a:Act}{w:World}{rest:List Oper}{o:Oper}
theorem Ia7{t t2 e:TypeId}{x y:Operand}{a0:Addr}{n c:Nat}(ho:o.op=.binOp .eql t x y t2)(hg:Region.wanted o (yielded ops a.tmps)=true)(hx:a.eval x=.slice (some a0) n c)(hy:a.eval y=.slice none 0 0)(ht:P.underlying t=some (.slice e))
  (h:wpList P ops Q rest (a.put o.dst (.bool false)) w):wpList P ops Q (o::rest) a w:=by
 refine Ag7 hg (v:=.bool false) (w':=w) ?_ h;have h1:(binOp .eql t (.slice (some a0) n c) (.slice none 0 0)).run P w=.ok (.bool false) w:=Lib.run_eql_slice_nil w t e (some a0) n c 0 0 ht;unfold execOp;simp[ho,hx,hy,eqGuard,h1]
end
end Go.Sl
namespace Go.Proofs.Ytjcfifkjbaffnaa
open Go.RowKit Go.Sl
theorem bD4(wb:Nat)(d:List Int)(s:ByteArray)(g c:Nat)(hd:d.length<=90001000)(hs:s.size<=1000000)(W w:World)(R:List HP)(hS:St W (wrR wb d::sbR g s::R) w):
  Calls Try.prog 59 #[.P wb,.S g s.size c] w fun e w'=>e=.returned (.tuple #[])/\St W (wrR wb (d++s7 s)::sbR g s::R) w':=by
 obtain⟨wa,wc,hS1⟩:=ao4 hS;clear hS;have hS:=hS1;clear hS1;go_enter Try.func59,Try.ntmps59;go_wp2_with(first|refine zl1 hS ?_|(with_reducible apply Am7 hS);rfl;rfl;rfl;rfl;exact esS;exact rsS;rfl;decide;exact c7;exact Src.mk (a7.there (a7.there a7.sb));(focus(rw[jM,An7,Nat.mul_one]));exact EE7 _;(focus(unfold maxLen;omega));(focus(omega));clear hS;intro v w hS;(have hv:=hS.rowVal;obtain⟨va,vc,rfl⟩:=hv);refine frS ?_|refine zs1 hS ?_;clear hS;intro w hS);go_end0;have hS1:=hS.s (row (.slice va (d.length+s.size) vc) 1 _ _ _::blk wb _ _::sbR g s::R);have h0:St W (row (.slice va (d.length+s.size) vc) 1 5 (d.length+s.size) (u8s d++u8s (s7 s))::_) w:=hS1;rw[<-FT7]at h0;exact⟨rfl,K7 (Cs7 (by rw[jA,An7]) h0).swap⟩
def WbR(W:World)(F:List Int->List HP)(d:List Int)(s:ByteArray)(v:Value)(w:World):Prop:=
 (v=.I 0/\St W (F d) w)\/(v=.I 1/\St W (F (d++m8 s)) w)
theorem Ib7(wb:Nat)(d:List Int)(s:ByteArray)(b g c c1:Nat)(hd:d.length<=90000000)(hs:s.size<=1000000)(W w:World)(R:List HP)(hS:St W (wrR wb d::blk b [.S g s.size c] 33::sbR g s::R) w):
  Calls Try.prog 33 #[.P wb,.S b 1 c1] w fun e w'=>e=.returned (.tuple #[])/\St W (wrR wb (d++m8 s)::blk b [.S g s.size c] 33::sbR g s::R) w':=by
 have hln:=Ao7 s.size;go_enter Try.func33,Try.ntmps33;go_wp2_with(fail)
 go_loopw [8] (fun v wr=>WbR W (fun q=>wrR wb q::blk b [.S g s.size c] 33::sbR g s::R) d s v wr) (fun v _=>1-(intOf v).toNat)
 case atStart=>exact .inl ⟨rfl,hS⟩
 case round=>
  clear hS
  rcases hrel with ⟨rfl,hS⟩|⟨rfl,hS⟩
  ·have hn:∀x∈[(s.size:Int)], -9223372036854775808<=x/\x<=9223372036854775807:=by
    intro x hx;rw[List.mem_singleton.1 hx];exact⟨by omega,by omega⟩
   have Hn:=jH hn;clear hn;have hdl:(d++[(s.size:Int)].flatMap p9).length<=90001000:=by rw[jA];simp;omega
   have e:d++[(s.size:Int)].flatMap p9++s7 s=d++m8 s:=by unfold m8;rw[jS];simp
   have Hdl:=jH hdl;have E:=jH e;clear hdl e;go_wp2_with(first|refine zl1 hS ?_|refine zbs hS ?_;clear hS;intro bS w hS|go_at_call 32;refine(FU7 wb d [(s.size:Int)] bS 1 hd (by simp) Hn.out W _ _ (hS.s (wrR wb d::blk bS _ _::blk b _ _::sbR g s::R))).mono ?_;clear hS;rintro e w ⟨rfl,hS⟩|go_at_call 59;refine(bD4 wb _ s g c Hdl.out hs W _ _ (hS.s (wrR wb _::sbR g s::blk b _ _::R))).mono ?_;clear hS;rw[E.out];rintro e w ⟨rfl,hS⟩);go_roundw
   case rel=>exact .inr ⟨rfl,hS.s _⟩
   case measure=>simp[intOf]
  ·go_wp2_with(fail);go_end0;exact⟨rfl,hS⟩
theorem Ic7(d:List Int)(g c:Nat)(hd:d.length<=100000000)(W w:World)(R:List HP)(hS:St W (byR (.S g d.length c) d::R) w):
  Calls Try.prog 49 #[.S g d.length c] w fun e w'=>∃v,e=.returned v/\St W (byR v d::byR (.S g d.length c) d::R) w':=by
 go_enter Try.func49,Try.ntmps49;go_wp2_with(first|(with_reducible apply Ia7);rfl;rfl;rfl;rfl;exact Try.underlying33;refine frS ?_|(with_reducible apply Dn7 (n:=0) hS);rfl;rfl;(focus(simp only[fD,fI,fJ,Act.eval,fE,fF,fG,fH,fK];try rfl));exact esS;exact rsS;rfl;rfl;rfl;rfl;rfl;decide;clear hS;intro bv w hS;refine frS ?_|(with_reducible apply Am7 hS);rfl;rfl;rfl;rfl;exact esS;exact rsS;rfl;decide;exact c7;exact(St.src (by decide) hS.drop).there;(focus(rw[Ec7,Nat.mul_one]));exact EE7 _;(focus(unfold maxLen;omega));(focus(omega));clear hS;intro v w hS;(have hv:=hS.rowVal;obtain⟨va,vc,rfl⟩:=hv);refine frS ?_);go_ret;refine⟨_,rfl,?_⟩;have h0:St W (row (.slice va (0+d.length) vc) 1 5 (0+d.length) (u8s ([]++d))::_) w:=hS;have h2:=Cs7 (by rw[jN,Nat.zero_add]) h0;rw[jN]at h2;exact h2
theorem bE4(wb:Nat)(d:List Int)(hd:d.length<=100000000)(h0:0<d.length)(W w:World)(R:List HP)(hS:St W (wrR wb d::R) w):
  Calls Try.prog 34 #[.P wb] w fun e w'=>∃v,e=.returned v/\St W (byR v d::wrR wb d::R) w':=by
 obtain⟨wa,wc,hS1⟩:=ao4 hS;clear hS;have hS:=hS1;clear hS1;obtain⟨⟨g,rfl⟩,_,_⟩:=St.rowAddr hS.drop (by omega);go_enter Try.func34,Try.ntmps34;go_wp2_with(first|refine zl1 hS ?_|go_at_call 49;refine(Ic7 d g wc hd W _ _ hS.swap).mono ?_;clear hS;rintro e w ⟨v,rfl,hS⟩);go_ret;have hS1:=hS.s (blk wb _ _::byR (.S g d.length wc) d::byR v d::R);exact⟨v,rfl,(K7 hS1).swap⟩
end Go.Proofs.Ytjcfifkjbaffnaa
end
