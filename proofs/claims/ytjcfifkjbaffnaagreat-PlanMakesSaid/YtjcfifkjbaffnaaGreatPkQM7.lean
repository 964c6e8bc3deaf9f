/-
  The plan as a whole.
-/
import Derived.Test.YtjcfifkjbaffnaaGreatPkQM5
import Derived.Test.YtjcfifkjbaffnaaGreatPkQM6
import Derived.Laws.Bits64b
import Derived.Laws.IdiomArrays
import Derived.Deep.LoopGhost
import Derived.OwnWalk
import Derived.Deep.Slices
import Derived.Deep.Fields
import Derived.ChangeSame
import Derived.Laws.IdiomStrings
import Derived.Lib.SliceRun
set_option maxHeartbeats 16000000
set_option maxRecDepth 100000
set_option linter.unusedSimpArgs false
set_option linter.unusedVariables false
section
namespace Go.Proofs.YtjcfifkjbaffnaaGreat
open Go.RowKit Go.Sl
def C8:List Zo->ByteArray->Bool->Bool
 | [],a,first=>!first&&p8 a
 | z::l,a,first=>spB z.sf z.st&&(decide (z.sf=a)&&((first||!p8 a)&&C8 l z.st false))
def p7(m:Mp):Prop:=1<=m.ver/\m.ver<=1099511627776/\1<=m.nxt/\m.nxt<=1099511627776/\m.zs.length<=16/\(∀i (h:i<m.zs.length),H6 m.zs m.nxt m.zs[i] i)/\C8 m.zs ⟨#[]⟩ true=true
def n9(hs:List Int):Prop:=1<=hs.length/\hs.length<=6/\(∀h∈hs,8<=h/\h<14)/\hs.Pairwise fun a b=>a<b
theorem CQ7{m:Mp}(h:p7 m):(m.zs.map (·.id)).Nodup:=by
 refine List.pairwise_iff_getElem.2 fun i j hi hj hij e=>?_
 rw[jM]at hi hj;simp only[List.getElem_map]at e;have h1:=(h.2.2.2.2.2.1 i hi).1.2.2.1;have h2:=(h.2.2.2.2.2.1 j hj).1.2.2.1;rw[e,h2]at h1;omega
def i7(zs:List Zo)(k:Int):Nat:=(zs.filter fun z=>decide (z.pend=k)).length
def L8(m:Mp)(hs:List Int)(l:List Ro)(hot cold:Int)(out:List Cg):Prop:=
 (¬(p7 m/\n9 hs)/\out=[])\/((p7 m/\n9 hs)/\∃(Z:List Zo) (s:Pn),Z.Perm m.zs/\I5 Z/\MovI l m.zs hs (2-i7 m.zs 3) (p9 l hot Z (pn0,16-m.zs.length-i7 m.zs 1)).1 s/\out=(w8 l cold m.zs s (m.zs.length-1)).out)
theorem DW7{Z Z2:List Zo}(h:I5 Z)(h2:I5 Z2)(hp:Z.Perm Z2):Z=Z2:=
 List.Perm.eq_of_pairwise (fun a b _ _ h1 h2=>by omega) h h2 hp
theorem Fz7{m:Mp}{hs:List Int}{l:List Ro}{hot cold:Int}{a b:List Cg}(ha:L8 m hs l hot cold a)(hb:L8 m hs l hot cold b):a=b:=by
 rcases ha with ⟨h1,rfl⟩|⟨h1,Z,s,p1,p2,p3,rfl⟩ <;> rcases hb with ⟨g1,rfl⟩|⟨g1,Z2,s2,q1,q2,q3,rfl⟩
 ·rfl
 ·exact absurd g1 h1
 ·exact absurd h1 g1
 ·obtain rfl:=DW7 p2 q2 (p1.trans q1.symm);rw[DV7 p3 q3]
structure NamI(zs:List Zo)(s:Pn):Prop where
 nm:∀c∈s.out,c.zone∈s.nm
 at_:∀c∈s.out, ∃z∈zs,z.id=c.zone/\z.pend=0
 nd:(s.out.map (·.zone)).Nodup
abbrev bN:ByteArray:=⟨#[]⟩
abbrev bM:ByteArray:=⟨#[109]⟩
theorem Gu7{l:List Ro}{zs:List Zo}{hs:List Int}{n:Nat}{s t:Pn}(h:MovI l zs hs n s t)(hno:∀a b,B6 (fun h=>f9 l s h zs) hs a->s5 (fun h=>f9 l s h zs) hs b->∀z∈zs,ab4 l s a (f9 l s a zs) (f9 l s b zs) z=false):t=s:=by
 cases h with
 | done=>rfl
 | none=>rfl
 | some ha hb hn hk h=>
  obtain⟨_,hk2,hc⟩:=Bm7 l _ (Nat.le_refl _) _ hn;rw[hno _ _ ha hb _ (jW hk2)]at hc
  cases hc
abbrev bP4:Zo:=⟨1,bN,bN,8,1,0,0,bN,0⟩
abbrev cA4:Mp:=⟨1,2,[bP4]⟩
theorem IV7:n9 [8,9]:=⟨by decide,by decide,fun h hh=>by simp at hh;omega,by simp⟩
theorem IW7{k:ByteArray}(h:1<=k.size):ltU bN k=true:=by
 obtain⟨⟨l⟩⟩:=k
 cases l with
 | nil=>simp[ByteArray.size]at h
 | cons x l=>
  unfold ltU;rw[Lib.toList_data,Lib.toList_data];rfl
abbrev twZ(o2 ep:Int):List Zo:=[⟨1,bN,bM,8,ep,0,0,bN,0⟩,⟨2,bM,bN,o2,ep,0,0,bN,0⟩]
theorem JQ7{o2 ep v:Int}(h1:1<=o2)(h2:o2<=1048576)(h3:1<=ep)(h4:ep<=1099511627776)(h5:1<=v)(h6:v<=1099511627776):p7 ⟨v,3,twZ o2 ep⟩:=by
 refine⟨h5,h6,(by decide:(1:Int)<=3),(by decide:(3:Int)<=1099511627776),(by decide:2<=16),fun i h=>?_,?_⟩
 ·have h0:i=0\/i=1:=by have:i<2:=h;omega
  rcases h0 with rfl|rfl
  ·exact⟨⟨(by decide:(1:Int)<=1),(by decide:(1:Int)<3),rfl,(by decide:(1:Int)<=8),(by decide:(8:Int)<=1048576),h3,h4⟩,.inl ⟨rfl,rfl,rfl,rfl⟩⟩
  ·exact⟨⟨(by decide:(1:Int)<=2),(by decide:(2:Int)<3),rfl,h1,h2,h3,h4⟩,.inl ⟨rfl,rfl,rfl,rfl⟩⟩
 ·show(spB bN bM&&(decide (bN=bN)&&((true||!p8 bN)&&(spB bM bN&&(decide (bM=bM)&&((false||!p8 bM)&&(!false&&p8 bN)))))))=true
  decide +kernel
theorem JR7(o2 ep:Int):I5 (twZ o2 ep):=by unfold I5;simp
theorem bQ4{o2 ep:Int}{Z:List Zo}(h:Z.Perm (twZ o2 ep))(ha:I5 Z):Z=twZ o2 ep:=DW7 ha (JR7 o2 ep) h
theorem Gv7(l:List Ro)(hot:Int):∀(Z:List Zo) (s:Pn×Int),(∀z∈Z,i9 l z<=hot)->p9 l hot Z s=s
 | [],_,_=>rfl
 | z::Z,s,h=>by
  have e:G7 l hot s z=s:=by unfold G7 az4;rw[decide_eq_false (Int.not_lt.2 (h z (List.mem_cons_self ..)))];simp
  unfold p9;rw[List.foldl_cons,e];exact Gv7 l hot Z s fun y hy=>h y (List.mem_cons_of_mem _ hy)
theorem FA7{a:List Cg}(h:L8 ⟨3,3,twZ 8 2⟩ [8,9] [⟨1,5,bN⟩,⟨2,4,bN⟩] 100 0 a):a=[⟨3,1,0,9,bN⟩]:=by
 rcases h with ⟨h1,_⟩|⟨_,Z,s,p1,p2,p3,rfl⟩
 ·exact absurd ⟨JQ7 (by decide) (by decide) (by decide) (by decide) (by decide) (by decide),IV7⟩ h1
 obtain rfl:=bQ4 p1 p2;rw[Gv7 _ _ _ _ (by decide)]at p3;have h3:MovI [⟨1,5,bN⟩,⟨2,4,bN⟩] (twZ 8 2) [8,9] 2 pn0 s:=p3;clear p3
 cases h3 with
 | none ha hb hn=>
  have e1:=AN7 ha (⟨by decide,by decide⟩:B6 _ _ 8);have e2:=AO7 hb (⟨by decide,by decide⟩:s5 _ _ 9);subst e1 e2;exact absurd hn (by decide)
 | some ha hb hn hk h=>
  have e1:=AN7 ha (⟨by decide,by decide⟩:B6 _ _ 8);have e2:=AO7 hb (⟨by decide,by decide⟩:s5 _ _ 9);subst e1 e2
  rename_i k
  have e3:some k=some 0:=by rw[<-hn];decide
  obtain rfl:=Option.some.inj e3;have h4:MovI [⟨1,5,bN⟩,⟨2,4,bN⟩] (twZ 8 2) [8,9] 1 (J6 pn0 ⟨1,bN,bM,8,2,0,0,bN,0⟩ 9) s:=h;clear h
  have e4:=Gu7 h4 fun a b ha hb z hz=>by
   have e1:=AN7 ha (⟨by decide,by decide⟩:B6 _ _ 9);subst e1
   rcases List.mem_cons.1 hz with rfl|hz
   ·rfl
   ·obtain rfl:=List.mem_singleton.1 hz;rfl
  clear h4 hn hk;subst e4;show(w8 [⟨1,5,bN⟩,⟨2,4,bN⟩] 0 (twZ 8 2) (J6 pn0 ⟨1,bN,bM,8,2,0,0,bN,0⟩ 9) 1).out=_
  rfl
def cB4(a:List Cg):Nat:=(a.filter fun c=>decide (c.kind=2)).length
def evF(ld:Int->Int)(own to n:Int):Int->Int:=fun h=>ld h-(if own=h then n else 0)+(if to=h then n else 0)
def EvI(l:List Ro)(zs:List Zo)(was:Int):(Int->Int)->List Cg->Prop
 | ld,[]=>∀h,8<=h->h<=10->ld h<=was
 | ld,c::cs=>c.kind=3/\8<=c.to/\c.to<=10/\∃k, ∃hk:k<zs.length,c.zone=k+1/\evF ld zs[k].own c.to (i9 l zs[k]) c.to<was/\EvI l zs was (evF ld zs[k].own c.to (i9 l zs[k])) cs
section
variable{α:Type}
def swB(xs:List α)(i j:Nat)(hi:i<xs.length)(hj:j<xs.length):List α:=(xs.set i xs[j]).set j xs[i]
theorem AS7(xs:List α)(i j:Nat)(hi:i<xs.length)(hj:j<xs.length):(swB xs i j hi hj).length=xs.length:=by simp[swB]
theorem Gw7(xs:List α)(i j:Nat)(hi:i<xs.length)(hj:j<xs.length)(k:Nat)(hk:k<xs.length):(swB xs i j hi hj)[k]'(by rw[AS7];exact hk)=if k=j then xs[i]else if k=i then xs[j]else xs[k]:=by
 simp only[swB,List.getElem_set];by_cases h1:j=k
 ·subst h1;simp
 ·have g1:¬k=j:=fun e=>h1 e.symm
  by_cases h2:i=k
  ·subst h2;simp[h1,g1]
  ·have g2:¬k=i:=fun e=>h2 e.symm
   simp[h1,h2,g1,g2]
def upB(lt:α->α->Bool):Nat->List α->Nat->List α
 | 0,xs,_=>xs
 | f+1,xs,j=>
  if h:0<j/\j<xs.length then
   if lt (xs[j]'h.2) (xs[(j-1) / 2]'(by omega))=true then upB lt f (swB xs ((j-1) / 2) j (by omega) h.2) ((j-1) / 2)else xs
  else xs
theorem EB7(lt:α->α->Bool):∀(f:Nat) (xs:List α) (j:Nat),(upB lt f xs j).length=xs.length
 | 0,_,_=>rfl
 | f+1,xs,j=>by
  rw[upB];split
  ·split
   ·rw[EB7,AS7]
   ·rfl
  ·rfl
theorem Fa7(lt:α->α->Bool):∀(f f':Nat) (xs:List α) (j:Nat),j<=f->j<=f'->upB lt f xs j=upB lt f' xs j
 | 0,f',xs,j,h,_=>by
  obtain rfl:j=0:=by omega
  cases f' with
  | zero=>rfl
  | succ f'=>rw[upB,upB,dif_neg (by omega)]
 | f+1,0,xs,j,_,h=>by
  obtain rfl:j=0:=by omega
  rw[upB,upB,dif_neg (by omega)]
 | f+1,f'+1,xs,j,h,h'=>by
  rw[upB,upB];split
  ·split
   ·exact Fa7 lt f f' _ _ (by omega) (by omega)
   ·rfl
  ·rfl
theorem Fb7(lt:α->α->Bool):∀(f:Nat) (xs:List α) (j:Nat),(upB lt f xs j).Perm xs
 | 0,_,_=>List.Perm.refl _
 | f+1,xs,j=>by
  rw[upB];split
  ·rename_i h
   split
   ·refine(Fb7 lt f _ _).trans ?_;unfold swB;exact List.set_set_perm (by omega) h.2
   ·exact List.Perm.refl _
  ·exact List.Perm.refl _
theorem Gx7{lt:α->α->Bool}(hirr:∀a,lt a a=false)(hneg:∀a b c,lt a b=true->lt c b=false->lt a c=true):∀(f:Nat) (xs:List α) (j:Nat) (hj:j<xs.length),j<=f->(∀i (h:i<xs.length),i≠j->lt xs[i] (xs[0]'(by omega))=false)->
  (upB lt f xs j)[0]? = some (if lt xs[j] (xs[0]'(by omega))=true then xs[j]else xs[0]'(by omega))
 | 0,xs,j,hj,hf,_=>by
  obtain rfl:j=0:=by omega
  rw[upB,hirr,if_neg Bool.false_ne_true,jG hj]
 | f+1,xs,j,hj,hf,hm=>by
  rw[upB];by_cases h0:j=0
  ·subst h0;rw[dif_neg (by omega),hirr,if_neg Bool.false_ne_true,jG hj]
  ·rw[dif_pos ⟨by omega,hj⟩];have hx0:0<xs.length:=by omega
   obtain⟨p,hpe⟩:∃p,p=(j-1) / 2:=⟨_,rfl⟩
   have hp:p<j:=by omega
   simp only[<-hpe];have hpl:p<xs.length:=by omega
   by_cases hlt:lt xs[j] xs[p]=true
   ·rw[if_pos hlt];have ep:(swB xs p j hpl hj)[p]'(by rw[AS7];exact hpl)=xs[j]:=by rw[Gw7 _ _ _ _ _ _ hpl,if_neg (by omega),if_pos rfl]
    have e0:(swB xs p j hpl hj)[0]'(by rw[AS7];exact hx0)=if p=0 then xs[j]else xs[0]:=by
     rw[Gw7 _ _ _ _ _ _ hx0,if_neg (by omega)];by_cases hp0:p=0
     ·rw[if_pos hp0.symm,if_pos hp0]
     ·rw[if_neg fun e=>hp0 e.symm,if_neg hp0]
    by_cases hp0:p=0
    ·subst hp0;rw[if_pos hlt]
     cases f with
     | zero=>rw[upB,jG (by rw[AS7];exact hx0),ep]
     | succ f=>rw[upB,dif_neg (by omega),jG (by rw[AS7];exact hx0),ep]
    ·rw[if_neg hp0]at e0;rw[Gx7 hirr hneg f _ p (by rw[AS7];exact hpl) (by omega) fun i hi hne=>?_]
     ·rw[ep,e0]
     ·rw[AS7]at hi;rw[e0,Gw7 _ _ _ _ _ _ hi];by_cases hij:i=j
      ·rw[if_pos hij];exact hm p hpl (by omega)
      ·rw[if_neg hij,if_neg hne];exact hm i hi hij
   ·rw[if_neg hlt,jG hx0,if_neg];intro f2
    rcases Nat.eq_zero_or_pos p with rfl|hp1
    ·exact hlt f2
    ·exact hlt (hneg _ _ _ f2 (hm p hpl (by omega)))
end
def l8(least:Bool)(x y:Int×Int):Bool:=if x.2≠y.2 then(decide (x.2<y.2)==least)else decide (x.1<y.1)
theorem DX7(b:Bool)(x:Int×Int):l8 b x x=false:=by unfold l8;rw[if_neg (by simp)];simp
theorem Bg7(b:Bool)(x y:Int×Int):l8 b x y=true↔(if b=true then x.2<y.2 else y.2<x.2)\/(x.2=y.2/\x.1<y.1):=by
 unfold l8
 cases b
 ·by_cases h:x.2=y.2
  ·rw[if_neg (by simp[h])];simp[h]
  ·rw[if_pos h];simp;omega
 ·by_cases h:x.2=y.2
  ·rw[if_neg (by simp[h])];simp[h]
  ·rw[if_pos h];simp;omega
theorem Gy7(b:Bool)(x y z:Int×Int)(h:l8 b x y=true)(h2:l8 b z y=false):l8 b x z=true:=by
 rw[Bg7]at h ⊢;have h3:¬l8 b z y=true:=by rw[h2];exact Bool.false_ne_true
 rw[Bg7]at h3
 cases b
 ·simp only[Bool.false_eq_true,if_false]at h h3 ⊢;omega
 ·simp only[if_true]at h h3 ⊢;omega
def J7{α:Type}(lt:α->α->Bool)(xs:List α)(x:α):List α:=upB lt xs.length (xs++[x]) xs.length
theorem BJ7{α:Type}(lt:α->α->Bool)(xs:List α)(x:α):(J7 lt xs x).Perm (x::xs):=
 (Fb7 lt _ _ _).trans (List.perm_append_comm (l₁:=xs) (l₂:=[x]))
structure TopI{α:Type}(lt:α->α->Bool)(ys:List α)(t:α):Prop where
 top:ys[0]? = some t
 best:∀y∈ys,lt y t=false
theorem HJ7{α:Type}{lt:α->α->Bool}(hirr:∀a,lt a a=false)(x:α):TopI lt (J7 lt [] x) x:=
 ⟨rfl,fun y hy=>by obtain rfl:y=x:=List.mem_singleton.1 ((BJ7 lt [] x).mem_iff.1 hy);exact hirr y⟩
theorem HK7{α:Type}{lt:α->α->Bool}(hirr:∀a,lt a a=false)(hasy:∀a b,lt a b=true->lt b a=false)(hneg:∀a b c,lt a b=true->lt c b=false->lt a c=true){xs:List α}{t:α}(h:TopI lt xs t)(x:α):TopI lt (J7 lt xs x) (if lt x t=true then x else t):=by
 obtain⟨h1,h2⟩:=h
 have hl:0<xs.length:=by
  rcases Nat.eq_zero_or_pos xs.length with h|h
  ·rw[List.getElem?_eq_none (by omega)]at h1;cases h1
  ·exact h
 have e0:xs[0]=t:=by rw[jG hl]at h1;exact Option.some.inj h1
 have e1:(xs++[x])[0]'(by simp)=t:=by rw[List.getElem_append_left hl];exact e0
 have e2:(xs++[x])[xs.length]'(by simp)=x:=by simp
 have h3:=Gx7 hirr hneg xs.length (xs++[x]) xs.length (by simp) (Nat.le_refl _) fun i hi hne=>by
  have hil:i<xs.length:=by simp at hi;omega
  rw[e1,List.getElem_append_left hil];exact h2 _ (jW hil)
 rw[e1,e2]at h3;refine⟨h3,fun y hy=>?_⟩;have hy2:=(BJ7 lt xs x).mem_iff.1 hy;by_cases hc:lt x t=true
 ·rw[if_pos hc]
  rcases List.mem_cons.1 hy2 with rfl|hy2
  ·exact hirr y
  ·cases hyx:lt y x with
   | false=>rfl
   | true=>
    exfalso
    have g1:=h2 y hy2;have:=hneg _ _ _ hyx (hasy x t hc);rw[g1]at this
    cases this
 ·rw[if_neg hc]
  rcases List.mem_cons.1 hy2 with rfl|hy2
  ·simpa using hc
  ·exact h2 y hy2
theorem Gz7(b:Bool)(x y:Int×Int)(h:l8 b x y=true):l8 b y x=false:=by
 rw[<-Bool.not_eq_true];intro h2;rw[Bg7]at h h2
 cases b
 ·simp only[Bool.false_eq_true,if_false]at h h2;omega
 ·simp only[if_true]at h h2;omega
def A8(b:Bool)(ld:Int->Int)(hs:List Int):List (Int×Int):=hs.foldl (fun xs h=>J7 (l8 b) xs (h,ld h)) []
theorem BY7(b:Bool)(ld:Int->Int){hs:List Int}{i:Nat}(h:i<hs.length):A8 b ld (hs.take (i+1))=J7 (l8 b) (A8 b ld (hs.take i)) (hs[i],ld hs[i]):=by unfold A8;rw[List.take_succ_eq_append_getElem h,List.foldl_append];rfl
theorem Bn7(b:Bool)(ld:Int->Int)(hs:List Int):∀i,i<=hs.length->(A8 b ld (hs.take i)).Perm ((hs.take i).map fun h=>(h,ld h))
 | 0,_=>by rw[List.take_zero];exact List.Perm.refl _
 | i+1,h=>by rw[BY7 b ld (by omega),List.take_succ_eq_append_getElem (by omega),List.map_append];refine(BJ7 _ _ _).trans (((Bn7 b ld hs i (by omega)).cons _).trans ?_);exact List.perm_append_comm (l₁:=[(hs[i],ld hs[i])])
theorem Cm7(b:Bool)(ld:Int->Int)(hs:List Int):∀i,i<hs.length->∃t,TopI (l8 b) (A8 b ld (hs.take (i+1))) t
 | 0,h=>by refine⟨(hs[0],ld hs[0]),?_⟩;rw[BY7 b ld h,List.take_zero];exact HJ7 (DX7 b) _
 | i+1,h=>by obtain⟨t,ht⟩:=Cm7 b ld hs i (by omega);have h2:=HK7 (DX7 b) (Gz7 b) (Gy7 b) ht (hs[i+1],ld hs[i+1]);rw[<-BY7 b ld h]at h2;exact⟨_,h2⟩
theorem GA7(ld:Int->Int){hs:List Int}(h:0<hs.length):∃a,(A8 false ld hs)[0]? = some (a,ld a)/\B6 ld hs a:=by
 obtain⟨t,h1,h2⟩:=Cm7 false ld hs (hs.length-1) (by omega);have hp:=Bn7 false ld hs hs.length (Nat.le_refl _);rw[show hs.length-1+1=hs.length by omega,List.take_length]at h1 h2;rw[List.take_length]at hp;obtain⟨a,ha,rfl⟩:=List.mem_map.1 (hp.mem_iff.1 (List.mem_of_getElem? h1));refine⟨a,h1,ha,fun x hx=>?_⟩;have h3:¬l8 false (x,ld x) (a,ld a)=true:=by rw[h2 _ (hp.mem_iff.2 (List.mem_map.2 ⟨x,hx,rfl⟩))];exact Bool.false_ne_true
 rw[Bg7]at h3;simp only[Bool.false_eq_true,if_false]at h3;omega
theorem FB7(ld:Int->Int){hs:List Int}(h:0<hs.length):∃a,(A8 true ld hs)[0]? = some (a,ld a)/\s5 ld hs a:=by
 obtain⟨t,h1,h2⟩:=Cm7 true ld hs (hs.length-1) (by omega);have hp:=Bn7 true ld hs hs.length (Nat.le_refl _);rw[show hs.length-1+1=hs.length by omega,List.take_length]at h1 h2;rw[List.take_length]at hp;obtain⟨a,ha,rfl⟩:=List.mem_map.1 (hp.mem_iff.1 (List.mem_of_getElem? h1));refine⟨a,h1,ha,fun x hx=>?_⟩;have h3:¬l8 true (x,ld x) (a,ld a)=true:=by rw[h2 _ (hp.mem_iff.2 (List.mem_map.2 ⟨x,hx,rfl⟩))];exact Bool.false_ne_true
 rw[Bg7]at h3;simp only[if_true]at h3;omega
def D8:Nat->Nat->List Int
 | 0,u=>[(u:Int)]
 | f+1,u=>if 128<=u then((u%128+128:Nat):Int)::D8 f (u / 128)else[(u:Int)]
def F5(n:Int):Nat:=if 4611686018427387904<n then 4611686018427387904 else if 0<n then n.toNat else 0
def r9(n:Int):List Int:=D8 8 (F5 n)
theorem CR7{f u:Nat}(h:u<128):D8 f u=[(u:Int)]:=by
 cases f with
 | zero=>rfl
 | succ f=>rw[D8,if_neg (by omega)]
theorem Fc7:∀f u,(D8 f u).length<=f+1
 | 0,u=>Nat.le_refl _
 | f+1,u=>by
  rw[D8];split
  ·have:=Fc7 f (u / 128);rw[jC];omega
  ·simp
theorem Dn7(n:Int):F5 n<=4611686018427387904:=by
 unfold F5
 repeat' split
 all_goals omega
theorem AB7(n:Int):(r9 n).length<=9:=Fc7 _ _
theorem JS7:∀v:Fin 256,bits .or .u8 ((v.val:Nat):Int) 128=((v.val%128+128:Nat):Int):=by decide +kernel
theorem IX7(u:Nat):bits .or .u8 ((u:Int)%256) 128=((u%128+128:Nat):Int):=by
 have h:=JS7 ⟨u%256,Nat.mod_lt _ (by decide)⟩;have e:((u:Int)%256)=((u%256:Nat):Int):=by omega
 rw[e,h];have:u%256%128=u%128:=Nat.mod_mod_of_dvd _ (by decide);simp only[this]
theorem EC7{u:Nat}(h:u<=4611686018427387904):u<128^(8+1):=by
 have:(128:Nat)^(8+1)=9223372036854775808:=by decide
 omega
abbrev u8s(l:List Int):List Value:=l.map (Value.int .u8)
abbrev byR(v:Value)(l:List Int):HP:=row v 1 5 l.length (u8s l)
def NmR(W:World)(L:List HP)(t:List Int)(v3 v4:Value)(w:World):Prop:=
 ∃(f u:Nat) (d:List Int),v3=.int .u64 u/\u<128^(f+1)/\u<=4611686018427387904/\f<=8/\d.length<=8-f/\d++D8 f u=t/\St W (byR v4 d::L) w
theorem Fd7(d:List Int)(x:Int):u8s (d++[x])=u8s d++[Value.int .u8 x]:=by unfold u8s;rw[List.map_append];rfl
theorem CS7{v:Value}{n:Nat}{l:List Int}{L:List HP}{W w:World}(hl:l.length=n)(h:St W (row v 1 5 n (u8s l)::L) w):St W (byR v l::L) w:=by unfold byR;rw[hl];exact h
end Go.Proofs.YtjcfifkjbaffnaaGreat
end
section
namespace Go.Sl
open Go.RowKit
def w9(s:ByteArray):List Int:=s.data.toList.map fun b=>(b.toNat:Int)
theorem Az7(s:ByteArray):(w9 s).length=s.size:=by unfold w9;rw[jM];rfl
def sbR(g:Nat)(s:ByteArray):HP:=fun f=>∃o:Obj,(∀w:World,w.heap[g]? = some o->∀(j:Nat) (u:Value),((w9 s).map (Value.int .u8))[j]? = some u->w.cell? ⟨g,j,none⟩=some u)/\K5 g o f
section
variable{P:Program}{ops:Array Oper}{Q:Exit->Act->World->Prop}{a:Act}{w:World}{W:World}{L:List HP}{rest:List Oper}{o:Oper}
theorem a7.sb{g:Nat}{s:ByteArray}:a7 (sbR g s::L) g 0 ((w9 s).map (Value.int .u8)):=fun j v hj W w hS=>by obtain⟨o,hS⟩:=St.ex hS;obtain⟨h1,hS⟩:=St.and hS;rw[Nat.zero_add];exact h1 w (hS.get .head) j v hj
theorem Br7{src dst e:TypeId}{x:Operand}{s:ByteArray}(hS:St W L w)(ho:o.op=.convert src dst x)(hg:Region.wanted o (yielded ops a.tmps)=true)(hx:a.eval x=.string s)
  (hs:P.underlying src=some .string) (hd:P.underlying dst=some (.slice e)) (he:P.underlying e=some (.int .u8))
  (h:∀g c w',St W (sbR g s::L) w'->wpList P ops Q rest (a.put o.dst (.S g s.size c)) w'):wpList P ops Q (o::rest) a w:=by
 have h1:=run_bytes_of_string (P:=P) w src dst e s hs hd he;refine Al7 hg (v:=.slice (some ⟨w.heap.size,0,none⟩) s.size (grownCap w s.size 0 e)) (w':=w.drew.alloc (.cells (bytesRow s (grownCap w s.size 0 e)) e ((bytesRow s (grownCap w s.size 0 e)).size,(bytesRow s (grownCap w s.size 0 e)).size+1))) ?_ (h _ _ _ ?_)
 ·unfold execOp;simp[ho,hx,h1]
 ·have h2:=(hS.drawn (w.drawn+1)).alloc (.cells (bytesRow s (grownCap w s.size 0 e)) e ((bytesRow s (grownCap w s.size 0 e)).size,(bytesRow s (grownCap w s.size 0 e)).size+1));refine St.mkEx _ (St.mkAnd ?_ h2);intro w' hw j u hj;rw[List.getElem?_map]at hj;unfold w9 at hj;rw[List.getElem?_map]at hj;have hw2:w'.heap[w.heap.size]? = some (.cells (bytesRow s (grownCap w s.size 0 e)) e ((bytesRow s (grownCap w s.size 0 e)).size,(bytesRow s (grownCap w s.size 0 e)).size+1)):=hw
  cases hb:s.data.toList[j]? with
  | none=>rw[hb]at hj;cases hj
  | some b=>
   rw[hb]at hj;simp only[Option.map_some,Option.some.injEq]at hj;have hb2:s.data[j]? = some b:=by rw[<-hb];simp
   have hjl:j<s.data.size:=(Array.getElem?_eq_some_iff.1 hb2).1;have h3:(bytesRow s (grownCap w s.size 0 e))[j]? = some u:=by unfold bytesRow;rw[Array.getElem?_append_left (by simpa using hjl),Array.getElem?_map,hb2,<-hj];rfl
   show w'.cell? ⟨w.heap.size,j,none⟩=some u
   simp[World.cell?,hw2,h3]
end
end Go.Sl
namespace Go.Proofs.YtjcfifkjbaffnaaGreat
open Go.RowKit Go.Sl
theorem Fe7(l:List Int):(u8s l).all (·.oneCell')=true:=by rw[List.all_eq_true];intro v hv;obtain⟨x,_,rfl⟩:=List.mem_map.1 hv;rfl
theorem GB7(a b:List Int):u8s (a++b)=u8s a++u8s b:=List.map_append
theorem ED7(a:List Int):(u8s a).length=a.length:=jM ..
theorem Do7(ns:List Int):(ns.flatMap r9).length<=9*ns.length:=by
 induction ns with
 | nil=>simp
 | cons n ns ih=>
  have:=AB7 n;rw[List.flatMap_cons,jA,jC];omega
def n5(s:ByteArray):List Int:=r9 s.size++w9 s
def k9(ns:List Int):List Int:=ns.flatMap r9
theorem DY7(a b c d:Int):(k9 [a,b,c,d]).length<=36:=by have h:=Do7 [a,b,c,d];simp only[jC,List.length_nil]at h;exact h
def wrR(wb:Nat)(d:List Int):HP:=fun f=>∃v:Value,sats [blk wb [v] 80,byR v d] f
section
variable{W w:World}{wb:Nat}{d:List Int}{R:List HP}
theorem au4(h:St W (wrR wb d::R) w):∃a c,St W (blk wb [.slice a d.length c] 80::byR (.slice a d.length c) d::R) w:=by obtain⟨v,h⟩:=St.ex h;have hS:=(St.split (St.split h).swap).swap.drop.swap;obtain⟨a,c,rfl⟩:=hS.drop.rowVal;exact⟨a,c,hS⟩
theorem K8{v:Value}(h:St W (blk wb [v] 80::byR v d::R) w):St W (wrR wb d::R) w:=by refine St.mkEx v ?_;refine St.join ?_;refine St.swap (St.imp h.swap ?_);intro f hf;exact⟨fun _=>true,hf,trivial⟩
end
def WnR(W:World)(L:List HP)(wb:Nat)(d:List Int)(ns:List Int)(v:Value)(w:World):Prop:=
 ∃i:Nat,v=.I i/\i<=ns.length/\St W (wrR wb (d++(ns.take i).flatMap r9)::L) w
def WuR(W:World)(L:List HP)(wb:Nat)(t:List Int)(v:Value)(w:World):Prop:=
 ∃(f u:Nat) (d:List Int),v=.int .u64 u/\u<128^(f+1)/\u<=4611686018427387904/\d.length<=100000000+(8-f)/\f<=8/\d++D8 f u=t/\St W (wrR wb d::L) w
theorem JT7(wb:Nat)(d:List Int)(ns:List Int)(g off c:Nat)(hd:d.length<=90000000)(hl:ns.length<=100)(hn:∀x∈ns, -9223372036854775808<=x/\x<=9223372036854775807)(W w:World)(R:List HP)(hcell:∀i, ∀hi:i<ns.length,a8 R g (off+i) (.I ns[i]))(hS:St W (wrR wb d::R) w):
  Calls Tryz.prog 33 #[.P wb,.slice (some ⟨g,off,none⟩) ns.length c] w fun e w'=>e=.returned (.tuple #[])/\St W (wrR wb (d++ns.flatMap r9)::R) w':=by
 have Hcell:=jH hcell;clear hcell;have Hn:=jH hn;clear hn;go_enter Tryz.func33,Tryz.ntmps33;go_wp2_with(first|go_big_skip)
 go_loopw [11] (fun v wr=>WnR W R wb d ns v wr) (fun v _=>ns.length-(intOf v).toNat)
 case atStart=>exact⟨0,rfl,Nat.zero_le _,by simpa using hS⟩
 case round=>
  clear hS;obtain⟨i,rfl,hil,hS⟩:=hrel;by_cases hin:i=ns.length
  ·subst hin;rw[List.take_length]at hS;go_wp2_with(first|go_big_skip);go_end0;exact⟨rfl,hS⟩
  ·have hi1:i<ns.length:=by omega
   have hx:=Hcell.out i hi1;have hr:=Hn.out _ (jW hi1);have hst:d++(ns.take (i+1)).flatMap r9=d++(ns.take i).flatMap r9++r9 ns[i]:=by rw[List.take_succ_eq_append_getElem hi1,List.flatMap_append,jS];simp
   have hle:=Do7 (ns.take i);rw[jT]at hle;generalize hdd:d++(ns.take i).flatMap r9=dd at hS hst;have hdl:dd.length<=90000900:=by rw[<-hdd,jA];omega
   generalize ns[i]=x at hx hr hst;obtain⟨r1,r2⟩:=hr;have Hst:=jH hst;clear hst hin hil hdd hle;go_wp2_with(first|go_big_skip|refine zl1 hS ?_ (hc:=by exact a8.there hx))
   have eu:max 0 (min x 4611686018427387904)=((F5 x:Nat):Int):=by
    unfold F5
    repeat' split
    all_goals omega
   have hul:=Dn7 x;have hnb:r9 x=D8 8 (F5 x):=rfl;rw[hnb]at Hst;have Eu:=jH eu;clear eu hnb;generalize F5 x=u0 at Eu hul Hst
   go_loopw [6] (fun v wr=>WuR W R wb (dd++D8 8 u0) v wr) (fun v _=>(intOf v).toNat)
   case atStart=>exact⟨8,u0,dd,by rw[Eu.out],EC7 hul,hul,by omega,by omega,rfl,hS⟩
   case round=>
    clear hS;obtain⟨f,u,d2,rfl,hu,hu2,hd2,hf,hE,hS⟩:=hrel;obtain⟨wa,wc,hS1⟩:=au4 hS;clear hS;have hS:=hS1;clear hS1;by_cases h128:128<=u
    ·obtain⟨f,rfl⟩:∃f',f=f'+1:=by
      cases f with
      | zero=>simp at hu;omega
      | succ f=>exact⟨f,rfl⟩
     have hu3:u / 128<128^(f+1):=Nat.div_lt_of_lt_mul (by rw[Nat.pow_succ]at hu;omega);rw[D8,if_pos h128]at hE;have Hu3:=jH hu3;have HE:=jH hE;clear hE hu hu3;go_wp2_with(first|go_big_skip|refine zl1 hS ?_|refine zbs hS ?_;clear hS;intro bS w hS|(with_reducible apply At7 hS);rfl;rfl;rfl;rfl;exact esS;exact rsS;rfl;decide;exact d7;exact Src.mk a7.whole;(focus(try rfl));rfl;(focus(unfold maxLen;omega));(focus(omega));clear hS;intro v w hS;(have hv:=hS.rowVal;obtain⟨va,vc,rfl⟩:=hv);refine frS ?_|refine zs1 hS ?_;clear hS;intro w hS);have hS1:=hS.s (row (.slice va (d2.length+1) vc) 1 _ _ _::blk wb _ _::R);have hb:=IX7 u;have h0:St W (row (.slice va (d2.length+1) vc) 1 5 (d2.length+1) (u8s d2++[Value.int .u8 (bits .or .u8 ((u:Int)%256) 128)])::_) w:=hS1;rw[hb,<-Fd7]at h0;have h2:=K8 (CS7 (by rw[jA,List.length_singleton]) h0).swap;go_roundw
     case rel=>exact⟨f,u / 128,d2++[((u%128+128:Nat):Int)],by rw[Int.natCast_ediv];rfl,Hu3.out,by omega,by rw[jA,List.length_singleton];omega,by omega,by rw[jS];exact HE.out,h2⟩
     case measure=>simp[intOf];omega
    ·have hu4:u<128:=by omega
     rw[CR7 hu4]at hE;have HE:=jH hE;clear hE hu h128;go_wp2_with(first|go_big_skip|refine zl1 hS ?_|refine zbs hS ?_;clear hS;intro bS w hS|(with_reducible apply At7 hS);rfl;rfl;rfl;rfl;exact esS;exact rsS;rfl;decide;exact d7;exact Src.mk a7.whole;(focus(try rfl));rfl;(focus(unfold maxLen;omega));(focus(omega));clear hS;intro v w hS;(have hv:=hS.rowVal;obtain⟨va,vc,rfl⟩:=hv);refine frS ?_|refine zs1 hS ?_;clear hS;intro w hS);have hS1:=hS.s (row (.slice va (d2.length+1) vc) 1 _ _ _::blk wb _ _::R);have h0:St W (row (.slice va (d2.length+1) vc) 1 5 (d2.length+1) (u8s d2++[Value.int .u8 (u:Int)])::_) w:=hS1;rw[<-Fd7]at h0;have h2:=K8 (CS7 (by rw[jA,List.length_singleton]) h0).swap;rw[HE.out,<-Hst.out]at h2;go_roundw
     case rel=>exact⟨i+1,rfl,hi1,h2⟩
     case measure=>simp[intOf];omega
theorem GC7(wb:Nat)(d:List Int)(ns:List Int)(b c:Nat)(hd:d.length<=90000000)(hl:ns.length<=100)(hn:∀x∈ns, -9223372036854775808<=x/\x<=9223372036854775807)(W w:World)(R:List HP)(hS:St W (wrR wb d::blk b (ns.map (Value.int .i64)) 3::R) w):
  Calls Tryz.prog 33 #[.P wb,.S b ns.length c] w fun e w'=>e=.returned (.tuple #[])/\St W (wrR wb (d++ns.flatMap r9)::blk b (ns.map (Value.int .i64)) 3::R) w':=
 JT7 wb d ns b 0 c hd hl hn W w _ (fun i hi=>a8.here (by rw[Nat.zero_add,List.getElem?_map,jG hi];rfl)) hS
end Go.Proofs.YtjcfifkjbaffnaaGreat
end
section
namespace Go.Sl
open Go.RowKit
section
variable{P:Program}{ops:Array Oper}{Q:Exit->Act->World->Prop}{a:Act}{w:World}{rest:List Oper}{o:Oper}
theorem IY7{t t2 e:TypeId}{x y:Operand}{a0:Addr}{n c:Nat}(ho:o.op=.binOp .eql t x y t2)(hg:Region.wanted o (yielded ops a.tmps)=true)(hx:a.eval x=.slice (some a0) n c)(hy:a.eval y=.slice none 0 0)(ht:P.underlying t=some (.slice e))
  (h:wpList P ops Q rest (a.put o.dst (.bool false)) w):wpList P ops Q (o::rest) a w:=by
 refine Al7 hg (v:=.bool false) (w':=w) ?_ h;have h1:(binOp .eql t (.slice (some a0) n c) (.slice none 0 0)).run P w=.ok (.bool false) w:=Lib.run_eql_slice_nil w t e (some a0) n c 0 0 ht;unfold execOp;simp[ho,hx,hy,eqGuard,h1]
end
end Go.Sl
namespace Go.Proofs.YtjcfifkjbaffnaaGreat
open Go.RowKit Go.Sl
theorem bx4(wb:Nat)(d:List Int)(s:ByteArray)(g c:Nat)(hd:d.length<=90001000)(hs:s.size<=1000000)(W w:World)(R:List HP)(hS:St W (wrR wb d::sbR g s::R) w):
  Calls Tryz.prog 67 #[.P wb,.S g s.size c] w fun e w'=>e=.returned (.tuple #[])/\St W (wrR wb (d++w9 s)::sbR g s::R) w':=by
 obtain⟨wa,wc,hS1⟩:=au4 hS;clear hS;have hS:=hS1;clear hS1;go_enter Tryz.func67,Tryz.ntmps67;go_wp2_with(first|refine zl1 hS ?_|(with_reducible apply At7 hS);rfl;rfl;rfl;rfl;exact esS;exact rsS;rfl;decide;exact d7;exact Src.mk (a7.there (a7.there a7.sb));(focus(rw[jM,Az7,Nat.mul_one]));exact Fe7 _;(focus(unfold maxLen;omega));(focus(omega));clear hS;intro v w hS;(have hv:=hS.rowVal;obtain⟨va,vc,rfl⟩:=hv);refine frS ?_|refine zs1 hS ?_;clear hS;intro w hS);go_end0;have hS1:=hS.s (row (.slice va (d.length+s.size) vc) 1 _ _ _::blk wb _ _::sbR g s::R);have h0:St W (row (.slice va (d.length+s.size) vc) 1 5 (d.length+s.size) (u8s d++u8s (w9 s))::_) w:=hS1;rw[<-GB7]at h0;exact⟨rfl,K8 (CS7 (by rw[jA,Az7]) h0).swap⟩
def WbR(W:World)(F:List Int->List HP)(d:List Int)(s:ByteArray)(v:Value)(w:World):Prop:=
 (v=.I 0/\St W (F d) w)\/(v=.I 1/\St W (F (d++n5 s)) w)
theorem IZ7(wb:Nat)(d:List Int)(s:ByteArray)(b g c c1:Nat)(hd:d.length<=90000000)(hs:s.size<=1000000)(W w:World)(R:List HP)(hS:St W (wrR wb d::blk b [.S g s.size c] 46::sbR g s::R) w):
  Calls Tryz.prog 34 #[.P wb,.S b 1 c1] w fun e w'=>e=.returned (.tuple #[])/\St W (wrR wb (d++n5 s)::blk b [.S g s.size c] 46::sbR g s::R) w':=by
 have hln:=AB7 s.size;go_enter Tryz.func34,Tryz.ntmps34;go_wp2_with(fail)
 go_loopw [8] (fun v wr=>WbR W (fun q=>wrR wb q::blk b [.S g s.size c] 46::sbR g s::R) d s v wr) (fun v _=>1-(intOf v).toNat)
 case atStart=>exact .inl ⟨rfl,hS⟩
 case round=>
  clear hS
  rcases hrel with ⟨rfl,hS⟩|⟨rfl,hS⟩
  ·have hn:∀x∈[(s.size:Int)], -9223372036854775808<=x/\x<=9223372036854775807:=by
    intro x hx;rw[List.mem_singleton.1 hx];exact⟨by omega,by omega⟩
   have Hn:=jH hn;clear hn;have hdl:(d++[(s.size:Int)].flatMap r9).length<=90001000:=by rw[jA];simp;omega
   have e:d++[(s.size:Int)].flatMap r9++w9 s=d++n5 s:=by unfold n5;rw[jS];simp
   have Hdl:=jH hdl;have E:=jH e;clear hdl e;go_wp2_with(first|refine zl1 hS ?_|refine zbs hS ?_;clear hS;intro bS w hS|go_at_call 33;refine(GC7 wb d [(s.size:Int)] bS 1 hd (by simp) Hn.out W _ _ (hS.s (wrR wb d::blk bS _ _::blk b _ _::sbR g s::R))).mono ?_;clear hS;rintro e w ⟨rfl,hS⟩|go_at_call 67;refine(bx4 wb _ s g c Hdl.out hs W _ _ (hS.s (wrR wb _::sbR g s::blk b _ _::R))).mono ?_;clear hS;rw[E.out];rintro e w ⟨rfl,hS⟩);go_roundw
   case rel=>exact .inr ⟨rfl,hS.s _⟩
   case measure=>simp[intOf]
  ·go_wp2_with(fail);go_end0;exact⟨rfl,hS⟩
theorem Ja7(d:List Int)(g c:Nat)(hd:d.length<=100000000)(W w:World)(R:List HP)(hS:St W (byR (.S g d.length c) d::R) w):
  Calls Tryz.prog 57 #[.S g d.length c] w fun e w'=>∃v,e=.returned v/\St W (byR v d::byR (.S g d.length c) d::R) w':=by
 go_enter Tryz.func57,Tryz.ntmps57;go_wp2_with(first|(with_reducible apply IY7);rfl;rfl;rfl;rfl;exact Tryz.underlying46;refine frS ?_|(with_reducible apply Ci7 (n:=0) hS);rfl;rfl;(focus(simp only[fD,fI,fJ,Act.eval,fE,fF,fG,fH,fK];try rfl));exact esS;exact rsS;rfl;rfl;rfl;rfl;rfl;decide;clear hS;intro bv w hS;refine frS ?_|(with_reducible apply At7 hS);rfl;rfl;rfl;rfl;exact esS;exact rsS;rfl;decide;exact d7;exact(St.src (by decide) hS.drop).there;(focus(rw[ED7,Nat.mul_one]));exact Fe7 _;(focus(unfold maxLen;omega));(focus(omega));clear hS;intro v w hS;(have hv:=hS.rowVal;obtain⟨va,vc,rfl⟩:=hv);refine frS ?_);go_ret;refine⟨_,rfl,?_⟩;have h0:St W (row (.slice va (0+d.length) vc) 1 5 (0+d.length) (u8s ([]++d))::_) w:=hS;have h2:=CS7 (by rw[jN,Nat.zero_add]) h0;rw[jN]at h2;exact h2
theorem by4(wb:Nat)(d:List Int)(hd:d.length<=100000000)(h0:0<d.length)(W w:World)(R:List HP)(hS:St W (wrR wb d::R) w):
  Calls Tryz.prog 35 #[.P wb] w fun e w'=>∃v,e=.returned v/\St W (byR v d::wrR wb d::R) w':=by
 obtain⟨wa,wc,hS1⟩:=au4 hS;clear hS;have hS:=hS1;clear hS1;obtain⟨⟨g,rfl⟩,_,_⟩:=St.rowAddr hS.drop (by omega);go_enter Tryz.func35,Tryz.ntmps35;go_wp2_with(first|refine zl1 hS ?_|go_at_call 57;refine(Ja7 d g wc hd W _ _ hS.swap).mono ?_;clear hS;rintro e w ⟨v,rfl,hS⟩);go_ret;have hS1:=hS.s (blk wb _ _::byR (.S g d.length wc) d::byR v d::R);exact⟨v,rfl,(K8 hS1).swap⟩
theorem bz4{W w:World}{wb:Nat}{L:List HP}(h:St W (blk wb [.slice none 0 0] 80::L) w):St W (wrR wb []::L) w:=by have h1:=(h.rowNil (k:=1) (T:=5)).swap;exact K8 (d:=[]) h1
theorem HL7(n:Int):0<(r9 n).length:=by unfold r9;rw[show(8:Nat)=7+1 from rfl,D8];split <;> simp
theorem bl4(wb:Nat)(d:List Int)(x:Int)(b c:Nat)(hd:d.length<=90000000)(hx : -9223372036854775808<=x/\x<=9223372036854775807)(W w:World)(R:List HP)(hS:St W (wrR wb d::blk b [.I x] 3::R) w):
  Calls Tryz.prog 33 #[.P wb,.S b 1 c] w fun e w'=>e=.returned (.tuple #[])/\St W (wrR wb (d++r9 x)::blk b [.I x] 3::R) w':=by
 have h:=GC7 wb d [x] b c hd (by simp) (fun y hy=>by rw[List.mem_singleton.1 hy];exact hx) W w R hS;simpa using h
end Go.Proofs.YtjcfifkjbaffnaaGreat
end
