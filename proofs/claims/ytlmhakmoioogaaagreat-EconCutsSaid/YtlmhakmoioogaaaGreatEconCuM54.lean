/-
  Two economies as one.
-/
import Derived.Test.YtlmhakmoioogaaaGreatEconCuM1
import Derived.Test.YtlmhakmoioogaaaGreatEconCuM5
import Derived.Test.YtlmhakmoioogaaaGreatEconCuM21
import Derived.Test.YtlmhakmoioogaaaGreatEconCuM47
import Derived.Test.YtlmhakmoioogaaaGreatEconCuM49
import Derived.Test.YtlmhakmoioogaaaGreatEconCuM51
import Derived.Test.YtlmhakmoioogaaaGreatEconCuM53
import Derived.WalkKit
import Derived.ProofKit
import Derived.OpenShut
import Derived.ChangeSame
import Derived.ReadAgain
set_option maxHeartbeats 16000000
set_option maxRecDepth 100000
set_option linter.unusedSimpArgs false
set_option linter.unusedVariables false
section
namespace Go.Proofs.YtlmhakmoioogaaaGreat
open Go.RowKit Go.Sl
section
variable{κ ν:Type}[DecidableEq κ]
theorem HV7:∀{l l':List (κ×ν)},(l.map (·.1)).Nodup->(l'.map (·.1)).Nodup->(∀k,i9 l k=i9 l' k)->l.Perm l'
 | [],[],_,_,_=>List.Perm.refl _
 | [],y::t,_,_,h=>by
  have h1:=h y.1;rw[Bb7,if_pos rfl]at h1
  cases h1
 | x::l,l',hn,hn',h=>by
  have hx:i9 l' x.1=some x.2:=by rw[<-h];exact Bf7 hn (List.mem_cons_self ..)
  refine List.Perm.trans ?_ (Bt7 hn' hx).symm;rw[List.map_cons,List.nodup_cons]at hn;refine List.Perm.cons _ (HV7 hn.2 (hn'.sublist (List.filter_sublist.map _)) fun k=>?_);rw[Lm7,<-h,Bb7];by_cases hk:k=x.1
  ·rw[if_pos hk,hk];exact CJ7 fun y hy e=>hn.1 (List.mem_map.2 ⟨y,hy,e⟩)
  ·rw[if_neg hk,if_neg (fun e=>hk e.symm)]
theorem OO7{l:List (κ×ν)}(hn:(l.map (·.1)).Nodup)(p:κ×ν->Bool)(k:κ):i9 (l.filter p) k=match i9 l k with|some y=>if p (k,y)=true then some y else none|none=>none:=by
 cases hg:i9 l k with
 | none=>exact CJ7 fun x hx=>AP7 hg x (List.mem_filter.1 hx).1
 | some y=>
  dsimp only;split
  ·rename_i hp
   exact Bf7 (hn.sublist (List.filter_sublist.map _)) (List.mem_filter.2 ⟨AI7 hg,hp⟩)
  ·rename_i hp
   refine CJ7 fun x hx e=>?_
   obtain⟨h1,h2⟩:=List.mem_filter.1 hx;subst e;have h3:=Bf7 (v:=x.2) hn h1;rw[hg]at h3
   cases h3
   exact hp h2
theorem Jx7{D S:List (κ×ν)}(hd:(D.map (·.1)).Nodup)(hs:(S.map (·.1)).Nodup):((S++M8 D S).map (·.1)).Nodup:=by rw[List.map_append,List.nodup_append];refine⟨hs,hd.sublist (List.filter_sublist.map _),fun a ha b hb e=>?_⟩;subst e;obtain⟨x,hx,rfl⟩:=List.mem_map.1 ha;obtain⟨y,hy,e⟩:=List.mem_map.1 hb;have h1:=(List.mem_filter.1 hy).2;rw[decide_eq_true_eq]at h1;exact h1 x hx e.symm
def eg4(lt:κ->κ->Bool)(l:List (κ×ν))(x:κ×ν):List (κ×ν):=l.take (plI lt l x.1)++x::l.drop (plI lt l x.1)
omit [DecidableEq κ] in
theorem OP7(lt:κ->κ->Bool)(l:List (κ×ν))(x:κ×ν):(eg4 lt l x).Perm (x::l):=by unfold eg4;refine List.perm_middle.trans ?_;rw[List.take_append_drop]
theorem LI7{lt:κ->κ->Bool}(ho:Ordr lt){l:List (κ×ν)}(h:Asc lt l){x:κ×ν}(hk:i9 l x.1=none):Asc lt (eg4 lt l x):=by
 have hb:plB lt l x.1=false:=by rw[HO7 ho h,hk];rfl
 have e:eg4 lt l x=plS lt l x.1 x.2:=by unfold eg4 plS;rw[hb];rfl
 rw[e];exact DG7 ho h
theorem dQ4{lt:κ->κ->Bool}(ho:Ordr lt):∀(S D:List (κ×ν)),Asc lt D->(S.map (·.1)).Nodup->(∀x∈S,i9 D x.1=none)->Asc lt (S.foldl (eg4 lt) D)
 | [],D,h,_,_=>h
 | x::S,D,h,hn,hk=>by
  rw[List.map_cons,List.nodup_cons]at hn;have h1:=LI7 ho h (hk x (List.mem_cons_self ..));refine dQ4 ho S _ h1 hn.2 fun y hy=>?_
  rw[Ap7 (AV7 ho h1) (OP7 lt D x),Bb7,if_neg (fun e=>hn.1 (List.mem_map.2 ⟨y,hy,e.symm⟩))];exact hk y (List.mem_cons_of_mem _ hy)
end
theorem Hk7{l:List ((Int×Int)×Unit)}(h:Asc ltW l)(x:(Int×Int)×Unit):Asc ltW (af4 l x):=by
 unfold af4;split
 ·exact h
 ·rename_i hn
  exact LI7 (x:=(x.1,())) Au7 h (by cases hg:i9 l x.1 with|none=>rfl|some _=>rw[hg]at hn;exact absurd rfl hn)
theorem ML7{l:List ((Int×Int)×Unit)}(h:Asc ltW l)(x:(Int×Int)×Unit)(k:Int×Int):(i9 (af4 l x) k).isSome=((i9 l k).isSome||decide (x.1=k)):=by
 have h2:=Hk7 h x;unfold af4 at h2 ⊢;split
 ·rename_i hs
  by_cases hk:x.1=k
  ·rw[<-hk,hs];rfl
  ·rw[decide_eq_false hk,Bool.or_false]
 ·rename_i hs
  rw[if_neg hs]at h2;rw[Ap7 (AV7 Au7 h2) (Kx7 l x.1 ()),Bb7];by_cases hk:x.1=k
  ·rw[if_pos hk,decide_eq_true hk,Bool.or_true];rfl
  ·rw[if_neg hk,decide_eq_false hk,Bool.or_false]
theorem Fi7:∀(S D:List ((Int×Int)×Unit)),Asc ltW D->Asc ltW (N8 D S)/\∀k,(i9 (N8 D S) k).isSome=((i9 D k).isSome||(i9 S k).isSome)
 | [],D,h=>⟨h,fun k=>by show(i9 D k).isSome=_;rw[show i9 ([]:List ((Int×Int)×Unit)) k=none from rfl];simp⟩
 | x::S,D,h=>by
  obtain⟨h1,h2⟩:=Fi7 S (af4 D x) (Hk7 h x);refine⟨h1,fun k=>?_⟩;show(i9 (N8 (af4 D x) S) k).isSome=_
  rw[h2,ML7 h,Bb7];by_cases hk:x.1=k
  ·rw[if_pos hk,decide_eq_true hk,Bool.or_true,Bool.true_or];simp
  ·rw[if_neg hk,decide_eq_false hk,Bool.or_false]
theorem MM7{l:List (Int×(Int×Rpl))}(h:Asc ltI l)(x:Int×(Int×Rpl)):Asc ltI (O9 l x):=by
 unfold O9;split
 ·exact DG7 BR7 h
 ·exact h
theorem MN7{l:List (Int×(Int×Rpl))}(h:Asc ltI l)(x:Int×(Int×Rpl))(k:Int):i9 (O9 l x) k=if x.1=k/\sqL l x.1<x.2.1 then some x.2 else i9 l k:=by
 unfold O9;by_cases hb:sqL l x.1<x.2.1
 ·rw[if_pos hb,Ap7 (AV7 BR7 (DG7 BR7 h)) (Dx7 BR7 h),Ln7];by_cases hk:x.1=k
  ·rw[if_pos hk,if_pos ⟨hk,hb⟩]
  ·rw[if_neg hk,if_neg (fun e=>hk e.1)]
 ·rw[if_neg hb,if_neg (fun e=>hb e.2)]
def dR4(D S:List (Int×(Int×Rpl)))(k:Int):Option (Int×Rpl):=match i9 S k with
 | some y=>if sqL D k<y.1 then some y else i9 D k
 | none=>i9 D k
theorem Fj7:∀(S D:List (Int×(Int×Rpl))),Asc ltI D->(S.map (·.1)).Nodup->Asc ltI (ag4 D S)/\∀k,i9 (ag4 D S) k=dR4 D S k
 | [],D,h,_=>⟨h,fun k=>rfl⟩
 | x::S,D,h,hn=>by
  rw[List.map_cons,List.nodup_cons]at hn;obtain⟨h1,h2⟩:=Fj7 S (O9 D x) (MM7 h x) hn.2;refine⟨h1,fun k=>?_⟩;show i9 (ag4 (O9 D x) S) k=_
  rw[h2];unfold dR4;rw[Bb7];have hg:=MN7 h x k;by_cases hk:x.1=k
  ·rw[if_pos hk];have h3:i9 S k=none:=CJ7 fun y hy e=>hn.1 (List.mem_map.2 ⟨y,hy,e.trans hk.symm⟩)
   rw[h3];dsimp only;rw[hg];subst hk;by_cases hb:sqL D x.1<x.2.1
   ·rw[if_pos ⟨rfl,hb⟩,if_pos hb]
   ·rw[if_neg (fun e=>hb e.2),if_neg hb]
  ·rw[if_neg hk];rw[if_neg (fun e=>hk e.1)]at hg;have hs:sqL (O9 D x) k=sqL D k:=by unfold sqL;rw[hg]
   rw[hs,hg]
theorem OQ7{ss os:List (Int×(Int×Rpl))}(ho:(os.map (·.1)).Nodup)(k:Int):i9 (dZ4 ss os) k=dR4 ss os k:=by
 unfold dZ4 dR4;have hf:=OO7 ho (bc4 ss) k
 cases hg:i9 os k with
 | none=>
  rw[hg]at hf;exact(FJ7 (fun x hx=>AP7 hf x hx))
 | some y=>
  rw[hg]at hf;dsimp only at hf ⊢;have hb:(bc4 ss (k,y)=true)↔sqL ss k<y.1:=by unfold bc4 sqL;rw[decide_eq_true_eq]
  by_cases h:sqL ss k<y.1
  ·rw[if_pos (hb.2 h)]at hf;rw[if_pos h,CP7,hf];rfl
  ·rw[if_neg (fun e=>h (hb.1 e))]at hf;rw[if_neg h];exact FJ7 (fun x hx=>AP7 hf x hx)
theorem LJ7{e o:Ec}(h:ah4 e o=false):∀x∈o.vs,i9 e.vs x.1=none:=fun x hx=>by
 unfold ah4 at h;rw[Bool.or_eq_false_iff]at h;have h1:=List.any_eq_false.1 h.1 x hx
 cases hg:i9 e.vs x.1 with
 | none=>rfl
 | some _=>rw[hg]at h1;exact absurd rfl h1
theorem Qw7{e o:Ec}(h:ah4 e o=false):∀x∈o.ts,i9 e.ts x.1=none:=fun x hx=>by
 unfold ah4 at h;rw[Bool.or_eq_false_iff]at h;have h1:=List.any_eq_false.1 h.2 x hx
 cases hg:i9 e.ts x.1 with
 | none=>rfl
 | some _=>rw[hg]at h1;exact absurd rfl h1
theorem LK7{α:Type}{p q:α->Bool}{l l':List α}(h:l.Perm l')(hp:∀x,p x=q x):l.any p=l'.any q:=by rw[Bool.eq_iff_iff,List.any_eq_true,List.any_eq_true];exact⟨fun⟨x,hx,hq⟩=>⟨x,h.mem_iff.1 hx,by rw[<-hp];exact hq⟩,fun⟨x,hx,hq⟩=>⟨x,h.mem_iff.2 hx,by rw[hp];exact hq⟩⟩
theorem OR7{d e o o':Ec}(hd:SimE d e)(ho:SimE o o'):ax4 d o=ah4 e o':=by
 unfold ax4 ah4
 rw[LK7 ho.v (q:=fun x=>(i9 e.vs x.1).isSome) fun x=>by rw[HO7 Bn7 hd.va,Ap7 hd.vn hd.v],LK7 ho.t (q:=fun x=>(i9 e.ts x.1).isSome) fun x=>by
  have h:=Dy7 x.1 d.ts;rw[<-Ap7 hd.tn hd.t]
  cases hg:i9 d.ts x.1 with
  | none=>
   rw[hg]at h;have h2:fdI d.ts x.1<0:=of_decide_eq_true h;exact decide_eq_false (by omega)
  | some _=>
   rw[hg]at h;have h2:¬fdI d.ts x.1<0:=of_decide_eq_false h;exact decide_eq_true (by omega)]
theorem Qx7{a b:Option Unit}(h:a.isSome=b.isSome):a=b:=by cases a <;> cases b <;> first|rfl|cases h
theorem Qy7{d e o o':Ec}(hd:SimE d e)(ho:SimE o o')(hc:ah4 e o'=false)(hw:∀x∈o.ts,1<=x.1.2):SimE (dc4 d o) (bx4 e o'):=by
 have hv0:∀x∈o.vs,i9 d.vs x.1=none:=fun x hx=>by rw[Ap7 hd.vn hd.v];exact LJ7 hc x (ho.v.mem_iff.1 hx)
 have ht0:∀x∈o.ts,i9 d.ts x.1=none:=fun x hx=>by rw[Ap7 hd.tn hd.t];exact Qw7 hc x (ho.t.mem_iff.1 hx)
 have hen:(e.ar.map (·.1)).Nodup:=(hd.a.map _).nodup_iff.1 hd.an;have hon:(o'.ar.map (·.1)).Nodup:=(ho.a.map _).nodup_iff.1 ho.an;have hes:(e.ss.map (·.1)).Nodup:=(hd.s.map _).nodup_iff.1 hd.sn;have hos:(o'.ss.map (·.1)).Nodup:=(ho.s.map _).nodup_iff.1 ho.sn;obtain⟨c1,c2⟩:=Fi7 o.ar d.ar hd.aa;obtain⟨r1,r2⟩:=Fj7 o.ss d.ss hd.sa ho.sn;refine⟨?_,?_,?_,?_,?_,r1,?_,c1,?_,Jw7 ho.tk hd.tk,?_⟩
 ·exact(CQ7 o.vs d.vs).trans (ho.v.append hd.v)
 ·refine HV7 (AV7 BR7 r1) (Jx7 hes (hos.sublist (List.filter_sublist.map _))) fun k=>?_
  show i9 (ag4 d.ss o.ss) k=i9 (dZ4 e.ss o'.ss) k
  rw[r2,OQ7 hos];unfold dR4 sqL;rw[Ap7 ho.sn ho.s,Ap7 hd.sn hd.s]
 ·exact(Ce7 o.ts d.ts).trans (ho.t.append hd.t)
 ·refine HV7 (AV7 Au7 c1) (Jx7 hen hon) fun k=>Qx7 ?_
  show(i9 (N8 d.ar o.ar) k).isSome=(i9 (o'.ar++M8 e.ar o'.ar) k).isSome
  rw[c2,Ap7 hd.an hd.a,Ap7 ho.an ho.a,CP7]
  cases hg:i9 o'.ar k with
  | some _=>simp
  | none=>
   have h1:=FJ7 (D:=e.ar) (S:=o'.ar) (k:=k) (fun x hx=>AP7 hg x hx);rw[CP7,hg]at h1;rw[h1];simp
 ·exact dQ4 Bn7 o.vs d.vs hd.va ho.vn hv0
 ·exact dQ4 Au7 o.ts d.ts hd.ta ho.tn ht0
 ·intro x hx;rcases List.mem_append.1 ((CQ7 o.vs d.vs).mem_iff.1 hx)with h|h
  ·exact ho.ne x h
  ·exact hd.ne x h
 ·intro x hx;have hj:i9 (dc4 d o).ss x.1.1=dR4 d.ss o.ss x.1.1:=r2 _;rw[hj];unfold dR4;rcases List.mem_append.1 ((Ce7 o.ts d.ts).mem_iff.1 hx)with h|h
  ·obtain⟨q,r,h1,h2⟩:=ho.old x h;rw[h1];dsimp only;by_cases hb:sqL d.ss x.1.1<q
   ·rw[if_pos hb];exact⟨q,r,rfl,h2⟩
   ·rw[if_neg hb];have h3:=hw x h;unfold sqL at hb
    cases hg:i9 d.ss x.1.1 with
    | none=>rw[hg]at hb;exact absurd (show(0:Int)<q by omega) hb
    | some z=>
     rw[hg]at hb;obtain⟨z1,z2⟩:=z;have h4:¬z1<q:=hb;exact⟨z1,z2,rfl,by omega⟩
  ·obtain⟨q,r,h1,h2⟩:=hd.old x h
   cases hg:i9 o.ss x.1.1 with
   | none=>exact⟨q,r,h1,h2⟩
   | some z=>
    dsimp only;have h5:sqL d.ss x.1.1=q:=by unfold sqL;rw[h1];rfl
    by_cases hb:sqL d.ss x.1.1<z.1
    ·rw[if_pos hb];exact⟨z.1,z.2,rfl,by omega⟩
    ·rw[if_neg hb];exact⟨q,r,h1,h2⟩
theorem LL7(A:List (ByteArray×Vs)):∀B,ao4 (B++A)=ao4 B+ao4 A
 | []=>by show _=0+_;rw[Nat.zero_add];rfl
 | x::B=>by
  have h:=LL7 A B;show x.2.ps.length+ao4 (B++A)=x.2.ps.length+ao4 B+ao4 A
  omega
theorem Jy7(k:Int)(A:List (ByteArray×Vs)):∀B,E9 k (B++A)=E9 k B+E9 k A
 | []=>by show _=0+_;rw[Int.zero_add];rfl
 | x::B=>by
  have h:=Jy7 k A B;show D5 x.2 k+E9 k (B++A)=D5 x.2 k+E9 k B+E9 k A
  omega
theorem Qz7{e o:Ec}{n m:Nat}(he:EnL e n)(ho:EnL o m)(hc:ah4 e o=false):EnL (bx4 e o) (n+m):=by
 have a1:=he.en.lv;have a2:=he.en.ls;have a3:=he.en.lt;have a4:=he.en.la;have b1:=ho.en.lv;have b2:=ho.en.ls;have b3:=ho.en.lt;have b4:=ho.en.la
 have hs:∀x∈(bx4 e o).ss,x∈e.ss\/x∈o.ss:=fun x hx=>by
  rcases List.mem_append.1 hx with h|h
  ·exact .inr (List.mem_filter.1 h).1
  ·exact .inl (List.mem_filter.1 h).1
 have ha:∀x∈(bx4 e o).ar,x∈e.ar\/x∈o.ar:=fun x hx=>by
  rcases List.mem_append.1 hx with h|h
  ·exact .inr h
  ·exact .inl (List.mem_filter.1 h).1
 refine⟨⟨fun x hx=>?_,fun x hx=>?_,fun x hx=>?_,fun x hx=>?_,fun x hx=>?_,fun x hx=>?_,?_,?_,?_,?_⟩,?_,?_⟩
 ·rcases List.mem_append.1 hx with h|h
  ·exact HK7 (ho.en.ok x h) (by omega)
  ·exact HK7 (he.en.ok x h) (by omega)
 ·rcases List.mem_append.1 hx with h|h
  ·exact ho.en.vk x h
  ·exact he.en.vk x h
 ·rcases hs x hx with h|h
  ·exact he.en.sw x h
  ·exact ho.en.sw x h
 ·rcases hs x hx with h|h
  ·exact he.en.sr x h
  ·exact ho.en.sr x h
 ·rcases List.mem_append.1 hx with h|h
  ·exact ho.en.tw x h
  ·exact he.en.tw x h
 ·rcases ha x hx with h|h
  ·exact he.en.aw x h
  ·exact ho.en.aw x h
 ·show(o.vs++e.vs).length<=_
  rw[jA];omega
 ·show(o.ss.filter (bc4 e.ss)++M8 e.ss (o.ss.filter (bc4 e.ss))).length<=_
  have h1:=List.length_filter_le (bc4 e.ss) o.ss;have h2:=List.length_filter_le (fun y=>decide (∀x∈o.ss.filter (bc4 e.ss),x.1≠y.1)) e.ss;rw[jA];unfold M8;omega
 ·show(o.ts++e.ts).length<=_
  rw[jA];omega
 ·show(o.ar++M8 e.ar o.ar).length<=_
  have h2:=List.length_filter_le (fun y=>decide (∀x∈o.ar,x.1≠y.1)) e.ar;rw[jA];unfold M8;omega
 ·show((o.vs++e.vs).map (·.1)).Nodup
  rw[List.map_append,List.nodup_append];refine⟨ho.nd,he.nd,fun a ha b hb e1=>?_⟩;subst e1;obtain⟨x,hx,rfl⟩:=List.mem_map.1 ha;obtain⟨y,hy,e2⟩:=List.mem_map.1 hb;exact AP7 (LJ7 hc x hx) y hy e2
 ·show ao4 (o.vs++e.vs)<=_
  have h1:=he.ln;have h2:=ho.ln;rw[LL7];omega
theorem QA7{e o:Ec}{n m:Nat}(he:EnT e n)(ho:EnT o m)(hc:ah4 e o=false)(hn:n<=400)(hm:m<=400):EnL (bx4 e o) (n+m)/\∀k,Kx k->L8 (bx4 e o) k<=(n+m)*1048576:=by
 refine⟨Qz7 he.en ho.en hc,fun k hk=>?_⟩;show E9 k (o.vs++e.vs)<=_
 have h1:=he.tt hn k hk;have h2:=ho.tt hm k hk;unfold L8 at h1 h2;rw[Jy7];omega
end Go.Proofs.YtlmhakmoioogaaaGreat
end
section
namespace Go.Sl
open Go.RowKit
section
variable{P:Program}{ops:Array Oper}{Q:Exit->Act->World->Prop}{a:Act}{w:World}{rest:List Oper}{o:Oper}
end
end Go.Sl
namespace Go.Proofs.YtlmhakmoioogaaaGreat
open Go.RowKit Go.Sl
section
variable{eb ob xb yb:Nat}{e o d z:Ec}{W w:World}{R:List HP}
theorem QB7(h:ah4 e o=true)(hS:St W (ecP eb e::ecP ob o::R) w):
  Calls Tryz.prog 29 #[.P eb,.P ob] w fun x w'=>x=.returned (.I 8)/\St W (ecP eb e::ecP ob o::R) w':=by
 refine(Ju7 W w R hS).mono ?_;rintro x w' (⟨_,rfl,hS⟩|⟨h1,_,_⟩)
 ·exact⟨rfl,hS⟩
 ·rw[h]at h1;cases h1
theorem Sm7(h:ah4 e o=false)(hS:St W (ecP eb e::ecP ob o::R) w):
  Calls Tryz.prog 29 #[.P eb,.P ob] w fun x w'=>x=.returned (.I 0)/\St W (ecP eb (bx4 e o)::R) w':=by
 refine(Ju7 W w R hS).mono ?_;rintro x w' (⟨h1,_,_⟩|⟨_,rfl,hS⟩)
 ·rw[h]at h1;cases h1
 ·exact⟨rfl,hS⟩
end
structure JoOk(d z:Ec):Prop where
 k:TsK d.ts
 kz:TsK z.ts
 l1:d.vs.length<=300000
 l2:d.ss.length<=300000
 l3:d.ts.length<=300000
 l4:d.ar.length<=300000
 z1:z.vs.length<=300000
 z2:z.ss.length<=300000
 z3:z.ts.length<=300000
 z4:z.ar.length<=300000
theorem Sn7{d z e o:Ec}{n m:Nat}(hd:EnL d n)(hz:EnL z m)(sd:SimE d e)(sz:SimE z o)(hn:n<=300000)(hm:m<=300000):JoOk d z:=
 ⟨sd.tk,sz.tk,Nat.le_trans hd.en.lv hn,Nat.le_trans hd.en.ls hn,Nat.le_trans hd.en.lt hn,Nat.le_trans hd.en.la hn,Nat.le_trans hz.en.lv hm,Nat.le_trans hz.en.ls hm,Nat.le_trans hz.en.lt hm,Nat.le_trans hz.en.la hm⟩
section
variable{xb yb:Nat}{d z:Ec}{W w:World}{R:List HP}
theorem OS7(hj:JoOk d z)(h:ax4 d z=true)(hS:St W (xU6 xb d::xU6 yb z::R) w):
  Calls Tryz.prog 30 #[.P xb,.P yb] w fun x w'=>x=.returned (.I 8)/\St W (xU6 xb d::xU6 yb z::R) w':=by
 refine(ON7 hj.k hj.kz hj.l1 hj.l2 hj.l3 hj.l4 hj.z1 hj.z2 hj.z3 hj.z4 W w R hS).mono ?_;rintro x w' (⟨_,rfl,hS⟩|⟨h1,_,_⟩)
 ·exact⟨rfl,hS⟩
 ·rw[h]at h1;cases h1
theorem QC7(hj:JoOk d z)(h:ax4 d z=false)(hS:St W (xU6 xb d::xU6 yb z::R) w):
  Calls Tryz.prog 30 #[.P xb,.P yb] w fun x w'=>x=.returned (.I 0)/\St W (xU6 xb (dc4 d z)::R) w':=by
 refine(ON7 hj.k hj.kz hj.l1 hj.l2 hj.l3 hj.l4 hj.z1 hj.z2 hj.z3 hj.z4 W w R hS).mono ?_;rintro x w' (⟨h1,_,_⟩|⟨_,rfl,hS⟩)
 ·rw[h]at h1;cases h1
 ·exact⟨rfl,hS⟩
end
section
variable{d e:Ec}{n:Nat}
theorem LM7(h:SimE d e)(p:ByteArray×Vs->Bool)(q:(Int×Int)×Tns->Bool):SimE ⟨d.vs.filter p,d.ss,d.ts.filter q,d.ar⟩ ⟨e.vs.filter p,e.ss,e.ts.filter q,e.ar⟩:=
 ⟨h.v.filter _,h.s,h.t.filter _,h.a,h.va.sublist List.filter_sublist,h.sa,h.ta.sublist List.filter_sublist,h.aa,fun x hx=>h.ne x (List.mem_filter.1 hx).1,fun x hx=>h.tk x (List.mem_filter.1 hx).1,fun x hx=>h.old x (List.mem_filter.1 hx).1⟩
theorem So7(h:SimE d e)(f t:ByteArray):SimE (aS4 d f t) (aS4 e f t):=LM7 h _ _
theorem Te7(h:SimE d e)(f t:ByteArray):SimE (inE d f t) (inE e f t):=LM7 h _ _
theorem Jz7(p:ByteArray×Vs->Bool):∀l:List (ByteArray×Vs),ao4 (l.filter p)<=ao4 l
 | []=>Nat.le_refl _
 | x::l=>by
  have h:=Jz7 p l;rw[List.filter_cons];split
  ·show x.2.ps.length+ao4 (l.filter p)<=x.2.ps.length+ao4 l
   omega
  ·show ao4 (l.filter p)<=x.2.ps.length+ao4 l
   omega
theorem Hl7(k:Int)(p:ByteArray×Vs->Bool):∀l:List (ByteArray×Vs),(∀x∈l,0<=D5 x.2 k)->E9 k (l.filter p)<=E9 k l
 | [],_=>Int.le_refl _
 | x::l,h0=>by
  have h:=Hl7 k p l fun y hy=>h0 y (List.mem_cons_of_mem _ hy)
  have h1:=h0 x (List.mem_cons_self ..);rw[List.filter_cons];split
  ·show D5 x.2 k+E9 k (l.filter p)<=D5 x.2 k+E9 k l
   omega
  ·show E9 k (l.filter p)<=D5 x.2 k+E9 k l
   omega
theorem LN7(h:EnT e n)(he:bb4 e)(p:ByteArray×Vs->Bool)(q:(Int×Int)×Tns->Bool):EnT ⟨e.vs.filter p,e.ss,e.ts.filter q,e.ar⟩ n:=by
 have a1:=h.en.en;refine⟨⟨⟨fun x hx=>a1.ok x (List.mem_filter.1 hx).1,fun x hx=>a1.vk x (List.mem_filter.1 hx).1,a1.sw,a1.sr,fun x hx=>a1.tw x (List.mem_filter.1 hx).1,a1.aw,Nat.le_trans (List.length_filter_le ..) a1.lv,a1.ls,Nat.le_trans (List.length_filter_le ..) a1.lt,a1.la⟩,h.en.nd.sublist (List.filter_sublist.map _),Nat.le_trans (Jz7 p _) h.en.ln⟩,fun hn k hk=>?_⟩;have h1:=h.tt hn k hk;have h2:=Hl7 k p e.vs (a1.ok.nn he k);show E9 k (e.vs.filter p)<=_
 unfold L8 at h1;omega
theorem Sp7(h:EnT e n)(he:bb4 e)(f t:ByteArray):EnT (aS4 e f t) n:=LN7 h he _ _
theorem Tf7(h:EnT e n)(he:bb4 e)(f t:ByteArray):EnT (inE e f t) n:=LN7 h he _ _
theorem Tg7(h:SimE d e)(he:EnL e n):GOk d e n:=⟨h,he.en.ok,(Df7 he h).en.lv,(Df7 he h).en.ls,(Df7 he h).en.lt,(Df7 he h).en.la⟩
end
def eN4(v:Value)(e:Ec):HP:=fun f=>∃b:Nat,v=.P b/\ecP b e f
def do4(v:Value)(e:Ec):HP:=fun f=>∃b:Nat,v=.P b/\xU6 b e f
section
variable{v:Value}{e d:Ec}{eb xb:Nat}{W w:World}{R:List HP}
theorem eO4(h:St W (eN4 v e::R) w):∃b,v=.P b/\St W (ecP b e::R) w:=by obtain⟨b,h⟩:=St.ex h;obtain⟨h1,h⟩:=St.and h;exact⟨b,h1,h⟩
theorem eh4(h:St W (do4 v e::R) w):∃b,v=.P b/\St W (xU6 b e::R) w:=by obtain⟨b,h⟩:=St.ex h;obtain⟨h1,h⟩:=St.and h;exact⟨b,h1,h⟩
theorem Sq7(f t:ByteArray)(hS:St W (ecP eb e::R) w):
  Calls Tryz.prog 24 #[.P eb,.agg #[.string f,.string t]] w fun x w'=>∃v,x=.returned v/\St W (ecP eb (aS4 e f t)::eN4 v (inE e f t)::R) w':=by
 refine(Qr7 f t W w R hS).mono ?_;rintro x w' ⟨fb,rfl,hS⟩;exact⟨_,rfl,St.swap (St.mkEx fb (St.mkAnd rfl hS.swap))⟩
theorem QD7(f t:ByteArray)(h1:d.vs.length<=1000000)(h2:d.ss.length<=1000000)(h3:d.ts.length<=1000000)(h4:d.ar.length<=1000000)(hS:St W (xU6 xb d::R) w):
  Calls Tryz.prog 31 #[.P xb,.agg #[.string f,.string t]] w fun x w'=>∃v,x=.returned v/\St W (xU6 xb (aS4 d f t)::do4 v (inE d f t)::R) w':=by
 refine(Td7 f t h1 h2 h3 h4 W w R hS).mono ?_;rintro x w' ⟨fb,rfl,hS⟩;exact⟨_,rfl,St.swap (St.mkEx fb (St.mkAnd rfl hS.swap))⟩
end
theorem cuts_spec(xs:List Opn)(f t:ByteArray)(ys:List Opn)(v v':Value)(V:World)(hv:bQ4 Opn.cells 12 V v xs)(hv':bQ4 Opn.cells 12 V v' ys)(W w:World)(Lr:List HP)(hS:St W (Old V::Lr) w):
  Calls Tryz.prog 10 #[v,.agg #[.string f,.string t],v'] w fun e w'=>e=.returned (.bool true)/\St W (Old V::Lr) w':=by
 have Hv:=jH hv;have Hv2:=jH hv';obtain⟨a,cap,rfl,h63,hact⟩:=hv.opn;obtain⟨a2,cap2,rfl,g63,hact2⟩:=hv'.opn;have Ha:=jH hact;have Ha2:=jH hact2;clear hact hact2 hv hv';go_enter Tryz.func10,Tryz.ntmps10;by_cases hf:60<f.size
 ·have d1:decide ((60:Int)<(f.size:Int))=true:=by simp;omega
  go_wp2_with(first|go_big_skip|refine zbx hS ?_;clear hS;intro bO w hS|refine zl1 hS ?_|(fail_if_success (have:=mH));(go_at_call 20;refine(Bd7 xs a cap h63 (fun i hi=>(Ha.out i hi).imp fun b h=>h.imp fun off h=>⟨h.1,fun j v hj=>i8.old (.tail .head) (h.2.all j v hj)⟩) W _ hS).mono ?_;clear hS;rintro e w ⟨hv,h150,rfl,hS⟩;have H150:=jH h150;clear h150;cases hv);(all_goals have mH:Nat:=0)|(have:=mH);(go_at_call 20;refine(Bd7 ys a2 cap2 g63 (fun i hi=>(Ha2.out i hi).imp fun b h=>h.imp fun off h=>⟨h.1,fun j v hj=>i8.old (.tail .head) (h.2.all j v hj)⟩) W _ hS).mono ?_;clear hS;rintro e w ⟨hv,h150,rfl,hS⟩;have G150:=jH h150;clear h150;cases hv))
  all_goals(go_ret;exact⟨rfl,hS.drop⟩)
 have d1:decide ((60:Int)<(f.size:Int))=false:=by simp;omega
 by_cases ht:60<t.size
 ·have d2:decide ((60:Int)<(t.size:Int))=true:=by simp;omega
  go_wp2_with(first|go_big_skip|refine zbx hS ?_;clear hS;intro bO w hS|refine zl1 hS ?_|(fail_if_success (have:=mH));(go_at_call 20;refine(Bd7 xs a cap h63 (fun i hi=>(Ha.out i hi).imp fun b h=>h.imp fun off h=>⟨h.1,fun j v hj=>i8.old (.tail .head) (h.2.all j v hj)⟩) W _ hS).mono ?_;clear hS;rintro e w ⟨hv,h150,rfl,hS⟩;have H150:=jH h150;clear h150;cases hv);(all_goals have mH:Nat:=0)|(have:=mH);(go_at_call 20;refine(Bd7 ys a2 cap2 g63 (fun i hi=>(Ha2.out i hi).imp fun b h=>h.imp fun off h=>⟨h.1,fun j v hj=>i8.old (.tail .head) (h.2.all j v hj)⟩) W _ hS).mono ?_;clear hS;rintro e w ⟨hv,h150,rfl,hS⟩;have G150:=jH h150;clear h150;cases hv))
  all_goals(go_ret;exact⟨rfl,hS.drop⟩)
 have d2:decide ((60:Int)<(t.size:Int))=false:=by simp;omega
 clear hf ht;go_wp2_with(first|go_big_skip|refine zbx hS ?_;clear hS;intro bO w hS|refine zl1 hS ?_|(fail_if_success (have:=mH));(go_at_call 20;refine(Bd7 xs a cap h63 (fun i hi=>(Ha.out i hi).imp fun b h=>h.imp fun off h=>⟨h.1,fun j v hj=>i8.old (.tail .head) (h.2.all j v hj)⟩) W _ hS).mono ?_;clear hS;rintro e w ⟨hv,h150,rfl,hS⟩;have H150:=jH h150;clear h150;cases hv);(all_goals have mH:Nat:=0)|(have:=mH);(go_at_call 20;refine(Bd7 ys a2 cap2 g63 (fun i hi=>(Ha2.out i hi).imp fun b h=>h.imp fun off h=>⟨h.1,fun j v hj=>i8.old (.tail .head) (h.2.all j v hj)⟩) W _ hS).mono ?_;clear hS;rintro e w ⟨hv,h150,rfl,hS⟩;have G150:=jH h150;clear h150;cases hv))
 all_goals first|(go_ret;exact⟨rfl,hS.drop⟩)|skip
 have hlen:xs.length<=150:=by first|exact H150.out rfl|exact H150.out trivial
 have hlen2:ys.length<=150:=by first|exact G150.out rfl|exact G150.out trivial
 clear H150 G150;refine(Ql7 LB7 hG4 xs hlen _ V Hv.out W _ _ (hS.s (Old V::blk bO [.string f,.string t] 54::Lr))).mono ?_;clear hS;rintro r w ⟨eb,xb,rfl,hG,hN,hS⟩;have Hs:=jH hG.sim;have hD:=Df7 hN.en hG.sim;have he:=EU7 hS;have HN1:=jH (Sp7 hN he f t);have HN2:=jH (Tf7 hN he f t);have l1:(bJ4 xs ec0).vs.length<=1000000:=Nat.le_trans hD.en.lv (by omega);have l2:(bJ4 xs ec0).ss.length<=1000000:=Nat.le_trans hD.en.ls (by omega);have l3:(bJ4 xs ec0).ts.length<=1000000:=Nat.le_trans hD.en.lt (by omega);have l4:(bJ4 xs ec0).ar.length<=1000000:=Nat.le_trans hD.en.la (by omega);clear hG hN hD he;generalize bg4 xs ec0=e at *;generalize bJ4 xs ec0=d at *;go_wp2_with(fail);refine rf2 [0,0,3,0,0,31,63,127] (fun i=>i==2||i==5) [⟨some 2,none,fun _=>ecP eb (aS4 e f t)⟩,⟨some 2,none,fun nd=>eN4 (nd 2) (inE e f t)⟩,⟨some 5,none,fun _=>xU6 xb (aS4 d f t)⟩,⟨some 5,none,fun nd=>do4 (nd 5) (inE d f t)⟩] [some 2,some 5,none,none] hS ?_;clear hS;intro nd;refine cR ?_;refine zcN ?_;apply AA7;rfl;rfl;rfl;decide +kernel;(focus(simp only[fD,fI,fJ,Act.eval,fE,fF,fG,fH,fK];try rfl));(intro _;rfl);(intro F w hS;exact Sq7 f t hS);(refine frS ?_);refine cR ?_;refine zcN ?_;apply AA7;rfl;rfl;rfl;decide +kernel;(focus(simp only[fD,fI,fJ,Act.eval,fE,fF,fG,fH,fK];try rfl));(intro _;rfl);(intro F w hS;exact QD7 f t l1 l2 l3 l4 hS);(refine frS ?_)
 iterate 2 (refine cR ?_)
 refine Ad7 ?_;intro w hS;have hS2:St W [ecP eb (aS4 e f t),eN4 (nd 2) (inE e f t),xU6 xb (aS4 d f t),do4 (nd 5) (inE d f t),Old V,blk bO [.string f,.string t] 54,sats Lr] w:=hS;clear hS;have hS:=hS2.unpack [_,_,_,_,_,_];clear hS2 l1 l2 l3 l4;simp only[jK,jN]at hS;generalize nd 2=v2 at *;generalize nd 5=v5 at *;obtain⟨fb,rfl,hS1⟩:=eO4 (hS.s (eN4 v2 (inE e f t)::ecP eb (aS4 e f t)::xU6 xb (aS4 d f t)::do4 v5 (inE d f t)::Old V::blk bO [.string f,.string t] 54::Lr));clear hS;obtain⟨yb,rfl,hS⟩:=eh4 (hS1.s (do4 v5 (inE d f t)::ecP fb (inE e f t)::ecP eb (aS4 e f t)::xU6 xb (aS4 d f t)::Old V::blk bO [.string f,.string t] 54::Lr));clear hS1;have Hs1:=jH (So7 Hs.out f t);have Hs2:=jH (Te7 Hs.out f t);generalize aS4 e f t=e1 at *;generalize aS4 d f t=d1' at *;generalize inE e f t=o at *;generalize inE d f t=z at *;have Ht1:=jH (show ∀k,Kx k->L8 e1 k<=500000000 from fun k hk=>by have:=HN1.out.tt (by omega) k hk;omega);have Ht2:=jH (show ∀k,Kx k->L8 o k<=500000000 from fun k hk=>by have:=HN2.out.tt (by omega) k hk;omega);go_wp2_with(first|(fail_if_success (have:=mA));go_at_call 28;refine(CO7 Hs1.out HN1.out.en Ht1.out (by omega) W _ _ (hS.s (ecP eb e1::xU6 xb d1'::ecP fb o::xU6 yb z::Old V::blk bO [.string f,.string t] 54::Lr))).mono ?_;clear hS;rintro ex w ⟨rfl,hS⟩;have mA:Nat:=0|(have:=mA);go_at_call 28;refine(CO7 Hs2.out HN2.out.en Ht2.out (by omega) W _ _ (hS.s (ecP fb o::xU6 yb z::ecP eb e1::xU6 xb d1'::Old V::blk bO [.string f,.string t] 54::Lr))).mono ?_;clear hS;rintro ex w ⟨rfl,hS⟩);refine(Jg7 ys hlen2 _ V Hv2.out (n:=xs.length) (by omega) (Tg7 Hs1.out HN1.out.en) LB7 HN1.out eb xb W _ (ecP fb o::xU6 yb z::blk bO [.string f,.string t] 54::Lr) (hS.s _)).mono ?_;clear hS;rintro ex w ⟨rfl,hG,hN,hS⟩;have Hs3:=jH hG.sim;have HN3:=jH hN;clear hG hN Hs Hs1 HN1 Ht1 Ht2;generalize bg4 ys e1=e3 at *;generalize bJ4 ys d1'=d3 at *
 have Hj:=jH (Sn7 (Df7 HN3.out.en Hs3.out) (Df7 HN2.out.en Hs2.out) Hs3.out Hs2.out (by omega) (by omega));have hcs:=OR7 Hs3.out Hs2.out
 cases hc:ah4 e3 o with
 | true=>
  have Hc:=jH hc;have Hcd:=jH (show ax4 d3 z=true by rw[hcs,hc]);have Ht:=jH (show ∀k,Kx k->L8 e3 k<=500000000 from fun k hk=>by have:=HN3.out.tt (by omega) k hk;omega);clear hc hcs;go_wp2_with(first|go_at_call 29;refine(QB7 Hc.out (hS.s (ecP eb e3::ecP fb o::xU6 xb d3::xU6 yb z::Old V::blk bO [.string f,.string t] 54::Lr))).mono ?_;clear hS;rintro ex w ⟨rfl,hS⟩|go_at_call 30;refine(OS7 Hj.out Hcd.out (hS.s (xU6 xb d3::xU6 yb z::ecP eb e3::Old V::blk bO [.string f,.string t] 54::Lr))).mono ?_;clear hS;rintro ex w ⟨rfl,hS⟩|go_at_call 28;refine(CO7 Hs3.out HN3.out.en Ht.out (by omega) W _ _ (hS.s (ecP eb e3::xU6 xb d3::Old V::blk bO [.string f,.string t] 54::Lr))).mono ?_;clear hS;rintro ex w ⟨rfl,hS⟩|go_at_call 14;refine(Gt7 W _ _ hS).mono ?_;clear hS;rintro e w ⟨rfl,hS⟩);go_ret;exact⟨rfl,hS.s _⟩
 | false=>
  have hsj:=Qy7 Hs3.out Hs2.out hc fun x hx=>by have h1:=HN2.out.en.en.tw x (Hs2.out.t.mem_iff.1 hx);have h2:=h1.1.w.2.1;rw[h1.2];exact h2
  obtain⟨hnj,htj⟩:=QA7 HN3.out HN2.out hc (by omega) (by omega);have Hc:=jH hc;have Hcd:=jH (show ax4 d3 z=false by rw[hcs,hc]);have Hsj:=jH hsj;have Hnj:=jH hnj;have Ht:=jH (show ∀k,Kx k->L8 (bx4 e3 o) k<=500000000 from fun k hk=>by have:=htj k hk;omega);clear hc hcs hsj hnj htj;go_wp2_with(first|go_at_call 29;refine(Sm7 Hc.out (hS.s (ecP eb e3::ecP fb o::xU6 xb d3::xU6 yb z::Old V::blk bO [.string f,.string t] 54::Lr))).mono ?_;clear hS;rintro ex w ⟨rfl,hS⟩|go_at_call 30;refine(QC7 Hj.out Hcd.out (hS.s (xU6 xb d3::xU6 yb z::ecP eb (bx4 e3 o)::Old V::blk bO [.string f,.string t] 54::Lr))).mono ?_;clear hS;rintro ex w ⟨rfl,hS⟩|go_at_call 28;refine(CO7 Hsj.out Hnj.out Ht.out (by omega) W _ _ (hS.s (ecP eb (bx4 e3 o)::xU6 xb (dc4 d3 z)::Old V::blk bO [.string f,.string t] 54::Lr))).mono ?_;clear hS;rintro ex w ⟨rfl,hS⟩|go_at_call 14;refine(Gt7 W _ _ hS).mono ?_;clear hS;rintro e w ⟨rfl,hS⟩);go_ret;exact⟨rfl,hS.s _⟩
end Go.Proofs.YtlmhakmoioogaaaGreat
end
section
namespace Go.Proofs.YtlmhakmoioogaaaGreat
open Go.Joins Go.ChangeShapes Go.WideShapes Go.RowKit Go.Deep Go.Sl
theorem open_span{H:Type}{enc:TypeId×Value->H}{w:World}{base:Nat}{spare:Nat->Bool}{held:Bool}{r:Reach}{b0:Nat}{v:Value}{d:DataW H}{p:List MemPlace}
  (hv:Value.okWide Tryz.prog w r b0 54 v) (h:DataW.Trod enc Tryz.prog w base spare held 54 v d p):∃x:ByteArray×ByteArray,v=.agg #[.string x.1,.string x.2]:=by
 obtain⟨cs,rfl,_⟩:=okWide_struct Tryz.underlying54 hv;obtain⟨l⟩:=cs;obtain⟨n,hf⟩:=h;obtain⟨xs,n',rfl,hx,hlen,hxl,hg⟩:=DataW.trod_struct Tryz.underlying54 hf;have hlen':l.length=2:=hlen.trans (by kernel_rfl)
 match l,hlen' with
 | [c0,c1],_=>
  match xs,hxl with
  | [y0,y1],_=>
   have g0:=hg 0 _ rfl;have g1:=hg 1 _ rfl;obtain⟨k,e0,_⟩:=DataW.trod_string Tryz.underlying9 (show DataW.trod enc Tryz.prog w base spare held n' 9 [c0]=some y0 from g0);obtain⟨u,e1,_⟩:=DataW.trod_string Tryz.underlying9 (show DataW.trod enc Tryz.prog w base spare held n' 9 [c1]=some y1 from g1);simp only[List.cons.injEq,and_true]at e0 e1;subst e0 e1;exact⟨(k,u),rfl⟩
end Go.Proofs.YtlmhakmoioogaaaGreat
end
section
namespace Go.Sl
open Go.ChangeShapes Go.WideShapes Go.ChangeAt Go.RowKit
section
variable{H:Type}{enc:TypeId×Value->H}{P:Program}
theorem Ex7{w w':World}{base:Nat}{spare:Nat->Bool}{held:Bool}:∀{ts:List TypeId} {vs:List Value} {ds:List (DataW H)} {ps:List MemPlace},
  DataW.TrodAll enc P w base spare held ts vs ds ps->(∀p∈ps,w.sameAt w' p)->DataW.TrodAll enc P w' base spare held ts vs ds ps
 | [],[],[],_,h,_=>h
 | _::_,_::_,_::_,_,⟨p,q,⟨n,hn⟩,h2,e⟩,hs=>
  ⟨p,q,⟨n,DataW.trod_carry n _ _ _ hn fun x hx=>hs x (by rw[e];exact List.mem_append_left _ hx)⟩,Ex7 h2 (fun x hx=>hs x (by rw[e];exact List.mem_append_right _ hx)),e⟩
theorem law_post{f:Func}{s:ChangeSpec}{apart fresh handsOn again:Bool}{W W':World}{args:Array Value}{ds gs:List (DataW H)}{before:List MemPlace}{tb:TypeId}
  (hl:laidOutB P=true) (hm:mapsRowed P=true) (hz:((List.range P.types.size).all fun t=>match P.underlying t with|some (.slice e)=>decide (0<P.cellsOf e)|_=>true)=true)
  (hT:f.params.toList.all (·<P.types.size)=true) (hr:f.resultTypes=#[tb]) (hb:P.underlying tb=some .bool) (hv:s.vars=[])
  (hW:DataW.Whole enc P f.params.toList s.vars apart W args.toList ds gs before)
  (hres:(s.fn H (ds++gs)).results=[.lit (.bool true)]) (hargs:(s.fn H (ds++gs)).args=ds) (hvars:(s.fn H (ds++gs)).vars=[])
  (hB:Below W.heap.size W W'):s.post enc P f apart fresh handsOn again W args (.bool true) W':=by
 have hW0:=hW;obtain⟨p,q,hA,hV,rfl,hfz,hnd⟩:=hW;rw[hv]at hV;obtain⟨rfl,rfl⟩:=trodVars_none hV;have hlt:∀x∈p++[],x.block<W.heap.size:=fun x hx=>hW0.lt x hx
 have hA':∀sp:Nat->Bool,(∀x∈p++[],sp x.block=true)->DataW.TrodAll enc P W' 0 sp true f.params.toList args.toList (s.fn H (ds++[])).args p:=fun sp hs=>by rw[hargs];refine Ex7 (DataW.TrodAll.respare (kids_rows hl hm) (fun t e=>slices_full_of P hz t e) (fun t ht=>by simpa using List.all_eq_true.1 hT t ht) hA fun x hx=>hs x (by simpa using hx)) fun x hx=>hB.same (hlt x (by simpa using hx))
 have hR:∀(b:Nat) (sp:Nat->Bool) (hd:Bool),DataW.TrodAll enc P W' b sp hd f.resultTypes.toList ((Value.bool true).resultList f.resultTypes.size) (s.fn H (ds++[])).results []:=fun b sp hd=>by rw[hres,hr];exact trodAll_cons_mk (shut_bool hb _) trodAll_mk0
 have hU:∀sp:Nat->Bool,DataW.TrodVars enc P W' sp s.vars (s.fn H (ds++[])).vars []:=fun sp=>by rw[hv,hvars];rfl
 have hold:∀x∈p++[],(fun b=>decide (b<W.heap.size)) x.block=true:=fun x hx=>by simpa using hlt x hx
 refine⟨ds,[],p++[],[],p,[],hW0,hR _ _ _,hA' _ hold,hU _,World.keptBut_mono (fun x hx=>⟨hx,?_⟩) (hB.frame (·∈p++[])),fun _=>?_⟩
 ·exact Or.inr (by simpa using hx)
 ·refine⟨ok_one hr rfl (okWide_bool_mk hb _),_,_,([]++p)++[],⟨[]++p,[],trodAll_append (hA' _ (fun _ _=>rfl)) (hR _ _ _),hU _,rfl,?_,?_⟩,?_⟩
  ·intro b off hx;rw[hB.frozen (hlt _ (by simpa using hx))];exact hfz b off (by simpa using hx)
  ·intro ha;simpa using hnd ha
  ·intro x hx _;simpa using hx
end
end Go.Sl
end
