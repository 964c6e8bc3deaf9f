/-
  Two economies as one.
-/
import Derived.Test.YtlmhakmoioogaaaGreatEconWjM1
import Derived.Test.YtlmhakmoioogaaaGreatEconWjM5
import Derived.Test.YtlmhakmoioogaaaGreatEconWjM21
import Derived.Test.YtlmhakmoioogaaaGreatEconWjM49
import Derived.Test.YtlmhakmoioogaaaGreatEconWjM51
import Derived.Test.YtlmhakmoioogaaaGreatEconWjM52
import Derived.WalkKit
import Derived.ProofKit
import Derived.OpenShut
import Derived.ChangeSame
import Derived.ReadAgain
set_option maxHeartbeats 16000000
set_option maxRecDepth 100000
set_option linter.unusedSimpArgs false
set_option linter.unusedVariables false
section
namespace Go.Proofs.YtlmhakmoioogaaaGreat
open Go.RowKit Go.Sl
section
variable{κ ν:Type}[DecidableEq κ]
theorem HV7:∀{l l':List (κ×ν)},(l.map (·.1)).Nodup->(l'.map (·.1)).Nodup->(∀k,i9 l k=i9 l' k)->l.Perm l'
 | [],[],_,_,_=>List.Perm.refl _
 | [],y::t,_,_,h=>by
  have h1:=h y.1;rw[Bc7,if_pos rfl]at h1
  cases h1
 | x::l,l',hn,hn',h=>by
  have hx:i9 l' x.1=some x.2:=by rw[<-h];exact AT7 hn (List.mem_cons_self ..)
  refine List.Perm.trans ?_ (Bs7 hn' hx).symm;rw[List.map_cons,List.nodup_cons]at hn;refine List.Perm.cons _ (HV7 hn.2 (hn'.sublist (List.filter_sublist.map _)) fun k=>?_);rw[Li7,<-h,Bc7]
  by_cases hk:k=x.1
  ·rw[if_pos hk,hk]
   exact CI7 fun y hy e=>hn.1 (List.mem_map.2 ⟨y,hy,e⟩)
  ·rw[if_neg hk,if_neg (fun e=>hk e.symm)]
theorem ON7{l:List (κ×ν)}(hn:(l.map (·.1)).Nodup)(p:κ×ν->Bool)(k:κ):i9 (l.filter p) k=match i9 l k with|some y=>if p (k,y)=true then some y else none|none=>none:=by
 cases hg:i9 l k with
 | none=>exact CI7 fun x hx=>AO7 hg x (List.mem_filter.1 hx).1
 | some y=>
  dsimp only
  split
  ·rename_i hp
   exact AT7 (hn.sublist (List.filter_sublist.map _)) (List.mem_filter.2 ⟨AF7 hg,hp⟩)
  ·rename_i hp
   refine CI7 fun x hx e=>?_
   obtain⟨h1,h2⟩:=List.mem_filter.1 hx;subst e;have h3:=AT7 (v:=x.2) hn h1;rw[hg]at h3
   cases h3
   exact hp h2
theorem Jx7{D S:List (κ×ν)}(hd:(D.map (·.1)).Nodup)(hs:(S.map (·.1)).Nodup):((S++L7 D S).map (·.1)).Nodup:=by
 rw[List.map_append,List.nodup_append];refine⟨hs,hd.sublist (List.filter_sublist.map _),fun a ha b hb e=>?_⟩;subst e;obtain⟨x,hx,rfl⟩:=List.mem_map.1 ha;obtain⟨y,hy,e⟩:=List.mem_map.1 hb;have h1:=(List.mem_filter.1 hy).2;rw[decide_eq_true_eq]at h1
 exact h1 x hx e.symm
def ef4(lt:κ->κ->Bool)(l:List (κ×ν))(x:κ×ν):List (κ×ν):=l.take (plI lt l x.1)++x::l.drop (plI lt l x.1)
omit [DecidableEq κ] in theorem OO7(lt:κ->κ->Bool)(l:List (κ×ν))(x:κ×ν):(ef4 lt l x).Perm (x::l):=by
 unfold ef4;refine List.perm_middle.trans ?_;rw[List.take_append_drop]
theorem LL7{lt:κ->κ->Bool}(ho:Ordr lt){l:List (κ×ν)}(h:Asc lt l){x:κ×ν}(hk:i9 l x.1=none):Asc lt (ef4 lt l x):=by
 have hb:plB lt l x.1=false:=by rw[HJ7 ho h,hk];rfl
 have e:ef4 lt l x=plS lt l x.1 x.2:=by unfold ef4 plS;rw[hb];rfl
 rw[e]
 exact DE7 ho h
theorem dQ4{lt:κ->κ->Bool}(ho:Ordr lt):∀(S D:List (κ×ν)),Asc lt D->(S.map (·.1)).Nodup->(∀x∈S,i9 D x.1=none)->Asc lt (S.foldl (ef4 lt) D)
 | [],D,h,_,_=>h
 | x::S,D,h,hn,hk=>by
  rw[List.map_cons,List.nodup_cons]at hn;have h1:=LL7 ho h (hk x (List.mem_cons_self ..));refine dQ4 ho S _ h1 hn.2 fun y hy=>?_
  rw[Ap7 (AW7 ho h1) (OO7 lt D x),Bc7,if_neg (fun e=>hn.1 (List.mem_map.2 ⟨y,hy,e.symm⟩))]
  exact hk y (List.mem_cons_of_mem _ hy)
end
theorem Hk7{l:List ((Int×Int)×Unit)}(h:Asc ltW l)(x:(Int×Int)×Unit):Asc ltW (ag4 l x):=by
 unfold ag4
 split
 ·exact h
 ·rename_i hn
  exact LL7 (x:=(x.1,())) Au7 h (by cases hg:i9 l x.1 with|none=>rfl|some _=>rw[hg]at hn;exact absurd rfl hn)
theorem ML7{l:List ((Int×Int)×Unit)}(h:Asc ltW l)(x:(Int×Int)×Unit)(k:Int×Int):(i9 (ag4 l x) k).isSome=((i9 l k).isSome||decide (x.1=k)):=by
 have h2:=Hk7 h x;unfold ag4 at h2 ⊢
 split
 ·rename_i hs
  by_cases hk:x.1=k
  ·rw[<-hk,hs];rfl
  ·rw[decide_eq_false hk,Bool.or_false]
 ·rename_i hs
  rw[if_neg hs]at h2;rw[Ap7 (AW7 Au7 h2) (Ky7 l x.1 ()),Bc7]
  by_cases hk:x.1=k
  ·rw[if_pos hk,decide_eq_true hk,Bool.or_true];rfl
  ·rw[if_neg hk,decide_eq_false hk,Bool.or_false]
theorem Fg7:∀(S D:List ((Int×Int)×Unit)),Asc ltW D->Asc ltW (N7 D S)/\∀k,(i9 (N7 D S) k).isSome=((i9 D k).isSome||(i9 S k).isSome)
 | [],D,h=>⟨h,fun k=>by show(i9 D k).isSome=_;rw[show i9 ([]:List ((Int×Int)×Unit)) k=none from rfl];simp⟩
 | x::S,D,h=>by
  obtain⟨h1,h2⟩:=Fg7 S (ag4 D x) (Hk7 h x);refine⟨h1,fun k=>?_⟩
  show(i9 (N7 (ag4 D x) S) k).isSome=_
  rw[h2,ML7 h,Bc7]
  by_cases hk:x.1=k
  ·rw[if_pos hk,decide_eq_true hk,Bool.or_true,Bool.true_or];simp
  ·rw[if_neg hk,decide_eq_false hk,Bool.or_false]
theorem MM7{l:List (Int×(Int×Rpl))}(h:Asc ltI l)(x:Int×(Int×Rpl)):Asc ltI (O8 l x):=by
 unfold O8
 split
 ·exact DE7 BN7 h
 ·exact h
theorem MN7{l:List (Int×(Int×Rpl))}(h:Asc ltI l)(x:Int×(Int×Rpl))(k:Int):i9 (O8 l x) k=if x.1=k/\sqL l x.1<x.2.1 then some x.2 else i9 l k:=by
 unfold O8
 by_cases hb:sqL l x.1<x.2.1
 ·rw[if_pos hb,Ap7 (AW7 BN7 (DE7 BN7 h)) (Ds7 BN7 h),Lj7]
  by_cases hk:x.1=k
  ·rw[if_pos hk,if_pos ⟨hk,hb⟩]
  ·rw[if_neg hk,if_neg (fun e=>hk e.1)]
 ·rw[if_neg hb,if_neg (fun e=>hb e.2)]
def dR4(D S:List (Int×(Int×Rpl)))(k:Int):Option (Int×Rpl):=match i9 S k with
 | some y=>if sqL D k<y.1 then some y else i9 D k
 | none=>i9 D k
theorem Fh7:∀(S D:List (Int×(Int×Rpl))),Asc ltI D->(S.map (·.1)).Nodup->Asc ltI (ah4 D S)/\∀k,i9 (ah4 D S) k=dR4 D S k
 | [],D,h,_=>⟨h,fun k=>rfl⟩
 | x::S,D,h,hn=>by
  rw[List.map_cons,List.nodup_cons]at hn;obtain⟨h1,h2⟩:=Fh7 S (O8 D x) (MM7 h x) hn.2;refine⟨h1,fun k=>?_⟩
  show i9 (ah4 (O8 D x) S) k=_
  rw[h2];unfold dR4;rw[Bc7];have hg:=MN7 h x k
  by_cases hk:x.1=k
  ·rw[if_pos hk];have h3:i9 S k=none:=CI7 fun y hy e=>hn.1 (List.mem_map.2 ⟨y,hy,e.trans hk.symm⟩)
   rw[h3];dsimp only;rw[hg];subst hk
   by_cases hb:sqL D x.1<x.2.1
   ·rw[if_pos ⟨rfl,hb⟩,if_pos hb]
   ·rw[if_neg (fun e=>hb e.2),if_neg hb]
  ·rw[if_neg hk];rw[if_neg (fun e=>hk e.1)]at hg;have hs:sqL (O8 D x) k=sqL D k:=by unfold sqL;rw[hg]
   rw[hs,hg]
theorem OP7{ss os:List (Int×(Int×Rpl))}(ho:(os.map (·.1)).Nodup)(k:Int):i9 (dm4 ss os) k=dR4 ss os k:=by
 unfold dm4 dR4;have hf:=ON7 ho (aR4 ss) k
 cases hg:i9 os k with
 | none=>
  rw[hg]at hf
  exact(FF7 (fun x hx=>AO7 hf x hx))
 | some y=>
  rw[hg]at hf;dsimp only at hf ⊢;have hb:(aR4 ss (k,y)=true)↔sqL ss k<y.1:=by unfold aR4 sqL;rw[decide_eq_true_eq]
  by_cases h:sqL ss k<y.1
  ·rw[if_pos (hb.2 h)]at hf;rw[if_pos h,CO7,hf]
   rfl
  ·rw[if_neg (fun e=>h (hb.1 e))]at hf;rw[if_neg h]
   exact FF7 (fun x hx=>AO7 hf x hx)
theorem LM7{e o:Ec}(h:O5 e o=false):∀x∈o.vs,i9 e.vs x.1=none:=fun x hx=>by
 unfold O5 at h;rw[Bool.or_eq_false_iff]at h;have h1:=List.any_eq_false.1 h.1 x hx
 cases hg:i9 e.vs x.1 with
 | none=>rfl
 | some _=>rw[hg]at h1;exact absurd rfl h1
theorem Qv7{e o:Ec}(h:O5 e o=false):∀x∈o.ts,i9 e.ts x.1=none:=fun x hx=>by
 unfold O5 at h;rw[Bool.or_eq_false_iff]at h;have h1:=List.any_eq_false.1 h.2 x hx
 cases hg:i9 e.ts x.1 with
 | none=>rfl
 | some _=>rw[hg]at h1;exact absurd rfl h1
theorem LN7{α:Type}{p q:α->Bool}{l l':List α}(h:l.Perm l')(hp:∀x,p x=q x):l.any p=l'.any q:=by
 rw[Bool.eq_iff_iff,List.any_eq_true,List.any_eq_true]
 exact⟨fun⟨x,hx,hq⟩=>⟨x,h.mem_iff.1 hx,by rw[<-hp];exact hq⟩,fun⟨x,hx,hq⟩=>⟨x,h.mem_iff.2 hx,by rw[hp];exact hq⟩⟩
theorem OQ7{d e o o':Ec}(hd:SimE d e)(ho:SimE o o'):av4 d o=O5 e o':=by
 unfold av4 O5
 rw[LN7 ho.v (q:=fun x=>(i9 e.vs x.1).isSome) fun x=>by rw[HJ7 Bm7 hd.va,Ap7 hd.vn hd.v],LN7 ho.t (q:=fun x=>(i9 e.ts x.1).isSome) fun x=>by
  have h:=Dv7 x.1 d.ts;rw[<-Ap7 hd.tn hd.t]
  cases hg:i9 d.ts x.1 with
  | none=>
   rw[hg]at h;have h2:fdI d.ts x.1<0:=of_decide_eq_true h
   exact decide_eq_false (by omega)
  | some _=>
   rw[hg]at h;have h2:¬fdI d.ts x.1<0:=of_decide_eq_false h
   exact decide_eq_true (by omega)]
theorem Qw7{a b:Option Unit}(h:a.isSome=b.isSome):a=b:=by
 cases a <;> cases b <;> first|rfl|cases h
theorem Qx7{d e o o':Ec}(hd:SimE d e)(ho:SimE o o')(hc:O5 e o'=false)(hw:∀x∈o.ts,1<=x.1.2):SimE (da4 d o) (bc4 e o'):=by
 have hv0:∀x∈o.vs,i9 d.vs x.1=none:=fun x hx=>by rw[Ap7 hd.vn hd.v];exact LM7 hc x (ho.v.mem_iff.1 hx)
 have ht0:∀x∈o.ts,i9 d.ts x.1=none:=fun x hx=>by rw[Ap7 hd.tn hd.t];exact Qv7 hc x (ho.t.mem_iff.1 hx)
 have hen:(e.ar.map (·.1)).Nodup:=(hd.a.map _).nodup_iff.1 hd.an;have hon:(o'.ar.map (·.1)).Nodup:=(ho.a.map _).nodup_iff.1 ho.an;have hes:(e.ss.map (·.1)).Nodup:=(hd.s.map _).nodup_iff.1 hd.sn;have hos:(o'.ss.map (·.1)).Nodup:=(ho.s.map _).nodup_iff.1 ho.sn;obtain⟨c1,c2⟩:=Fg7 o.ar d.ar hd.aa;obtain⟨r1,r2⟩:=Fh7 o.ss d.ss hd.sa ho.sn;refine⟨?_,?_,?_,?_,?_,r1,?_,c1,?_,Jw7 ho.tk hd.tk,?_⟩
 ·exact(CP7 o.vs d.vs).trans (ho.v.append hd.v)
 ·refine HV7 (AW7 BN7 r1) (Jx7 hes (hos.sublist (List.filter_sublist.map _))) fun k=>?_
  show i9 (ah4 d.ss o.ss) k=i9 (dm4 e.ss o'.ss) k
  rw[r2,OP7 hos];unfold dR4 sqL;rw[Ap7 ho.sn ho.s,Ap7 hd.sn hd.s]
 ·exact(Ce7 o.ts d.ts).trans (ho.t.append hd.t)
 ·refine HV7 (AW7 Au7 c1) (Jx7 hen hon) fun k=>Qw7 ?_
  show(i9 (N7 d.ar o.ar) k).isSome=(i9 (o'.ar++L7 e.ar o'.ar) k).isSome
  rw[c2,Ap7 hd.an hd.a,Ap7 ho.an ho.a,CO7]
  cases hg:i9 o'.ar k with
  | some _=>simp
  | none=>
   have h1:=FF7 (D:=e.ar) (S:=o'.ar) (k:=k) (fun x hx=>AO7 hg x hx);rw[CO7,hg]at h1;rw[h1];simp
 ·exact dQ4 Bm7 o.vs d.vs hd.va ho.vn hv0
 ·exact dQ4 Au7 o.ts d.ts hd.ta ho.tn ht0
 ·intro x hx;rcases List.mem_append.1 ((CP7 o.vs d.vs).mem_iff.1 hx)with h|h
  ·exact ho.ne x h
  ·exact hd.ne x h
 ·intro x hx;have hj:i9 (da4 d o).ss x.1.1=dR4 d.ss o.ss x.1.1:=r2 _;rw[hj];unfold dR4;rcases List.mem_append.1 ((Ce7 o.ts d.ts).mem_iff.1 hx)with h|h
  ·obtain⟨q,r,h1,h2⟩:=ho.old x h;rw[h1];dsimp only
   by_cases hb:sqL d.ss x.1.1<q
   ·rw[if_pos hb];exact⟨q,r,rfl,h2⟩
   ·rw[if_neg hb];have h3:=hw x h;unfold sqL at hb
    cases hg:i9 d.ss x.1.1 with
    | none=>rw[hg]at hb;exact absurd (show(0:Int)<q by omega) hb
    | some z=>
     rw[hg]at hb;obtain⟨z1,z2⟩:=z;have h4:¬z1<q:=hb
     exact⟨z1,z2,rfl,by omega⟩
  ·obtain⟨q,r,h1,h2⟩:=hd.old x h
   cases hg:i9 o.ss x.1.1 with
   | none=>exact⟨q,r,h1,h2⟩
   | some z=>
    dsimp only;have h5:sqL d.ss x.1.1=q:=by unfold sqL;rw[h1];rfl
    by_cases hb:sqL d.ss x.1.1<z.1
    ·rw[if_pos hb];exact⟨z.1,z.2,rfl,by omega⟩
    ·rw[if_neg hb];exact⟨q,r,h1,h2⟩
theorem LO7(A:List (ByteArray×Vs)):∀B,aX4 (B++A)=aX4 B+aX4 A
 | []=>by show _=0+_;rw[Nat.zero_add];rfl
 | x::B=>by
  have h:=LO7 A B
  show x.2.ps.length+aX4 (B++A)=x.2.ps.length+aX4 B+aX4 A
  omega
theorem Jy7(k:Int)(A:List (ByteArray×Vs)):∀B,K7 k (B++A)=K7 k B+K7 k A
 | []=>by show _=0+_;rw[Int.zero_add];rfl
 | x::B=>by
  have h:=Jy7 k A B
  show E5 x.2 k+K7 k (B++A)=E5 x.2 k+K7 k B+K7 k A
  omega
theorem Qy7{e o:Ec}{n m:Nat}(he:EnL e n)(ho:EnL o m)(hc:O5 e o=false):EnL (bc4 e o) (n+m):=by
 have a1:=he.en.lv;have a2:=he.en.ls;have a3:=he.en.lt;have a4:=he.en.la;have b1:=ho.en.lv;have b2:=ho.en.ls;have b3:=ho.en.lt;have b4:=ho.en.la
 have hs:∀x∈(bc4 e o).ss,x∈e.ss\/x∈o.ss:=fun x hx=>by
  rcases List.mem_append.1 hx with h|h
  ·exact .inr (List.mem_filter.1 h).1
  ·exact .inl (List.mem_filter.1 h).1
 have ha:∀x∈(bc4 e o).ar,x∈e.ar\/x∈o.ar:=fun x hx=>by
  rcases List.mem_append.1 hx with h|h
  ·exact .inr h
  ·exact .inl (List.mem_filter.1 h).1
 refine⟨⟨fun x hx=>?_,fun x hx=>?_,fun x hx=>?_,fun x hx=>?_,fun x hx=>?_,fun x hx=>?_,?_,?_,?_,?_⟩,?_,?_⟩
 ·rcases List.mem_append.1 hx with h|h
  ·exact HF7 (ho.en.ok x h) (by omega)
  ·exact HF7 (he.en.ok x h) (by omega)
 ·rcases List.mem_append.1 hx with h|h
  ·exact ho.en.vk x h
  ·exact he.en.vk x h
 ·rcases hs x hx with h|h
  ·exact he.en.sw x h
  ·exact ho.en.sw x h
 ·rcases hs x hx with h|h
  ·exact he.en.sr x h
  ·exact ho.en.sr x h
 ·rcases List.mem_append.1 hx with h|h
  ·exact ho.en.tw x h
  ·exact he.en.tw x h
 ·rcases ha x hx with h|h
  ·exact he.en.aw x h
  ·exact ho.en.aw x h
 ·show(o.vs++e.vs).length<=_
  rw[jA];omega
 ·show(o.ss.filter (aR4 e.ss)++L7 e.ss (o.ss.filter (aR4 e.ss))).length<=_
  have h1:=List.length_filter_le (aR4 e.ss) o.ss;have h2:=List.length_filter_le (fun y=>decide (∀x∈o.ss.filter (aR4 e.ss),x.1≠y.1)) e.ss;rw[jA];unfold L7;omega
 ·show(o.ts++e.ts).length<=_
  rw[jA];omega
 ·show(o.ar++L7 e.ar o.ar).length<=_
  have h2:=List.length_filter_le (fun y=>decide (∀x∈o.ar,x.1≠y.1)) e.ar;rw[jA];unfold L7;omega
 ·show((o.vs++e.vs).map (·.1)).Nodup
  rw[List.map_append,List.nodup_append];refine⟨ho.nd,he.nd,fun a ha b hb e1=>?_⟩;subst e1;obtain⟨x,hx,rfl⟩:=List.mem_map.1 ha;obtain⟨y,hy,e2⟩:=List.mem_map.1 hb
  exact AO7 (LM7 hc x hx) y hy e2
 ·show aX4 (o.vs++e.vs)<=_
  have h1:=he.ln;have h2:=ho.ln;rw[LO7];omega
theorem Qz7{e o:Ec}{n m:Nat}(he:EnT e n)(ho:EnT o m)(hc:O5 e o=false)(hn:n<=400)(hm:m<=400):EnL (bc4 e o) (n+m)/\∀k,Kx k->M8 (bc4 e o) k<=(n+m)*1048576:=by
 refine⟨Qy7 he.en ho.en hc,fun k hk=>?_⟩
 show K7 k (o.vs++e.vs)<=_
 have h1:=he.tt hn k hk;have h2:=ho.tt hm k hk;unfold M8 at h1 h2;rw[Jy7];omega
end Go.Proofs.YtlmhakmoioogaaaGreat
end
section
namespace Go.Sl
open Go.RowKit
section
variable{P:Program}{ops:Array Oper}{Q:Exit->Act->World->Prop}{a:Act}{w:World}{rest:List Oper}{o:Oper}
theorem OR7{t t2 te:TypeId}{x y:Operand}{b:Addr}(ho:o.op=.binOp .eql t x y t2)(hg:Region.wanted o (yielded ops a.tmps)=true)(hx:a.eval x=.pointer (some b))(hy:a.eval y=.pointer (some b))
  (ht:P.underlying t=some (.pointer te)) (hz:∃j,P.info? te=some j/\j.size≠0) (h:wpList P ops Q rest (a.put o.dst (.bool true)) w):wpList P ops Q (o::rest) a w:=by
 obtain⟨j,hj,_⟩:=hz;refine Aj7 hg (v:=.bool true) (w':=w) ?_ h;have h1:(binOp .eql t (.pointer (some b)) (.pointer (some b))).run P w=.ok (.bool true) w:=run_eql_ptr_same w b ht hj;unfold execOp;simp[ho,hx,hy,eqGuard,h1]
end
end Go.Sl
namespace Go.Proofs.YtlmhakmoioogaaaGreat
open Go.RowKit Go.Sl
theorem Hl7(eb:Nat)(W w:World)(R:List HP)(hS:St W R w):
  Calls Tryz.prog 29 #[.pointer (jP eb),.pointer none] w fun x w'=>x=.returned (.I 1)/\St W R w':=by
 go_enter Tryz.func29,Tryz.ntmps29;go_wp2_with(fail);go_ret
 exact⟨rfl,hS⟩
theorem GD7(eb:Nat)(W w:World)(R:List HP)(hS:St W R w):
  Calls Tryz.prog 29 #[.pointer (jP eb),.pointer (jP eb)] w fun x w'=>x=.returned (.I 1)/\St W R w':=by
 go_enter Tryz.func29,Tryz.ntmps29;go_wp2_with(first|((with_reducible apply OR7 (b:=⟨eb,0,none⟩));rfl;rfl;rfl;rfl;exact Tryz.underlying23;exact dJ4;(refine frS ?_)));go_ret
 exact⟨rfl,hS⟩
section
variable{eb ob xb yb:Nat}{e o d z:Ec}{W w:World}{R:List HP}
theorem QA7(h:O5 e o=true)(hS:St W (ecP eb e::ecP ob o::R) w):
  Calls Tryz.prog 29 #[.pointer (jP eb),.pointer (jP ob)] w fun x w'=>x=.returned (.I 8)/\St W (ecP eb e::ecP ob o::R) w':=by
 refine(GA7 W w R hS).mono ?_;rintro x w' (⟨_,rfl,hS⟩|⟨h1,_,_⟩)
 ·exact⟨rfl,hS⟩
 ·rw[h]at h1;cases h1
theorem Sk7(h:O5 e o=false)(hS:St W (ecP eb e::ecP ob o::R) w):
  Calls Tryz.prog 29 #[.pointer (jP eb),.pointer (jP ob)] w fun x w'=>x=.returned (.I 0)/\St W (ecP eb (bc4 e o)::R) w':=by
 refine(GA7 W w R hS).mono ?_;rintro x w' (⟨h1,_,_⟩|⟨_,rfl,hS⟩)
 ·rw[h]at h1;cases h1
 ·exact⟨rfl,hS⟩
end
structure JoOk(d z:Ec):Prop where
 k:TsK d.ts
 kz:TsK z.ts
 l1:d.vs.length<=300000
 l2:d.ss.length<=300000
 l3:d.ts.length<=300000
 l4:d.ar.length<=300000
 z1:z.vs.length<=300000
 z2:z.ss.length<=300000
 z3:z.ts.length<=300000
 z4:z.ar.length<=300000
theorem Sl7{d z e o:Ec}{n m:Nat}(hd:EnL d n)(hz:EnL z m)(sd:SimE d e)(sz:SimE z o)(hn:n<=300000)(hm:m<=300000):JoOk d z:=
 ⟨sd.tk,sz.tk,Nat.le_trans hd.en.lv hn,Nat.le_trans hd.en.ls hn,Nat.le_trans hd.en.lt hn,Nat.le_trans hd.en.la hn,Nat.le_trans hz.en.lv hm,Nat.le_trans hz.en.ls hm,Nat.le_trans hz.en.lt hm,Nat.le_trans hz.en.la hm⟩
section
variable{xb yb:Nat}{d z:Ec}{W w:World}{R:List HP}
theorem OS7(hj:JoOk d z)(h:av4 d z=true)(hS:St W (x9 xb d::x9 yb z::R) w):
  Calls Tryz.prog 30 #[.pointer (jP xb),.pointer (jP yb)] w fun x w'=>x=.returned (.I 8)/\St W (x9 xb d::x9 yb z::R) w':=by
 refine(OM7 hj.k hj.kz hj.l1 hj.l2 hj.l3 hj.l4 hj.z1 hj.z2 hj.z3 hj.z4 W w R hS).mono ?_;rintro x w' (⟨_,rfl,hS⟩|⟨h1,_,_⟩)
 ·exact⟨rfl,hS⟩
 ·rw[h]at h1;cases h1
theorem QB7(hj:JoOk d z)(h:av4 d z=false)(hS:St W (x9 xb d::x9 yb z::R) w):
  Calls Tryz.prog 30 #[.pointer (jP xb),.pointer (jP yb)] w fun x w'=>x=.returned (.I 0)/\St W (x9 xb (da4 d z)::R) w':=by
 refine(OM7 hj.k hj.kz hj.l1 hj.l2 hj.l3 hj.l4 hj.z1 hj.z2 hj.z3 hj.z4 W w R hS).mono ?_;rintro x w' (⟨h1,_,_⟩|⟨_,rfl,hS⟩)
 ·rw[h]at h1;cases h1
 ·exact⟨rfl,hS⟩
end
theorem joins_spec(xs ys:List Opn)(v v':Value)(V:World)(hv:bm4 Opn.cells 12 V v xs)(hv':bm4 Opn.cells 12 V v' ys)(W w:World)(Lr:List HP)(hS:St W (Old V::Lr) w):
  Calls Tryz.prog 8 #[v,v'] w fun e w'=>e=.returned (.bool true)/\St W (Old V::Lr) w':=by
 have Hv:=jH hv;have Hv2:=jH hv';obtain⟨a,cap,rfl,h63,hact⟩:=hv.opn;obtain⟨a2,cap2,rfl,g63,hact2⟩:=hv'.opn;have Ha:=jH hact;have Ha2:=jH hact2;clear hact hact2 hv hv';go_enter Tryz.func8,Tryz.ntmps8;go_wp2_with(first|((fail_if_success (have:=mH));(go_at_call 20;refine(Bt7 xs a cap h63 (fun i hi=>(Ha.out i hi).imp fun b h=>h.imp fun off h=>⟨h.1,fun j v hj=>i8.old .head (h.2.all j v hj)⟩) W _ hS).mono ?_;clear hS;rintro e w ⟨hv,h150,rfl,hS⟩;have H150:=jH h150;clear h150;cases hv);(all_goals have mH:Nat:=0))|((have:=mH);(go_at_call 20;refine(Bt7 ys a2 cap2 g63 (fun i hi=>(Ha2.out i hi).imp fun b h=>h.imp fun off h=>⟨h.1,fun j v hj=>i8.old .head (h.2.all j v hj)⟩) W _ hS).mono ?_;clear hS;rintro e w ⟨hv,h150,rfl,hS⟩;have G150:=jH h150;clear h150;cases hv)))
 all_goals first|(go_ret;exact⟨rfl,hS⟩)|skip
 have hlen:xs.length<=150:=by first|exact H150.out rfl|exact H150.out trivial
 have hlen2:ys.length<=150:=by first|exact G150.out rfl|exact G150.out trivial
 clear H150 G150;refine(HU7 LJ7 gN4 xs hlen _ V Hv.out W _ _ hS).mono ?_;clear hS;rintro r w ⟨eb,xb,rfl,hG,hN,hS⟩;have Hs:=jH hG.sim;have HN:=jH hN;clear hG hN;generalize aB4 xs ec0=e at *;generalize bT4 xs ec0=d at *;go_wp2_with(fail);refine(HU7 LJ7 gN4 ys hlen2 _ V Hv2.out W _ _ (hS.s (Old V::ecP eb e::x9 xb d::Lr))).mono ?_;clear hS;rintro r w ⟨ob,yb,rfl,hG,hN,hS⟩;have Hs2:=jH hG.sim;have HN2:=jH hN;clear hG hN;generalize aB4 ys ec0=o at *;generalize bT4 ys ec0=z at *;have Hj:=jH (Sl7 (Kw7 HN.out.en Hs.out) (Kw7 HN2.out.en Hs2.out) Hs.out Hs2.out (by omega) (by omega));have hcs:=OQ7 Hs.out Hs2.out
 cases hc:O5 e o with
 | true=>
  have Hc:=jH hc;have Hcd:=jH (show av4 d z=true by rw[hcs,hc]);have Ht:=jH (show ∀k,Kx k->M8 e k<=500000000 from fun k hk=>by have:=HN.out.tt (by omega) k hk;omega);clear hc hcs;go_wp2_with(first|((fail_if_success (have:=mJ));(go_at_call 29;refine(Hl7 eb W _ _ hS).mono ?_;clear hS;rintro e w ⟨rfl,hS⟩);have mJ:Nat:=0)|((have:=mJ);(fail_if_success (have:=mK));(go_at_call 29;refine(GD7 eb W _ _ hS).mono ?_;clear hS;rintro e w ⟨rfl,hS⟩);have mK:Nat:=0)|((have:=mK);go_at_call 29;refine(QA7 Hc.out (hS.s (ecP eb e::ecP ob o::x9 xb d::x9 yb z::Old V::Lr))).mono ?_;clear hS;rintro ex w ⟨rfl,hS⟩)|(go_at_call 30;refine(OS7 Hj.out Hcd.out (hS.s (x9 xb d::x9 yb z::ecP eb e::Old V::Lr))).mono ?_;clear hS;rintro ex w ⟨rfl,hS⟩)|(go_at_call 28;refine(GC7 Hs.out HN.out.en Ht.out (by omega) W _ _ (hS.s (ecP eb e::x9 xb d::Old V::Lr))).mono ?_;clear hS;rintro ex w ⟨rfl,hS⟩)|(go_at_call 14;refine(DC7 W _ _ hS).mono ?_;clear hS;rintro e w ⟨rfl,hS⟩));go_ret
  exact⟨rfl,hS.s _⟩
 | false=>
  have hsj:=Qx7 Hs.out Hs2.out hc fun x hx=>by
   have h1:=HN2.out.en.en.tw x (Hs2.out.t.mem_iff.1 hx);have h2:=h1.1.w.2.1;rw[h1.2]
   exact h2
  obtain⟨hnj,htj⟩:=Qz7 HN.out HN2.out hc (by omega) (by omega);have Hc:=jH hc;have Hcd:=jH (show av4 d z=false by rw[hcs,hc]);have Hsj:=jH hsj;have Hnj:=jH hnj;have Ht:=jH (show ∀k,Kx k->M8 (bc4 e o) k<=500000000 from fun k hk=>by have:=htj k hk;omega);clear hc hcs hsj hnj htj;go_wp2_with(first|((fail_if_success (have:=mJ));(go_at_call 29;refine(Hl7 eb W _ _ hS).mono ?_;clear hS;rintro e w ⟨rfl,hS⟩);have mJ:Nat:=0)|((have:=mJ);(fail_if_success (have:=mK));(go_at_call 29;refine(GD7 eb W _ _ hS).mono ?_;clear hS;rintro e w ⟨rfl,hS⟩);have mK:Nat:=0)|((have:=mK);go_at_call 29;refine(Sk7 Hc.out (hS.s (ecP eb e::ecP ob o::x9 xb d::x9 yb z::Old V::Lr))).mono ?_;clear hS;rintro ex w ⟨rfl,hS⟩)|(go_at_call 30;refine(QB7 Hj.out Hcd.out (hS.s (x9 xb d::x9 yb z::ecP eb (bc4 e o)::Old V::Lr))).mono ?_;clear hS;rintro ex w ⟨rfl,hS⟩)|(go_at_call 28;refine(GC7 Hsj.out Hnj.out Ht.out (by omega) W _ _ (hS.s (ecP eb (bc4 e o)::x9 xb (da4 d z)::Old V::Lr))).mono ?_;clear hS;rintro ex w ⟨rfl,hS⟩)|(go_at_call 14;refine(DC7 W _ _ hS).mono ?_;clear hS;rintro e w ⟨rfl,hS⟩));go_ret
  exact⟨rfl,hS.s _⟩
end Go.Proofs.YtlmhakmoioogaaaGreat
end
section
namespace Go.Proofs.YtlmhakmoioogaaaGreat
open Go.Joins Go.ChangeShapes Go.WideShapes Go.RowKit Go.Deep Go.Sl
theorem open_span{H:Type}{enc:TypeId×Value->H}{w:World}{base:Nat}{spare:Nat->Bool}{held:Bool}{r:Reach}{b0:Nat}{v:Value}{d:DataW H}{p:List MemPlace}
  (hv:Value.okWide Tryz.prog w r b0 54 v) (h:DataW.Trod enc Tryz.prog w base spare held 54 v d p):∃x:ByteArray×ByteArray,v=.agg #[.string x.1,.string x.2]:=by
 obtain⟨cs,rfl,_⟩:=okWide_struct Tryz.underlying54 hv;obtain⟨l⟩:=cs;obtain⟨n,hf⟩:=h;obtain⟨xs,n',rfl,hx,hlen,hxl,hg⟩:=DataW.trod_struct Tryz.underlying54 hf;have hlen':l.length=2:=hlen.trans (by kernel_rfl)
 match l,hlen' with
 | [c0,c1],_=>
  match xs,hxl with
  | [y0,y1],_=>
   have g0:=hg 0 _ rfl;have g1:=hg 1 _ rfl;obtain⟨k,e0,_⟩:=DataW.trod_string Tryz.underlying9 (show DataW.trod enc Tryz.prog w base spare held n' 9 [c0]=some y0 from g0);obtain⟨u,e1,_⟩:=DataW.trod_string Tryz.underlying9 (show DataW.trod enc Tryz.prog w base spare held n' 9 [c1]=some y1 from g1);simp only[List.cons.injEq,and_true]at e0 e1;subst e0 e1
   exact⟨(k,u),rfl⟩
end Go.Proofs.YtlmhakmoioogaaaGreat
end
section
namespace Go.Sl
open Go.ChangeShapes Go.WideShapes Go.ChangeAt Go.RowKit
section
variable{H:Type}{enc:TypeId×Value->H}{P:Program}
theorem Ex7{w w':World}{base:Nat}{spare:Nat->Bool}{held:Bool}:∀{ts:List TypeId} {vs:List Value} {ds:List (DataW H)} {ps:List MemPlace},
  DataW.TrodAll enc P w base spare held ts vs ds ps->(∀p∈ps,w.sameAt w' p)->DataW.TrodAll enc P w' base spare held ts vs ds ps
 | [],[],[],_,h,_=>h
 | _::_,_::_,_::_,_,⟨p,q,⟨n,hn⟩,h2,e⟩,hs=>
  ⟨p,q,⟨n,DataW.trod_carry n _ _ _ hn fun x hx=>hs x (by rw[e];exact List.mem_append_left _ hx)⟩,Ex7 h2 (fun x hx=>hs x (by rw[e];exact List.mem_append_right _ hx)),e⟩
theorem law_post{f:Func}{s:ChangeSpec}{apart fresh handsOn again:Bool}{W W':World}{args:Array Value}{ds gs:List (DataW H)}{before:List MemPlace}{tb:TypeId}
  (hl:laidOutB P=true) (hm:mapsRowed P=true) (hz:((List.range P.types.size).all fun t=>match P.underlying t with|some (.slice e)=>decide (0<P.cellsOf e)|_=>true)=true)
  (hT:f.params.toList.all (·<P.types.size)=true) (hr:f.resultTypes=#[tb]) (hb:P.underlying tb=some .bool) (hv:s.vars=[])
  (hW:DataW.Whole enc P f.params.toList s.vars apart W args.toList ds gs before)
  (hres:(s.fn H (ds++gs)).results=[.lit (.bool true)]) (hargs:(s.fn H (ds++gs)).args=ds) (hvars:(s.fn H (ds++gs)).vars=[])
  (hB:Below W.heap.size W W'):s.post enc P f apart fresh handsOn again W args (.bool true) W':=by
 have hW0:=hW;obtain⟨p,q,hA,hV,rfl,hfz,hnd⟩:=hW;rw[hv]at hV;obtain⟨rfl,rfl⟩:=trodVars_none hV;have hlt:∀x∈p++[],x.block<W.heap.size:=fun x hx=>hW0.lt x hx
 have hA':∀sp:Nat->Bool,(∀x∈p++[],sp x.block=true)->DataW.TrodAll enc P W' 0 sp true f.params.toList args.toList (s.fn H (ds++[])).args p:=fun sp hs=>by
  rw[hargs];refine Ex7 (DataW.TrodAll.respare (kids_rows hl hm) (fun t e=>slices_full_of P hz t e) (fun t ht=>by simpa using List.all_eq_true.1 hT t ht) hA fun x hx=>hs x (by simpa using hx)) fun x hx=>hB.same (hlt x (by simpa using hx))
 have hR:∀(b:Nat) (sp:Nat->Bool) (hd:Bool),DataW.TrodAll enc P W' b sp hd f.resultTypes.toList ((Value.bool true).resultList f.resultTypes.size) (s.fn H (ds++[])).results []:=fun b sp hd=>by
  rw[hres,hr]
  exact trodAll_cons_mk (shut_bool hb _) trodAll_mk0
 have hU:∀sp:Nat->Bool,DataW.TrodVars enc P W' sp s.vars (s.fn H (ds++[])).vars []:=fun sp=>by
  rw[hv,hvars];rfl
 have hold:∀x∈p++[],(fun b=>decide (b<W.heap.size)) x.block=true:=fun x hx=>by simpa using hlt x hx
 refine⟨ds,[],p++[],[],p,[],hW0,hR _ _ _,hA' _ hold,hU _,World.keptBut_mono (fun x hx=>⟨hx,?_⟩) (hB.frame (·∈p++[])),fun _=>?_⟩
 ·exact Or.inr (by simpa using hx)
 ·refine⟨ok_one hr rfl (okWide_bool_mk hb _),_,_,([]++p)++[],⟨[]++p,[],trodAll_append (hA' _ (fun _ _=>rfl)) (hR _ _ _),hU _,rfl,?_,?_⟩,?_⟩
  ·intro b off hx;rw[hB.frozen (hlt _ (by simpa using hx))]
   exact hfz b off (by simpa using hx)
  ·intro ha;simpa using hnd ha
  ·intro x hx _;simpa using hx
end
end Go.Sl
end
