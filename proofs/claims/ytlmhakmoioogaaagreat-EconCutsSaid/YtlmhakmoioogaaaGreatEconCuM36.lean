/-
  Lists in ascending order of keys.
-/
import Derived.Test.YtlmhakmoioogaaaGreatEconCuM5
import Derived.Test.YtlmhakmoioogaaaGreatEconCuM7
import Derived.Test.YtlmhakmoioogaaaGreatEconCuM14
import Derived.Test.YtlmhakmoioogaaaGreatEconCuM35
import Derived.Test.YtlmhakmoioogaaaGreatProg
import Derived.Shelf.SlSortCmp.WholeK
import Derived.Shelf.SlicesG.Cmp
import Derived.Shelf.Small.Bits
import Derived.Ground.SlsfProg
import Derived.Ground.SlgcProg
import Derived.Ground.NamesProg
set_option maxHeartbeats 16000000
set_option maxRecDepth 100000
set_option linter.unusedSimpArgs false
set_option linter.unusedVariables false
section
namespace Go.Sl
section
variable{κ ν:Type}
structure Ordr(lt:κ->κ->Bool):Prop where
 irr:∀a,lt a a=false
 tr:∀a b c,lt a b=true->lt b c=true->lt a c=true
 tri:∀a b,lt a b=false->a≠b->lt b a=true
def Asc(lt:κ->κ->Bool)(l:List (κ×ν)):Prop:=l.Pairwise fun x y=>lt x.1 y.1=true
def plI(lt:κ->κ->Bool):List (κ×ν)->κ->Nat
 | [],_=>0
 | x::l,k=>if lt x.1 k=true then plI lt l k+1 else 0
def plB[DecidableEq κ](lt:κ->κ->Bool):List (κ×ν)->κ->Bool
 | [],_=>false
 | x::l,k=>if lt x.1 k=true then plB lt l k else decide (x.1=k)
def plS[DecidableEq κ](lt:κ->κ->Bool)(l:List (κ×ν))(k:κ)(v:ν):List (κ×ν):=l.take (plI lt l k)++(k,v)::l.drop (if plB lt l k=true then plI lt l k+1 else plI lt l k)
theorem Hc7(lt:κ->κ->Bool)(k:κ):∀l:List (κ×ν),plI lt l k<=l.length
 | []=>Nat.le_refl _
 | x::l=>by have:=Hc7 lt k l;rw[plI,jC];split <;> omega
theorem On7[DecidableEq κ](lt:κ->κ->Bool)(k:κ):∀l:List (κ×ν),plB lt l k=true->∃h:plI lt l k<l.length,l[plI lt l k].1=k
 | [],h=>by cases h
 | x::l,h=>by
  rw[plB]at h;by_cases hx:lt x.1 k=true
  ·rw[if_pos hx]at h;obtain⟨h1,h2⟩:=On7 lt k l h;have e:plI lt (x::l) k=plI lt l k+1:=by rw[plI,if_pos hx]
   refine⟨by rw[e,jC];omega,?_⟩;simp only[e,List.getElem_cons_succ];exact h2
  ·rw[if_neg hx]at h;have e:plI lt (x::l) k=0:=by rw[plI,if_neg hx]
   refine⟨by rw[e,jC];omega,?_⟩;simp only[e,List.getElem_cons_zero];simpa using h
variable{lt:κ->κ->Bool}{l:List (κ×ν)}{k:κ}{v:ν}
theorem AV7(ho:Ordr lt)(h:Asc lt l):(l.map (·.1)).Nodup:=by
 unfold Asc at h;refine List.pairwise_map.2 (h.imp fun{a b} hab e=>?_);rw[e,ho.irr]at hab
 cases hab
theorem HO7[DecidableEq κ](ho:Ordr lt)(h:Asc lt l):plB lt l k=(i9 l k).isSome:=by
 induction l with
 | nil=>rfl
 | cons x l ih=>
  unfold Asc at h;rw[List.pairwise_cons]at h;obtain⟨h1,h2⟩:=h;have e:i9 (x::l) k=if x.1=k then some x.2 else i9 l k:=by unfold i9;rw[List.find?_cons];by_cases hk:x.1=k <;> simp[hk]
  rw[plB,e];by_cases hx:lt x.1 k=true
  ·have hne:x.1≠k:=fun e=>by rw[e,ho.irr]at hx;cases hx
   rw[if_pos hx,if_neg hne];exact ih h2
  ·rw[if_neg hx];by_cases hk:x.1=k
   ·rw[if_pos hk];simp[hk]
   ·rw[if_neg hk];have h3:lt k x.1=true:=ho.tri _ _ (by simpa using hx) hk
    have h4:i9 l k=none:=by
     unfold i9;rw[Option.map_eq_none_iff,List.find?_eq_none];intro y hy;simp only[decide_eq_true_eq];intro e;have h5:=ho.tr _ _ _ h3 (h1 y hy);rw[e,ho.irr]at h5
     cases h5
    rw[h4];simp[hk]
theorem Oo7(ho:Ordr lt){l':List (κ×ν)}(h:Asc lt l)(h':Asc lt l')(hp:l.Perm l'):l=l':=by
 unfold Asc at h h'
 exact List.Perm.eq_of_pairwise (fun a b _ _ h1 h2=>by
  have:=ho.tr _ _ _ h1 h2;rw[ho.irr]at this
  cases this) h h' hp
theorem Gy7[DecidableEq κ](ho:Ordr lt):∀(l:List (κ×ν)) (k:κ),Asc lt l->(∀x∈l.take (plI lt l k),lt x.1 k=true)/\(∀y∈l.drop (if plB lt l k=true then plI lt l k+1 else plI lt l k),lt k y.1=true)
 | [],k,_=>⟨fun x hx=>(by simp at hx),fun y hy=>(by simp[plI,plB]at hy)⟩
 | z::l,k,h=>by
  unfold Asc at h;rw[List.pairwise_cons]at h;obtain⟨h1,h2⟩:=h;rw[plI,plB];by_cases hx:lt z.1 k=true
  ·rw[if_pos hx,if_pos hx];obtain⟨i1,i2⟩:=Gy7 ho l k h2;refine⟨?_,?_⟩
   ·intro x hx2;rw[List.take_succ_cons]at hx2
    rcases List.mem_cons.1 hx2 with rfl|hx2
    ·exact hx
    ·exact i1 x hx2
   ·intro y hy;refine i2 y ?_;split at hy
    ·rename_i h3
     rw[if_pos h3];simpa using hy
    ·rename_i h3
     rw[if_neg h3];simpa using hy
  ·rw[if_neg hx,if_neg hx];refine⟨fun x hx2=>(by simp at hx2),?_⟩;intro y hy;by_cases hk:z.1=k
   ·rw[if_pos (by simp[hk])]at hy;rw[<-hk];exact h1 y (by simpa using hy)
   ·rw[if_neg (by simp[hk])]at hy;have h3:lt k z.1=true:=ho.tri _ _ (by simpa using hx) hk;rcases List.mem_cons.1 (by simpa using hy)with rfl|hy
    ·exact h3
    ·exact ho.tr _ _ _ h3 (h1 y hy)
theorem DG7[DecidableEq κ](ho:Ordr lt)(h:Asc lt l):Asc lt (plS lt l k v):=by
 obtain⟨h1,h2⟩:=Gy7 ho l k h;unfold Asc at h ⊢;unfold plS;rw[List.pairwise_append,List.pairwise_cons];refine⟨h.sublist (List.take_sublist _ _),⟨h2,h.sublist (List.drop_sublist _ _)⟩,?_⟩;intro x hx y hy
 rcases List.mem_cons.1 hy with rfl|hy
 ·exact h1 x hx
 ·exact ho.tr _ _ _ (h1 x hx) (h2 y hy)
theorem Dx7[DecidableEq κ](ho:Ordr lt)(h:Asc lt l):(plS lt l k v).Perm ((k,v)::j6 l k):=by
 obtain⟨h1,h2⟩:=Gy7 ho l k h
 have e:j6 l k=l.take (plI lt l k)++l.drop (if plB lt l k=true then plI lt l k+1 else plI lt l k):=by
  have hl:l=l.take (plI lt l k)++l.drop (plI lt l k):=(List.take_append_drop _ _).symm;have hd:∀(t:List (κ×ν)),(∀x∈t,x.1≠k)->j6 t k=t:=fun t ht=>Bk7 ht
  have ha:∀(s t:List (κ×ν)),j6 (s++t) k=j6 s k++j6 t k:=fun s t=>by unfold j6;rw[List.filter_append]
  have ht1:j6 (l.take (plI lt l k)) k=l.take (plI lt l k):=hd _ fun x hx e=>by
   have:=h1 x hx;rw[e,ho.irr]at this
   cases this
  have ht2:∀y∈l.drop (if plB lt l k=true then plI lt l k+1 else plI lt l k),y.1≠k:=fun y hy e=>by
   have:=h2 y hy;rw[e,ho.irr]at this
   cases this
  by_cases hb:plB lt l k=true
  ·obtain⟨h3,h4⟩:=On7 lt k l hb;rw[if_pos hb]at ht2 ⊢
   conv=>lhs;rw[hl]
   rw[ha,ht1]
   congr 1
   rw[List.drop_eq_getElem_cons h3];have:j6 (l[plI lt l k]::l.drop (plI lt l k+1)) k=j6 (l.drop (plI lt l k+1)) k:=by unfold j6;rw[List.filter_cons,if_neg (by simp[h4])]
   rw[this,hd _ ht2]
  ·rw[if_neg hb]at ht2 ⊢
   conv=>lhs;rw[hl]
   rw[ha,ht1,hd _ ht2]
 rw[e];unfold plS;exact List.perm_middle
end
theorem BR7:Ordr (fun a b:Int=>decide (a<b)):=⟨fun a=>by simp,fun a b c h1 h2=>by simp at *;omega,fun a b h1 h2=>by simp at *;omega⟩
abbrev ltW(a b:Int×Int):Bool:=decide (a.1<b.1\/(a.1=b.1/\a.2<b.2))
theorem Au7:Ordr ltW:=⟨fun a=>by simp[ltW],fun a b c h1 h2=>by simp[ltW]at *;omega,fun a b h1 h2=>by obtain⟨a1,a2⟩:=a;obtain⟨b1,b2⟩:=b;simp only[ltW,ne_eq,Prod.mk.injEq,decide_eq_false_iff_not,decide_eq_true_eq]at *;omega⟩
end Go.Sl
end
section
namespace Go.Proofs.YtlmhakmoioogaaaGreat
open Go.RowKit Go.Sl
abbrev eWh(x:Int×Int):Value:=.agg #[.I x.1,.I x.2]
def whC(x:Int×Int):List Value:=[.I x.1,.I x.2]
theorem Cu7(x:Int×Int):(whC x).length=2:=rfl
theorem cG4(f:FuncId):Fence.wide.fn f:=trivial
theorem dy4(l:Nat)(f:FuncId):(Fence.wide.inRound l).fn f:=trivial
def KyR{ν:Type}(W:World)(ev:ν->Value)(X:List (Int×Int)->HP)(r b:Nat)(l:List ((Int×Int)×ν))(L:List HP)(w:World):Prop:=
 ∃(ss:List (Int×Int)) (todo:List ((Int×Int)×ν)),(ss++todo.map (·.1)).Perm (l.map (·.1))/\St W (itR eWh ev r b l todo::X ss::L) w
theorem PQ7{ν:Type}{ev:ν->Value}{m lp g b:Nat}{l:List ((Int×Int)×ν)}{X:List (Int×Int)->HP}{W w:World}{L:List HP}(hY:dk4 Tryz.prog eWh l.length lp W X)(hS:St W (X []::blk g [.map (some b)] 81::d8 eWh ev b l::L) w):
  CallsIn Fence.wide m Tryz.prog 110 #[.func (.yield lp) #[] #[],.P g] w fun e w'=>(∃v,e=.returned v)/\∃ss,ss.Perm (l.map (·.1))/\St W (X ss::blk g [.map (some b)] 81::d8 eWh ev b l::L) w':=by
 refine callsIn_of_wp Tryz.func110 rfl trivial ?_ rfl;simp only[Tryz.ntmps110,List.size_toArray,jC,List.length_nil,Nat.reduceAdd,Nat.reduceSub,Array.replicate_succ,Array.replicate_zero,List.push_toArray,List.append_toArray,jN,jK]
 gi_wp2_with (first|((with_reducible apply DF7 cG4 hS);rfl;rfl;rfl;decide +kernel;exact M7;go_frame)|(gi_at_range;refine EQ7 (ek:=eWh) (ev:=ev) hS rfl rfl rfl (show D6 Tryz.prog 81=some (94,40)by kernel_rfl) (by exact i6) ?_;clear hS;intro r w hS;go_frame)|gi_in)
 gi_loopw [] (fun wr=>KyR W ev X r b l (blk g [.map (some b)] 81::L) wr) (fun wr=>aq4 r b wr)
 case atStart=>exact⟨[],l,by simp,hS⟩
 case round=>
  clear hS;obtain⟨ss,todo,hp,hS⟩:=hrel;have hm:=An7 hS
  gi_wp2_with (first|(gi_at_next;refine Gu7 (ek:=eWh) (ev:=ev) hS rfl rfl rfl ?_ ?_)|gi_in)
  ·intro h0;subst h0
   gi_wp2
   go_end0;exact⟨⟨_,rfl⟩,ss,by simpa using hp,(bh4 hS).s _⟩
  ·intro y1 y2 yv todo' w2 hp2 hy hS2 hen;have hlen:=hp.length_eq;have hlen2:=hp2.length_eq;simp only[jA,jM,jC]at hlen hlen2;have hp3:(ss++[(y1,y2)]++todo'.map (·.1)).Perm (l.map (·.1)):=by rw[jS];refine List.Perm.trans ?_ hp;exact List.Perm.append_left ss (show((((y1,y2),yv)::todo').map (fun x=>x.1)).Perm (todo.map (fun x=>x.1))from(hp2.map (fun x=>x.1)).symm)
   clear hS hy hp hp2;have hS:=hS2;clear hS2
   gi_wp2_with (first|((with_reducible apply Gw7 cG4 hS);rfl;rfl;exact zsS;clear hS;intro bK w hS;go_frame)|((with_reducible apply Kj7 cG4 hS);rfl;rfl;rfl;(focus((conv=>lhs;whnf);try rfl));kernel_rfl;rfl;exact cS4;simp only[jC,List.length_nil];omega;((simp only[List.set_cons_zero,List.set_cons_succ,A9]);rfl);clear hS;intro w hS;go_frame)|((with_reducible apply Ki7 cG4 hS);rfl;rfl;rfl;decide +kernel;kernel_rfl;exact n9;go_frame)|((with_reducible apply Gx7 (k:=(y1,y2)) (pre:=ss) hY hS);rfl;rfl;rfl;rfl;omega;exact i6;clear hS;intro w hS;go_frame)|gi_in)
   go_roundw
   case rel=>exact⟨ss++[(y1,y2)],todo',hp3,hS.s _⟩
   case measure=>
    have hm2:=An7 (hS.s (itR eWh ev r b l todo'::X (ss++[(y1,y2)])::blk g [.map (some b)] 81::L));omega
def apI(bB:Nat)(ss:List (Int×Int)):HP:=fun f=>∃v,sep (blk bB [v] 91) (row v 2 94 ss.length (ss.flatMap whC)) f
theorem eX4{gf:Nat}{lb:Array Value}{S:List (Int×Int)->Prop}{N:Nat}{W w:World}{R:List HP}(hN:N<=1000000000)(hseq0:cd4 Tryz.prog eWh N gf lb S W R)(eg:∀args w,(callFunc gf args).run Tryz.prog w=.ok (.enter gf args) w)(hS:St W R w):
  Calls Tryz.prog 175 #[.slice none 0 0,.func (.func gf) #[] lb] w fun e w'=>∃v ss,e=.returned v/\S ss/\St W (row v 2 94 ss.length (ss.flatMap whC)::R) w':=by
 refine(callsIn_wide (n:=5)).1 ?_;refine callsIn_of_wp_marks Tryz.func175 rfl trivial ?_ rfl;simp only[Tryz.ntmps175,List.size_toArray,jC,List.length_nil,Nat.reduceAdd,Nat.reduceSub,Array.replicate_succ,Array.replicate_zero,List.push_toArray,List.append_toArray,jN,jK]
 gi_wp2_with (first|((with_reducible apply Ol7 cG4 hS);rfl;rfl;rfl;rfl;clear hS;intro bB w hS;go_frame)|gi_in)
 have h0:St W (apI bB []::R) w:=St.mkEx (.slice none 0 0) (St.join (St.swap (hS.rowNil (k:=2) (T:=94))));clear hS;refine eB4 rfl eg hseq0 h0 ?_ ?_
 ·clear hseq0 h0 eg;intro l m pre x L w hlt hS0;obtain⟨v,hS1⟩:=St.ex hS0;have hS:=St.split hS1;clear hS0 hS1;obtain⟨x1,x2⟩:=x;simp only[fA,fB,fC,Nat.reduceAdd]
  gi_wp2_with (first|((with_reducible apply Gw7 (dy4 _) hS);rfl;rfl;exact zsS;clear hS;intro bK w hS;go_frame)|((with_reducible apply Kj7 (dy4 _) hS);rfl;rfl;rfl;(focus((conv=>lhs;whnf);try rfl));kernel_rfl;rfl;exact cS4;simp only[jC,List.length_nil];omega;((simp only[List.set_cons_zero,List.set_cons_succ,A9]);rfl);clear hS;intro w hS;go_frame)|gi_in)
  refine⟨_,St.join (St.join hS),?_⟩;clear hS;intro L2 w2 hS2;have hS:=St.split (St.split hS2);clear hS2
  gi_wp2_with (first|((with_reducible apply DF7 (dy4 _) hS);rfl;rfl;rfl;decide +kernel;exact M7;go_frame)|((with_reducible apply Ki7 (dy4 _) hS);rfl;rfl;rfl;decide +kernel;kernel_rfl;exact n9;go_frame)|((with_reducible apply QU7 (dy4 _) hS);rfl;rfl;(focus(simp only[fD,fI,fJ,Act.eval,fE,fF,fG,fH,fK];try rfl));exact esS;exact rsS;rfl;rfl;rfl;rfl;clear hS;intro bS w hS;go_frame)|((with_reducible apply Hb7 hS);rfl;rfl;rfl;rfl;exact esS;exact rsS;rfl;decide;exact i6;exact(Src.mk i5.whole).at hS;rfl;rfl;unfold maxLen;omega;omega;clear hS;intro v w hS;(have hv:=hS.rowVal;obtain⟨va,vc,rfl⟩:=hv);go_frame)|((with_reducible apply Om7 (dy4 _) hS);rfl;rfl;rfl;(focus((conv=>lhs;whnf);try rfl));kernel_rfl;rfl;rfl;exact cS4;simp only[jC,List.length_nil];omega;((simp only[List.set_cons_zero,List.set_cons_succ,A9]);rfl);clear hS;intro w hS;go_frame)|gi_in)
  have e1:(pre++[(x1,x2)]).length=pre.length+1:=by simp
  have e2:(pre++[(x1,x2)]).flatMap whC=pre.flatMap whC++[.I x1,.I x2]:=by rw[List.flatMap_append];rfl
  have hS1:=hS.s (blk bB [_] _::row _ 2 _ _ _::L2);have hS2:St W (blk bB [.slice va (pre.length+1) vc] 91::row (.slice va (pre.length+1) vc) 2 94 (pre.length+1) (pre.flatMap whC++[.I x1,.I x2])::L2) w:=hS1;rw[<-e2]at hS2;rw[<-e1]at hS2;exact St.mkEx _ (St.join hS2)
 ·clear hseq0 h0 eg;intro D ss w hs hS0;obtain⟨v,hS1⟩:=St.ex hS0;have hS:=St.split hS1;clear hS0 hS1;have hK:=hS.get (b:=D) (.tail (.tail .head))
  gi_wp2_with (first|((with_reducible apply DF7 cG4 hS);rfl;rfl;rfl;decide +kernel;exact M7;go_frame)|gi_in)
  refine⟨by simp,.inl ⟨_,_,rfl,run_takeDeferred hK,?_⟩⟩;have hS2:=(hS.s (aj4 D (.deferred (some []))::row v 2 94 ss.length (ss.flatMap whC)::R)).putObj (.deferred none);exact⟨_,results_tmp rfl _ _ _,v,ss,rfl,hs,hS2.drop⟩
end Go.Proofs.YtlmhakmoioogaaaGreat
end
section
namespace Go.Proofs.YtlmhakmoioogaaaGreat
open Go.Shelf
def Tryz.sortWh_ren:Go.Shelf.Ren:=⟨fun|6=>109|15=>177|14=>176|28=>224|29=>225|20=>216|21=>217|22=>218|23=>219|24=>220|25=>221|26=>222|27=>223|46=>251|47=>252|48=>253|49=>254|50=>255|57=>272|n=>n,fun|22=>91|24=>94|25=>98|3=>3|39=>195|0=>0|53=>295|55=>194|4=>4|46=>289|45=>288|50=>134|5=>5|9=>9|66=>318|70=>262|76=>332|77=>181|n=>n,fun|n=>n⟩
theorem Tryz.sortWh:Go.Proofs.SlLaysF0.n6 Tryz.prog Tryz.sortWh_ren:={
 mixed:=by kernel_rfl
 f6:=⟨Tryz.f109.name,by decide,Tryz.func109.trans (congrArg some (by kernel_rfl))⟩
 f14:=⟨Tryz.f176.name,by decide,Tryz.func176.trans (congrArg some (by kernel_rfl))⟩
 f15:=Tryz.func177.trans (congrArg some (by kernel_rfl))
 f20:=⟨Tryz.f216.name,by decide,Tryz.func216.trans (congrArg some (by kernel_rfl))⟩
 f21:=⟨Tryz.f217.name,by decide,Tryz.func217.trans (congrArg some (by kernel_rfl))⟩
 f22:=⟨Tryz.f218.name,by decide,Tryz.func218.trans (congrArg some (by kernel_rfl))⟩
 f23:=⟨Tryz.f219.name,by decide,Tryz.func219.trans (congrArg some (by kernel_rfl))⟩
 f24:=⟨Tryz.f220.name,by decide,Tryz.func220.trans (congrArg some (by kernel_rfl))⟩
 f25:=⟨Tryz.f221.name,by decide,Tryz.func221.trans (congrArg some (by kernel_rfl))⟩
 f26:=⟨Tryz.f222.name,by decide,Tryz.func222.trans (congrArg some (by kernel_rfl))⟩
 f27:=⟨Tryz.f223.name,by decide,Tryz.func223.trans (congrArg some (by kernel_rfl))⟩
 f28:=Tryz.func224.trans (congrArg some (by kernel_rfl))
 f29:=Tryz.func225.trans (congrArg some (by kernel_rfl))
 f46:=⟨Tryz.f251.name,by decide,Tryz.func251.trans (congrArg some (by kernel_rfl))⟩
 f47:=Tryz.func252.trans (congrArg some (by kernel_rfl))
 f48:=Tryz.func253.trans (congrArg some (by kernel_rfl))
 f49:=⟨Tryz.f254.name,by decide,Tryz.func254.trans (congrArg some (by kernel_rfl))⟩
 f50:=⟨Tryz.f255.name,by decide,Tryz.func255.trans (congrArg some (by kernel_rfl))⟩
 f57:=⟨Tryz.f272.name,by decide,Tryz.func272.trans (congrArg some (by kernel_rfl))⟩
 t0:=Tryz.underlying0
 a0:=Tryz.isAgg0
 z0:=Tryz.sizeOf0
 v0:=Tryz.zeroValue0
 t3:=Tryz.underlying3
 a3:=Tryz.isAgg3
 z3:=Tryz.sizeOf3
 v3:=Tryz.zeroValue3
 t4:=Tryz.underlying4
 a4:=Tryz.isAgg4
 z4:=Tryz.sizeOf4
 v4:=Tryz.zeroValue4
 t5:=Tryz.underlying5
 a5:=Tryz.isAgg5
 z5:=Tryz.sizeOf5
 v5:=Tryz.zeroValue5
 t9:=Tryz.underlying9
 a9:=Tryz.isAgg9
 z9:=Tryz.sizeOf9
 v9:=Tryz.zeroValue9
 t22:=Tryz.underlying91
 a22:=Tryz.isAgg91
 z22:=Tryz.sizeOf91
 v22:=Tryz.zeroValue91
 t25:=Tryz.underlying98
 a25:=Tryz.isAgg98
 z25:=Tryz.sizeOf98
 v25:=Tryz.zeroValue98
 t39:=Tryz.underlying195
 a39:=Tryz.isAgg195
 z39:=Tryz.sizeOf195
 v39:=Tryz.zeroValue195
 t45:=Tryz.underlying288
 a45:=Tryz.isAgg288
 z45:=Tryz.sizeOf288
 v45:=Tryz.zeroValue288
 t46:=Tryz.underlying289
 a46:=Tryz.isAgg289
 z46:=Tryz.sizeOf289
 v46:=Tryz.zeroValue289
 t50:=Tryz.underlying134
 a50:=Tryz.isAgg134
 z50:=Tryz.sizeOf134
 v50:=Tryz.zeroValue134
 t53:=Tryz.underlying295
 a53:=Tryz.isAgg295
 z53:=Tryz.sizeOf295
 v53:=Tryz.zeroValue295
 t55:=Tryz.underlying194
 a55:=Tryz.isAgg194
 z55:=Tryz.sizeOf194
 v55:=Tryz.zeroValue194
 t66:=Tryz.underlying318
 a66:=Tryz.isAgg318
 z66:=Tryz.sizeOf318
 v66:=Tryz.zeroValue318
 t70:=Tryz.underlying262
 a70:=Tryz.isAgg262
 z70:=Tryz.sizeOf262
 v70:=Tryz.zeroValue262
 t76:=Tryz.underlying332
 a76:=Tryz.isAgg332
 z76:=Tryz.sizeOf332
 v76:=Tryz.zeroValue332
 t77:=Tryz.underlying181
 a77:=Tryz.isAgg181
 z77:=Tryz.sizeOf181
 v77:=Tryz.zeroValue181 }
def Tryz.cmpIntW_ren:Go.Shelf.Ren:=⟨fun|5=>112|7=>178|n=>n,fun|22=>3|3=>3|4=>4|n=>n,fun|n=>n⟩
theorem Tryz.cmpIntW:Go.Proofs.SlLaysC2.n5 Tryz.prog Tryz.cmpIntW_ren:={
 mixed:=by kernel_rfl
 f5:=⟨Tryz.f112.name,by decide,Tryz.func112.trans (congrArg some (by kernel_rfl))⟩
 f7:=⟨Tryz.f178.name,by decide,Tryz.func178.trans (congrArg some (by kernel_rfl))⟩
 t3:=Tryz.underlying3
 a3:=Tryz.isAgg3
 z3:=Tryz.sizeOf3
 v3:=Tryz.zeroValue3
 t4:=Tryz.underlying4
 a4:=Tryz.isAgg4
 z4:=Tryz.sizeOf4
 v4:=Tryz.zeroValue4
 t22:=Tryz.underlying3
 a22:=Tryz.isAgg3
 z22:=Tryz.sizeOf3
 v22:=Tryz.zeroValue3 }
def Tryz.bitsLenW_ren:Go.Shelf.Ren:=⟨fun|125=>177|128=>224|129=>225|n=>n,fun|46=>195|3=>3|51=>295|53=>194|4=>4|5=>5|9=>9|n=>n,fun|n=>n⟩
theorem Tryz.bitsLenW:Go.Proofs.Lays.n125 Tryz.prog Tryz.bitsLenW_ren:={
 mixed:=by kernel_rfl
 f125:=Tryz.func177.trans (congrArg some (by kernel_rfl))
 f128:=Tryz.func224.trans (congrArg some (by kernel_rfl))
 f129:=Tryz.func225.trans (congrArg some (by kernel_rfl))
 t3:=Tryz.underlying3
 a3:=Tryz.isAgg3
 z3:=Tryz.sizeOf3
 v3:=Tryz.zeroValue3
 t4:=Tryz.underlying4
 a4:=Tryz.isAgg4
 z4:=Tryz.sizeOf4
 v4:=Tryz.zeroValue4
 t5:=Tryz.underlying5
 a5:=Tryz.isAgg5
 z5:=Tryz.sizeOf5
 v5:=Tryz.zeroValue5
 t9:=Tryz.underlying9
 a9:=Tryz.isAgg9
 z9:=Tryz.sizeOf9
 v9:=Tryz.zeroValue9
 t46:=Tryz.underlying195
 a46:=Tryz.isAgg195
 z46:=Tryz.sizeOf195
 v46:=Tryz.zeroValue195
 t51:=Tryz.underlying295
 a51:=Tryz.isAgg295
 z51:=Tryz.sizeOf295
 v51:=Tryz.zeroValue295
 t53:=Tryz.underlying194
 a53:=Tryz.isAgg194
 z53:=Tryz.sizeOf194
 v53:=Tryz.zeroValue194 }
end Go.Proofs.YtlmhakmoioogaaaGreat
end
section
namespace Go.Sl
open Go.RowKit Go.Sort
section
variable{P:Program}{ops:Array Oper}{w1:World}
theorem Gz7{id:Nat}{Q:Exit->Act->World->Prop}{a:Act}{w:World}{l:List Oper}(n:Nat)(hm:P.follows .mixedOrders=true)(hB:Region.lexTailB .any l.toArray n=true)
  (h:wpQuiet P l.toArray (fun w'=>w'=w.drewN 1) (fun a'=>wpList P l.toArray Q (l.drop n) a' (w.drewN 1)) (l.take n) a):(Code.region id l.toArray true).wp P Q a w:=by
 simp only[Region.lexTailB,jB,decide_eq_true_eq]at hB;obtain⟨⟨⟨⟨hsel,hn⟩,hs⟩,hc⟩,hlex⟩:=hB;have htl:(l.take n).length=n:=by simp at hn ⊢;omega
 have hdl:(l.drop n).length=l.toArray.size-n:=by simp
 have inv0:HeadInv .any l.toArray n (Array.replicate l.toArray.size false):=
  ⟨by simp,fun j oj _ hl=>(by rw[getD_replicate_false]at hl;cases hl),fun t _ ht=>getD_in (by simpa using ht) (getD_replicate_false _ _)⟩
 have H:=MP7 (md:=.any) (g:=l.toArray.size-n) hsel hs hc hn (l.take n) 0 _ a (fun j hj=>by
  have hj':j<n:=by rw[htl]at hj;exact hj
  simp[hj']) (by simpa using htl) inv0 (by rw[htl];exact hlex) h
 refine wp_region_any hm ?_;have:=FL7 (P:=P) (md:=.any) (ops:=l.toArray) (C:=fun w'=>w'=w.drewN 1) (n:=n) (T:=fun listed' a'=>Region.seqB .any l.toArray (l.toArray.size-n) n listed'=true/\wpList P l.toArray Q (l.drop n) a' (w.drewN 1)) (Q:=Q) (g:=l.toArray.size-n) (fun listed a' w' hC hL=>by subst hC;have:=wpAny_of_seq (md:=.any) (Q':=Q) (l.drop n) n listed a' (w.drewN 1) (fun j=>by simp[List.getElem?_drop]) (by rw[hdl];exact hL.1) hL.2;rwa [hdl]at this) _ _ _ (w.drewN 1) rfl H;rw[htl]at this;rwa [show n+(l.toArray.size-n)=l.toArray.size by omega]at this
variable{Q:Act->Prop}{a:Act}{o:Oper}{rest:List Oper}
theorem RL7{v:Value}(hg:Region.wanted o (yielded ops a.tmps)=true)(hv:(execOp a.eval o).run P w1=.ok (.value v) w1)(h:wpQuiet P ops (fun w'=>w'=w1) Q rest (a.put o.dst v)):wpQuiet P ops (fun w'=>w'=w1) Q (o::rest) a:=
 wpQuiet_step fun K hK=>by rw[if_pos hg];exact⟨v,fun w hw=>by subst hw;unfold Oper.quietAt;rw[hv];exact⟨rfl,rfl⟩,hK _ h⟩
theorem FC7(hg:Region.wanted o (yielded ops a.tmps)=true)(hc:aQ4 o.op=false)(h:∀K:Act->Prop,(∀a,wpQuiet P ops (fun w'=>w'=w1) Q rest a->K a)->o.quiet P a (fun _=>True) K):wpQuiet P ops (fun w'=>w'=w1) Q (o::rest) a:=by
 obtain⟨v,h1,h2⟩:=h _ fun _ h=>h
 refine wpQuiet_step fun K hK=>?_
 rw[if_pos hg];refine⟨v,fun w _=>?_,hK _ h2⟩;have:=h1 w trivial;unfold Oper.quietAt at this ⊢;generalize hr:(execOp a.eval o).run P w=r at this
 cases r with
 | ok n w'=>cases n <;> first | exact this | exact(FN7 hc hr).elim
 | halt x w'=>exact this
theorem HP7{t:TypeId}{x:Operand}{b off:Nat}{v:Value}{W:World}{L:List HP}(hS:St W L w1)(ho:o.op=.load t x)(hg:Region.wanted o (yielded ops a.tmps)=true)(hx:a.eval x=.pointer (some ⟨b,off,none⟩))(ht:L5 P t=some false)(hc:i8 L b off v)
  (h:wpQuiet P ops (fun w'=>w'=w1) Q rest (a.put o.dst v)):wpQuiet P ops (fun w'=>w'=w1) Q (o::rest) a:=
 RL7 hg (DL7 hS ho hx ht hc) h
theorem Ls7{f:FuncId}{args:Array Value}{v:Value}(hg:Region.wanted o (yielded ops a.tmps)=true)(hr:∀w,(execOp a.eval o).run P w=.ok (.enter f args) w)
  (hc:Calls P f args w1 fun e w'=>e=.returned v/\w'=w1) (h:wpQuiet P ops (fun w'=>w'=w1) Q rest (a.put o.dst v)):wpQuiet P ops (fun w'=>w'=w1) Q (o::rest) a:=
 wpQuiet_step fun K hK=>by rw[if_pos hg];exact⟨v,fun w hw=>by subst hw;unfold Oper.quietAt;rw[hr w];exact⟨rfl,hc⟩,hK _ h⟩
end
end Go.Sl
namespace Go.Proofs.YtlmhakmoioogaaaGreat
open Go.Shelf Go.RowKit Go.Lib Go.Sort Go.Sl
instance : Inhabited (Int × Int) := ⟨(0,0)⟩
def dO4(x y:Int×Int):Int:=if Lib.compareInt x.1 y.1≠0 then Lib.compareInt x.1 y.1 else Lib.compareInt x.2 y.2
theorem eY4(x y:Int×Int):ltOf dO4 x y=ltW x y:=by
 unfold ltOf dO4 Lib.compareInt ltW;by_cases h1:x.1<y.1
 ·simp[h1]
 ·by_cases h2:y.1<x.1
  ·have:x.1≠y.1:=by omega
   simp[h1,h2,this]
  ·have h3:x.1=y.1:=by omega
   by_cases h4:x.2<y.2
   ·simp[h1,h2,h3,h4]
   ·by_cases h5:y.2<x.2 <;> simp[h1,h2,h3,h4,h5]
theorem hx4:SWO (ltOf dO4) where
 irrefl x:=by rw[eY4];exact Au7.irr x
 trans x y z h1 h2:=by rw[eY4]at *;exact Au7.tr x y z h1 h2
 ntrans x y z h1 h2:=by rw[eY4]at *;simp[ltW]at *;omega
theorem orW{a b r:Int}(hr:(if a≠0 then a else b)=r)(g:Nat)(W:World)(h0:W.cell? ⟨g,0,none⟩=some (.I a))(h1:W.cell? ⟨g,1,none⟩=some (.I b)):
  Calls Tryz.prog 111 #[.S g 2 2] W fun e w'=>e=.returned (.I r)/\w'=W:=by
 have Hr:=jH hr;clear hr;go_enter Tryz.func111,Tryz.ntmps111;go_wp2_with fail
 go_loopw [8] (fun v8 wr=>∃i:Nat,v8=.I i/\i<=2/\wr=W/\(1<=i->a=0)/\(2<=i->b=0)) (fun v8 _=>2-(intOf v8).toNat)
 case atStart=>exact⟨0,rfl,by omega,rfl,fun h=>by omega,fun h=>by omega⟩
 case round=>
  obtain⟨i,rfl,hi,rfl,ha,hb⟩:=hrel;have hc:i=0\/i=1\/i=2:=by omega
  rcases hc with rfl|rfl|rfl
  ·clear ha hb hi;by_cases h:a=0
   ·have e:(a==0)=true:=by simpa using h
    have H:=jH h;clear h;go_wp2_with fail;go_roundw
    case rel=>exact⟨1,by simp,by omega,by simp,fun _=>H.out,fun h=>by omega⟩
    case measure=>simp[intOf]
   ·have e:(a==0)=false:=by simpa using h
    have H:=jH (show r=a by rw[<-Hr.out,if_pos h]);clear h;go_wp2_with fail;go_ret
    first
     | exact⟨rfl,rfl⟩
     | (rw[H.out];exact⟨rfl,rfl⟩)
  ·have h0':=ha (by omega);have H0:=jH (show r=b by rw[<-Hr.out,if_neg (by simp[h0'])]);have Ha:=jH h0';clear ha hb hi h0';by_cases h:b=0
   ·have e:(b==0)=true:=by simpa using h
    have H:=jH h;clear h;go_wp2_with fail;go_roundw
    case rel=>exact⟨2,by simp,by omega,by simp,fun _=>Ha.out,fun _=>H.out⟩
    case measure=>simp[intOf]
   ·have e:(b==0)=false:=by simpa using h
    clear h;go_wp2_with fail;go_ret
    first
     | exact⟨rfl,rfl⟩
     | (rw[H0.out];exact⟨rfl,rfl⟩)
  ·have H0:=jH (show r=0 by rw[<-Hr.out,ha (by omega),hb (by omega)];simp);clear ha hb hi;go_wp2_with fail;go_ret
   first
    | exact⟨rfl,rfl⟩
    | (rw[H0.out];exact⟨rfl,rfl⟩)
theorem eC4(x y:Int×Int)(W:World):Calls Tryz.prog 46 #[.agg #[.I x.1,.I x.2],.agg #[.I y.1,.I y.2]] W fun e w'=>e=.returned (.I (dO4 x y))/\∃q os',w'=grow (W.drewN q) os':=by
 obtain⟨x1,x2⟩:=x;obtain⟨y1,y2⟩:=y;have hS:=((St.start W).alloc (.cells #[.I x1,.I x2] 94)).alloc (.cells #[.I y1,.I y2] 94);simp only[World.size_alloc]at hS;generalize hr:dO4 (x1,x2) (y1,y2)=r;have Hr:=jH hr;clear hr;have hcon:=fun x y W'=>AnyG.cmp_Compare_int Tryz.cmpIntW x y W'
 change ∀x y W',Calls Tryz.prog 112 _ _ _ at hcon;go_enter Tryz.func46,Tryz.ntmps46;go_wp2_with fail;refine Gz7 10 (by kernel_rfl) (by kernel_rfl) ?_;have hS2:=hS.drawn (W.drawn+1);refine FC7 rfl rfl ?_;intro K hK;go_big_quiet_op;go_big_quiet_on;apply HP7 hS2;rfl;rfl;rfl;decide +kernel;(exact M7);(refine frS ?_);refine FC7 rfl rfl ?_;intro K hK;go_big_quiet_op;go_big_quiet_on;apply HP7 hS2;rfl;rfl;rfl;decide +kernel;(exact M7);(refine frS ?_);apply Ls7;rfl;(intro w;apply Ag7;rfl;decide +kernel;(focus(simp only[fD,fI,fJ,Act.eval,fE,fF,fG,fH,fK];try rfl)));exact hcon _ _ _;(refine frS ?_);refine FC7 rfl rfl ?_;intro K hK;go_big_quiet_op;go_big_quiet_on;apply HP7 hS2;rfl;rfl;rfl;decide +kernel;(exact M7);(refine frS ?_);refine FC7 rfl rfl ?_;intro K hK;go_big_quiet_op;go_big_quiet_on;apply HP7 hS2;rfl;rfl;rfl;decide +kernel;(exact M7);(refine frS ?_);apply Ls7;rfl;(intro w;apply Ag7;rfl;decide +kernel;(focus(simp only[fD,fI,fJ,Act.eval,fE,fF,fG,fH,fK];try rfl)));exact hcon _ _ _;(refine frS ?_);refine wpQuiet_nil ?_;clear hS2 hS;go_wp2_with fail;refine(orW (show(if Lib.compareInt x1 y1≠0 then Lib.compareInt x1 y1 else Lib.compareInt x2 y2)=r from Hr.out) _ _ ((World.cell?_alloc_at _ _ _ 0 (by simp[World.drewN])).trans rfl) ((World.cell?_alloc_at _ _ _ 1 (by simp[World.drewN])).trans rfl)).mono ?_;rintro e w' ⟨rfl,rfl⟩;go_wp2_with fail;go_ret;exact⟨rfl,1, #[_,_,_],rfl⟩
theorem eD4(blk off size:Nat)(w:World):CmpLays Tryz.prog 46 #[] whC 2 dO4 blk off size w:=fun _ _ _ _ x y=>eC4 x y _
theorem ER7(l:List (Int×Int))(junk:List Value)(j:Nat)(hj:j<l.length*2):(l.flatMap whC++junk)[j]? = some ((flatK whC 2 l.toArray)[j]!):=by
 rw[get_flatK _ _ _ _ (by simpa using hj)];have hq:j / 2<l.length:=by omega
 have h1:=CH7 Cu7 l junk (j / 2) hq (j%2) (by omega);rw[show j / 2*2+j%2=j by omega]at h1;rw[h1];have h2:l.toArray[j / 2]! = l[j / 2]:=by simp[hq]
 rw[h2,jG (by rw[Cu7];omega)];rw[getElem!_pos _ _ (by rw[Cu7];omega)]
theorem Op7(l:List (Int×Int))(g cap:Nat)(junk:List Value)(h62:l.length<4611686018427387904)(W w:World)(L:List HP)(hS:St W (blk g (l.flatMap whC++junk) 94::L) w):
  Calls Tryz.prog 109 #[.S g l.length cap,.func (.func 46) #[] #[]] w fun e w'=> e=.returned (.tuple #[])/\∃l':List (Int×Int),l'.Perm l/\l'.Pairwise (fun x y=>ltW y x=false)/\St W (blk g (l'.flatMap whC++junk) 94::L) w':=by
 have eg:∀args w,(callFunc 46 args).run Tryz.prog w=.ok (.enter 46 args) w:=enters_of Tryz.func46 (by kernel_rfl) rfl;have hgt:=hS.get (b:=g) .head;have hblk:g<w.heap.size:=(Array.getElem?_eq_some_iff.1 hgt).1;have hH:HoldsK whC 2 w g 0 l.toArray:=by intro j hj;rw[size_flatK]at hj;refine⟨hS.cell .head ?_,hS.free .head⟩;rw[Nat.zero_add];exact ER7 l junk j (by simpa using hj)
 have hcon:=AnyQ.slices_SortFunc Tryz.sortWh 2 Tryz.isAgg94 Tryz.sizeOf94 whC Cu7 (fun x v hv=>by simp[whC]at hv;rcases hv with rfl|rfl <;> rfl) dO4 hx4 46 #[] g 0 cap l.toArray w eg (eD4 g 0 l.toArray.size w) hH hblk (by simpa using h62);change Calls Tryz.prog 109 _ _ _ at hcon;simp only[List.size_toArray]at hcon;refine hcon.mono ?_;rintro e w' ⟨rfl,d',n,os,⟨hp1,_,hp3⟩,hs,rfl⟩;refine⟨rfl,d'.toList,?_,?_,?_⟩
 ·have e1:d'.extract 0 l.length=d':=by
   have:l.length=d'.size:=by rw[hp1];simp
   rw[this,Array.extract_size]
  have e2:l.toArray.extract 0 l.length=l.toArray:=by
   have:l.length=l.toArray.size:=by simp
   rw[this,Array.extract_size]
  rw[e1,e2]at hp3;exact hp3
 ·rw[List.pairwise_iff_getElem];intro i j hi hj hij;have:=hs i j (Nat.zero_le _) hij (by simp at hj;rw[hp1]at hj;simpa using hj);rw[eY4]at this;have hi':i<d'.size:=by simpa using hi
  have hj':j<d'.size:=by simpa using hj
  rw[getElem!_pos d' i hi',getElem!_pos d' j hj']at this;simp only[Array.getElem_toList];exact this
 ·unfold sortWorldK;refine St.grow ?_ os;have hSd:St W (blk g (l.flatMap whC++junk) 94::L) (Sort.ahead w n):=⟨hS.os,hS.tape,hS.output,hS.sat⟩
  refine hSd.putO (w':=putRowK whC 2 (Sort.ahead w n) g 0 d') (o':=.cells (d'.toList.flatMap whC++junk).toArray 94 (0,0)) .head rfl rfl rfl fun k=>?_
  show((Sort.ahead w n).heap.modify g _)[k]? = _
  rw[Array.getElem?_modify];by_cases hk:k=g
  ·subst hk;rw[if_pos rfl,if_pos rfl];have hgt':(Sort.ahead w n).heap[k]? = some (.cells (l.flatMap whC++junk).toArray 94 (0,0)):=hgt;rw[hgt'];simp only[Option.map_some,Sort.onCells]
   congr 2
   have hdl:d'.toList.length=l.length:=by rw[Array.length_toList,hp1];simp
   have hf1:=Ab7 Cu7 l;have hf2:=Ab7 Cu7 d'.toList;apply Array.ext_getElem?;intro t;unfold Sort.putCells;simp only[Array.getElem?_mapIdx,List.getElem?_toArray,size_flatK,Nat.zero_le,true_and,Nat.zero_add,Nat.sub_zero,id];have hds:d'.size=l.length:=by rw[hp1];simp
   by_cases ht:t<l.length*2
   ·have h1:=ER7 d'.toList junk t (by rw[hdl];exact ht);rw[h1,ER7 l junk t ht];simp[hds,ht]
   ·have h2:(l.flatMap whC++junk)[t]? = (d'.toList.flatMap whC++junk)[t]? := by
     rw[List.getElem?_append_right (by omega),List.getElem?_append_right (by omega),hf1,hf2,hdl]
    rw[<-h2];simp[hds,ht]
  ·rw[if_neg (fun h=>hk h.symm),if_neg hk]
theorem Kk7(f:Value)(W w:World)(L:List HP)(hS:St W L w):
  Calls Tryz.prog 216 #[.slice none 0 0,.I 0,.I 0,f] w fun e w'=>e=.returned (.tuple #[])/\St W L w':=by
 go_enter Tryz.func216,Tryz.ntmps216;go_wp2_with fail
 go_loopw [8] (fun v wr=>v=.I 1/\St W L wr) (fun _ _=>0)
 case atStart=>exact⟨rfl,hS⟩
 case round=>
  clear hS;obtain⟨rfl,hS⟩:=hrel;go_wp2_with fail;go_end0;exact⟨rfl,hS⟩
theorem PR7(n:Int)(f:Value)(W w:World)(L:List HP)(hS:St W L w):
  Calls Tryz.prog 176 #[.slice none 0 0,.I 0,.I 0,.I n,f] w fun e w'=>e=.returned (.tuple #[])/\St W L w':=by
 go_enter Tryz.func176,Tryz.ntmps176;go_wp2_with fail
 go_loopw [1,2] (fun v1 v2 wr=>v1=.I 0/\v2=.I 0/\St W L wr) (fun _ _ _=>0)
 case atStart=>exact⟨rfl,rfl,hS⟩
 case round=>
  clear hS;obtain⟨rfl,rfl,hS⟩:=hrel;go_wp2_with(first|go_at_call 216;refine(Kk7 _ W _ _ hS).mono ?_;clear hS;rintro e w ⟨rfl,hS⟩);refine bodyPost_ret (results_none rfl _ _ _) rfl ?_;exact⟨rfl,hS⟩
theorem Oq7(f:Value)(W w:World)(L:List HP)(hS:St W L w):
  Calls Tryz.prog 109 #[.slice none 0 0,f] w fun e w'=>e=.returned (.tuple #[])/\St W L w':=by
 have hl:∀w:World,Calls Tryz.prog 177 #[.int .u64 0] w fun e w'=>(∃l:Int,e=.returned (.I l))/\w'=w:=fun w=>
  (Any.bits_Len Tryz.bitsLenW 0 w (by omega) (by omega)).mono fun _ _ ⟨he,hw⟩=>⟨⟨_,he⟩,hw⟩
 go_enter Tryz.func109,Tryz.ntmps109;go_wp2_with(first|go_at_call 177;refine(hl _).mono ?_;rintro e w ⟨⟨l,rfl⟩,rfl⟩|go_at_call 176;refine(PR7 _ _ W _ _ hS).mono ?_;clear hS;rintro e w ⟨rfl,hS⟩);go_end0;exact⟨rfl,hS⟩
theorem eE4{gf:Nat}{lb:Array Value}{S:List (Int×Int)->Prop}{N:Nat}{W w:World}{R:List HP}(hN:N<=1000000000)(hseq:cd4 Tryz.prog eWh N gf lb S W R)(eg:∀args w,(callFunc gf args).run Tryz.prog w=.ok (.enter gf args) w)(hS:St W R w):
  Calls Tryz.prog 108 #[.func (.func gf) #[] lb] w fun e w'=>∃v ss,e=.returned v/\S ss/\St W (row v 2 94 ss.length (ss.flatMap whC)::R) w':=by
 go_enter Tryz.func108,Tryz.ntmps108;go_wp2_with(go_at_call 175;refine(eX4 hN hseq eg hS).mono ?_;clear hS;rintro e w ⟨v,ss,rfl,hs,hS⟩);go_ret;exact⟨v,ss,rfl,hs,hS⟩
theorem eZ4{l:List (Int×Int)}(hn:l.Nodup)(h:l.Pairwise fun x y=>ltW y x=false):l.Pairwise fun x y=>ltW x y=true:=by refine List.Pairwise.imp_of_mem ?_ (hn.and h);rintro a b _ _ ⟨h1,h2⟩;exact Au7.tri b a h2 fun e=>h1 e.symm
theorem dW4{gf:Nat}{lb:Array Value}{K:List (Int×Int)}{W w:World}{R:List HP}(hn:K.Nodup)(hN:K.length<=1000000000)(hseq:cd4 Tryz.prog eWh K.length gf lb (fun ss=>ss.Perm K) W R)(eg:∀args w,(callFunc gf args).run Tryz.prog w=.ok (.enter gf args) w)(hS:St W R w):
  Calls Tryz.prog 44 #[.func (.func gf) #[] lb,.func (.func 46) #[] #[]] w fun e w'=>∃(v:Value) (ks:List (Int×Int)),e=.returned v/\ks.Perm K/\ks.Pairwise (fun x y=>ltW x y=true)/\St W (row v 2 94 ks.length (ks.flatMap whC)::R) w':=by
 go_enter Tryz.func44,Tryz.ntmps44;go_wp2_with(go_at_call 108;refine(eE4 hN hseq eg hS).mono ?_;clear hS;rintro e w ⟨v,ss,rfl,hp,hS⟩)
 rcases hS.rowOpen with ⟨rfl,h0,hc,hS1⟩|⟨g,cap,junk,rfl,hn1,hm1,hj,hl,hS1⟩
 ·refine(Oq7 _ W _ _ hS1).mono ?_;clear hS;rintro e w ⟨rfl,hS⟩;go_wp2_with fail;go_ret;obtain rfl:ss=[]:=List.eq_nil_of_length_eq_zero h0;exact⟨_,[],rfl,hp,List.Pairwise.nil,hS.rowNil⟩
 ·refine(Op7 ss g cap junk (by rw[hp.length_eq];omega) W _ _ hS1).mono ?_;clear hS hS1;rintro e w ⟨rfl,l',hp2,hs,hS⟩;have hl2:l'.length=ss.length:=hp2.length_eq;have hf:(l'.flatMap whC).length=(ss.flatMap whC).length:=by rw[Ab7 Cu7,Ab7 Cu7,hl2]
  have hS1:=hS.rowShut (k:=2) (n:=ss.length) (cap:=cap) hn1 hm1 (by rw[jA,hf,<-jA];exact hj) (by rw[hf];exact hl);rw[<-hl2]at hS1;clear hS;have Hp:=jH (hp2.trans hp);have Hs:=jH (eZ4 ((hp2.trans hp).nodup_iff.2 hn) hs);rw[<-hl2];clear hp hp2 hs hl2 hf hn1 hm1 hj hl;go_wp2_with fail;go_ret;exact⟨_,l',rfl,Hp.out,Hs.out,hS1⟩
end Go.Proofs.YtlmhakmoioogaaaGreat
end
