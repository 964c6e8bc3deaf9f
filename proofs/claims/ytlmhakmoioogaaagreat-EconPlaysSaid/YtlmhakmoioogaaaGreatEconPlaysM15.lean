/-
  The library's contracts laid at this program: written by the kit's tool lay-plain.
  slices.SortFunc on an owned row of orders, by their IDs. For every row.
  BookBest: the plain law. For all prices.
  BookGone: the plain law. For all prices, all that are cancelled, every order.
  A slice of integers that comes in as an argument: its cells. For every slice.
  BookGone: the walk. For all prices, all that are cancelled, every order.
  append of a slice of another named type. Over any program; no condition.
  List: all that stand in a book, by their IDs. For every book.
-/
import Derived.Test.YtlmhakmoioogaaaGreatEconPlaysM1
import Derived.Test.YtlmhakmoioogaaaGreatEconPlaysM2
import Derived.Test.YtlmhakmoioogaaaGreatEconPlaysM5
import Derived.Test.YtlmhakmoioogaaaGreatEconPlaysM14
import Derived.Test.YtlmhakmoioogaaaGreatProg
import Derived.Shelf.SlSortCmp.WholeK
import Derived.Shelf.SlicesG.Cmp
import Derived.Shelf.Small.Bits
import Derived.Ground.SlsfProg
import Derived.Ground.SlgcProg
import Derived.Ground.NamesProg
import Derived.Test.YtlmhakmoioogaaaGreatRows
import Derived.Lib.SmallJoins
import Derived.ChangeArms
import Derived.ProofKit
set_option maxHeartbeats 16000000
set_option maxRecDepth 100000
set_option linter.unusedSimpArgs false
set_option linter.unusedVariables false
section
namespace Go.Proofs.YtlmhakmoioogaaaGreat
open Go.Shelf
def Tryz.sortOrd_ren:Go.Shelf.Ren:=⟨fun|6=>211|15=>177|14=>250|28=>224|29=>225|20=>264|21=>265|22=>266|23=>267|24=>268|25=>269|26=>270|27=>271|46=>275|47=>252|48=>253|49=>276|50=>277|57=>278|n=>n,fun|22=>185|24=>166|25=>284|3=>3|39=>195|0=>0|53=>295|55=>194|4=>4|46=>289|45=>288|50=>134|5=>5|9=>9|66=>318|70=>262|76=>332|77=>181|n=>n,fun|n=>n⟩
theorem Tryz.sortOrd:Go.Proofs.SlLaysF0.n6 Tryz.prog Tryz.sortOrd_ren:={
 mixed:=by kernel_rfl
 f6:=⟨Tryz.f211.name,by decide,Tryz.func211.trans (congrArg some (by kernel_rfl))⟩
 f14:=⟨Tryz.f250.name,by decide,Tryz.func250.trans (congrArg some (by kernel_rfl))⟩
 f15:=Tryz.func177.trans (congrArg some (by kernel_rfl))
 f20:=⟨Tryz.f264.name,by decide,Tryz.func264.trans (congrArg some (by kernel_rfl))⟩
 f21:=⟨Tryz.f265.name,by decide,Tryz.func265.trans (congrArg some (by kernel_rfl))⟩
 f22:=⟨Tryz.f266.name,by decide,Tryz.func266.trans (congrArg some (by kernel_rfl))⟩
 f23:=⟨Tryz.f267.name,by decide,Tryz.func267.trans (congrArg some (by kernel_rfl))⟩
 f24:=⟨Tryz.f268.name,by decide,Tryz.func268.trans (congrArg some (by kernel_rfl))⟩
 f25:=⟨Tryz.f269.name,by decide,Tryz.func269.trans (congrArg some (by kernel_rfl))⟩
 f26:=⟨Tryz.f270.name,by decide,Tryz.func270.trans (congrArg some (by kernel_rfl))⟩
 f27:=⟨Tryz.f271.name,by decide,Tryz.func271.trans (congrArg some (by kernel_rfl))⟩
 f28:=Tryz.func224.trans (congrArg some (by kernel_rfl))
 f29:=Tryz.func225.trans (congrArg some (by kernel_rfl))
 f46:=⟨Tryz.f275.name,by decide,Tryz.func275.trans (congrArg some (by kernel_rfl))⟩
 f47:=Tryz.func252.trans (congrArg some (by kernel_rfl))
 f48:=Tryz.func253.trans (congrArg some (by kernel_rfl))
 f49:=⟨Tryz.f276.name,by decide,Tryz.func276.trans (congrArg some (by kernel_rfl))⟩
 f50:=⟨Tryz.f277.name,by decide,Tryz.func277.trans (congrArg some (by kernel_rfl))⟩
 f57:=⟨Tryz.f278.name,by decide,Tryz.func278.trans (congrArg some (by kernel_rfl))⟩
 t0:=Tryz.underlying0
 a0:=Tryz.isAgg0
 z0:=Tryz.sizeOf0
 v0:=Tryz.zeroValue0
 t3:=Tryz.underlying3
 a3:=Tryz.isAgg3
 z3:=Tryz.sizeOf3
 v3:=Tryz.zeroValue3
 t4:=Tryz.underlying4
 a4:=Tryz.isAgg4
 z4:=Tryz.sizeOf4
 v4:=Tryz.zeroValue4
 t5:=Tryz.underlying5
 a5:=Tryz.isAgg5
 z5:=Tryz.sizeOf5
 v5:=Tryz.zeroValue5
 t9:=Tryz.underlying9
 a9:=Tryz.isAgg9
 z9:=Tryz.sizeOf9
 v9:=Tryz.zeroValue9
 t22:=Tryz.underlying185
 a22:=Tryz.isAgg185
 z22:=Tryz.sizeOf185
 v22:=Tryz.zeroValue185
 t25:=Tryz.underlying284
 a25:=Tryz.isAgg284
 z25:=Tryz.sizeOf284
 v25:=Tryz.zeroValue284
 t39:=Tryz.underlying195
 a39:=Tryz.isAgg195
 z39:=Tryz.sizeOf195
 v39:=Tryz.zeroValue195
 t45:=Tryz.underlying288
 a45:=Tryz.isAgg288
 z45:=Tryz.sizeOf288
 v45:=Tryz.zeroValue288
 t46:=Tryz.underlying289
 a46:=Tryz.isAgg289
 z46:=Tryz.sizeOf289
 v46:=Tryz.zeroValue289
 t50:=Tryz.underlying134
 a50:=Tryz.isAgg134
 z50:=Tryz.sizeOf134
 v50:=Tryz.zeroValue134
 t53:=Tryz.underlying295
 a53:=Tryz.isAgg295
 z53:=Tryz.sizeOf295
 v53:=Tryz.zeroValue295
 t55:=Tryz.underlying194
 a55:=Tryz.isAgg194
 z55:=Tryz.sizeOf194
 v55:=Tryz.zeroValue194
 t66:=Tryz.underlying318
 a66:=Tryz.isAgg318
 z66:=Tryz.sizeOf318
 v66:=Tryz.zeroValue318
 t70:=Tryz.underlying262
 a70:=Tryz.isAgg262
 z70:=Tryz.sizeOf262
 v70:=Tryz.zeroValue262
 t76:=Tryz.underlying332
 a76:=Tryz.isAgg332
 z76:=Tryz.sizeOf332
 v76:=Tryz.zeroValue332
 t77:=Tryz.underlying181
 a77:=Tryz.isAgg181
 z77:=Tryz.sizeOf181
 v77:=Tryz.zeroValue181 }
def Tryz.cmpInt_ren:Go.Shelf.Ren:=⟨fun|5=>112|7=>178|n=>n,fun|22=>3|3=>3|4=>4|n=>n,fun|n=>n⟩
theorem Tryz.cmpInt:Go.Proofs.SlLaysC2.n5 Tryz.prog Tryz.cmpInt_ren:={
 mixed:=by kernel_rfl
 f5:=⟨Tryz.f112.name,by decide,Tryz.func112.trans (congrArg some (by kernel_rfl))⟩
 f7:=⟨Tryz.f178.name,by decide,Tryz.func178.trans (congrArg some (by kernel_rfl))⟩
 t3:=Tryz.underlying3
 a3:=Tryz.isAgg3
 z3:=Tryz.sizeOf3
 v3:=Tryz.zeroValue3
 t4:=Tryz.underlying4
 a4:=Tryz.isAgg4
 z4:=Tryz.sizeOf4
 v4:=Tryz.zeroValue4
 t22:=Tryz.underlying3
 a22:=Tryz.isAgg3
 z22:=Tryz.sizeOf3
 v22:=Tryz.zeroValue3 }
def Tryz.bitsLen_ren:Go.Shelf.Ren:=⟨fun|125=>177|128=>224|129=>225|n=>n,fun|46=>195|3=>3|51=>295|53=>194|4=>4|5=>5|9=>9|n=>n,fun|n=>n⟩
theorem Tryz.bitsLen:Go.Proofs.Lays.n125 Tryz.prog Tryz.bitsLen_ren:={
 mixed:=by kernel_rfl
 f125:=Tryz.func177.trans (congrArg some (by kernel_rfl))
 f128:=Tryz.func224.trans (congrArg some (by kernel_rfl))
 f129:=Tryz.func225.trans (congrArg some (by kernel_rfl))
 t3:=Tryz.underlying3
 a3:=Tryz.isAgg3
 z3:=Tryz.sizeOf3
 v3:=Tryz.zeroValue3
 t4:=Tryz.underlying4
 a4:=Tryz.isAgg4
 z4:=Tryz.sizeOf4
 v4:=Tryz.zeroValue4
 t5:=Tryz.underlying5
 a5:=Tryz.isAgg5
 z5:=Tryz.sizeOf5
 v5:=Tryz.zeroValue5
 t9:=Tryz.underlying9
 a9:=Tryz.isAgg9
 z9:=Tryz.sizeOf9
 v9:=Tryz.zeroValue9
 t46:=Tryz.underlying195
 a46:=Tryz.isAgg195
 z46:=Tryz.sizeOf195
 v46:=Tryz.zeroValue195
 t51:=Tryz.underlying295
 a51:=Tryz.isAgg295
 z51:=Tryz.sizeOf295
 v51:=Tryz.zeroValue295
 t53:=Tryz.underlying194
 a53:=Tryz.isAgg194
 z53:=Tryz.sizeOf194
 v53:=Tryz.zeroValue194 }
end Go.Proofs.YtlmhakmoioogaaaGreat
end
section
namespace Go.Proofs.YtlmhakmoioogaaaGreat
open Go.Shelf Go.RowKit Go.Lib Go.Sort Go.Sl
instance : Inhabited Ord := ⟨o0⟩
def cmpO(x y:Ord):Int:=Lib.compareInt x.id y.id
theorem ltO(x y:Ord):ltOf cmpO x y=decide (x.id<y.id):=by
 unfold ltOf cmpO Lib.compareInt
 by_cases h1:x.id<y.id
 ·simp[h1]
 ·by_cases h2:y.id<x.id <;> simp[h1,h2]
theorem swoO:SWO (ltOf cmpO) where
 irrefl x:=by rw[ltO];simp
 trans x y z h1 h2:=by rw[ltO]at *;simp at *;omega
 ntrans x y z h1 h2:=by rw[ltO]at *;simp at *;omega
theorem closureO(x y:Ord)(W:World):Calls Tryz.prog 212 #[.agg x.cells.toArray,.agg y.cells.toArray] W fun e w'=>e=.returned (.int .i64 (cmpO x y))∧∃q os',w'=grow (W.drewN q) os':=by
 have hcon:=fun W'=>AnyG.cmp_Compare_int Tryz.cmpInt x.id y.id W'
 change ∀W',Calls Tryz.prog 112 _ _ _ at hcon
 unfold cmpO
 obtain⟨i,u,b,t,c,p⟩:=x
 obtain⟨i',u',b',t',c',p'⟩:=y
 simp only[Ord.cells]at hcon ⊢
 generalize Lib.compareInt i i'=r at hcon ⊢
 go_enter Tryz.func212,Tryz.ntmps212
 go_wp2_with(go_at_call 112;refine(hcon _).mono ?_;rintro e w' ⟨rfl,rfl⟩)
 go_ret
 exact⟨rfl,0,_,by rw[alloc_eq_grow,alloc_eq_grow,grow_grow];rfl⟩
theorem cmpLaysO(blk off size:Nat)(w:World):CmpLays Tryz.prog 212 #[] Ord.cells 6 cmpO blk off size w:=fun _ _ _ _ x y=>closureO x y _
theorem St.grow{W w:World}{L:List HP}(h:St W L w)(os:Array Obj):St W L (Sort.grow w os):=by
 refine⟨h.os,h.tape,h.output,Ct7 (S:=fun b=>decide (w.heap.size≤b)) ?_⟩
 have e:cutOut (fun b=>decide (w.heap.size≤b)) (fun b=>(Sort.grow w os).heap[b]?)=fun b=>w.heap[b]? := by
  funext b
  show cond (decide (w.heap.size≤b)) none ((w.heap++os)[b]?)=w.heap[b]?
  by_cases hb:w.heap.size≤b
  ·rw[decide_eq_true hb,Array.getElem?_eq_none hb];rfl
  ·rw[decide_eq_false hb,Array.getElem?_append_left (by omega)];rfl
 rw[e]
 exact h.sat
theorem Ft7(l:List Ord)(junk:List Value)(j:Nat)(hj:j<l.length*6):(l.flatMap Ord.cells++junk)[j]? = some ((flatK Ord.cells 6 l.toArray)[j]!):=by
 rw[get_flatK _ _ _ _ (by simpa using hj)]
 have hq:j / 6<l.length:=by omega
 have h1:=Cu7 Ord.len l junk (j / 6) hq (j%6) (by omega)
 rw[show j / 6*6+j%6=j by omega]at h1
 rw[h1]
 have h2:l.toArray[j / 6]! = l[j / 6]:=by simp[hq]
 rw[h2,List.getElem?_eq_getElem (by rw[Ord.len];omega)]
 rw[getElem!_pos _ _ (by rw[Ord.len];omega)]
theorem NV7(l:List Ord)(g cap:Nat)(junk:List Value)(h62:l.length<4611686018427387904)(W w:World)(L:List HP)(hS:St W (blk g (l.flatMap Ord.cells++junk) 166::L) w):
  Calls Tryz.prog 211 #[.slice (some ⟨g,0,none⟩) l.length cap,.func (.func 212) #[] #[]] w fun e w'=>
   e=.returned (.tuple #[])∧∃l':List Ord,l'.Perm l∧l'.Pairwise (fun x y=>x.id≤y.id)∧St W (blk g (l'.flatMap Ord.cells++junk) 166::L) w':=by
 have eg:∀args w,(callFunc 212 args).run Tryz.prog w=.ok (.enter 212 args) w:=enters_of Tryz.func212 (by kernel_rfl) rfl
 have hgt:=hS.get (b:=g) .head
 have hblk:g<w.heap.size:=(Array.getElem?_eq_some_iff.1 hgt).1
 have hH:HoldsK Ord.cells 6 w g 0 l.toArray:=by
  intro j hj
  rw[size_flatK]at hj
  refine⟨hS.cell .head ?_,hS.free .head⟩
  rw[Nat.zero_add]
  exact Ft7 l junk j (by simpa using hj)
 have hcon:=AnyQ.slices_SortFunc Tryz.sortOrd 6 Tryz.isAgg166 Tryz.sizeOf166 Ord.cells Ord.len (fun x v hv=>by simp[Ord.cells]at hv;rcases hv with rfl|rfl|rfl|rfl|rfl|rfl <;> rfl) cmpO swoO 212 #[] g 0 cap l.toArray w eg (cmpLaysO g 0 l.toArray.size w) hH hblk (by simpa using h62)
 change Calls Tryz.prog 211 _ _ _ at hcon
 simp only[List.size_toArray]at hcon
 refine hcon.mono ?_
 rintro e w' ⟨rfl,d',n,os,⟨hp1,_,hp3⟩,hs,rfl⟩
 refine⟨rfl,d'.toList,?_,?_,?_⟩
 ·have e1:d'.extract 0 l.length=d':=by
   have:l.length=d'.size:=by rw[hp1];simp
   rw[this,Array.extract_size]
  have e2:l.toArray.extract 0 l.length=l.toArray:=by
   have:l.length=l.toArray.size:=by simp
   rw[this,Array.extract_size]
  rw[e1,e2]at hp3
  exact hp3
 ·rw[List.pairwise_iff_getElem]
  intro i j hi hj hij
  have:=hs i j (Nat.zero_le _) hij (by simp at hj;rw[hp1]at hj;simpa using hj)
  rw[ltO]at this
  simp only[decide_eq_false_iff_not]at this
  have hi':i<d'.size:=by simpa using hi
  have hj':j<d'.size:=by simpa using hj
  rw[getElem!_pos d' i hi',getElem!_pos d' j hj']at this
  simp only[Array.getElem_toList]
  omega
 ·unfold sortWorldK
  refine St.grow ?_ os
  have hSd:St W (blk g (l.flatMap Ord.cells++junk) 166::L) (Sort.ahead w n):=⟨hS.os,hS.tape,hS.output,hS.sat⟩
  refine hSd.putO (w':=putRowK Ord.cells 6 (Sort.ahead w n) g 0 d') (o':=.cells (d'.toList.flatMap Ord.cells++junk).toArray 166 (0,0)) .head rfl rfl rfl fun k=>?_
  show((Sort.ahead w n).heap.modify g _)[k]? = _
  rw[Array.getElem?_modify]
  by_cases hk:k=g
  ·subst hk
   rw[if_pos rfl,if_pos rfl]
   have hgt':(Sort.ahead w n).heap[k]? = some (.cells (l.flatMap Ord.cells++junk).toArray 166 (0,0)):=hgt
   rw[hgt']
   simp only[Option.map_some,Sort.onCells]
   congr 2
   have hdl:d'.toList.length=l.length:=by rw[Array.length_toList,hp1];simp
   have hf1:=Ab7 Ord.len l
   have hf2:=Ab7 Ord.len d'.toList
   apply Array.ext_getElem?
   intro t
   unfold Sort.putCells
   simp only[Array.getElem?_mapIdx,List.getElem?_toArray,size_flatK,Nat.zero_le,true_and,Nat.zero_add,Nat.sub_zero,id]
   have hds:d'.size=l.length:=by rw[hp1];simp
   by_cases ht:t<l.length*6
   ·have h1:=Ft7 d'.toList junk t (by rw[hdl];exact ht)
    rw[h1,Ft7 l junk t ht]
    simp[hds,ht]
   ·have h2:(l.flatMap Ord.cells++junk)[t]? = (d'.toList.flatMap Ord.cells++junk)[t]? := by
     rw[List.getElem?_append_right (by omega),List.getElem?_append_right (by omega),hf1,hf2,hdl]
    rw[←h2]
    simp[hds,ht]
  ·rw[if_neg (fun h=>hk h.symm),if_neg hk]
theorem KL7(f:Value)(W w:World)(L:List HP)(hS:St W L w):
  Calls Tryz.prog 264 #[.slice none 0 0,.int .i64 0,.int .i64 0,f] w fun e w'=>e=.returned (.tuple #[])∧St W L w':=by
 go_enter Tryz.func264,Tryz.ntmps264
 go_wp2_with fail
 go_loopw [8] (fun v wr=>v=.int .i64 1∧St W L wr) (fun _ _=>0)
 case atStart=>exact⟨rfl,hS⟩
 case round=>
  clear hS
  obtain⟨rfl,hS⟩:=hrel
  go_wp2_with fail
  go_end0
  exact⟨rfl,hS⟩
theorem PB7(n:Int)(f:Value)(W w:World)(L:List HP)(hS:St W L w):
  Calls Tryz.prog 250 #[.slice none 0 0,.int .i64 0,.int .i64 0,.int .i64 n,f] w fun e w'=>e=.returned (.tuple #[])∧St W L w':=by
 go_enter Tryz.func250,Tryz.ntmps250
 go_wp2_with fail
 go_loopw [1,2] (fun v1 v2 wr=>v1=.int .i64 0∧v2=.int .i64 0∧St W L wr) (fun _ _ _=>0)
 case atStart=>exact⟨rfl,rfl,hS⟩
 case round=>
  clear hS
  obtain⟨rfl,rfl,hS⟩:=hrel
  go_wp2_with(first|(go_at_call 264;refine(KL7 _ W _ _ hS).mono ?_;clear hS;rintro e w ⟨rfl,hS⟩))
  refine bodyPost_ret (results_none rfl _ _ _) rfl ?_
  exact⟨rfl,hS⟩
theorem NW7(f:Value)(W w:World)(L:List HP)(hS:St W L w):
  Calls Tryz.prog 211 #[.slice none 0 0,f] w fun e w'=>e=.returned (.tuple #[])∧St W L w':=by
 have hl:∀w:World,Calls Tryz.prog 177 #[.int .u64 0] w fun e w'=>(∃l:Int,e=.returned (.int .i64 l))∧w'=w:=fun w=>
  (Any.bits_Len Tryz.bitsLen 0 w (by omega) (by omega)).mono fun _ _ ⟨he,hw⟩=>⟨⟨_,he⟩,hw⟩
 go_enter Tryz.func211,Tryz.ntmps211
 go_wp2_with(first|(go_at_call 177;refine(hl _).mono ?_;rintro e w ⟨⟨l,rfl⟩,rfl⟩)|(go_at_call 250;refine(PB7 _ _ W _ _ hS).mono ?_;clear hS;rintro e w ⟨rfl,hS⟩))
 go_end0
 exact⟨rfl,hS⟩
end Go.Proofs.YtlmhakmoioogaaaGreat
end
section
namespace Go.Proofs.YtlmhakmoioogaaaGreat
open Go.RowKit Go.Sl
theorem Trd.len(o:Trd):o.cells.length=8:=rfl
def so(zs:List Int)(k:Nat):Ord:=⟨(k:Int)+1,⟨#[115]⟩,false,2,1,1+(zs.getD k 0)%8⟩
def bB(q:List Ord)(k:Nat):Bk:=⟨[[],[],[],[],[],[],q,[]],k⟩
def bo(want:Int):Ord:=⟨100,⟨#[98]⟩,true,2,want,1024⟩
def bt(x:Ord):Trd:=⟨⟨#[98]⟩,x.who,100,x.id,2,1,x.price,1024⟩
structure BestL(zs:List Int)(ts:List Trd):Prop where
 one:∀i (h:i<ts.length),ts[i].cnt=1∧∃k,k<zs.length∧ts[i].sell=(k:Int)+1∧ts[i].price=1+(zs.getD k 0)%8
 two:∀i (h:i+1<ts.length),ts[i].price<ts[i+1].price∨(ts[i].price=ts[i+1].price∧ts[i].sell≤ts[i+1].sell)
def sg(zs:List Int)(k:Nat):Ord:=⟨(k:Int)+1,⟨#[115]⟩,false,1,2,1+(zs.getD k 0)%8⟩
def bG(q:List Ord)(k:Nat):Bk:=⟨[[],[],[],[],[],q,[],[]],k⟩
structure GoneQ(n:Nat)(q:List Ord):Prop where
 nodup:(q.map Ord.id).Nodup
 each:∀x∈q,x.cnt=2∧x.id≤n
end Go.Proofs.YtlmhakmoioogaaaGreat
end
section
namespace Go.Proofs.YtlmhakmoioogaaaGreat
open Go.Joins Go.ChangeShapes Go.WideShapes Go.RowKit Go.Deep Go.Sl
def IntsV(w:World)(v:Value)(zs:List Int):Prop:=
 (zs=[]∧∃a cap,v=.slice a 0 cap) ∨
 ∃b off cap,v=.slice (some ⟨b,off,none⟩) zs.length cap∧0<zs.length∧zs.length≤9223372036854775807∧∀i,i<zs.length→w.cell? ⟨b,off+i,none⟩=some (.int .i64 (zs.getD i 0))
end Go.Proofs.YtlmhakmoioogaaaGreat
end
section
namespace Go.Proofs.YtlmhakmoioogaaaGreat
open Go.RowKit Go.Sl
def intsR(v:Value)(ks:List Int):HP:=row v 1 3 ks.length (ks.map (Value.int .i64))
def Gone1(W:World)(L:List HP)(zs:List Int)(bb:Nat)(v8:Value)(w:World):Prop:=
 ∃(k:Nat) (q:List Ord),v8=.int .i64 k∧k≤zs.length∧q.length=k∧GoneQ k q∧St W (bookP bb (bG q k)::L) w
def Gone2(W:World)(L:List HP)(n m:Nat)(bb:Nat)(v9 v10:Value)(w:World):Prop:=
 ∃(k:Nat) (q:List Ord) (gone:List Int),v10=.int .i64 k∧k≤m∧q.length≤20∧GoneQ n q∧gone.length=k∧(∀x∈q,x.id∉gone)∧(∀x∈gone,x≤32)∧St W (bookP bb (bG q n)::intsR v9 gone::L) w
def Gone3(W:World)(L:List HP)(n:Nat)(v:Value)(w:World):Prop:=∃i:Nat,v=.int .i64 i∧i≤n∧St W L w
end Go.Proofs.YtlmhakmoioogaaaGreat
end
section
namespace Go.Sl
open Go.RowKit
section
variable{P:Program}{ops:Array Oper}{Q:Exit→Act→World→Prop}{a:Act}{w:World}{W:World}{L L' R:List HP}{rest:List Oper}{o:Oper}
theorem HI7{t t2 e e2:TypeId}(ht:P.underlying t=some (.slice e))(h2:P.underlying t2=some (.slice e2))(ty:TypeId)(s x:Value)(w:World):(Builtin.append_ #[t,t2] ty #[s,x]).run P w=(Builtin.append_ #[t,t] ty #[s,x]).run P w:=by
 unfold Builtin.append_
 simp only[List.getElem?_toArray,List.getElem?_cons_zero,List.getElem?_cons_succ,Sem.run_bind,run_underlying ht,run_underlying h2,Result.andThen_ok]
 cases s <;> simp[run_underlying ht,run_underlying h2]
theorem KM7{s x:Operand}{t t2 e e2:TypeId}{z:Value}{k bytes:Nat}{v xv:Value}{n m:Nat}{cs news:List Value}(hS:St W L w)(ho:o.op=.call { callee:=.builtin .append,args:=#[s,x],argTypes:=#[t,t2] })
  (hg:Region.wanted o (yielded ops a.tmps)=true) (hs:a.eval s=v) (hx:a.eval x=xv) (ht:tyElem P t=some e) (ht2:tyElem P t2=some e2) (hi:tyRow P e=some (some z,k,bytes)) (hz:z.cells.size=k) (hk:0<k) (hu:Take L (row v k e n cs) R)
  (hsrc:Src L xv m news) (hl:news.length=m*k) (h1:news.all (·.oneCell')=true) (h63:n+m≤maxLen) (hb:(n+m)*bytes≤140737488355328)
  (h:∀v' w',St W (row v' k e (n+m) (cs++news)::R) w'→wpList P ops Q rest (a.put o.dst v') w'):wpList P ops Q (o::rest) a w:=by
 obtain⟨v',w',hr,hS'⟩:=CP7 (P:=P) (ty:=o.type) ht hi hz hk rfl hS hu (hsrc.at hS) hl h1 h63 hb
 refine Al7 hg (v:=v') (w':=w') ?_ (h v' w' hS')
 unfold execOp
 simp only[ho,resolve,invoke,builtin,Sem.run_bind,Sem.run_pure,Result.andThen_ok,List.map_toArray,List.map_cons,List.map_nil,hs,hx,HI7 (BF7 ht) (BF7 ht2),hr]
end
end Go.Sl
end
section
namespace Go.Proofs.YtlmhakmoioogaaaGreat
open Go.RowKit Go.Sl
def catTo(ps:List (List Ord))(k:Nat):List Ord:=(offs.take k).flatMap fun o=>ps.getD o []
theorem HJ7(ps:List (List Ord))(k:Nat)(hk:k≤8):(catTo ps k).length=lenTo ps k:=by
 obtain h|h|h|h|h|h|h|h|h:k=0∨k=1∨k=2∨k=3∨k=4∨k=5∨k=6∨k=7∨k=8:=by omega
 all_goals subst h
 all_goals simp[catTo,lenTo,offs]
 all_goals omega
theorem KN7(ps:List (List Ord)){k o:Nat}(h:offs.drop k=o::offs.drop (k+1)):catTo ps (k+1)=catTo ps k++ps.getD o []:=by
 have h1:offs[k]? = some o:=by
  have:=congrArg List.head? h
  simpa[List.head?_drop]using this
 unfold catTo
 rw[List.take_add_one,h1]
 simp
theorem St.src{W w:World}{L:List HP}{v:Value}{k n:Nat}{T:TypeId}{cs:List Value}(hk:0<k)(h:St W (row v k T n cs::L) w):Src (row v k T n cs::L) v n cs:=by
 rcases h.rowOpen with ⟨rfl,rfl,rfl,_⟩|⟨g,cap,junk,rfl,hn1,hm1,hj1,hl1,_⟩
 ·exact .inl ⟨rfl,rfl,rfl⟩
 ·refine .inr ⟨g,0,cap,rfl,fun j u hj=>?_⟩
  rw[Nat.zero_add]
  have hjl:=(List.getElem?_eq_some_iff.1 hj).1
  refine Cell.row ?_ hj
  rcases Nat.eq_zero_or_pos n with h0|h0
  ·rw[hl1,h0,Nat.zero_mul]at hjl;omega
  ·exact h0
def ListRel(W:World)(L:List HP)(bb:Nat)(b:Bk)(v3 v11:Value)(w:World):Prop:=
 ∃k:Nat,v11=.int .i64 k∧k≤8∧St W (pileR v3 (catTo b.ps k)::bookP bb b::L) w
theorem EL7(l:List Ord):(l.flatMap Ord.cells).all (·.oneCell')=true:=by
 rw[List.all_eq_true]
 intro v hv
 obtain⟨x,_,hx⟩:=List.mem_flatMap.1 hv
 simp[Ord.cells]at hx
 rcases hx with rfl|rfl|rfl|rfl|rfl|rfl <;> rfl
theorem Me7(bb:Nat)(b1:Bk)(hok:b1.len≤32)(W w:World)(L:List HP)(hS:St W (bookP bb b1::L) w):
  Calls Tryz.prog 172 #[.pointer (some ⟨bb,0,none⟩)] w fun e w'=>∃v l,e=.returned v∧l.Perm (catTo b1.ps 8)∧l.Pairwise (fun x y:Ord=>x.id≤y.id)∧St W (bookP bb b1::pileR v l::L) w':=by
 go_enter Tryz.func172,Tryz.ntmps172
 go_wp2_with(first|(go_at_call 207;refine(Ef7 bb W _ _ hS).mono ?_;clear hS;rintro e w ⟨v,rfl,hS⟩;rcases hS.rowOpen with ⟨_,h0,_⟩|⟨g,cap,junk,rfl,hn1,hm1,hj1,hl1,hS'⟩;(exfalso;omega);clear hS;have hS:=hS';clear hS';unfold maxLen at hm1)|(refine zl1 hS ?_)|(refine zlN hS ?_)|(refine zs1 hS ?_;clear hS;intro w hS)|(refine zsN hS ?_;clear hS;intro w hS)|(refine zbx hS ?_;clear hS;intro b w hS)|(refine zal hS ?_;clear hS;intro b w hS))
 have hS1:=(hS.swap.rowNil (k:=6) (T:=166))
 clear hS
 have hS:=hS1
 clear hS1
 go_loopw [3,11] (fun v3 v wr=>ListRel W (blk g (ptrL bb++junk) 273::L) bb b1 v3 v wr) (fun _ v _=>8-(intOf v).toNat)
 case atStart=>exact⟨0,rfl,by omega,hS⟩
 case round=>
  clear hS
  obtain⟨k,rfl,hk,hS⟩:=hrel
  by_cases h8:k=8
  ·subst h8
   have hcl:(catTo b1.ps 8).length≤32:=by rw[HJ7 _ _ (Nat.le_refl _)];exact hok
   rcases hS.rowOpen with ⟨rfl,h0,_,hS'⟩|⟨g2,cap2,junk2,rfl,hn2,hm2,hj2,hl2,hS'⟩
   ·have hc0:catTo b1.ps 8=[]:=List.eq_nil_of_length_eq_zero h0
    go_wp2_with(first|(go_at_call 211;refine(NW7 _ W _ _ hS).mono ?_;clear hS;rintro e w ⟨rfl,hS⟩))
    go_ret
    refine⟨_,catTo b1.ps 8,rfl,.refl _,by rw[hc0];exact .nil,?_⟩
    exact(hS.take .t2).drop.swap
   ·clear hS
    have hS:=hS'
    clear hS'
    go_wp2_with(first|(go_at_call 211;refine(NV7 (catTo b1.ps 8) g2 cap2 junk2 (by omega) W _ _ hS).mono ?_;clear hS;rintro e w ⟨rfl,l,hl,hsd,hS⟩))
    go_ret
    refine⟨_,l,rfl,hl,hsd,?_⟩
    have hll:=hl.length_eq
    have hf1:=Ab7 Ord.len l
    have hf2:=Ab7 Ord.len (catTo b1.ps 8)
    rw[←hll]at hn2
    have h1:St W (pileR (.slice (some ⟨g2,0,none⟩) l.length cap2) l::bookP bb b1::blk g (ptrL bb++junk) 273::L) w:=St.rowShut hS hn2 hm2 (by rw[List.length_append]at hj2 ⊢;rw[hf1,hll,←hf2];exact hj2) (by rw[hf1])
    rw[hll]at h1
    exact(h1.take .t2).drop.swap
  ·have hk8:k<8:=by omega
   clear h8 hk
   obtain⟨o,ho,hdr,hpt⟩:=JX7 bb junk k hk8
   have hcs:=KN7 b1.ps hdr
   obtain⟨vs,h1,h2,hS0⟩:=bookOpen hS.swap
   clear hS
   have ho1:o<vs.length:=by omega
   have ho2:o<b1.ps.length:=by omega
   have hpk:b1.ps[o]=b1.pile o:=by unfold Bk.pile;simp[List.getD_eq_getElem?_getD,List.getElem?_eq_getElem ho2]
   have hS1:=pileTake o ho1 ho2 hS0.swap
   clear hS0
   rw[hpk]at hS1
   have hl:(vs++[Value.int .i64 b1.last])[o]? = some vs[o]:=by rw[List.getElem?_append_left ho1,List.getElem?_eq_getElem ho1]
   generalize hvv:vs[o]=v at hl hS1
   have hp32:=JY7 b1 o ho hok
   have hgd:b1.ps.getD o []=b1.pile o:=rfl
   rw[hgd]at hp32 hcs
   have Hvv:=Lib.hid hvv
   clear hvv
   have hS:=hS1.take .t3
   clear hS1
   have hcl:(catTo b1.ps k).length≤32:=by rw[HJ7 _ _ (by omega)];exact Nat.le_trans (At7 _ (by omega)) hok
   have hsrc:Src (pileR u3 (catTo b1.ps k)::pileR v (b1.pile o)::sats ((pilesR vs b1.ps).eraseIdx o)::blk bb (vs++[Value.int .i64 b1.last]) 272::blk g (ptrL bb++junk) 273::L) v (b1.pile o).length ((b1.pile o).flatMap Ord.cells):=(St.src (by decide) hS.drop).there
   have Hcs:=Lib.hid hcs
   clear hcs hdr
   go_wp2_with(first|(refine zl1 hS ?_ (hc:=by exact Cell.there (Cell.there (Cell.there (Cell.there (Cell.here hpt))))))|(refine zl1 hS ?_ (hc:=by exact Cell.there (Cell.there (Cell.there (Cell.here hl)))))|((with_reducible apply KM7 (e2:=166) hS);(with_reducible rfl);rfl;rfl;rfl;(exact esS);kernel_rfl;(exact rsS);rfl;decide;(exact takeS);(exact hsrc);(focus(rw[Ab7 Ord.len]));(focus(exact EL7 _));(focus(unfold maxLen;omega));(focus(omega));clear hS;intro v3 w hS;(refine frS ?_)))
   have hS3:=((hS.take .t1).take .t2).swap
   clear hS
   have hS4:=pileBack o ho1 ho2 hS3
   clear hS3
   rw[←Hvv.out,←hpk,List.set_getElem_self,List.set_getElem_self]at hS4
   have hS5:=(bookShut h1 h2 (hS4.take .t2)).swap
   clear hS4
   go_roundw
   case rel=>
    refine⟨k+1,rfl,hk8,?_⟩
    rw[Hcs.out]
    unfold pileR
    rw[List.length_append,List.flatMap_append,←hpk]
    exact hS5
   case measure=>simp[intOf];omega
end Go.Proofs.YtlmhakmoioogaaaGreat
end
