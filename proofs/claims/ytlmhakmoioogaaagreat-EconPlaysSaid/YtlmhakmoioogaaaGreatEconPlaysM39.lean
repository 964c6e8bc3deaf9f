/-
  Keys of two numbers are compared: by the first, then by the second. For all of them.
  Keys of two numbers, sorted: slices.SortFunc on an owned row of them, slices.Collect, slices.SortedFunc. For every row.
  What is under way, in order: Transits. For every economy.
  The document's economy as a resource: its rows of keys, of sessions, of what is under way, of what arrived; where a key stands. For every economy.
-/
import Derived.Test.YtlmhakmoioogaaaGreatEconPlaysM5
import Derived.Test.YtlmhakmoioogaaaGreatEconPlaysM15
import Derived.Test.YtlmhakmoioogaaaGreatEconPlaysM27
import Derived.Test.YtlmhakmoioogaaaGreatEconPlaysM37
import Derived.Test.YtlmhakmoioogaaaGreatEconPlaysM38
import Derived.Shelf.SlSortCmp.WholeK
import Derived.Shelf.SlicesG.Cmp
set_option maxHeartbeats 16000000
set_option maxRecDepth 100000
set_option linter.unusedSimpArgs false
set_option linter.unusedVariables false
section
namespace Go.Sl
open Go.RowKit Go.Sort
section
variable{P:Program}{ops:Array Oper}{w1:World}
theorem FQ7{id:Nat}{Q:Exit→Act→World→Prop}{a:Act}{w:World}{l:List Oper}(n:Nat)(hm:P.follows .mixedOrders=true)(hB:Region.lexTailB .any l.toArray n=true)
  (h:wpQuiet P l.toArray (fun w'=>w'=w.drewN 1) (fun a'=>wpList P l.toArray Q (l.drop n) a' (w.drewN 1)) (l.take n) a):(Code.region id l.toArray true).wp P Q a w:=by
 simp only[Region.lexTailB,Bool.and_eq_true,decide_eq_true_eq]at hB
 obtain⟨⟨⟨⟨hsel,hn⟩,hs⟩,hc⟩,hlex⟩:=hB
 have htl:(l.take n).length=n:=by simp at hn ⊢;omega
 have hdl:(l.drop n).length=l.toArray.size-n:=by simp
 have inv0:HeadInv .any l.toArray n (Array.replicate l.toArray.size false):=
  ⟨by simp,fun j oj _ hl=>(by rw[getD_replicate_false]at hl;cases hl),fun t _ ht=>getD_in (by simpa using ht) (getD_replicate_false _ _)⟩
 have H:=Lw7 (md:=.any) (g:=l.toArray.size-n) hsel hs hc hn (l.take n) 0 _ a (fun j hj=>by
  have hj':j<n:=by rw[htl]at hj;exact hj
  simp[hj']) (by simpa using htl) inv0 (by rw[htl];exact hlex) h
 refine wp_region_any hm ?_
 have:=Fd7 (P:=P) (md:=.any) (ops:=l.toArray) (C:=fun w'=>w'=w.drewN 1) (n:=n) (T:=fun listed' a'=>Region.seqB .any l.toArray (l.toArray.size-n) n listed'=true∧wpList P l.toArray Q (l.drop n) a' (w.drewN 1)) (Q:=Q) (g:=l.toArray.size-n) (fun listed a' w' hC hL=>by
  subst hC
  have:=wpAny_of_seq (md:=.any) (Q':=Q) (l.drop n) n listed a' (w.drewN 1) (fun j=>by simp[List.getElem?_drop]) (by rw[hdl];exact hL.1) hL.2
  rwa [hdl]at this) _ _ _ (w.drewN 1) rfl H
 rw[htl]at this
 rwa [show n+(l.toArray.size-n)=l.toArray.size by omega]at this
variable{Q:Act→Prop}{a:Act}{o:Oper}{rest:List Oper}
theorem Qf7{v:Value}(hg:Region.wanted o (yielded ops a.tmps)=true)(hv:(execOp a.eval o).run P w1=.ok (.value v) w1)(h:wpQuiet P ops (fun w'=>w'=w1) Q rest (a.put o.dst v)):wpQuiet P ops (fun w'=>w'=w1) Q (o::rest) a:=
 wpQuiet_step fun K hK=>by
  rw[if_pos hg]
  exact⟨v,fun w hw=>by subst hw;unfold Oper.quietAt;rw[hv];exact⟨rfl,rfl⟩,hK _ h⟩
theorem EZ7(hg:Region.wanted o (yielded ops a.tmps)=true)(hc:isCall o.op=false)(h:∀K:Act→Prop,(∀a,wpQuiet P ops (fun w'=>w'=w1) Q rest a→K a)→o.quiet P a (fun _=>True) K):wpQuiet P ops (fun w'=>w'=w1) Q (o::rest) a:=by
 obtain⟨v,h1,h2⟩:=h _ fun _ h=>h
 refine wpQuiet_step fun K hK=>?_
 rw[if_pos hg]
 refine⟨v,fun w _=>?_,hK _ h2⟩
 have:=h1 w trivial
 unfold Oper.quietAt at this ⊢
 generalize hr:(execOp a.eval o).run P w=r at this
 cases r with
 | ok n w'=>cases n <;> first | exact this | exact(Fe7 hc hr).elim
 | halt x w'=>exact this
theorem Hb7{t:TypeId}{x:Operand}{b off:Nat}{v:Value}{W:World}{L:List HP}(hS:St W L w1)(ho:o.op=.load t x)(hg:Region.wanted o (yielded ops a.tmps)=true)(hx:a.eval x=.pointer (some ⟨b,off,none⟩))(ht:tyAgg P t=some false)(hc:Cell L b off v)
  (h:wpQuiet P ops (fun w'=>w'=w1) Q rest (a.put o.dst v)):wpQuiet P ops (fun w'=>w'=w1) Q (o::rest) a:=
 Qf7 hg (Do7 hS ho hx ht hc) h
theorem Kt7{f:FuncId}{args:Array Value}{v:Value}(hg:Region.wanted o (yielded ops a.tmps)=true)(hr:∀w,(execOp a.eval o).run P w=.ok (.enter f args) w)
  (hc:Calls P f args w1 fun e w'=>e=.returned v∧w'=w1) (h:wpQuiet P ops (fun w'=>w'=w1) Q rest (a.put o.dst v)):wpQuiet P ops (fun w'=>w'=w1) Q (o::rest) a:=
 wpQuiet_step fun K hK=>by
  rw[if_pos hg]
  exact⟨v,fun w hw=>by subst hw;unfold Oper.quietAt;rw[hr w];exact⟨rfl,hc⟩,hK _ h⟩
end
end Go.Sl
namespace Go.Proofs.YtlmhakmoioogaaaGreat
open Go.Shelf Go.RowKit Go.Lib Go.Sort Go.Sl
instance : Inhabited (Int × Int) := ⟨(0,0)⟩
def cmpW(x y:Int×Int):Int:=if Lib.compareInt x.1 y.1≠0 then Lib.compareInt x.1 y.1 else Lib.compareInt x.2 y.2
theorem ltWc(x y:Int×Int):ltOf cmpW x y=ltW x y:=by
 unfold ltOf cmpW Lib.compareInt ltW
 by_cases h1:x.1<y.1
 ·simp[h1]
 ·by_cases h2:y.1<x.1
  ·have:x.1≠y.1:=by omega
   simp[h1,h2,this]
  ·have h3:x.1=y.1:=by omega
   by_cases h4:x.2<y.2
   ·simp[h1,h2,h3,h4]
   ·by_cases h5:y.2<x.2 <;> simp[h1,h2,h3,h4,h5]
theorem swoW:SWO (ltOf cmpW) where
 irrefl x:=by rw[ltWc];exact Ax7.irr x
 trans x y z h1 h2:=by rw[ltWc]at *;exact Ax7.tr x y z h1 h2
 ntrans x y z h1 h2:=by rw[ltWc]at *;simp[ltW]at *;omega
theorem orW{a b r:Int}(hr:(if a≠0 then a else b)=r)(g:Nat)(W:World)(h0:W.cell? ⟨g,0,none⟩=some (.int .i64 a))(h1:W.cell? ⟨g,1,none⟩=some (.int .i64 b)):
  Calls Tryz.prog 111 #[.slice (some ⟨g,0,none⟩) 2 2] W fun e w'=>e=.returned (.int .i64 r)∧w'=W:=by
 have Hr:=Lib.hid hr
 clear hr
 go_enter Tryz.func111,Tryz.ntmps111
 go_wp2_with fail
 go_loopw [8] (fun v8 wr=>∃i:Nat,v8=.int .i64 i∧i≤2∧wr=W∧(1≤i→a=0)∧(2≤i→b=0)) (fun v8 _=>2-(intOf v8).toNat)
 case atStart=>exact⟨0,rfl,by omega,rfl,fun h=>by omega,fun h=>by omega⟩
 case round=>
  obtain⟨i,rfl,hi,rfl,ha,hb⟩:=hrel
  have hc:i=0∨i=1∨i=2:=by omega
  rcases hc with rfl|rfl|rfl
  ·clear ha hb hi
   by_cases h:a=0
   ·have e:(a==0)=true:=by simpa using h
    have H:=Lib.hid h
    clear h
    go_wp2_with fail
    go_roundw
    case rel=>exact⟨1,by simp,by omega,by simp,fun _=>H.out,fun h=>by omega⟩
    case measure=>simp[intOf]
   ·have e:(a==0)=false:=by simpa using h
    have H:=Lib.hid (show r=a by rw[←Hr.out,if_pos h])
    clear h
    go_wp2_with fail
    go_ret
    first
     | exact⟨rfl,rfl⟩
     | (rw[H.out];exact⟨rfl,rfl⟩)
  ·have h0':=ha (by omega)
   have H0:=Lib.hid (show r=b by rw[←Hr.out,if_neg (by simp[h0'])])
   have Ha:=Lib.hid h0'
   clear ha hb hi h0'
   by_cases h:b=0
   ·have e:(b==0)=true:=by simpa using h
    have H:=Lib.hid h
    clear h
    go_wp2_with fail
    go_roundw
    case rel=>exact⟨2,by simp,by omega,by simp,fun _=>Ha.out,fun _=>H.out⟩
    case measure=>simp[intOf]
   ·have e:(b==0)=false:=by simpa using h
    clear h
    go_wp2_with fail
    go_ret
    first
     | exact⟨rfl,rfl⟩
     | (rw[H0.out];exact⟨rfl,rfl⟩)
  ·have H0:=Lib.hid (show r=0 by rw[←Hr.out,ha (by omega),hb (by omega)];simp)
   clear ha hb hi
   go_wp2_with fail
   go_ret
   first
    | exact⟨rfl,rfl⟩
    | (rw[H0.out];exact⟨rfl,rfl⟩)
theorem compareW(x y:Int×Int)(W:World):Calls Tryz.prog 46 #[.agg #[.int .i64 x.1,.int .i64 x.2],.agg #[.int .i64 y.1,.int .i64 y.2]] W fun e w'=>e=.returned (.int .i64 (cmpW x y))∧∃q os',w'=grow (W.drewN q) os':=by
 obtain⟨x1,x2⟩:=x
 obtain⟨y1,y2⟩:=y
 have hS:=((St.start W).alloc (.cells #[.int .i64 x1,.int .i64 x2] 94)).alloc (.cells #[.int .i64 y1,.int .i64 y2] 94)
 simp only[World.size_alloc]at hS
 generalize hr:cmpW (x1,x2) (y1,y2)=r
 have Hr:=Lib.hid hr
 clear hr
 have hcon:=fun x y W'=>AnyG.cmp_Compare_int Tryz.cmpIntW x y W'
 change ∀x y W',Calls Tryz.prog 112 _ _ _ at hcon
 go_enter Tryz.func46,Tryz.ntmps46
 go_wp2_with fail
 refine FQ7 10 (by kernel_rfl) (by kernel_rfl) ?_
 have hS2:=hS.drawn (W.drawn+1)
 (refine EZ7 rfl rfl ?_;intro K hK;go_big_quiet_op;go_big_quiet_on)
 (apply Hb7 hS2;(with_reducible rfl);rfl;rfl;decide +kernel;(exact celS);(refine frS ?_))
 (refine EZ7 rfl rfl ?_;intro K hK;go_big_quiet_op;go_big_quiet_on)
 (apply Hb7 hS2;(with_reducible rfl);rfl;rfl;decide +kernel;(exact celS);(refine frS ?_))
 (apply Kt7;rfl;(intro w;apply Af7;(with_reducible rfl);decide +kernel;(focus(simp only[fD,fI,fJ,Act.eval,fE,fF,fG,fH,fK];try rfl)));exact hcon _ _ _;(refine frS ?_))
 (refine EZ7 rfl rfl ?_;intro K hK;go_big_quiet_op;go_big_quiet_on)
 (apply Hb7 hS2;(with_reducible rfl);rfl;rfl;decide +kernel;(exact celS);(refine frS ?_))
 (refine EZ7 rfl rfl ?_;intro K hK;go_big_quiet_op;go_big_quiet_on)
 (apply Hb7 hS2;(with_reducible rfl);rfl;rfl;decide +kernel;(exact celS);(refine frS ?_))
 (apply Kt7;rfl;(intro w;apply Af7;(with_reducible rfl);decide +kernel;(focus(simp only[fD,fI,fJ,Act.eval,fE,fF,fG,fH,fK];try rfl)));exact hcon _ _ _;(refine frS ?_))
 refine wpQuiet_nil ?_
 clear hS2 hS
 go_wp2_with fail
 refine(orW (show(if Lib.compareInt x1 y1≠0 then Lib.compareInt x1 y1 else Lib.compareInt x2 y2)=r from Hr.out) _ _ ((World.cell?_alloc_at _ _ _ 0 (by simp[World.drewN])).trans rfl) ((World.cell?_alloc_at _ _ _ 1 (by simp[World.drewN])).trans rfl)).mono ?_
 rintro e w' ⟨rfl,rfl⟩
 go_wp2_with fail
 go_ret
 exact⟨rfl,1, #[_,_,_],rfl⟩
theorem cmpLaysW(blk off size:Nat)(w:World):CmpLays Tryz.prog 46 #[] whC 2 cmpW blk off size w:=fun _ _ _ _ x y=>compareW x y _
theorem Ev7(l:List (Int×Int))(junk:List Value)(j:Nat)(hj:j<l.length*2):(l.flatMap whC++junk)[j]? = some ((flatK whC 2 l.toArray)[j]!):=by
 rw[get_flatK _ _ _ _ (by simpa using hj)]
 have hq:j / 2<l.length:=by omega
 have h1:=Cu7 Cg7 l junk (j / 2) hq (j%2) (by omega)
 rw[show j / 2*2+j%2=j by omega]at h1
 rw[h1]
 have h2:l.toArray[j / 2]! = l[j / 2]:=by simp[hq]
 rw[h2,List.getElem?_eq_getElem (by rw[Cg7];omega)]
 rw[getElem!_pos _ _ (by rw[Cg7];omega)]
theorem MZ7(l:List (Int×Int))(g cap:Nat)(junk:List Value)(h62:l.length<4611686018427387904)(W w:World)(L:List HP)(hS:St W (blk g (l.flatMap whC++junk) 94::L) w):
  Calls Tryz.prog 109 #[.slice (some ⟨g,0,none⟩) l.length cap,.func (.func 46) #[] #[]] w fun e w'=>
   e=.returned (.tuple #[])∧∃l':List (Int×Int),l'.Perm l∧l'.Pairwise (fun x y=>ltW y x=false)∧St W (blk g (l'.flatMap whC++junk) 94::L) w':=by
 have eg:∀args w,(callFunc 46 args).run Tryz.prog w=.ok (.enter 46 args) w:=enters_of Tryz.func46 (by kernel_rfl) rfl
 have hgt:=hS.get (b:=g) .head
 have hblk:g<w.heap.size:=(Array.getElem?_eq_some_iff.1 hgt).1
 have hH:HoldsK whC 2 w g 0 l.toArray:=by
  intro j hj
  rw[size_flatK]at hj
  refine⟨hS.cell .head ?_,hS.free .head⟩
  rw[Nat.zero_add]
  exact Ev7 l junk j (by simpa using hj)
 have hcon:=AnyQ.slices_SortFunc Tryz.sortWh 2 Tryz.isAgg94 Tryz.sizeOf94 whC Cg7 (fun x v hv=>by simp[whC]at hv;rcases hv with rfl|rfl <;> rfl) cmpW swoW 46 #[] g 0 cap l.toArray w eg (cmpLaysW g 0 l.toArray.size w) hH hblk (by simpa using h62)
 change Calls Tryz.prog 109 _ _ _ at hcon
 simp only[List.size_toArray]at hcon
 refine hcon.mono ?_
 rintro e w' ⟨rfl,d',n,os,⟨hp1,_,hp3⟩,hs,rfl⟩
 refine⟨rfl,d'.toList,?_,?_,?_⟩
 ·have e1:d'.extract 0 l.length=d':=by
   have:l.length=d'.size:=by rw[hp1];simp
   rw[this,Array.extract_size]
  have e2:l.toArray.extract 0 l.length=l.toArray:=by
   have:l.length=l.toArray.size:=by simp
   rw[this,Array.extract_size]
  rw[e1,e2]at hp3
  exact hp3
 ·rw[List.pairwise_iff_getElem]
  intro i j hi hj hij
  have:=hs i j (Nat.zero_le _) hij (by simp at hj;rw[hp1]at hj;simpa using hj)
  rw[ltWc]at this
  have hi':i<d'.size:=by simpa using hi
  have hj':j<d'.size:=by simpa using hj
  rw[getElem!_pos d' i hi',getElem!_pos d' j hj']at this
  simp only[Array.getElem_toList]
  exact this
 ·unfold sortWorldK
  refine St.grow ?_ os
  have hSd:St W (blk g (l.flatMap whC++junk) 94::L) (Sort.ahead w n):=⟨hS.os,hS.tape,hS.output,hS.sat⟩
  refine hSd.putO (w':=putRowK whC 2 (Sort.ahead w n) g 0 d') (o':=.cells (d'.toList.flatMap whC++junk).toArray 94 (0,0)) .head rfl rfl rfl fun k=>?_
  show((Sort.ahead w n).heap.modify g _)[k]? = _
  rw[Array.getElem?_modify]
  by_cases hk:k=g
  ·subst hk
   rw[if_pos rfl,if_pos rfl]
   have hgt':(Sort.ahead w n).heap[k]? = some (.cells (l.flatMap whC++junk).toArray 94 (0,0)):=hgt
   rw[hgt']
   simp only[Option.map_some,Sort.onCells]
   congr 2
   have hdl:d'.toList.length=l.length:=by rw[Array.length_toList,hp1];simp
   have hf1:=Ab7 Cg7 l
   have hf2:=Ab7 Cg7 d'.toList
   apply Array.ext_getElem?
   intro t
   unfold Sort.putCells
   simp only[Array.getElem?_mapIdx,List.getElem?_toArray,size_flatK,Nat.zero_le,true_and,Nat.zero_add,Nat.sub_zero,id]
   have hds:d'.size=l.length:=by rw[hp1];simp
   by_cases ht:t<l.length*2
   ·have h1:=Ev7 d'.toList junk t (by rw[hdl];exact ht)
    rw[h1,Ev7 l junk t ht]
    simp[hds,ht]
   ·have h2:(l.flatMap whC++junk)[t]? = (d'.toList.flatMap whC++junk)[t]? := by
     rw[List.getElem?_append_right (by omega),List.getElem?_append_right (by omega),hf1,hf2,hdl]
    rw[←h2]
    simp[hds,ht]
  ·rw[if_neg (fun h=>hk h.symm),if_neg hk]
theorem Jo7(f:Value)(W w:World)(L:List HP)(hS:St W L w):
  Calls Tryz.prog 216 #[.slice none 0 0,.int .i64 0,.int .i64 0,f] w fun e w'=>e=.returned (.tuple #[])∧St W L w':=by
 go_enter Tryz.func216,Tryz.ntmps216
 go_wp2_with fail
 go_loopw [8] (fun v wr=>v=.int .i64 1∧St W L wr) (fun _ _=>0)
 case atStart=>exact⟨rfl,hS⟩
 case round=>
  clear hS
  obtain⟨rfl,hS⟩:=hrel
  go_wp2_with fail
  go_end0
  exact⟨rfl,hS⟩
theorem Ox7(n:Int)(f:Value)(W w:World)(L:List HP)(hS:St W L w):
  Calls Tryz.prog 176 #[.slice none 0 0,.int .i64 0,.int .i64 0,.int .i64 n,f] w fun e w'=>e=.returned (.tuple #[])∧St W L w':=by
 go_enter Tryz.func176,Tryz.ntmps176
 go_wp2_with fail
 go_loopw [1,2] (fun v1 v2 wr=>v1=.int .i64 0∧v2=.int .i64 0∧St W L wr) (fun _ _ _=>0)
 case atStart=>exact⟨rfl,rfl,hS⟩
 case round=>
  clear hS
  obtain⟨rfl,rfl,hS⟩:=hrel
  go_wp2_with(first|(go_at_call 216;refine(Jo7 _ W _ _ hS).mono ?_;clear hS;rintro e w ⟨rfl,hS⟩))
  refine bodyPost_ret (results_none rfl _ _ _) rfl ?_
  exact⟨rfl,hS⟩
theorem Na7(f:Value)(W w:World)(L:List HP)(hS:St W L w):
  Calls Tryz.prog 109 #[.slice none 0 0,f] w fun e w'=>e=.returned (.tuple #[])∧St W L w':=by
 have hl:∀w:World,Calls Tryz.prog 177 #[.int .u64 0] w fun e w'=>(∃l:Int,e=.returned (.int .i64 l))∧w'=w:=fun w=>
  (Any.bits_Len Tryz.bitsLenW 0 w (by omega) (by omega)).mono fun _ _ ⟨he,hw⟩=>⟨⟨_,he⟩,hw⟩
 go_enter Tryz.func109,Tryz.ntmps109
 go_wp2_with(first|(go_at_call 177;refine(hl _).mono ?_;rintro e w ⟨⟨l,rfl⟩,rfl⟩)|(go_at_call 176;refine(Ox7 _ _ W _ _ hS).mono ?_;clear hS;rintro e w ⟨rfl,hS⟩))
 go_end0
 exact⟨rfl,hS⟩
theorem collectW{gf:Nat}{lb:Array Value}{S:List (Int×Int)→Prop}{N:Nat}{W w:World}{R:List HP}(hN:N≤1000000000)(hseq:Gives Tryz.prog eWh N gf lb S W R)(eg:∀args w,(callFunc gf args).run Tryz.prog w=.ok (.enter gf args) w)(hS:St W R w):
  Calls Tryz.prog 108 #[.func (.func gf) #[] lb] w fun e w'=>∃v ss,e=.returned v∧S ss∧St W (row v 2 94 ss.length (ss.flatMap whC)::R) w':=by
 go_enter Tryz.func108,Tryz.ntmps108
 go_wp2_with(go_at_call 175;refine(appendW hN hseq eg hS).mono ?_;clear hS;rintro e w ⟨v,ss,rfl,hs,hS⟩)
 go_ret
 exact⟨v,ss,rfl,hs,hS⟩
theorem strictW{l:List (Int×Int)}(hn:l.Nodup)(h:l.Pairwise fun x y=>ltW y x=false):l.Pairwise fun x y=>ltW x y=true:=by
 refine List.Pairwise.imp_of_mem ?_ (hn.and h)
 rintro a b _ _ ⟨h1,h2⟩
 exact Ax7.tri b a h2 fun e=>h1 e.symm
theorem sortedW{gf:Nat}{lb:Array Value}{K:List (Int×Int)}{W w:World}{R:List HP}(hn:K.Nodup)(hN:K.length≤1000000000)(hseq:Gives Tryz.prog eWh K.length gf lb (fun ss=>ss.Perm K) W R)(eg:∀args w,(callFunc gf args).run Tryz.prog w=.ok (.enter gf args) w)(hS:St W R w):
  Calls Tryz.prog 44 #[.func (.func gf) #[] lb,.func (.func 46) #[] #[]] w fun e w'=>∃(v:Value) (ks:List (Int×Int)),e=.returned v∧ks.Perm K∧ks.Pairwise (fun x y=>ltW x y=true)∧St W (row v 2 94 ks.length (ks.flatMap whC)::R) w':=by
 go_enter Tryz.func44,Tryz.ntmps44
 go_wp2_with(go_at_call 108;refine(collectW hN hseq eg hS).mono ?_;clear hS;rintro e w ⟨v,ss,rfl,hp,hS⟩)
 rcases hS.rowOpen with ⟨rfl,h0,hc,hS1⟩|⟨g,cap,junk,rfl,hn1,hm1,hj,hl,hS1⟩
 ·refine(Na7 _ W _ _ hS1).mono ?_
  clear hS
  rintro e w ⟨rfl,hS⟩
  go_wp2_with fail
  go_ret
  obtain rfl:ss=[]:=List.eq_nil_of_length_eq_zero h0
  exact⟨_,[],rfl,hp,List.Pairwise.nil,hS.rowNil⟩
 ·refine(MZ7 ss g cap junk (by rw[hp.length_eq];omega) W _ _ hS1).mono ?_
  clear hS hS1
  rintro e w ⟨rfl,l',hp2,hs,hS⟩
  have hl2:l'.length=ss.length:=hp2.length_eq
  have hf:(l'.flatMap whC).length=(ss.flatMap whC).length:=by rw[Ab7 Cg7,Ab7 Cg7,hl2]
  have hS1:=hS.rowShut (k:=2) (n:=ss.length) (cap:=cap) hn1 hm1 (by rw[List.length_append,hf,←List.length_append];exact hj) (by rw[hf];exact hl)
  rw[←hl2]at hS1
  clear hS
  have Hp:=Lib.hid (hp2.trans hp)
  have Hs:=Lib.hid (strictW ((hp2.trans hp).nodup_iff.2 hn) hs)
  rw[←hl2]
  clear hp hp2 hs hl2 hf hn1 hm1 hj hl
  go_wp2_with fail
  go_ret
  exact⟨_,l',rfl,Hp.out,Hs.out,hS1⟩
end Go.Proofs.YtlmhakmoioogaaaGreat
end
section
namespace Go.Proofs.YtlmhakmoioogaaaGreat
open Go.RowKit Go.Sl
theorem Li7(mb:Option Nat)(W w:World)(L:List HP)(hS:St W L w):
  Calls Tryz.prog 45 #[.map mb] w fun e w'=>∃g,e=.returned (.func (.func 110) #[] #[.pointer (some ⟨g,0,none⟩)])∧St W (blk g [.map mb] 81::L) w':=by
 go_enter Tryz.func45,Tryz.ntmps45
 go_wp2_with(refine zbx hS ?_;clear hS;intro b w hS)
 go_ret
 exact⟨b,rfl,hS⟩
theorem In7:∀args w,(callFunc 110 args).run Tryz.prog w=.ok (.enter 110 args) w:=enters_of Tryz.func110 (by kernel_rfl) rfl
abbrev tn0:Tns:=⟨0,0,⟨#[]⟩,⟨#[]⟩,⟨#[]⟩,⟨#[]⟩,0,0⟩
theorem Jp7{ν:Type}{ts:List ((Int×Int)×ν)}{ks:List (Int×Int)}(z:ν)(hn:(ts.map (·.1)).Nodup)(hp:ks.Perm (ts.map (·.1)))(hs:ks.Pairwise fun x y=>ltW x y=true):
  ∃T:List ((Int×Int)×ν),T.map (·.1)=ks∧T.Perm ts∧Asc ltW T:=by
 have e1:(ks.map fun k=>(k,(getL ts k).getD z)).map (·.1)=ks:=by rw[List.map_map];exact List.map_id ks
 refine⟨ks.map fun k=>(k,(getL ts k).getD z),e1,?_,?_⟩
 ·have h1:=hp.map fun k=>(k,(getL ts k).getD z)
  refine h1.trans ?_
  rw[List.map_map]
  have h2:∀l':List ((Int×Int)×ν),(∀x∈l',x∈ts)→l'.map ((fun k=>(k,(getL ts k).getD z))∘fun x=>x.1)=l':=by
   intro l'
   induction l' with
   | nil=>exact fun _=>rfl
   | cons x l' ih=>
    intro h
    rw[List.map_cons,ih fun y hy=>h y (List.mem_cons_of_mem _ hy)]
    have hx:getL ts x.1=some x.2:=Bh7 hn (h x (List.mem_cons_self ..))
    show(x.1,(getL ts x.1).getD z)::l'=_
    rw[hx];rfl
  rw[h2 ts fun x hx=>hx]
 ·unfold Asc
  exact List.pairwise_map.2 hs
theorem Jq7{ν:Type}{ev:ν→Value}{g b:Nat}{l:List ((Int×Int)×ν)}{W:World}{R:List HP}:
  Gives Tryz.prog eWh (l.map (·.1)).length 110 #[.pointer (some ⟨g,0,none⟩)] (fun ss=>ss.Perm (l.map (·.1))) W (blk g [.map (some b)] 81::amap eWh ev b l::R):=
 fun lp m X w hT hS=>Ow7 (by rw[List.length_map]at hT;exact hT) hS
def tnC(x:(Int×Int)×Tns):List Value:=x.2.cells
theorem AV7(x:(Int×Int)×Tns):(tnC x).length=8:=rfl
theorem Dk7:∀l:List ((Int×Int)×Tns),(l.flatMap tnC).all (·.oneCell')=true
 | []=>rfl
 | x::l=>by rw[List.flatMap_cons,List.all_append,Dk7 l];rfl
def TrR(W:World)(F:List HP)(T:List ((Int×Int)×Tns))(v3 v15:Value)(w:World):Prop:=
 ∃k:Nat,v15=.int .i64 k∧k≤T.length∧St W (row v3 8 40 k ((T.take k).flatMap tnC)::F) w
theorem DQ7{eb:Nat}{ec:Ec}(hl:ec.ts.length≤1000000000)(W w:World)(R:List HP)(hS:St W (ecP eb ec::R) w):
  Calls Tryz.prog 17 #[.pointer (some ⟨eb,0,none⟩)] w fun e w'=>∃v T,e=.returned v∧T.Perm ec.ts∧Asc ltW T∧St W (row v 8 40 T.length (T.flatMap tnC)::ecP eb ec::R) w':=by
 obtain⟨m1,m2,m3,m4,E,hp,hn,hS⟩:=ecOpenR hS
 have hS1:=evOpen hS
 clear hS
 have hS:=hS1.s (ebB eb m1 m2 m3 m4::amap eW eTn m3 ec.ts::amap eS eN m1 (ptrsE E)::vauP E::amap eI eSs m2 ec.ss::amap eW eU m4 ec.ar::R)
 clear hS1
 have hnt:=amapKeys hS.drop
 have Hp:=Lib.hid hp
 clear hp hn
 go_enter Tryz.func17,Tryz.ntmps17
 go_wp2_with(first|go_big_skip|(refine zl1 hS ?_)|(go_at_call 45;refine(Li7 (some m3) W _ _ (hS.s (amap eW eTn m3 ec.ts::ebB eb m1 m2 m3 m4::amap eS eN m1 (ptrsE E)::vauP E::amap eI eSs m2 ec.ss::amap eW eU m4 ec.ar::R))).mono ?_;clear hS;rintro e w ⟨g,rfl,hS⟩)|(go_at_call 44;refine(sortedW hnt (by rw[List.length_map];exact hl) Jq7 In7 hS).mono ?_;clear hS;rintro e w ⟨v,ks,rfl,hkp,hks,hS⟩;obtain⟨sa,sc,rfl⟩:=hS.rowVal))
 obtain⟨T,rfl,hT1,hT2⟩:=Jp7 tn0 hnt hkp hks
 have hlk:(T.map (·.1)).length=T.length:=List.length_map _
 have Hk:=Lib.hid (show ∀(k:Nat) (h:k<T.length) (h2:k<(T.map (·.1)).length),(T.map (·.1))[k]=T[k].1 from fun k h h2=>List.getElem_map _)
 have hTl:T.length≤1000000000:=by rw[hT1.length_eq];exact hl
 have Hg:=Lib.hid (show ∀x∈T,getL ec.ts x.1=some x.2 from fun x hx=>Bh7 hnt (hT1.mem_iff.1 hx))
 generalize T.map (·.1)=ks at hS hlk Hk
 have HT1:=Lib.hid hT1
 have HT2:=Lib.hid hT2
 have Hl:=Lib.hid hlk
 clear hT1 hT2 hkp hks hl hnt
 have hS1:=hS.rowNil (k:=8) (T:=40)
 clear hS
 have hS:=hS1
 clear hS1
 go_loopw [3,15] (fun v3 v15 wr=>TrR W (row (.slice sa ks.length sc) 2 94 ks.length (ks.flatMap whC)::blk g [.map (some m3)] 81::amap eW eTn m3 ec.ts::ebB eb m1 m2 m3 m4::amap eS eN m1 (ptrsE E)::vauP E::amap eI eSs m2 ec.ss::amap eW eU m4 ec.ar::R) T v3 v15 wr) (fun _ v15 _=>T.length-(intOf v15).toNat)
 case atStart=>exact⟨0,rfl,Nat.zero_le _,hS⟩
 case round=>
  clear hS
  obtain⟨k,rfl,hkl,hS⟩:=hrel
  by_cases hkn:k=T.length
  ·rw[hkn,List.take_length]at hS
   have hd1:decide (k<ks.length)=false:=by simp;omega
   clear hkl hkn hTl hlk
   go_wp2_with(first|go_big_skip)
   go_ret
   exact⟨u3,T,rfl,HT1.out,HT2.out,(ecShut Hp.out (hS.s (ebB eb m1 m2 m3 m4::amap eS eN m1 (ptrsE E)::vauP E::amap eI eSs m2 ec.ss::amap eW eTn m3 ec.ts::amap eW eU m4 ec.ar::row u3 8 _ _ _::R))).swap⟩
  ·have hk1:k<T.length:=by omega
   have hk2:k<ks.length:=by omega
   obtain⟨⟨gk,rfl⟩,hcap,hcn⟩:=St.rowAddr hS.drop (by omega)
   have hcells:∀{K K':List HP},Take K (row (.slice (some ⟨gk,0,none⟩) ks.length sc) 2 94 ks.length (ks.flatMap whC)) K'→Cells K gk (k*2) (whC ks[k]):=fun hu=>Cells.elemM (enc:=whC) Cg7 hu hk2
   have hgt:=Hg.out _ (List.getElem_mem hk1)
   have hstep:(T.take (k+1)).flatMap tnC=(T.take k).flatMap tnC++tnC T[k]:=by rw[List.take_succ_eq_append_getElem hk1,List.flatMap_append];simp
   rw[Hk.out k hk1 hk2]at hcells
   have Hstep:=Lib.hid hstep
   have hd2:decide (k<ks.length)=true:=by simp;omega
   clear hstep hkn hkl hlk
   generalize T[k]=x at hcells hgt Hstep
   obtain⟨⟨c,q⟩,⟨t0,t1,t2,t3,t4,t5,t6,t7⟩⟩:=x
   simp only[whC]at hcells
   simp only at hgt
   have hts:lookR false (eTn tn0) ((getL ec.ts (c,q)).map eTn)=.agg #[.int .i64 t0,.int .i64 t1,.string t2,.string t3,.string t4,.string t5,.int .i64 t6,.int .i64 t7]:=by rw[hgt];rfl
   have Hts:=Lib.hid hts
   clear hts hgt
   generalize (T.take k).flatMap tnC=acc at hS Hstep
   go_wp2_with(first|go_big_skip|(refine zlN hS ?_ (hc:=by exact hcells (by exact takeS)))|(refine zal hS ?_;clear hS;intro b w hS)|(refine zsN hS ?_;clear hS;intro w hS))
   have hS1:=hS.s (row u3 8 _ _ _::amap eW eTn m3 ec.ts::ebB eb m1 m2 m3 m4::blk b _ _::row (.slice (some ⟨gk,0,none⟩) ks.length sc) 2 _ _ _::blk g _ _::amap eS eN m1 (ptrsE E)::vauP E::amap eI eSs m2 ec.ss::amap eW eU m4 ec.ar::R)
   clear hS
   have hb9:k≤1000000000:=by omega
   refine rf2 [0,0,2,6,14,0,62,126,255,511] (fun i=>i==7||i==8) [⟨some 7,none,fun nd=>slTo (nd 7) 1 1 [.int .i64 t0,.int .i64 t1,.string t2,.string t3,.string t4,.string t5,.int .i64 t6,.int .i64 t7] 40⟩,⟨some 8,none,fun nd=>row (nd 8) 8 40 (k+1) (acc++[.int .i64 t0,.int .i64 t1,.string t2,.string t3,.string t4,.string t5,.int .i64 t6,.int .i64 t7])⟩] [some 8,none,none,none] hS1 ?_
   clear hS1
   intro nd
   iterate 2 (refine cR ?_)
   (refine zcn ?_)
   (refine cR ?_)
   (refine zc1 ?_)
   (refine zcN ?_)
   (apply AB7 (ek:=eW) (ev:=eTn) (k:=(c,q));rfl;kernel_rfl;(with_reducible rfl);rfl;rfl;rfl;(intro F;exact⟨_,by exact takO⟩);exact mT;exact kW;exact zT;exact Hts.out;(refine frS ?_))
   (apply ch_bs;rfl;(with_reducible rfl);rfl;(focus(simp only[fD,fI,fJ,Act.eval,fE,fF,fG,fH,fK];try rfl));(exact esS);(exact rsS);rfl;rfl;rfl;rfl;(intro _;rfl);rfl;(intro _;rfl);(refine frS ?_))
   (apply Ai7;rfl;(with_reducible rfl);rfl;(focus((conv=>lhs;whnf);try rfl));(focus((conv=>lhs;whnf);try rfl));(exact esS);(exact rsS);rfl;decide;rfl;(intro F w hS;exact AI7 hS (by exact takO));(focus(try rfl));rfl;(focus(unfold maxLen;omega));(focus(omega));(intro _;rfl);(intro _;rfl);(refine frS ?_))
   (refine cR ?_)
   refine Ad7 ?_
   intro w hS
   have hS2:St W [slTo (nd 7) _ _ _ _,row (nd 8) 8 _ _ _,amap eW eTn m3 ec.ts,ebB eb m1 m2 m3 m4,blk b _ _,sats (row (.slice (some ⟨gk,0,none⟩) ks.length sc) 2 94 ks.length (ks.flatMap whC)::blk g [.map (some m3)] 81::amap eS eN m1 (ptrsE E)::vauP E::amap eI eSs m2 ec.ss::amap eW eU m4 ec.ar::R)] w:=hS
   clear hS
   have hS:=hS2.unpack [_,_,_,_,_]
   clear hS2
   simp only[List.cons_append,List.nil_append]at hS
   generalize nd 8=v8 at *
   replace hS:=hS.drop
   go_wp2_with fail
   go_roundw
   case rel=>
    have hS2:=hS.s (row v8 8 _ _ _::row (.slice (some ⟨gk,0,none⟩) ks.length sc) 2 _ _ _::blk g _ _::amap eW eTn m3 ec.ts::ebB eb m1 m2 m3 m4::amap eS eN m1 (ptrsE E)::vauP E::amap eI eSs m2 ec.ss::amap eW eU m4 ec.ar::R)
    exact⟨k+1,rfl,by omega,by rw[Hstep.out];exact hS2⟩
   case measure=>simp[intOf];omega
abbrev ltB(x y:ByteArray):Bool:=Op.bytesLess x.toList y.toList
theorem BE7:Ordr ltB:=⟨fun a=>by
  cases h:ltB a a with
  | false=>rfl
  | true=>exact absurd rfl (DG7 h),fun a b c h1 h2=>DF7 h1 h2,fun a b h1 h2=>by
  refine Gr7 ?_ h2
  show ¬ltB a b=true
  rw[h1];exact Bool.noConfusion⟩
def rwC(x:ByteArray×(Nat×Vs)):List Value:=[.string x.1,.pointer (some ⟨x.2.1,0,none⟩)]
theorem Bb7(x:ByteArray×(Nat×Vs)):(rwC x).length=2:=rfl
def seC(x:Int×(Int×Rpl)):List Value:=[.int .i64 x.1,.int .i64 x.2.1,.int .i64 x.2.2.err,.int .i64 x.2.2.id,.int .i64 x.2.2.has.x0,.int .i64 x.2.2.has.x1,.int .i64 x.2.2.has.x2,.int .i64 x.2.2.has.x3]
theorem AN7(x:Int×(Int×Rpl)):(seC x).length=8:=rfl
def mkC(x:(Int×Int)×Unit):List Value:=[.int .i64 x.1.1,.int .i64 x.1.2]
theorem BP7(x:(Int×Int)×Unit):(mkC x).length=2:=rfl
def dvP(vb:Nat)(V:Vs):HP:=fun f=>∃xB:Nat,sats [xvP vb (.pointer (some ⟨xB,0,none⟩)) V.n V.ps,xkP xB V.L V.n] f
def dvaP(D:Ev):HP:=sats (D.map fun x=>dvP x.2.1 x.2.2)
abbrev xrP(v:Value)(D:Ev):HP:=row v 2 137 D.length (D.flatMap rwC)
abbrev xsP(v:Value)(l:List (Int×(Int×Rpl))):HP:=row v 8 143 l.length (l.flatMap seC)
abbrev xtP(v:Value)(l:List ((Int×Int)×Tns)):HP:=row v 8 40 l.length (l.flatMap tnC)
abbrev xmP(v:Value)(l:List ((Int×Int)×Unit)):HP:=row v 2 140 l.length (l.flatMap mkC)
abbrev xeB(xb:Nat)(v1 v2 v3 v4:Value):HP:=blk xb [v1,v2,v3,v4] 50
def XpR(W:World)(L:List HP)(D:Ev)(k:ByteArray)(v:Value)(w:World):Prop:=
 ∃i:Nat,v=.int .i64 i∧i≤D.length∧plI ltB D k=i+plI ltB (D.drop i) k∧plB ltB D k=plB ltB (D.drop i) k∧St W L w
theorem Lj7(D:Ev)(k:ByteArray)(xb:Nat)(v1 v2 v3 v4:Value)(W w:World)(R:List HP)(hS:St W (xeB xb v1 v2 v3 v4::xrP v1 D::R) w):
  Calls Tryz.prog 80 #[.pointer (some ⟨xb,0,none⟩),.string k] w fun e w'=>e=.returned (.tuple #[.int .i64 (plI ltB D k),.bool (plB ltB D k)])∧St W (xeB xb v1 v2 v3 v4::xrP v1 D::R) w':=by
 obtain⟨a,cap,rfl⟩:=hS.drop.rowVal
 have h63:D.length≤9223372036854775807:=by
  rcases St.rowCase hS.drop with ⟨_,h0,_⟩|⟨_,_,h1,h2⟩
  ·omega
  ·omega
 go_enter Tryz.func80,Tryz.ntmps80
 go_wp2_with fail
 go_loopw [6] (fun v wr=>XpR W (xeB xb (.slice a D.length cap) v2 v3 v4::xrP (.slice a D.length cap) D::R) D k v wr) (fun v _=>D.length-(intOf v).toNat)
 case atStart=>exact⟨0,rfl,Nat.zero_le _,by simp,rfl,hS⟩
 case round=>
  clear hS
  obtain⟨i,rfl,hil,e1,e2,hS⟩:=hrel
  by_cases hin:i=D.length
  ·subst hin
   rw[List.drop_length]at e1 e2
   have E1:=Lib.hid (show plI ltB D k=D.length from e1)
   have E2:=Lib.hid (show plB ltB D k=false from e2)
   clear e1 e2
   go_wp2_with(first|go_big_skip|(refine zl1 hS ?_))
   go_ret2
   rw[E1.out,E2.out]
   exact⟨rfl,hS⟩
  ·have hi1:i<D.length:=by omega
   obtain⟨⟨g,rfl⟩,hcap,hcn⟩:=St.rowAddr hS.drop (by omega)
   have hname:∀{K K':List HP},Take K (xrP (.slice (some ⟨g,0,none⟩) D.length cap) D) K'→Cell K g (i*2) (.string D[i].1):=fun hu=>Cells.elemM (enc:=rwC) Bb7 hu hi1 0 _ rfl
   have hdr:D.drop i=D[i]::D.drop (i+1):=List.drop_eq_getElem_cons hi1
   rw[hdr]at e1 e2
   generalize D[i]=x at hname e1 e2
   obtain⟨xw,xi⟩:=x
   simp only at hname
   rw[plI]at e1
   rw[plB]at e2
   simp only at e1 e2
   clear hdr
   cases hb:Op.bytesLess xw.toList k.toList with
   | true=>
    rw[if_pos hb]at e1 e2
    have E1:=Lib.hid e1
    have E2:=Lib.hid e2
    clear e1 e2
    go_wp2_with(first|go_big_skip|(refine zl1 hS ?_)|(refine zl1 hS ?_ (hc:=by exact hname (by exact takeS))))
    go_roundw
    case rel=>exact⟨i+1,rfl,hi1,by rw[E1.out];omega,E2.out,hS⟩
    case measure=>simp[intOf];omega
   | false=>
    rw[if_neg (by rw[show ltB xw k=false from hb];simp)]at e1 e2
    have e3:plB ltB D k=(xw.toList==k.toList):=by
     rw[e2]
     cases h:(xw.toList==k.toList)with
     | true=>simpa using FD7.1 h
     | false=>simp only[decide_eq_false_iff_not];intro e;rw[FD7.2 e]at h;cases h
    have E1:=Lib.hid (show plI ltB D k=i from e1)
    have E2:=Lib.hid e3
    clear e1 e2 e3
    go_wp2_with(first|go_big_skip|(refine zl1 hS ?_)|(refine zl1 hS ?_ (hc:=by exact hname (by exact takeS))))
    refine Aa7 (by kernel_rfl) (by kernel_rfl) hS ?_
    iterate 2 (refine qR ?_)
    (refine zqn ?_)
    (refine qR ?_)
    (refine zq1 ?_)
    iterate 3 (refine qR ?_)
    (apply Aq7;(with_reducible rfl);rfl;rfl;decide +kernel;(exact hname (by exact takeS));(refine frS ?_))
    iterate 4 (refine qR ?_)
    clear hS
    intro w hS
    go_wp2_with fail
    go_ret2
    rw[E1.out,E2.out]
    exact⟨rfl,hS⟩
theorem DR7{D:Ev}{k:ByteArray}{p:Nat}{b:Bool}(h1:plI ltB D k=p)(h2:plB ltB D k=b)(xb:Nat)(v1 v2 v3 v4:Value)(W w:World)(R:List HP)(hS:St W (xeB xb v1 v2 v3 v4::xrP v1 D::R) w):
  Calls Tryz.prog 80 #[.pointer (some ⟨xb,0,none⟩),.string k] w fun e w'=>e=.returned (.tuple #[.int .i64 p,.bool b])∧St W (xeB xb v1 v2 v3 v4::xrP v1 D::R) w':=
 (Lj7 D k xb v1 v2 v3 v4 W w R hS).mono fun e w' ⟨he,hS⟩=>⟨by rw[he,h1,h2],hS⟩
end Go.Proofs.YtlmhakmoioogaaaGreat
end
