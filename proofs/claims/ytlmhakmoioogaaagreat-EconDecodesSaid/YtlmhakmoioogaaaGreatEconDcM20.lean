/-
  The library's contracts laid at this program.
-/
import Derived.Test.YtlmhakmoioogaaaGreatEconDcM4
import Derived.Test.YtlmhakmoioogaaaGreatEconDcM6
import Derived.Test.YtlmhakmoioogaaaGreatEconDcM10
import Derived.Test.YtlmhakmoioogaaaGreatEconDcM14
import Derived.Test.YtlmhakmoioogaaaGreatEconDcM19
import Derived.Test.YtlmhakmoioogaaaGreatProg
import Derived.Shelf.SlSortCmp.WholeK
import Derived.Shelf.SlicesG.Cmp
import Derived.Shelf.Small.Bits
import Derived.Ground.SlsfProg
import Derived.Ground.SlgcProg
import Derived.Ground.NamesProg
set_option maxHeartbeats 16000000
set_option maxRecDepth 100000
set_option linter.unusedSimpArgs false
set_option linter.unusedVariables false
section
namespace Go.Proofs.YtlmhakmoioogaaaGreat
open Go.Shelf
def Tryz.sortWh_ren:Go.Shelf.Ren:=⟨fun|6=>109|15=>177|14=>176|28=>224|29=>225|20=>216|21=>217|22=>218|23=>219|24=>220|25=>221|26=>222|27=>223|46=>251|47=>252|48=>253|49=>254|50=>255|57=>272|n=>n,fun|22=>91|24=>94|25=>98|3=>3|39=>195|0=>0|53=>295|55=>194|4=>4|46=>289|45=>288|50=>134|5=>5|9=>9|66=>318|70=>262|76=>332|77=>181|n=>n,fun|n=>n⟩
theorem Tryz.sortWh:Go.Proofs.SlLaysF0.n6 Tryz.prog Tryz.sortWh_ren:={
 mixed:=by kernel_rfl
 f6:=⟨Tryz.f109.name,by decide,Tryz.func109.trans (congrArg some (by kernel_rfl))⟩
 f14:=⟨Tryz.f176.name,by decide,Tryz.func176.trans (congrArg some (by kernel_rfl))⟩
 f15:=Tryz.func177.trans (congrArg some (by kernel_rfl))
 f20:=⟨Tryz.f216.name,by decide,Tryz.func216.trans (congrArg some (by kernel_rfl))⟩
 f21:=⟨Tryz.f217.name,by decide,Tryz.func217.trans (congrArg some (by kernel_rfl))⟩
 f22:=⟨Tryz.f218.name,by decide,Tryz.func218.trans (congrArg some (by kernel_rfl))⟩
 f23:=⟨Tryz.f219.name,by decide,Tryz.func219.trans (congrArg some (by kernel_rfl))⟩
 f24:=⟨Tryz.f220.name,by decide,Tryz.func220.trans (congrArg some (by kernel_rfl))⟩
 f25:=⟨Tryz.f221.name,by decide,Tryz.func221.trans (congrArg some (by kernel_rfl))⟩
 f26:=⟨Tryz.f222.name,by decide,Tryz.func222.trans (congrArg some (by kernel_rfl))⟩
 f27:=⟨Tryz.f223.name,by decide,Tryz.func223.trans (congrArg some (by kernel_rfl))⟩
 f28:=Tryz.func224.trans (congrArg some (by kernel_rfl))
 f29:=Tryz.func225.trans (congrArg some (by kernel_rfl))
 f46:=⟨Tryz.f251.name,by decide,Tryz.func251.trans (congrArg some (by kernel_rfl))⟩
 f47:=Tryz.func252.trans (congrArg some (by kernel_rfl))
 f48:=Tryz.func253.trans (congrArg some (by kernel_rfl))
 f49:=⟨Tryz.f254.name,by decide,Tryz.func254.trans (congrArg some (by kernel_rfl))⟩
 f50:=⟨Tryz.f255.name,by decide,Tryz.func255.trans (congrArg some (by kernel_rfl))⟩
 f57:=⟨Tryz.f272.name,by decide,Tryz.func272.trans (congrArg some (by kernel_rfl))⟩
 t0:=Tryz.underlying0
 a0:=Tryz.isAgg0
 z0:=Tryz.sizeOf0
 v0:=Tryz.zeroValue0
 t3:=Tryz.underlying3
 a3:=Tryz.isAgg3
 z3:=Tryz.sizeOf3
 v3:=Tryz.zeroValue3
 t4:=Tryz.underlying4
 a4:=Tryz.isAgg4
 z4:=Tryz.sizeOf4
 v4:=Tryz.zeroValue4
 t5:=Tryz.underlying5
 a5:=Tryz.isAgg5
 z5:=Tryz.sizeOf5
 v5:=Tryz.zeroValue5
 t9:=Tryz.underlying9
 a9:=Tryz.isAgg9
 z9:=Tryz.sizeOf9
 v9:=Tryz.zeroValue9
 t22:=Tryz.underlying91
 a22:=Tryz.isAgg91
 z22:=Tryz.sizeOf91
 v22:=Tryz.zeroValue91
 t25:=Tryz.underlying98
 a25:=Tryz.isAgg98
 z25:=Tryz.sizeOf98
 v25:=Tryz.zeroValue98
 t39:=Tryz.underlying195
 a39:=Tryz.isAgg195
 z39:=Tryz.sizeOf195
 v39:=Tryz.zeroValue195
 t45:=Tryz.underlying288
 a45:=Tryz.isAgg288
 z45:=Tryz.sizeOf288
 v45:=Tryz.zeroValue288
 t46:=Tryz.underlying289
 a46:=Tryz.isAgg289
 z46:=Tryz.sizeOf289
 v46:=Tryz.zeroValue289
 t50:=Tryz.underlying134
 a50:=Tryz.isAgg134
 z50:=Tryz.sizeOf134
 v50:=Tryz.zeroValue134
 t53:=Tryz.underlying295
 a53:=Tryz.isAgg295
 z53:=Tryz.sizeOf295
 v53:=Tryz.zeroValue295
 t55:=Tryz.underlying194
 a55:=Tryz.isAgg194
 z55:=Tryz.sizeOf194
 v55:=Tryz.zeroValue194
 t66:=Tryz.underlying318
 a66:=Tryz.isAgg318
 z66:=Tryz.sizeOf318
 v66:=Tryz.zeroValue318
 t70:=Tryz.underlying262
 a70:=Tryz.isAgg262
 z70:=Tryz.sizeOf262
 v70:=Tryz.zeroValue262
 t76:=Tryz.underlying332
 a76:=Tryz.isAgg332
 z76:=Tryz.sizeOf332
 v76:=Tryz.zeroValue332
 t77:=Tryz.underlying181
 a77:=Tryz.isAgg181
 z77:=Tryz.sizeOf181
 v77:=Tryz.zeroValue181 }
def Tryz.cmpIntW_ren:Go.Shelf.Ren:=⟨fun|5=>112|7=>178|n=>n,fun|22=>3|3=>3|4=>4|n=>n,fun|n=>n⟩
theorem Tryz.cmpIntW:Go.Proofs.SlLaysC2.n5 Tryz.prog Tryz.cmpIntW_ren:={
 mixed:=by kernel_rfl
 f5:=⟨Tryz.f112.name,by decide,Tryz.func112.trans (congrArg some (by kernel_rfl))⟩
 f7:=⟨Tryz.f178.name,by decide,Tryz.func178.trans (congrArg some (by kernel_rfl))⟩
 t3:=Tryz.underlying3
 a3:=Tryz.isAgg3
 z3:=Tryz.sizeOf3
 v3:=Tryz.zeroValue3
 t4:=Tryz.underlying4
 a4:=Tryz.isAgg4
 z4:=Tryz.sizeOf4
 v4:=Tryz.zeroValue4
 t22:=Tryz.underlying3
 a22:=Tryz.isAgg3
 z22:=Tryz.sizeOf3
 v22:=Tryz.zeroValue3 }
def Tryz.bitsLenW_ren:Go.Shelf.Ren:=⟨fun|125=>177|128=>224|129=>225|n=>n,fun|46=>195|3=>3|51=>295|53=>194|4=>4|5=>5|9=>9|n=>n,fun|n=>n⟩
theorem Tryz.bitsLenW:Go.Proofs.Lays.n125 Tryz.prog Tryz.bitsLenW_ren:={
 mixed:=by kernel_rfl
 f125:=Tryz.func177.trans (congrArg some (by kernel_rfl))
 f128:=Tryz.func224.trans (congrArg some (by kernel_rfl))
 f129:=Tryz.func225.trans (congrArg some (by kernel_rfl))
 t3:=Tryz.underlying3
 a3:=Tryz.isAgg3
 z3:=Tryz.sizeOf3
 v3:=Tryz.zeroValue3
 t4:=Tryz.underlying4
 a4:=Tryz.isAgg4
 z4:=Tryz.sizeOf4
 v4:=Tryz.zeroValue4
 t5:=Tryz.underlying5
 a5:=Tryz.isAgg5
 z5:=Tryz.sizeOf5
 v5:=Tryz.zeroValue5
 t9:=Tryz.underlying9
 a9:=Tryz.isAgg9
 z9:=Tryz.sizeOf9
 v9:=Tryz.zeroValue9
 t46:=Tryz.underlying195
 a46:=Tryz.isAgg195
 z46:=Tryz.sizeOf195
 v46:=Tryz.zeroValue195
 t51:=Tryz.underlying295
 a51:=Tryz.isAgg295
 z51:=Tryz.sizeOf295
 v51:=Tryz.zeroValue295
 t53:=Tryz.underlying194
 a53:=Tryz.isAgg194
 z53:=Tryz.sizeOf194
 v53:=Tryz.zeroValue194 }
end Go.Proofs.YtlmhakmoioogaaaGreat
end
section
namespace Go.Sl
open Go.RowKit Go.Sort
section
variable{P:Program}{ops:Array Oper}{w1:World}
theorem GR7{id:Nat}{Q:Exit->Act->World->Prop}{a:Act}{w:World}{l:List Oper}(n:Nat)(hm:P.follows .mixedOrders=true)(hB:Region.lexTailB .any l.toArray n=true)
  (h:wpQuiet P l.toArray (fun w'=>w'=w.drewN 1) (fun a'=>wpList P l.toArray Q (l.drop n) a' (w.drewN 1)) (l.take n) a):(Code.region id l.toArray true).wp P Q a w:=by
 simp only[Region.lexTailB,jB,decide_eq_true_eq]at hB;obtain⟨⟨⟨⟨hsel,hn⟩,hs⟩,hc⟩,hlex⟩:=hB;have htl:(l.take n).length=n:=by simp at hn ⊢;omega
 have hdl:(l.drop n).length=l.toArray.size-n:=by simp
 have inv0:HeadInv .any l.toArray n (Array.replicate l.toArray.size false):=
  ⟨by simp,fun j oj _ hl=>(by rw[getD_replicate_false]at hl;cases hl),fun t _ ht=>getD_in (by simpa using ht) (getD_replicate_false _ _)⟩
 have H:=Ng7 (md:=.any) (g:=l.toArray.size-n) hsel hs hc hn (l.take n) 0 _ a (fun j hj=>by
  have hj':j<n:=by rw[htl]at hj;exact hj
  simp[hj']) (by simpa using htl) inv0 (by rw[htl];exact hlex) h
 refine wp_region_any hm ?_;have:=Gi7 (P:=P) (md:=.any) (ops:=l.toArray) (C:=fun w'=>w'=w.drewN 1) (n:=n) (T:=fun listed' a'=>Region.seqB .any l.toArray (l.toArray.size-n) n listed'=true/\wpList P l.toArray Q (l.drop n) a' (w.drewN 1)) (Q:=Q) (g:=l.toArray.size-n) (fun listed a' w' hC hL=>by subst hC;have:=wpAny_of_seq (md:=.any) (Q':=Q) (l.drop n) n listed a' (w.drewN 1) (fun j=>by simp[List.getElem?_drop]) (by rw[hdl];exact hL.1) hL.2;rwa [hdl]at this) _ _ _ (w.drewN 1) rfl H;rw[htl]at this;rwa [show n+(l.toArray.size-n)=l.toArray.size by omega]at this
variable{Q:Act->Prop}{a:Act}{o:Oper}{rest:List Oper}
theorem Sk7{v:Value}(hg:Region.wanted o (yielded ops a.tmps)=true)(hv:(execOp a.eval o).run P w1=.ok (.value v) w1)(h:wpQuiet P ops (fun w'=>w'=w1) Q rest (a.put o.dst v)):wpQuiet P ops (fun w'=>w'=w1) Q (o::rest) a:=
 wpQuiet_step fun K hK=>by rw[if_pos hg];exact⟨v,fun w hw=>by subst hw;unfold Oper.quietAt;rw[hv];exact⟨rfl,rfl⟩,hK _ h⟩
theorem FW7(hg:Region.wanted o (yielded ops a.tmps)=true)(hc:aG4 o.op=false)(h:∀K:Act->Prop,(∀a,wpQuiet P ops (fun w'=>w'=w1) Q rest a->K a)->o.quiet P a (fun _=>True) K):wpQuiet P ops (fun w'=>w'=w1) Q (o::rest) a:=by
 obtain⟨v,h1,h2⟩:=h _ fun _ h=>h
 refine wpQuiet_step fun K hK=>?_
 rw[if_pos hg];refine⟨v,fun w _=>?_,hK _ h2⟩;have:=h1 w trivial;unfold Oper.quietAt at this ⊢;generalize hr:(execOp a.eval o).run P w=r at this
 cases r with
 | ok n w'=>cases n <;> first | exact this | exact(Gj7 hc hr).elim
 | halt x w'=>exact this
theorem Ip7{t:TypeId}{x:Operand}{b off:Nat}{v:Value}{W:World}{L:List HP}(hS:St W L w1)(ho:o.op=.load t x)(hg:Region.wanted o (yielded ops a.tmps)=true)(hx:a.eval x=.pointer (some ⟨b,off,none⟩))(ht:M8 P t=some false)(hc:e8 L b off v)
  (h:wpQuiet P ops (fun w'=>w'=w1) Q rest (a.put o.dst v)):wpQuiet P ops (fun w'=>w'=w1) Q (o::rest) a:=
 Sk7 hg (Eh7 hS ho hx ht hc) h
theorem LQ7{f:FuncId}{args:Array Value}{v:Value}(hg:Region.wanted o (yielded ops a.tmps)=true)(hr:∀w,(execOp a.eval o).run P w=.ok (.enter f args) w)
  (hc:Calls P f args w1 fun e w'=>e=.returned v/\w'=w1) (h:wpQuiet P ops (fun w'=>w'=w1) Q rest (a.put o.dst v)):wpQuiet P ops (fun w'=>w'=w1) Q (o::rest) a:=
 wpQuiet_step fun K hK=>by rw[if_pos hg];exact⟨v,fun w hw=>by subst hw;unfold Oper.quietAt;rw[hr w];exact⟨rfl,hc⟩,hK _ h⟩
end
end Go.Sl
namespace Go.Proofs.YtlmhakmoioogaaaGreat
open Go.Shelf Go.RowKit Go.Lib Go.Sort Go.Sl
instance : Inhabited (Int × Int) := ⟨(0,0)⟩
def du4(x y:Int×Int):Int:=if Lib.compareInt x.1 y.1≠0 then Lib.compareInt x.1 y.1 else Lib.compareInt x.2 y.2
theorem eB4(x y:Int×Int):ltOf du4 x y=ltW x y:=by
 unfold ltOf du4 Lib.compareInt ltW;by_cases h1:x.1<y.1
 ·simp[h1]
 ·by_cases h2:y.1<x.1
  ·have:x.1≠y.1:=by omega
   simp[h1,h2,this]
  ·have h3:x.1=y.1:=by omega
   by_cases h4:x.2<y.2
   ·simp[h1,h2,h3,h4]
   ·by_cases h5:y.2<x.2 <;> simp[h1,h2,h3,h4,h5]
theorem gu4:SWO (ltOf du4) where
 irrefl x:=by rw[eB4];exact AP7.irr x
 trans x y z h1 h2:=by rw[eB4]at *;exact AP7.tr x y z h1 h2
 ntrans x y z h1 h2:=by rw[eB4]at *;simp[ltW]at *;omega
theorem orW{a b r:Int}(hr:(if a≠0 then a else b)=r)(g:Nat)(W:World)(h0:W.cell? ⟨g,0,none⟩=some (.I a))(h1:W.cell? ⟨g,1,none⟩=some (.I b)):
  Calls Tryz.prog 111 #[.S g 2 2] W fun e w'=>e=.returned (.I r)/\w'=W:=by
 have Hr:=jH hr;clear hr;go_enter Tryz.func111,Tryz.ntmps111;go_wp2_with fail
 go_loopw [8] (fun v8 wr=>∃i:Nat,v8=.I i/\i<=2/\wr=W/\(1<=i->a=0)/\(2<=i->b=0)) (fun v8 _=>2-(intOf v8).toNat)
 case atStart=>exact⟨0,rfl,by omega,rfl,fun h=>by omega,fun h=>by omega⟩
 case round=>
  obtain⟨i,rfl,hi,rfl,ha,hb⟩:=hrel;have hc:i=0\/i=1\/i=2:=by omega
  rcases hc with rfl|rfl|rfl
  ·clear ha hb hi;by_cases h:a=0
   ·have e:(a==0)=true:=by simpa using h
    have H:=jH h;clear h;go_wp2_with fail;go_roundw
    case rel=>exact⟨1,by simp,by omega,by simp,fun _=>H.out,fun h=>by omega⟩
    case measure=>simp[intOf]
   ·have e:(a==0)=false:=by simpa using h
    have H:=jH (show r=a by rw[<-Hr.out,if_pos h]);clear h;go_wp2_with fail;go_ret
    first
     | exact⟨rfl,rfl⟩
     | (rw[H.out];exact⟨rfl,rfl⟩)
  ·have h0':=ha (by omega);have H0:=jH (show r=b by rw[<-Hr.out,if_neg (by simp[h0'])]);have Ha:=jH h0';clear ha hb hi h0';by_cases h:b=0
   ·have e:(b==0)=true:=by simpa using h
    have H:=jH h;clear h;go_wp2_with fail;go_roundw
    case rel=>exact⟨2,by simp,by omega,by simp,fun _=>Ha.out,fun _=>H.out⟩
    case measure=>simp[intOf]
   ·have e:(b==0)=false:=by simpa using h
    clear h;go_wp2_with fail;go_ret
    first
     | exact⟨rfl,rfl⟩
     | (rw[H0.out];exact⟨rfl,rfl⟩)
  ·have H0:=jH (show r=0 by rw[<-Hr.out,ha (by omega),hb (by omega)];simp);clear ha hb hi;go_wp2_with fail;go_ret
   first
    | exact⟨rfl,rfl⟩
    | (rw[H0.out];exact⟨rfl,rfl⟩)
theorem ej4(x y:Int×Int)(W:World):Calls Tryz.prog 46 #[.agg #[.I x.1,.I x.2],.agg #[.I y.1,.I y.2]] W fun e w'=>e=.returned (.I (du4 x y))/\∃q os',w'=grow (W.drewN q) os':=by
 obtain⟨x1,x2⟩:=x;obtain⟨y1,y2⟩:=y;have hS:=((St.start W).alloc (.cells #[.I x1,.I x2] 94)).alloc (.cells #[.I y1,.I y2] 94);simp only[World.size_alloc]at hS;generalize hr:du4 (x1,x2) (y1,y2)=r;have Hr:=jH hr;clear hr;have hcon:=fun x y W'=>AnyG.cmp_Compare_int Tryz.cmpIntW x y W'
 change ∀x y W',Calls Tryz.prog 112 _ _ _ at hcon;go_enter Tryz.func46,Tryz.ntmps46;go_wp2_with fail;refine GR7 10 (by kernel_rfl) (by kernel_rfl) ?_;have hS2:=hS.drawn (W.drawn+1);refine FW7 rfl rfl ?_;intro K hK;go_big_quiet_op;go_big_quiet_on;apply Ip7 hS2;rfl;rfl;rfl;decide +kernel;(exact O8);(refine frS ?_);refine FW7 rfl rfl ?_;intro K hK;go_big_quiet_op;go_big_quiet_on;apply Ip7 hS2;rfl;rfl;rfl;decide +kernel;(exact O8);(refine frS ?_);apply LQ7;rfl;(intro w;apply Ad7;rfl;decide +kernel;(focus(simp only[fD,fI,fJ,Act.eval,fE,fF,fG,fH,fK];try rfl)));exact hcon _ _ _;(refine frS ?_);refine FW7 rfl rfl ?_;intro K hK;go_big_quiet_op;go_big_quiet_on;apply Ip7 hS2;rfl;rfl;rfl;decide +kernel;(exact O8);(refine frS ?_);refine FW7 rfl rfl ?_;intro K hK;go_big_quiet_op;go_big_quiet_on;apply Ip7 hS2;rfl;rfl;rfl;decide +kernel;(exact O8);(refine frS ?_);apply LQ7;rfl;(intro w;apply Ad7;rfl;decide +kernel;(focus(simp only[fD,fI,fJ,Act.eval,fE,fF,fG,fH,fK];try rfl)));exact hcon _ _ _;(refine frS ?_);refine wpQuiet_nil ?_;clear hS2 hS;go_wp2_with fail;refine(orW (show(if Lib.compareInt x1 y1≠0 then Lib.compareInt x1 y1 else Lib.compareInt x2 y2)=r from Hr.out) _ _ ((World.cell?_alloc_at _ _ _ 0 (by simp[World.drewN])).trans rfl) ((World.cell?_alloc_at _ _ _ 1 (by simp[World.drewN])).trans rfl)).mono ?_;rintro e w' ⟨rfl,rfl⟩;go_wp2_with fail;go_ret;exact⟨rfl,1, #[_,_,_],rfl⟩
theorem ek4(blk off size:Nat)(w:World):CmpLays Tryz.prog 46 #[] whC 2 du4 blk off size w:=fun _ _ _ _ x y=>ej4 x y _
theorem Fo7(l:List (Int×Int))(junk:List Value)(j:Nat)(hj:j<l.length*2):(l.flatMap whC++junk)[j]? = some ((flatK whC 2 l.toArray)[j]!):=by
 rw[get_flatK _ _ _ _ (by simpa using hj)];have hq:j / 2<l.length:=by omega
 have h1:=DI7 CI7 l junk (j / 2) hq (j%2) (by omega);rw[show j / 2*2+j%2=j by omega]at h1;rw[h1];have h2:l.toArray[j / 2]! = l[j / 2]:=by simp[hq]
 rw[h2,jG (by rw[CI7];omega)];rw[getElem!_pos _ _ (by rw[CI7];omega)]
theorem Ot7(l:List (Int×Int))(g cap:Nat)(junk:List Value)(h62:l.length<4611686018427387904)(W w:World)(L:List HP)(hS:St W (blk g (l.flatMap whC++junk) 94::L) w):
  Calls Tryz.prog 109 #[.S g l.length cap,.func (.func 46) #[] #[]] w fun e w'=> e=.returned (.tuple #[])/\∃l':List (Int×Int),l'.Perm l/\l'.Pairwise (fun x y=>ltW y x=false)/\St W (blk g (l'.flatMap whC++junk) 94::L) w':=by
 have eg:∀args w,(callFunc 46 args).run Tryz.prog w=.ok (.enter 46 args) w:=enters_of Tryz.func46 (by kernel_rfl) rfl;have hgt:=hS.get (b:=g) .head;have hblk:g<w.heap.size:=(Array.getElem?_eq_some_iff.1 hgt).1;have hH:HoldsK whC 2 w g 0 l.toArray:=by intro j hj;rw[size_flatK]at hj;refine⟨hS.cell .head ?_,hS.free .head⟩;rw[Nat.zero_add];exact Fo7 l junk j (by simpa using hj)
 have hcon:=AnyQ.slices_SortFunc Tryz.sortWh 2 Tryz.isAgg94 Tryz.sizeOf94 whC CI7 (fun x v hv=>by simp[whC]at hv;rcases hv with rfl|rfl <;> rfl) du4 gu4 46 #[] g 0 cap l.toArray w eg (ek4 g 0 l.toArray.size w) hH hblk (by simpa using h62);change Calls Tryz.prog 109 _ _ _ at hcon;simp only[List.size_toArray]at hcon;refine hcon.mono ?_;rintro e w' ⟨rfl,d',n,os,⟨hp1,_,hp3⟩,hs,rfl⟩;refine⟨rfl,d'.toList,?_,?_,?_⟩
 ·have e1:d'.extract 0 l.length=d':=by
   have:l.length=d'.size:=by rw[hp1];simp
   rw[this,Array.extract_size]
  have e2:l.toArray.extract 0 l.length=l.toArray:=by
   have:l.length=l.toArray.size:=by simp
   rw[this,Array.extract_size]
  rw[e1,e2]at hp3;exact hp3
 ·rw[List.pairwise_iff_getElem];intro i j hi hj hij;have:=hs i j (Nat.zero_le _) hij (by simp at hj;rw[hp1]at hj;simpa using hj);rw[eB4]at this;have hi':i<d'.size:=by simpa using hi
  have hj':j<d'.size:=by simpa using hj
  rw[getElem!_pos d' i hi',getElem!_pos d' j hj']at this;simp only[Array.getElem_toList];exact this
 ·unfold sortWorldK;refine St.grow ?_ os;have hSd:St W (blk g (l.flatMap whC++junk) 94::L) (Sort.ahead w n):=⟨hS.os,hS.tape,hS.output,hS.sat⟩
  refine hSd.putO (w':=putRowK whC 2 (Sort.ahead w n) g 0 d') (o':=.cells (d'.toList.flatMap whC++junk).toArray 94 (0,0)) .head rfl rfl rfl fun k=>?_
  show((Sort.ahead w n).heap.modify g _)[k]? = _
  rw[Array.getElem?_modify];by_cases hk:k=g
  ·subst hk;rw[if_pos rfl,if_pos rfl];have hgt':(Sort.ahead w n).heap[k]? = some (.cells (l.flatMap whC++junk).toArray 94 (0,0)):=hgt;rw[hgt'];simp only[Option.map_some,Sort.onCells]
   congr 2
   have hdl:d'.toList.length=l.length:=by rw[Array.length_toList,hp1];simp
   have hf1:=Al7 CI7 l;have hf2:=Al7 CI7 d'.toList;apply Array.ext_getElem?;intro t;unfold Sort.putCells;simp only[Array.getElem?_mapIdx,List.getElem?_toArray,size_flatK,Nat.zero_le,true_and,Nat.zero_add,Nat.sub_zero,id];have hds:d'.size=l.length:=by rw[hp1];simp
   by_cases ht:t<l.length*2
   ·have h1:=Fo7 d'.toList junk t (by rw[hdl];exact ht);rw[h1,Fo7 l junk t ht];simp[hds,ht]
   ·have h2:(l.flatMap whC++junk)[t]? = (d'.toList.flatMap whC++junk)[t]? := by
     rw[List.getElem?_append_right (by omega),List.getElem?_append_right (by omega),hf1,hf2,hdl]
    rw[<-h2];simp[hds,ht]
  ·rw[if_neg (fun h=>hk h.symm),if_neg hk]
theorem KG7(f:Value)(W w:World)(L:List HP)(hS:St W L w):
  Calls Tryz.prog 216 #[.slice none 0 0,.I 0,.I 0,f] w fun e w'=>e=.returned (.tuple #[])/\St W L w':=by
 go_enter Tryz.func216,Tryz.ntmps216;go_wp2_with fail
 go_loopw [8] (fun v wr=>v=.I 1/\St W L wr) (fun _ _=>0)
 case atStart=>exact⟨rfl,hS⟩
 case round=>
  clear hS;obtain⟨rfl,hS⟩:=hrel;go_wp2_with fail;go_end0;exact⟨rfl,hS⟩
theorem Qv7(n:Int)(f:Value)(W w:World)(L:List HP)(hS:St W L w):
  Calls Tryz.prog 176 #[.slice none 0 0,.I 0,.I 0,.I n,f] w fun e w'=>e=.returned (.tuple #[])/\St W L w':=by
 go_enter Tryz.func176,Tryz.ntmps176;go_wp2_with fail
 go_loopw [1,2] (fun v1 v2 wr=>v1=.I 0/\v2=.I 0/\St W L wr) (fun _ _ _=>0)
 case atStart=>exact⟨rfl,rfl,hS⟩
 case round=>
  clear hS;obtain⟨rfl,rfl,hS⟩:=hrel;go_wp2_with(first|go_at_call 216;refine(KG7 _ W _ _ hS).mono ?_;clear hS;rintro e w ⟨rfl,hS⟩);refine bodyPost_ret (results_none rfl _ _ _) rfl ?_;exact⟨rfl,hS⟩
theorem Ou7(f:Value)(W w:World)(L:List HP)(hS:St W L w):
  Calls Tryz.prog 109 #[.slice none 0 0,f] w fun e w'=>e=.returned (.tuple #[])/\St W L w':=by
 have hl:∀w:World,Calls Tryz.prog 177 #[.int .u64 0] w fun e w'=>(∃l:Int,e=.returned (.I l))/\w'=w:=fun w=>
  (Any.bits_Len Tryz.bitsLenW 0 w (by omega) (by omega)).mono fun _ _ ⟨he,hw⟩=>⟨⟨_,he⟩,hw⟩
 go_enter Tryz.func109,Tryz.ntmps109;go_wp2_with(first|go_at_call 177;refine(hl _).mono ?_;rintro e w ⟨⟨l,rfl⟩,rfl⟩|go_at_call 176;refine(Qv7 _ _ W _ _ hS).mono ?_;clear hS;rintro e w ⟨rfl,hS⟩);go_end0;exact⟨rfl,hS⟩
theorem el4{gf:Nat}{lb:Array Value}{S:List (Int×Int)->Prop}{N:Nat}{W w:World}{R:List HP}(hN:N<=1000000000)(hseq:bG4 Tryz.prog eWh N gf lb S W R)(eg:∀args w,(callFunc gf args).run Tryz.prog w=.ok (.enter gf args) w)(hS:St W R w):
  Calls Tryz.prog 108 #[.func (.func gf) #[] lb] w fun e w'=>∃v ss,e=.returned v/\S ss/\St W (row v 2 94 ss.length (ss.flatMap whC)::R) w':=by
 go_enter Tryz.func108,Tryz.ntmps108;go_wp2_with(go_at_call 175;refine(eA4 hN hseq eg hS).mono ?_;clear hS;rintro e w ⟨v,ss,rfl,hs,hS⟩);go_ret;exact⟨v,ss,rfl,hs,hS⟩
theorem eC4{l:List (Int×Int)}(hn:l.Nodup)(h:l.Pairwise fun x y=>ltW y x=false):l.Pairwise fun x y=>ltW x y=true:=by refine List.Pairwise.imp_of_mem ?_ (hn.and h);rintro a b _ _ ⟨h1,h2⟩;exact AP7.tri b a h2 fun e=>h1 e.symm
theorem dC4{gf:Nat}{lb:Array Value}{K:List (Int×Int)}{W w:World}{R:List HP}(hn:K.Nodup)(hN:K.length<=1000000000)(hseq:bG4 Tryz.prog eWh K.length gf lb (fun ss=>ss.Perm K) W R)(eg:∀args w,(callFunc gf args).run Tryz.prog w=.ok (.enter gf args) w)(hS:St W R w):
  Calls Tryz.prog 44 #[.func (.func gf) #[] lb,.func (.func 46) #[] #[]] w fun e w'=>∃(v:Value) (ks:List (Int×Int)),e=.returned v/\ks.Perm K/\ks.Pairwise (fun x y=>ltW x y=true)/\St W (row v 2 94 ks.length (ks.flatMap whC)::R) w':=by
 go_enter Tryz.func44,Tryz.ntmps44;go_wp2_with(go_at_call 108;refine(el4 hN hseq eg hS).mono ?_;clear hS;rintro e w ⟨v,ss,rfl,hp,hS⟩)
 rcases hS.rowOpen with ⟨rfl,h0,hc,hS1⟩|⟨g,cap,junk,rfl,hn1,hm1,hj,hl,hS1⟩
 ·refine(Ou7 _ W _ _ hS1).mono ?_;clear hS;rintro e w ⟨rfl,hS⟩;go_wp2_with fail;go_ret;obtain rfl:ss=[]:=List.eq_nil_of_length_eq_zero h0;exact⟨_,[],rfl,hp,List.Pairwise.nil,hS.rowNil⟩
 ·refine(Ot7 ss g cap junk (by rw[hp.length_eq];omega) W _ _ hS1).mono ?_;clear hS hS1;rintro e w ⟨rfl,l',hp2,hs,hS⟩;have hl2:l'.length=ss.length:=hp2.length_eq;have hf:(l'.flatMap whC).length=(ss.flatMap whC).length:=by rw[Al7 CI7,Al7 CI7,hl2]
  have hS1:=hS.rowShut (k:=2) (n:=ss.length) (cap:=cap) hn1 hm1 (by rw[jA,hf,<-jA];exact hj) (by rw[hf];exact hl);rw[<-hl2]at hS1;clear hS;have Hp:=jH (hp2.trans hp);have Hs:=jH (eC4 ((hp2.trans hp).nodup_iff.2 hn) hs);rw[<-hl2];clear hp hp2 hs hl2 hf hn1 hm1 hj hl;go_wp2_with fail;go_ret;exact⟨_,l',rfl,Hp.out,Hs.out,hS1⟩
end Go.Proofs.YtlmhakmoioogaaaGreat
end
section
namespace Go.Proofs.YtlmhakmoioogaaaGreat
open Go.RowKit Go.Sl
theorem MV7(mb:Option Nat)(W w:World)(L:List HP)(hS:St W L w):
  Calls Tryz.prog 45 #[.map mb] w fun e w'=>∃g,e=.returned (.func (.func 110) #[] #[.P g])/\St W (blk g [.map mb] 81::L) w':=by
 go_enter Tryz.func45,Tryz.ntmps45;go_wp2_with(refine zbx hS ?_;clear hS;intro b w hS);go_ret;exact⟨b,rfl,hS⟩
theorem JD7:∀args w,(callFunc 110 args).run Tryz.prog w=.ok (.enter 110 args) w:=enters_of Tryz.func110 (by kernel_rfl) rfl
abbrev tn0:Tns:=⟨0,0,⟨#[]⟩,⟨#[]⟩,⟨#[]⟩,⟨#[]⟩,0,0⟩
theorem KH7{ν:Type}{ts:List ((Int×Int)×ν)}{ks:List (Int×Int)}(z:ν)(hn:(ts.map (·.1)).Nodup)(hp:ks.Perm (ts.map (·.1)))(hs:ks.Pairwise fun x y=>ltW x y=true):
  ∃T:List ((Int×Int)×ν),T.map (·.1)=ks/\T.Perm ts/\Asc ltW T:=by
 have e1:(ks.map fun k=>(k,(p9 ts k).getD z)).map (·.1)=ks:=by rw[List.map_map];exact List.map_id ks
 refine⟨ks.map fun k=>(k,(p9 ts k).getD z),e1,?_,?_⟩
 ·have h1:=hp.map fun k=>(k,(p9 ts k).getD z)
  refine h1.trans ?_;rw[List.map_map]
  have h2:∀l':List ((Int×Int)×ν),(∀x∈l',x∈ts)->l'.map ((fun k=>(k,(p9 ts k).getD z))∘fun x=>x.1)=l':=by
   intro l'
   induction l' with
   | nil=>exact fun _=>rfl
   | cons x l' ih=>
    intro h;rw[List.map_cons,ih fun y hy=>h y (List.mem_cons_of_mem _ hy)];have hx:p9 ts x.1=some x.2:=BK7 hn (h x (List.mem_cons_self ..));show(x.1,(p9 ts x.1).getD z)::l'=_
    rw[hx];rfl
  rw[h2 ts fun x hx=>hx]
 ·unfold Asc;exact List.pairwise_map.2 hs
theorem KI7{ν:Type}{ev:ν->Value}{g b:Nat}{l:List ((Int×Int)×ν)}{W:World}{R:List HP}:
  bG4 Tryz.prog eWh (l.map (·.1)).length 110 #[.P g] (fun ss=>ss.Perm (l.map (·.1))) W (blk g [.map (some b)] 81::c8 eWh ev b l::R):=
 fun lp m X w hT hS=>Qu7 (by rw[jM]at hT;exact hT) hS
def tnC(x:(Int×Int)×Tns):List Value:=x.2.cells
theorem Fp7(x:(Int×Int)×Tns):(tnC x).length=8:=rfl
def TrR(W:World)(F:List HP)(T:List ((Int×Int)×Tns))(v3 v15:Value)(w:World):Prop:=
 ∃k:Nat,v15=.I k/\k<=T.length/\St W (row v3 8 40 k ((T.take k).flatMap tnC)::F) w
theorem ED7{eb:Nat}{ec:Ec}(hl:ec.ts.length<=1000000000)(W w:World)(R:List HP)(hS:St W (ecP eb ec::R) w):
  Calls Tryz.prog 17 #[.P eb] w fun e w'=>∃v T,e=.returned v/\T.Perm ec.ts/\Asc ltW T/\St W (row v 8 40 T.length (T.flatMap tnC)::ecP eb ec::R) w':=by
 obtain⟨m1,m2,m3,m4,E,hp,hn,hS⟩:=aO4 hS;have hS1:=D9 hS;clear hS;have hS:=hS1.s (ebB eb m1 m2 m3 m4::c8 eW eTn m3 ec.ts::c8 eS eN m1 (i8 E)::j8 E::c8 eI eSs m2 ec.ss::c8 eW eU m4 ec.ar::R);clear hS1;have hnt:=F9 hS.drop;have Hp:=jH hp;clear hp hn;go_enter Tryz.func17,Tryz.ntmps17;go_wp2_with(first|go_big_skip|refine zl1 hS ?_|go_at_call 45;refine(MV7 (some m3) W _ _ (hS.s (c8 eW eTn m3 ec.ts::ebB eb m1 m2 m3 m4::c8 eS eN m1 (i8 E)::j8 E::c8 eI eSs m2 ec.ss::c8 eW eU m4 ec.ar::R))).mono ?_;clear hS;rintro e w ⟨g,rfl,hS⟩|go_at_call 44;refine(dC4 hnt (by rw[jM];exact hl) KI7 JD7 hS).mono ?_;clear hS;rintro e w ⟨v,ks,rfl,hkp,hks,hS⟩;obtain⟨sa,sc,rfl⟩:=hS.rowVal);obtain⟨T,rfl,hT1,hT2⟩:=KH7 tn0 hnt hkp hks;have hlk:(T.map (·.1)).length=T.length:=jM _;have Hk:=jH (show ∀(k:Nat) (h:k<T.length) (h2:k<(T.map (·.1)).length),(T.map (·.1))[k]=T[k].1 from fun k h h2=>List.getElem_map _);have hTl:T.length<=1000000000:=by rw[hT1.length_eq];exact hl
 have Hg:=jH (show ∀x∈T,p9 ec.ts x.1=some x.2 from fun x hx=>BK7 hnt (hT1.mem_iff.1 hx));generalize T.map (·.1)=ks at hS hlk Hk;have HT1:=jH hT1;have HT2:=jH hT2;have Hl:=jH hlk;clear hT1 hT2 hkp hks hl hnt;have hS1:=hS.rowNil (k:=8) (T:=40);clear hS;have hS:=hS1;clear hS1
 go_loopw [3,15] (fun v3 v15 wr=>TrR W (row (.slice sa ks.length sc) 2 94 ks.length (ks.flatMap whC)::blk g [.map (some m3)] 81::c8 eW eTn m3 ec.ts::ebB eb m1 m2 m3 m4::c8 eS eN m1 (i8 E)::j8 E::c8 eI eSs m2 ec.ss::c8 eW eU m4 ec.ar::R) T v3 v15 wr) (fun _ v15 _=>T.length-(intOf v15).toNat)
 case atStart=>exact⟨0,rfl,Nat.zero_le _,hS⟩
 case round=>
  clear hS;obtain⟨k,rfl,hkl,hS⟩:=hrel;by_cases hkn:k=T.length
  ·rw[hkn,List.take_length]at hS;have hd1:decide (k<ks.length)=false:=by simp;omega
   clear hkl hkn hTl hlk;go_wp2_with(first|go_big_skip);go_ret;exact⟨u3,T,rfl,HT1.out,HT2.out,(R6 Hp.out (hS.s (ebB eb m1 m2 m3 m4::c8 eS eN m1 (i8 E)::j8 E::c8 eI eSs m2 ec.ss::c8 eW eTn m3 ec.ts::c8 eW eU m4 ec.ar::row u3 8 _ _ _::R))).swap⟩
  ·have hk1:k<T.length:=by omega
   have hk2:k<ks.length:=by omega
   obtain⟨⟨gk,rfl⟩,_,_⟩:=St.rowAddr hS.drop (by omega);have hcells:∀{K K':List HP},Take K (row (.S gk ks.length sc) 2 94 ks.length (ks.flatMap whC)) K'->d7 K gk (k*2) (whC ks[k]):=fun hu=>d7.elemM (enc:=whC) CI7 hu hk2
   have hgt:=Hg.out _ (jW hk1);have hstep:(T.take (k+1)).flatMap tnC=(T.take k).flatMap tnC++tnC T[k]:=by rw[List.take_succ_eq_append_getElem hk1,List.flatMap_append];simp
   rw[Hk.out k hk1 hk2]at hcells;have Hstep:=jH hstep;have hd2:decide (k<ks.length)=true:=by simp;omega
   clear hstep hkn hkl hlk;generalize T[k]=x at hcells hgt Hstep;obtain⟨⟨c,q⟩,⟨t0,t1,t2,t3,t4,t5,t6,t7⟩⟩:=x;simp only[whC]at hcells;simp only at hgt;have hts:aj4 false (eTn tn0) ((p9 ec.ts (c,q)).map eTn)=.agg #[.I t0,.I t1,.string t2,.string t3,.string t4,.string t5,.I t6,.I t7]:=by rw[hgt];rfl
   have Hts:=jH hts;clear hts hgt;generalize (T.take k).flatMap tnC=acc at hS Hstep;go_wp2_with(first|go_big_skip|refine zlN hS ?_ (hc:=by exact hcells (by exact g8))|refine zal hS ?_;clear hS;intro b w hS|refine zsN hS ?_;clear hS;intro w hS);have hS1:=hS.s (row u3 8 _ _ _::c8 eW eTn m3 ec.ts::ebB eb m1 m2 m3 m4::blk b _ _::row (.S gk ks.length sc) 2 _ _ _::blk g _ _::c8 eS eN m1 (i8 E)::j8 E::c8 eI eSs m2 ec.ss::c8 eW eU m4 ec.ar::R);clear hS;have hb9:k<=1000000000:=by omega
   refine rf2 [0,0,2,6,14,0,62,126,255,511] (fun i=>i==7||i==8) [⟨some 7,none,fun nd=>R5 (nd 7) 1 1 [.I t0,.I t1,.string t2,.string t3,.string t4,.string t5,.I t6,.I t7] 40⟩,⟨some 8,none,fun nd=>row (nd 8) 8 40 (k+1) (acc++[.I t0,.I t1,.string t2,.string t3,.string t4,.string t5,.I t6,.I t7])⟩] [some 8,none,none,none] hS1 ?_;clear hS1;intro nd
   iterate 2 (refine cR ?_)
   (refine zcn ?_);refine cR ?_;refine zc1 ?_;refine zcN ?_;apply AQ7 (ek:=eW) (ev:=eTn) (k:=(c,q));rfl;kernel_rfl;rfl;rfl;rfl;rfl;(intro F;exact⟨_,by exact A9⟩);exact mT;exact kW;exact zT;exact Hts.out;(refine frS ?_);apply aI4;rfl;rfl;rfl;(focus(simp only[fD,fI,fJ,Act.eval,fE,fF,fG,fH,fK];try rfl));(exact esS);(exact rsS);rfl;rfl;rfl;rfl;(intro _;rfl);rfl;(intro _;rfl);(refine frS ?_);apply AJ7;rfl;rfl;rfl;(focus((conv=>lhs;whnf);try rfl));(focus((conv=>lhs;whnf);try rfl));(exact esS);(exact rsS);rfl;decide;rfl;(intro F w hS;exact Bp7 hS (by exact A9));(focus(try rfl));rfl;(focus(unfold maxLen;omega));(focus(omega));(intro _;rfl);(intro _;rfl);(refine frS ?_);refine cR ?_;refine Ac7 ?_;intro w hS;have hS2:St W [R5 (nd 7) _ _ _ _,row (nd 8) 8 _ _ _,c8 eW eTn m3 ec.ts,ebB eb m1 m2 m3 m4,blk b _ _,sats (row (.S gk ks.length sc) 2 94 ks.length (ks.flatMap whC)::blk g [.map (some m3)] 81::c8 eS eN m1 (i8 E)::j8 E::c8 eI eSs m2 ec.ss::c8 eW eU m4 ec.ar::R)] w:=hS;clear hS;have hS:=hS2.unpack [_,_,_,_,_];clear hS2;simp only[jK,jN]at hS;generalize nd 8=v8 at *;replace hS:=hS.drop;go_wp2_with fail;go_roundw
   case rel=>
    have hS2:=hS.s (row v8 8 _ _ _::row (.S gk ks.length sc) 2 _ _ _::blk g _ _::c8 eW eTn m3 ec.ts::ebB eb m1 m2 m3 m4::c8 eS eN m1 (i8 E)::j8 E::c8 eI eSs m2 ec.ss::c8 eW eU m4 ec.ar::R);exact⟨k+1,rfl,by omega,by rw[Hstep.out];exact hS2⟩
   case measure=>simp[intOf];omega
theorem gv4(k:ByteArray)(W w:World)(R:List HP)(hS:St W R w):
  Calls Tryz.prog 115 #[.string k] w fun e w'=>e=.returned (.bool (y5 k))/\St W R w':=by
 go_enter Tryz.func115,Tryz.ntmps115;by_cases h1:k.size<1
 ·have e:y5 k=false:=by unfold y5;simp;omega
  have d1:decide ((1:Int)<=(k.size:Int))=false:=by simp;omega
  rw[e];go_wp2_with(fail);go_ret;exact⟨rfl,hS⟩
 ·have d1:(1:Int)<=(k.size:Int):=by omega
  by_cases h2:k.size<=16
  ·have e:y5 k=true:=by unfold y5;simp;omega
   have d2:(k.size:Int)<=16:=by omega
   rw[e];go_wp2_with(fail);go_ret;exact⟨rfl,hS⟩
  ·have e:y5 k=false:=by unfold y5;simp;omega
   have d2:decide ((k.size:Int)<=16)=false:=by simp;omega
   rw[e];go_wp2_with(fail);go_ret;exact⟨rfl,hS⟩
theorem is8(i:It)(W w:World)(R:List HP)(hS:St W R w):
  Calls Tryz.prog 116 #[.agg i.cells.toArray] w fun e w'=>e=.returned (.bool (w8 i))/\St W R w':=by
 obtain⟨x0,x1,x2,x3⟩:=i;simp only[It.cells];go_enter Tryz.func116,Tryz.ntmps116;go_wp2_with(first|refine zbx hS ?_;clear hS;intro b w hS)
 go_loopw [3] (fun v wr=>IsR W (blk b [.I x0,.I x1,.I x2,.I x3] 29::R) ⟨x0,x1,x2,x3⟩ v wr) (fun v _=>4-(intOf v).toNat)
 case atStart=>exact⟨hS,.inl rfl⟩
 case round=>
  clear hS;obtain⟨hS,hk⟩:=hrel;simp only at hk
  rcases hk with rfl|⟨rfl,q0⟩|⟨rfl,q0,q1⟩|⟨rfl,q0,q1,q2⟩|⟨rfl,q0,q1,q2,q3⟩
  ·skip
   by_cases h1:x0<0
   ·have hx:=Dl7 h1;go_wp2_with(first|refine zl1 hS ?_);go_ret;refine⟨by simp only[w8,hx,Bool.false_and,Bool.and_false,hx];rfl,hS.drop⟩
   ·have d1:decide (x0<0)=false:=by simpa using h1
    by_cases h2:1152921504606846976<x0
    ·have hx:=Cu7 h2;go_wp2_with(first|refine zl1 hS ?_);go_ret;refine⟨by simp only[w8,hx,Bool.false_and,Bool.and_false,hx];rfl,hS.drop⟩
    ·have d2:decide (1152921504606846976<x0)=false:=by simpa using h2
     have hx:inH x0=true:=Ca7.2 ⟨by omega,by omega⟩;clear h1 h2;go_wp2_with(first|refine zl1 hS ?_);go_roundw
     case rel=>exact⟨hS,.inr (.inl ⟨rfl,hx⟩)⟩
     case measure=>simp[intOf]
  ·skip
   by_cases h1:x1<0
   ·have hx:=Dl7 h1;go_wp2_with(first|refine zl1 hS ?_);go_ret;refine⟨by simp only[w8,hx,Bool.false_and,Bool.and_false,q0];rfl,hS.drop⟩
   ·have d1:decide (x1<0)=false:=by simpa using h1
    by_cases h2:1152921504606846976<x1
    ·have hx:=Cu7 h2;go_wp2_with(first|refine zl1 hS ?_);go_ret;refine⟨by simp only[w8,hx,Bool.false_and,Bool.and_false,q0];rfl,hS.drop⟩
    ·have d2:decide (1152921504606846976<x1)=false:=by simpa using h2
     have hx:inH x1=true:=Ca7.2 ⟨by omega,by omega⟩;clear h1 h2;go_wp2_with(first|refine zl1 hS ?_);go_roundw
     case rel=>exact⟨hS,.inr (.inr (.inl ⟨rfl,q0,hx⟩))⟩
     case measure=>simp[intOf]
  ·skip
   by_cases h1:x2<0
   ·have hx:=Dl7 h1;go_wp2_with(first|refine zl1 hS ?_);go_ret;refine⟨by simp only[w8,hx,Bool.false_and,Bool.and_false,q0];rfl,hS.drop⟩
   ·have d1:decide (x2<0)=false:=by simpa using h1
    by_cases h2:1152921504606846976<x2
    ·have hx:=Cu7 h2;go_wp2_with(first|refine zl1 hS ?_);go_ret;refine⟨by simp only[w8,hx,Bool.false_and,Bool.and_false,q0];rfl,hS.drop⟩
    ·have d2:decide (1152921504606846976<x2)=false:=by simpa using h2
     have hx:inH x2=true:=Ca7.2 ⟨by omega,by omega⟩;clear h1 h2;go_wp2_with(first|refine zl1 hS ?_);go_roundw
     case rel=>exact⟨hS,.inr (.inr (.inr (.inl ⟨rfl,q0,q1,hx⟩)))⟩
     case measure=>simp[intOf]
  ·skip
   by_cases h1:x3<0
   ·have hx:=Dl7 h1;go_wp2_with(first|refine zl1 hS ?_);go_ret;refine⟨by simp only[w8,hx,Bool.false_and,Bool.and_false,q0];rfl,hS.drop⟩
   ·have d1:decide (x3<0)=false:=by simpa using h1
    by_cases h2:1152921504606846976<x3
    ·have hx:=Cu7 h2;go_wp2_with(first|refine zl1 hS ?_);go_ret;refine⟨by simp only[w8,hx,Bool.false_and,Bool.and_false,q0];rfl,hS.drop⟩
    ·have d2:decide (1152921504606846976<x3)=false:=by simpa using h2
     have hx:inH x3=true:=Ca7.2 ⟨by omega,by omega⟩;clear h1 h2;go_wp2_with(first|refine zl1 hS ?_);go_roundw
     case rel=>exact⟨hS,.inr (.inr (.inr (.inr ⟨rfl,q0,q1,q2,hx⟩)))⟩
     case measure=>simp[intOf]
  ·go_wp2_with(fail);go_ret;refine⟨by simp only[w8,q0,q1,q2,q3];rfl,hS.drop⟩
theorem HJ7(x0 x1 x2 x3:Int)(W w:World)(R:List HP)(hS:St W R w):
  Calls Tryz.prog 116 #[.agg #[.I x0,.I x1,.I x2,.I x3]] w fun e w'=>e=.returned (.bool (w8 ⟨x0,x1,x2,x3⟩))/\St W R w':=is8 ⟨x0,x1,x2,x3⟩ W w R hS
theorem fi4(o:Ord)(hm:MayP o)(W w:World)(R:List HP)(hS:St W R w):
  Calls Tryz.prog 183 #[.agg o.cells.toArray] w fun e w'=>e=.returned (.agg (m9 o).cells.toArray)/\St W R w':=by
 have h1:=hm.item0;have h2:=hm.item1;have h3:=FB7 (by have:=hm.cnt0;omega) hm.cnt1 (by have:=hm.price0;omega) hm.price1;obtain⟨i,u,y,t,c,pr⟩:=o;simp only at h1 h2 h3;clear hm
 cases y with
 | true=>
  have e:m9 ⟨i,u,true,t,c,pr⟩=⟨c*pr,0,0,0⟩:=rfl;rw[e];simp only[Ord.cells,It.cells];have h4:c*pr<=9223372036854775807:=by omega
  have h5 : -9223372036854775808<=c*pr:=by omega
  clear e h1 h2;go_enter Tryz.func183,Tryz.ntmps183;go_wp2_with(first|refine zl1 hS ?_|refine zlN hS ?_|refine zs1 hS ?_;clear hS;intro w hS|refine zsN hS ?_;clear hS;intro w hS|refine zbx hS ?_;clear hS;intro b w hS|refine zal hS ?_;clear hS;intro b w hS);apply AH7;rfl;rfl;rfl;exact hS;decide +kernel;(exact x9);kernel_rfl;exact⟨rfl,hS.s _⟩
 | false=>
  have ht:t=1\/t=2\/t=3:=by omega
  rcases ht with rfl|rfl|rfl
  ·have e:m9 ⟨i,u,false,1,c,pr⟩=⟨0,c,0,0⟩:=rfl;rw[e];simp only[Ord.cells,It.cells];clear e h1 h2 h3;go_enter Tryz.func183,Tryz.ntmps183;go_wp2_with(first|refine zl1 hS ?_|refine zlN hS ?_|refine zs1 hS ?_;clear hS;intro w hS|refine zsN hS ?_;clear hS;intro w hS|refine zbx hS ?_;clear hS;intro b w hS|refine zal hS ?_;clear hS;intro b w hS);apply AH7;rfl;rfl;rfl;exact hS;decide +kernel;(exact x9);kernel_rfl;exact⟨rfl,hS.s _⟩
  ·have e:m9 ⟨i,u,false,2,c,pr⟩=⟨0,0,c,0⟩:=rfl;rw[e];simp only[Ord.cells,It.cells];clear e h1 h2 h3;go_enter Tryz.func183,Tryz.ntmps183;go_wp2_with(first|refine zl1 hS ?_|refine zlN hS ?_|refine zs1 hS ?_;clear hS;intro w hS|refine zsN hS ?_;clear hS;intro w hS|refine zbx hS ?_;clear hS;intro b w hS|refine zal hS ?_;clear hS;intro b w hS);apply AH7;rfl;rfl;rfl;exact hS;decide +kernel;(exact x9);kernel_rfl;exact⟨rfl,hS.s _⟩
  ·have e:m9 ⟨i,u,false,3,c,pr⟩=⟨0,0,0,c⟩:=rfl;rw[e];simp only[Ord.cells,It.cells];clear e h1 h2 h3;go_enter Tryz.func183,Tryz.ntmps183;go_wp2_with(first|refine zl1 hS ?_|refine zlN hS ?_|refine zs1 hS ?_;clear hS;intro w hS|refine zsN hS ?_;clear hS;intro w hS|refine zbx hS ?_;clear hS;intro b w hS|refine zal hS ?_;clear hS;intro b w hS);apply AH7;rfl;rfl;rfl;exact hS;decide +kernel;(exact x9);kernel_rfl;exact⟨rfl,hS.s _⟩
def spI:List Hd->ByteArray->Nat
 | [],_=>0
 | h::H,k=>if Op.bytesLess h.who.toList k.toList=true then spI H k+1 else 0
def spB:List Hd->ByteArray->Bool
 | [],_=>false
 | h::H,k=>if Op.bytesLess h.who.toList k.toList=true then spB H k else h.who.toList==k.toList
abbrev xvL(xb:Nat)(v vB:Value)(n:Int)(H:List Hd)(R:List HP):List HP:=blk xb [v,vB,.I n] 246::hdR v H::R
def SpR(W:World)(L:List HP)(H:List Hd)(k:ByteArray)(v:Value)(w:World):Prop:=
 ∃i:Nat,v=.I i/\i<=H.length/\spI H k=i+spI (H.drop i) k/\spB H k=spB (H.drop i) k/\St W L w
def gW4(H:List Hd)(k:ByteArray):It:=if spB H k=true then(H.getD (spI H k) ⟨⟨#[]⟩,it0⟩).has else it0
abbrev blt(x y:ByteArray):Prop:=Op.bytesLess x.toList y.toList=true
theorem Fq7{x y:ByteArray}:blt x y↔x.data.toList<y.data.toList:=by unfold blt;rw[bytesLess_eq,Lib.toList_data,Lib.toList_data,decide_eq_true_eq]
theorem Dt7{x y z:ByteArray}(h1:blt x y)(h2:blt y z):blt x z:=Fq7.2 (List.lt_trans (Fq7.1 h1) (Fq7.1 h2))
theorem GS7{x y:ByteArray}(h:blt x y):x≠y:=fun e=>by rw[e]at h;exact List.lt_irrefl _ (Fq7.1 h)
theorem EE7{x y:ByteArray}(h:blt x y):leB x y=true:=by unfold leB;rw[decide_eq_true_eq];exact List.le_of_lt (Fq7.1 h)
theorem HK7{x k:ByteArray}(h:¬blt x k)(hne:x≠k):blt k x:=by
 refine Jv7 ?_ fun e=>hne e.symm
 unfold leB;rw[decide_eq_true_eq];exact List.not_lt.1 fun hl=>h (Fq7.2 hl)
theorem CZ7{x y:ByteArray}:(x.toList==y.toList)=true↔x=y:=by
 rw[Lib.toList_data,Lib.toList_data];constructor
 ·intro h;exact GI7 (by simpa using h)
 ·rintro rfl;simp
def dv4(H:List Hd):Prop:=H.Pairwise fun x y=>blt x.who y.who
theorem LR7:∀(H:List Hd) (k:ByteArray),dv4 H->
  (∀x∈H.take (spI H k),blt x.who k)/\(∀y∈H.drop (if spB H k=true then spI H k+1 else spI H k),blt k y.who)/\(spB H k=true->∃x,H.drop (spI H k)=x::H.drop (spI H k+1)/\x.who=k)
 | [],k,_=>⟨fun x hx=>(by simp at hx),fun y hy=>(by simp[spI,spB]at hy),fun h=>(by cases h)⟩
 | h::H,k,hs=>by
  unfold dv4 at hs;rw[List.pairwise_cons]at hs;obtain⟨hs1,hs2⟩:=hs;rw[spI,spB];by_cases hb:Op.bytesLess h.who.toList k.toList=true
  ·rw[if_pos hb,if_pos hb];obtain⟨i1,i2,i3⟩:=LR7 H k hs2;refine⟨?_,?_,?_⟩
   ·intro x hx;rw[List.take_succ_cons]at hx
    rcases List.mem_cons.1 hx with rfl|hx
    ·exact hb
    ·exact i1 x hx
   ·intro y hy;refine i2 y ?_;split at hy
    ·rename_i h1
     rw[if_pos h1];simpa using hy
    ·rename_i h1
     rw[if_neg h1];simpa using hy
   ·intro h1;obtain⟨x,hx1,hx2⟩:=i3 h1;exact⟨x,by simpa using hx1,hx2⟩
  ·rw[if_neg hb,if_neg hb];refine⟨fun x hx=>(by simp at hx),?_,?_⟩
   ·intro y hy;split at hy
    ·rename_i h1
     have e:=CZ7.1 h1;rw[<-e];exact hs1 y (by simpa using hy)
    ·rename_i h1
     have hne:h.who≠k:=fun e=>h1 (CZ7.2 e)
     have hkh:=HK7 hb hne;rw[List.drop_zero]at hy
     rcases List.mem_cons.1 hy with rfl|hy
     ·exact hkh
     ·exact Dt7 hkh (hs1 y hy)
   ·intro h1;exact⟨h,by simp,CZ7.1 h1⟩
def eD4(H:List Hd)(k:ByteArray)(i:It):List Hd:=H.take (spI H k)++((if isZ i=true then[]else[⟨k,i⟩])++H.drop (if spB H k=true then spI H k+1 else spI H k))
section
variable{p:Ps}{N:Nat}
theorem Iq7(hw:PsW p N):dv4 (hdL p):=by
 refine List.pairwise_iff_getElem.2 fun i j hi hj hij=>?_
 exact(Ti7 hw hj).2.2 i hij
theorem GT7(p:Ps):(hdL p).map Hd.who=kL p:=by unfold hdL;rw[List.map_map];exact(List.map_congr_left fun _ _=>rfl).trans (List.map_id _)
theorem Du7{x:Hd}(h:x∈hdL p):x.has=r6 p x.who:=by unfold hdL at h;obtain⟨y,_,rfl⟩:=List.mem_map.1 h;rfl
theorem fj4(H:List Hd)(k:ByteArray):H=H.take (spI H k)++((if spB H k=true then(H.drop (spI H k)).take 1 else[])++H.drop (if spB H k=true then spI H k+1 else spI H k)):=by
 split
 ·have e:(H.drop (spI H k)).drop 1=H.drop (spI H k+1):=by rw[List.drop_drop]
  rw[<-e,List.take_append_drop,List.take_append_drop]
 ·rw[jN,List.take_append_drop]
theorem Sl7(hw:PsW p N)(k:ByteArray)(i:It):eD4 (hdL p) k i=hdL (M7 p k i):=by
 obtain⟨h1,h2,h3⟩:=LR7 (hdL p) k (Iq7 hw);have hsp:=fj4 (hdL p) k;have hsr:=Iq7 hw;have hmA:∀x∈(hdL p).take (spI (hdL p) k),x∈hdL p:=fun x hx=>List.mem_of_mem_take hx
 have hmB:∀x∈(hdL p).drop (if spB (hdL p) k=true then spI (hdL p) k+1 else spI (hdL p) k),x∈hdL p:=fun x hx=>List.mem_of_mem_drop hx
 have hmid:∀x∈(if spB (hdL p) k=true then((hdL p).drop (spI (hdL p) k)).take 1 else[]),x.who=k:=by
  intro x hx;split at hx
  ·rename_i hb
   obtain⟨y,hy,hk⟩:=h3 hb;rw[hy]at hx;simp at hx;rw[hx];exact hk
  ·cases hx
 have hsA:dv4 ((hdL p).take (spI (hdL p) k)):=hsr.sublist (List.take_sublist _ _);have hsB:dv4 ((hdL p).drop (if spB (hdL p) k=true then spI (hdL p) k+1 else spI (hdL p) k)):=hsr.sublist (List.drop_sublist _ _)
 have hwho:(kL p).filter (fun y=>decide (y≠k))=((hdL p).take (spI (hdL p) k)).map Hd.who++((hdL p).drop (if spB (hdL p) k=true then spI (hdL p) k+1 else spI (hdL p) k)).map Hd.who:=by
  rw[<-GT7 p]
  conv=>lhs;rw[hsp]
  rw[List.map_append,List.map_append,List.filter_append,List.filter_append];rw[List.filter_eq_self.2 fun y hy=>by obtain⟨x,hx,rfl⟩:=List.mem_map.1 hy;simpa using GS7 (h1 x hx)];rw[List.filter_eq_nil_iff.2 fun y hy=>by obtain⟨x,hx,rfl⟩:=List.mem_map.1 hy;simpa using hmid x hx];rw[jN,List.filter_eq_self.2 fun y hy=>by obtain⟨x,hx,rfl⟩:=List.mem_map.1 hy;simpa using(GS7 (h2 x hx)).symm]
 have hdel:((l8 p k).map (·.1)).Perm (((hdL p).take (spI (hdL p) k)).map Hd.who++((hdL p).drop (if spB (hdL p) k=true then spI (hdL p) k+1 else spI (hdL p) k)).map Hd.who):=by
  rw[<-hwho];have e:(l8 p k).map (·.1)=(p.map (·.1)).filter (fun y=>decide (y≠k)):=by unfold l8;rw[List.filter_map];rfl
  rw[e];have hp:(kL p).Perm (p.map (·.1)):=Aw7 _;exact(hp.filter _).symm
 unfold eD4 M7
 cases hz:isZ i with
 | true=>
  rw[if_pos rfl,if_pos rfl,jN];have hk:kL (l8 p k)=((hdL p).take (spI (hdL p) k)).map Hd.who++((hdL p).drop (if spB (hdL p) k=true then spI (hdL p) k+1 else spI (hdL p) k)).map Hd.who:=by refine List.Perm.eq_of_pairwise (le:=fun a b=>leB a b=true) (fun a b _ _ h1 h2=>Ez7 h1 h2) (AN7 _) ?_ ((Aw7 _).trans hdel);refine List.pairwise_append.2 ⟨List.pairwise_map.2 (hsA.imp EE7),List.pairwise_map.2 (hsB.imp EE7),fun a ha b hb=>?_⟩;obtain⟨x,hx,rfl⟩:=List.mem_map.1 ha;obtain⟨y,hy,rfl⟩:=List.mem_map.1 hb;exact EE7 (Dt7 (h1 x hx) (h2 y hy))
  unfold hdL at hk ⊢;rw[hk,List.map_append,List.map_map,List.map_map];refine congr (congrArg _ ?_) ?_
  ·refine((List.map_congr_left fun x hx=>?_).trans (List.map_id _)).symm;have e1:=Du7 (hmA x hx);have e2:=Co7 p (GS7 (h1 x hx)) i;unfold M7 at e2;rw[hz,if_pos rfl]at e2;show(⟨x.who,r6 (l8 p k) x.who⟩:Hd)=x
   rw[e2,<-e1]
  ·refine((List.map_congr_left fun x hx=>?_).trans (List.map_id _)).symm;have e1:=Du7 (hmB x hx);have e2:=Co7 p (GS7 (h2 x hx)).symm i;unfold M7 at e2;rw[hz,if_pos rfl]at e2;show(⟨x.who,r6 (l8 p k) x.who⟩:Hd)=x
   rw[e2,<-e1]
 | false=>
  have hft:¬(false=true):=by simp
  rw[if_neg hft,if_neg hft]
  have hk:kL ((k,i)::l8 p k)=((hdL p).take (spI (hdL p) k)).map Hd.who++(k::((hdL p).drop (if spB (hdL p) k=true then spI (hdL p) k+1 else spI (hdL p) k)).map Hd.who):=by
   refine List.Perm.eq_of_pairwise (le:=fun a b=>leB a b=true) (fun a b _ _ h1 h2=>Ez7 h1 h2) (AN7 _) ?_ ((Aw7 _).trans ?_)
   ·refine List.pairwise_append.2 ⟨List.pairwise_map.2 (hsA.imp EE7),List.pairwise_cons.2 ⟨fun b hb=>?_,List.pairwise_map.2 (hsB.imp EE7)⟩,fun a ha b hb=>?_⟩
    ·obtain⟨y,hy,rfl⟩:=List.mem_map.1 hb;exact EE7 (h2 y hy)
    ·obtain⟨x,hx,rfl⟩:=List.mem_map.1 ha
     rcases List.mem_cons.1 hb with rfl|hb
     ·exact EE7 (h1 x hx)
     ·obtain⟨y,hy,rfl⟩:=List.mem_map.1 hb;exact EE7 (Dt7 (h1 x hx) (h2 y hy))
   ·rw[List.map_cons];exact(List.Perm.cons k hdel).trans List.perm_middle.symm
  unfold hdL at hk ⊢;rw[hk,List.map_append,List.map_cons,List.map_map,List.map_map];have es:=HD7 p k i;unfold M7 at es;rw[hz,if_neg (by simp)]at es;refine congr (congrArg _ ?_) ?_
  ·refine((List.map_congr_left fun x hx=>?_).trans (List.map_id _)).symm;have e1:=Du7 (hmA x hx);have e2:=Co7 p (GS7 (h1 x hx)) i;unfold M7 at e2;rw[hz,if_neg (by simp)]at e2;show(⟨x.who,r6 ((k,i)::l8 p k) x.who⟩:Hd)=x
   rw[e2,<-e1]
  ·rw[List.singleton_append,es];refine congrArg _ ?_;refine((List.map_congr_left fun x hx=>?_).trans (List.map_id _)).symm;have e1:=Du7 (hmB x hx);have e2:=Co7 p (GS7 (h2 x hx)).symm i;unfold M7 at e2;rw[hz,if_neg (by simp)]at e2;show(⟨x.who,r6 ((k,i)::l8 p k) x.who⟩:Hd)=x
   rw[e2,<-e1]
end
end Go.Proofs.YtlmhakmoioogaaaGreat
end
