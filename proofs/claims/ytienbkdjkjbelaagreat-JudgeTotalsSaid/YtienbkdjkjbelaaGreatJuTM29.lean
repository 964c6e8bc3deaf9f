/-
  slices.Collect(maps.Keys(m)) of maps whose keys are structs.
-/
import Derived.Test.YtienbkdjkjbelaaGreatJuTM5
import Derived.Test.YtienbkdjkjbelaaGreatJuTM14
import Derived.Test.YtienbkdjkjbelaaGreatJuTM28
import Derived.Test.YtienbkdjkjbelaaGreatProg
import Derived.Shelf.SlSortCmp.WholeK
import Derived.Shelf.SlicesG.Cmp
import Derived.Shelf.Small.Bits
import Derived.Ground.SlsfProg
import Derived.Ground.SlgcProg
import Derived.Ground.NamesProg
set_option maxHeartbeats 16000000
set_option maxRecDepth 100000
set_option linter.unusedSimpArgs false
set_option linter.unusedVariables false
section
namespace Go.Proofs.YtienbkdjkjbelaaGreat
open Go.RowKit Go.Sl
abbrev eWh(x:Int×Int):Value:=.agg #[.I x.1,.I x.2]
def whC(x:Int×Int):List Value:=[.I x.1,.I x.2]
theorem Ci7(x:Int×Int):(whC x).length=2:=rfl
theorem dA4(f:FuncId):Fence.wide.fn f:=trivial
theorem dB4(l:Nat)(f:FuncId):(Fence.wide.inRound l).fn f:=trivial
def KyR{ν:Type}(W:World)(ev:ν->Value)(X:List (Int×Int)->HP)(r b:Nat)(l:List ((Int×Int)×ν))(L:List HP)(w:World):Prop:=
 ∃(ss:List (Int×Int)) (todo:List ((Int×Int)×ν)),(ss++todo.map (·.1)).Perm (l.map (·.1))/\St W (itR eWh ev r b l todo::X ss::L) w
theorem Or7{ν:Type}{ev:ν->Value}{m lp g b:Nat}{l:List ((Int×Int)×ν)}{X:List (Int×Int)->HP}{W w:World}{L:List HP}(hY:ds4 Tryz.prog eWh l.length lp W X)(hS:St W (X []::blk g [.map (some b)] 109::d9 eWh ev b l::L) w):
  CallsIn Fence.wide m Tryz.prog 118 #[.func (.yield lp) #[] #[],.P g] w fun e w'=>(∃v,e=.returned v)/\∃ss,ss.Perm (l.map (·.1))/\St W (X ss::blk g [.map (some b)] 109::d9 eWh ev b l::L) w':=by
 refine callsIn_of_wp Tryz.func118 rfl trivial ?_ rfl;simp only[Tryz.ntmps118,List.size_toArray,jC,List.length_nil,Nat.reduceAdd,Nat.reduceSub,Array.replicate_succ,Array.replicate_zero,List.push_toArray,List.append_toArray,jN,jK]
 gi_wp2_with (first|((with_reducible apply II7 dA4 hS);rfl;rfl;rfl;decide +kernel;exact N5;go_frame)|(gi_at_range;refine KD7 (ek:=eWh) (ev:=ev) hS rfl rfl rfl (show E8 Tryz.prog 109=some (127,97)by kernel_rfl) (by exact i7) ?_;clear hS;intro r w hS;go_frame)|gi_in)
 gi_loopw [] (fun wr=>KyR W ev X r b l (blk g [.map (some b)] 109::L) wr) (fun wr=>cL4 r b wr)
 case atStart=>exact⟨[],l,by simp,hS⟩
 case round=>
  clear hS;obtain⟨ss,todo,hp,hS⟩:=hrel;have hm:=Dk7 hS
  gi_wp2_with (first|(gi_at_next;refine Mu7 (ek:=eWh) (ev:=ev) hS rfl rfl rfl ?_ ?_)|gi_in)
  ·intro h0;subst h0
   gi_wp2
   go_end0;exact⟨⟨_,rfl⟩,ss,by simpa using hp,(ez4 hS).s _⟩
  ·intro y1 y2 yv todo' w2 hp2 hy hS2 hen;have hlen:=hp.length_eq;have hlen2:=hp2.length_eq;simp only[jA,jM,jC]at hlen hlen2;have hp3:(ss++[(y1,y2)]++todo'.map (·.1)).Perm (l.map (·.1)):=by rw[jS];refine List.Perm.trans ?_ hp;exact List.Perm.append_left ss (show((((y1,y2),yv)::todo').map (fun x=>x.1)).Perm (todo.map (fun x=>x.1))from(hp2.map (fun x=>x.1)).symm)
   clear hS hy hp hp2;have hS:=hS2;clear hS2
   gi_wp2_with (first|((with_reducible apply HH7 dA4 hS);rfl;rfl;exact zsS;clear hS;intro bK w hS;go_frame)|((with_reducible apply Mw7 dA4 hS);rfl;rfl;rfl;(focus((conv=>lhs;whnf);try rfl));kernel_rfl;rfl;exact cI4;simp only[jC,List.length_nil];omega;((simp only[List.set_cons_zero,List.set_cons_succ,B9]);rfl);clear hS;intro w hS;go_frame)|((with_reducible apply Mv7 dA4 hS);rfl;rfl;rfl;decide +kernel;kernel_rfl;exact r6;go_frame)|((with_reducible apply Mx7 (k:=(y1,y2)) (pre:=ss) hY hS);rfl;rfl;rfl;rfl;omega;exact i7;clear hS;intro w hS;go_frame)|gi_in)
   go_roundw
   case rel=>exact⟨ss++[(y1,y2)],todo',hp3,hS.s _⟩
   case measure=>
    have hm2:=Dk7 (hS.s (itR eWh ev r b l todo'::X (ss++[(y1,y2)])::blk g [.map (some b)] 109::L));omega
def apI(bB:Nat)(ss:List (Int×Int)):HP:=fun f=>∃v,sep (blk bB [v] 124) (row v 2 127 ss.length (ss.flatMap whC)) f
theorem ek4{gf:Nat}{lb:Array Value}{S:List (Int×Int)->Prop}{N:Nat}{W w:World}{R:List HP}(hN:N<=1000000000)(hseq0:cZ4 Tryz.prog eWh N gf lb S W R)(eg:∀args w,(callFunc gf args).run Tryz.prog w=.ok (.enter gf args) w)(hS:St W R w):
  Calls Tryz.prog 128 #[.slice none 0 0,.func (.func gf) #[] lb] w fun e w'=>∃v ss,e=.returned v/\S ss/\St W (row v 2 127 ss.length (ss.flatMap whC)::R) w':=by
 refine(callsIn_wide (n:=5)).1 ?_;refine callsIn_of_wp_marks Tryz.func128 rfl trivial ?_ rfl;simp only[Tryz.ntmps128,List.size_toArray,jC,List.length_nil,Nat.reduceAdd,Nat.reduceSub,Array.replicate_succ,Array.replicate_zero,List.push_toArray,List.append_toArray,jN,jK]
 gi_wp2_with (first|((with_reducible apply Qj7 dA4 hS);rfl;rfl;rfl;rfl;clear hS;intro bB w hS;go_frame)|gi_in)
 have h0:St W (apI bB []::R) w:=St.mkEx (.slice none 0 0) (St.join (St.swap (hS.rowNil (k:=2) (T:=127))));clear hS;refine eZ4 rfl eg hseq0 h0 ?_ ?_
 ·clear hseq0 h0 eg;intro l m pre x L w hlt hS0;obtain⟨v,hS1⟩:=St.ex hS0;have hS:=St.split hS1;clear hS0 hS1;obtain⟨x1,x2⟩:=x;simp only[fA,fB,fC,Nat.reduceAdd]
  gi_wp2_with (first|((with_reducible apply HH7 (dB4 _) hS);rfl;rfl;exact zsS;clear hS;intro bK w hS;go_frame)|((with_reducible apply Mw7 (dB4 _) hS);rfl;rfl;rfl;(focus((conv=>lhs;whnf);try rfl));kernel_rfl;rfl;exact cI4;simp only[jC,List.length_nil];omega;((simp only[List.set_cons_zero,List.set_cons_succ,B9]);rfl);clear hS;intro w hS;go_frame)|gi_in)
  refine⟨_,St.join (St.join hS),?_⟩;clear hS;intro L2 w2 hS2;have hS:=St.split (St.split hS2);clear hS2
  gi_wp2_with (first|((with_reducible apply II7 (dB4 _) hS);rfl;rfl;rfl;decide +kernel;exact N5;go_frame)|((with_reducible apply Mv7 (dB4 _) hS);rfl;rfl;rfl;decide +kernel;kernel_rfl;exact r6;go_frame)|((with_reducible apply Rj7 (dB4 _) hS);rfl;rfl;(focus(simp only[fD,fI,fJ,Act.eval,fE,fF,fG,fH,fK];try rfl));exact esS;exact rsS;rfl;rfl;rfl;rfl;clear hS;intro bS w hS;go_frame)|((with_reducible apply KE7 hS);rfl;rfl;rfl;rfl;exact esS;exact rsS;rfl;decide;exact i7;exact(Src.mk d8.whole).at hS;rfl;rfl;unfold maxLen;omega;omega;clear hS;intro v w hS;(have hv:=hS.rowVal;obtain⟨va,vc,rfl⟩:=hv);go_frame)|((with_reducible apply Qk7 (dB4 _) hS);rfl;rfl;rfl;(focus((conv=>lhs;whnf);try rfl));kernel_rfl;rfl;rfl;exact cI4;simp only[jC,List.length_nil];omega;((simp only[List.set_cons_zero,List.set_cons_succ,B9]);rfl);clear hS;intro w hS;go_frame)|gi_in)
  have e1:(pre++[(x1,x2)]).length=pre.length+1:=by simp
  have e2:(pre++[(x1,x2)]).flatMap whC=pre.flatMap whC++[.I x1,.I x2]:=by rw[List.flatMap_append];rfl
  have hS1:=hS.s (blk bB [_] _::row _ 2 _ _ _::L2);have hS2:St W (blk bB [.slice va (pre.length+1) vc] 124::row (.slice va (pre.length+1) vc) 2 127 (pre.length+1) (pre.flatMap whC++[.I x1,.I x2])::L2) w:=hS1;rw[<-e2]at hS2;rw[<-e1]at hS2;exact St.mkEx _ (St.join hS2)
 ·clear hseq0 h0 eg;intro D ss w hs hS0;obtain⟨v,hS1⟩:=St.ex hS0;have hS:=St.split hS1;clear hS0 hS1;have hK:=hS.get (b:=D) (.tail (.tail .head))
  gi_wp2_with (first|((with_reducible apply II7 dA4 hS);rfl;rfl;rfl;decide +kernel;exact N5;go_frame)|gi_in)
  refine⟨by simp,.inl ⟨_,_,rfl,run_takeDeferred hK,?_⟩⟩;have hS2:=(hS.s (ac4 D (.deferred (some []))::row v 2 127 ss.length (ss.flatMap whC)::R)).putObj (.deferred none);exact⟨_,results_tmp rfl _ _ _,v,ss,rfl,hs,hS2.drop⟩
end Go.Proofs.YtienbkdjkjbelaaGreat
end
section
namespace Go.Proofs.YtienbkdjkjbelaaGreat
open Go.Shelf
def Tryz.sortWh_ren:Go.Shelf.Ren:=⟨fun|6=>89|15=>127|14=>129|28=>171|29=>172|20=>173|21=>174|22=>175|23=>176|24=>177|25=>178|26=>179|27=>180|46=>212|47=>208|48=>209|49=>213|50=>214|57=>231|n=>n,fun|22=>124|24=>127|25=>131|3=>3|39=>163|0=>0|53=>265|55=>162|4=>4|46=>259|45=>258|50=>188|5=>5|9=>9|66=>296|70=>300|76=>317|77=>196|n=>n,fun|n=>n⟩
theorem Tryz.sortWh:Go.Proofs.SlLaysF0.n6 Tryz.prog Tryz.sortWh_ren:={
 mixed:=by kernel_rfl
 f6:=⟨Tryz.f89.name,by decide,Tryz.func89.trans (congrArg some (by kernel_rfl))⟩
 f14:=⟨Tryz.f129.name,by decide,Tryz.func129.trans (congrArg some (by kernel_rfl))⟩
 f15:=Tryz.func127.trans (congrArg some (by kernel_rfl))
 f20:=⟨Tryz.f173.name,by decide,Tryz.func173.trans (congrArg some (by kernel_rfl))⟩
 f21:=⟨Tryz.f174.name,by decide,Tryz.func174.trans (congrArg some (by kernel_rfl))⟩
 f22:=⟨Tryz.f175.name,by decide,Tryz.func175.trans (congrArg some (by kernel_rfl))⟩
 f23:=⟨Tryz.f176.name,by decide,Tryz.func176.trans (congrArg some (by kernel_rfl))⟩
 f24:=⟨Tryz.f177.name,by decide,Tryz.func177.trans (congrArg some (by kernel_rfl))⟩
 f25:=⟨Tryz.f178.name,by decide,Tryz.func178.trans (congrArg some (by kernel_rfl))⟩
 f26:=⟨Tryz.f179.name,by decide,Tryz.func179.trans (congrArg some (by kernel_rfl))⟩
 f27:=⟨Tryz.f180.name,by decide,Tryz.func180.trans (congrArg some (by kernel_rfl))⟩
 f28:=Tryz.func171.trans (congrArg some (by kernel_rfl))
 f29:=Tryz.func172.trans (congrArg some (by kernel_rfl))
 f46:=⟨Tryz.f212.name,by decide,Tryz.func212.trans (congrArg some (by kernel_rfl))⟩
 f47:=Tryz.func208.trans (congrArg some (by kernel_rfl))
 f48:=Tryz.func209.trans (congrArg some (by kernel_rfl))
 f49:=⟨Tryz.f213.name,by decide,Tryz.func213.trans (congrArg some (by kernel_rfl))⟩
 f50:=⟨Tryz.f214.name,by decide,Tryz.func214.trans (congrArg some (by kernel_rfl))⟩
 f57:=⟨Tryz.f231.name,by decide,Tryz.func231.trans (congrArg some (by kernel_rfl))⟩
 t0:=Tryz.underlying0
 a0:=Tryz.isAgg0
 z0:=Tryz.sizeOf0
 v0:=Tryz.zeroValue0
 t3:=Tryz.underlying3
 a3:=Tryz.isAgg3
 z3:=Tryz.sizeOf3
 v3:=Tryz.zeroValue3
 t4:=Tryz.underlying4
 a4:=Tryz.isAgg4
 z4:=Tryz.sizeOf4
 v4:=Tryz.zeroValue4
 t5:=Tryz.underlying5
 a5:=Tryz.isAgg5
 z5:=Tryz.sizeOf5
 v5:=Tryz.zeroValue5
 t9:=Tryz.underlying9
 a9:=Tryz.isAgg9
 z9:=Tryz.sizeOf9
 v9:=Tryz.zeroValue9
 t22:=Tryz.underlying124
 a22:=Tryz.isAgg124
 z22:=Tryz.sizeOf124
 v22:=Tryz.zeroValue124
 t25:=Tryz.underlying131
 a25:=Tryz.isAgg131
 z25:=Tryz.sizeOf131
 v25:=Tryz.zeroValue131
 t39:=Tryz.underlying163
 a39:=Tryz.isAgg163
 z39:=Tryz.sizeOf163
 v39:=Tryz.zeroValue163
 t45:=Tryz.underlying258
 a45:=Tryz.isAgg258
 z45:=Tryz.sizeOf258
 v45:=Tryz.zeroValue258
 t46:=Tryz.underlying259
 a46:=Tryz.isAgg259
 z46:=Tryz.sizeOf259
 v46:=Tryz.zeroValue259
 t50:=Tryz.underlying188
 a50:=Tryz.isAgg188
 z50:=Tryz.sizeOf188
 v50:=Tryz.zeroValue188
 t53:=Tryz.underlying265
 a53:=Tryz.isAgg265
 z53:=Tryz.sizeOf265
 v53:=Tryz.zeroValue265
 t55:=Tryz.underlying162
 a55:=Tryz.isAgg162
 z55:=Tryz.sizeOf162
 v55:=Tryz.zeroValue162
 t66:=Tryz.underlying296
 a66:=Tryz.isAgg296
 z66:=Tryz.sizeOf296
 v66:=Tryz.zeroValue296
 t70:=Tryz.underlying300
 a70:=Tryz.isAgg300
 z70:=Tryz.sizeOf300
 v70:=Tryz.zeroValue300
 t76:=Tryz.underlying317
 a76:=Tryz.isAgg317
 z76:=Tryz.sizeOf317
 v76:=Tryz.zeroValue317
 t77:=Tryz.underlying196
 a77:=Tryz.isAgg196
 z77:=Tryz.sizeOf196
 v77:=Tryz.zeroValue196 }
def Tryz.cmpIntW_ren:Go.Shelf.Ren:=⟨fun|5=>92|7=>130|n=>n,fun|22=>3|3=>3|4=>4|n=>n,fun|n=>n⟩
theorem Tryz.cmpIntW:Go.Proofs.SlLaysC2.n5 Tryz.prog Tryz.cmpIntW_ren:={
 mixed:=by kernel_rfl
 f5:=⟨Tryz.f92.name,by decide,Tryz.func92.trans (congrArg some (by kernel_rfl))⟩
 f7:=⟨Tryz.f130.name,by decide,Tryz.func130.trans (congrArg some (by kernel_rfl))⟩
 t3:=Tryz.underlying3
 a3:=Tryz.isAgg3
 z3:=Tryz.sizeOf3
 v3:=Tryz.zeroValue3
 t4:=Tryz.underlying4
 a4:=Tryz.isAgg4
 z4:=Tryz.sizeOf4
 v4:=Tryz.zeroValue4
 t22:=Tryz.underlying3
 a22:=Tryz.isAgg3
 z22:=Tryz.sizeOf3
 v22:=Tryz.zeroValue3 }
def Tryz.bitsLenW_ren:Go.Shelf.Ren:=⟨fun|125=>127|128=>171|129=>172|n=>n,fun|46=>163|3=>3|51=>265|53=>162|4=>4|5=>5|9=>9|n=>n,fun|n=>n⟩
theorem Tryz.bitsLenW:Go.Proofs.Lays.n125 Tryz.prog Tryz.bitsLenW_ren:={
 mixed:=by kernel_rfl
 f125:=Tryz.func127.trans (congrArg some (by kernel_rfl))
 f128:=Tryz.func171.trans (congrArg some (by kernel_rfl))
 f129:=Tryz.func172.trans (congrArg some (by kernel_rfl))
 t3:=Tryz.underlying3
 a3:=Tryz.isAgg3
 z3:=Tryz.sizeOf3
 v3:=Tryz.zeroValue3
 t4:=Tryz.underlying4
 a4:=Tryz.isAgg4
 z4:=Tryz.sizeOf4
 v4:=Tryz.zeroValue4
 t5:=Tryz.underlying5
 a5:=Tryz.isAgg5
 z5:=Tryz.sizeOf5
 v5:=Tryz.zeroValue5
 t9:=Tryz.underlying9
 a9:=Tryz.isAgg9
 z9:=Tryz.sizeOf9
 v9:=Tryz.zeroValue9
 t46:=Tryz.underlying163
 a46:=Tryz.isAgg163
 z46:=Tryz.sizeOf163
 v46:=Tryz.zeroValue163
 t51:=Tryz.underlying265
 a51:=Tryz.isAgg265
 z51:=Tryz.sizeOf265
 v51:=Tryz.zeroValue265
 t53:=Tryz.underlying162
 a53:=Tryz.isAgg162
 z53:=Tryz.sizeOf162
 v53:=Tryz.zeroValue162 }
end Go.Proofs.YtienbkdjkjbelaaGreat
end
section
namespace Go.Sl
open Go.RowKit Go.Sort
section
variable{P:Program}{ops:Array Oper}{w1:World}
theorem Fw7{id:Nat}{Q:Exit->Act->World->Prop}{a:Act}{w:World}{l:List Oper}(n:Nat)(hm:P.follows .mixedOrders=true)(hB:Region.lexTailB .any l.toArray n=true)
  (h:wpQuiet P l.toArray (fun w'=>w'=w.drewN 1) (fun a'=>wpList P l.toArray Q (l.drop n) a' (w.drewN 1)) (l.take n) a):(Code.region id l.toArray true).wp P Q a w:=by
 simp only[Region.lexTailB,jB,decide_eq_true_eq]at hB;obtain⟨⟨⟨⟨hsel,hn⟩,hs⟩,hc⟩,hlex⟩:=hB;have htl:(l.take n).length=n:=by simp at hn ⊢;omega
 have hdl:(l.drop n).length=l.toArray.size-n:=by simp
 have inv0:HeadInv .any l.toArray n (Array.replicate l.toArray.size false):=
  ⟨by simp,fun j oj _ hl=>(by rw[getD_replicate_false]at hl;cases hl),fun t _ ht=>getD_in (by simpa using ht) (getD_replicate_false _ _)⟩
 have H:=Le7 (md:=.any) (g:=l.toArray.size-n) hsel hs hc hn (l.take n) 0 _ a (fun j hj=>by
  have hj':j<n:=by rw[htl]at hj;exact hj
  simp[hj']) (by simpa using htl) inv0 (by rw[htl];exact hlex) h
 refine wp_region_any hm ?_;have:=EU7 (P:=P) (md:=.any) (ops:=l.toArray) (C:=fun w'=>w'=w.drewN 1) (n:=n) (T:=fun listed' a'=>Region.seqB .any l.toArray (l.toArray.size-n) n listed'=true/\wpList P l.toArray Q (l.drop n) a' (w.drewN 1)) (Q:=Q) (g:=l.toArray.size-n) (fun listed a' w' hC hL=>by subst hC;have:=wpAny_of_seq (md:=.any) (Q':=Q) (l.drop n) n listed a' (w.drewN 1) (fun j=>by simp[List.getElem?_drop]) (by rw[hdl];exact hL.1) hL.2;rwa [hdl]at this) _ _ _ (w.drewN 1) rfl H;rw[htl]at this;rwa [show n+(l.toArray.size-n)=l.toArray.size by omega]at this
variable{Q:Act->Prop}{a:Act}{o:Oper}{rest:List Oper}
theorem Qm7{v:Value}(hg:Region.wanted o (yielded ops a.tmps)=true)(hv:(execOp a.eval o).run P w1=.ok (.value v) w1)(h:wpQuiet P ops (fun w'=>w'=w1) Q rest (a.put o.dst v)):wpQuiet P ops (fun w'=>w'=w1) Q (o::rest) a:=
 wpQuiet_step fun K hK=>by rw[if_pos hg];exact⟨v,fun w hw=>by subst hw;unfold Oper.quietAt;rw[hv];exact⟨rfl,rfl⟩,hK _ h⟩
theorem EN7(hg:Region.wanted o (yielded ops a.tmps)=true)(hc:aB4 o.op=false)(h:∀K:Act->Prop,(∀a,wpQuiet P ops (fun w'=>w'=w1) Q rest a->K a)->o.quiet P a (fun _=>True) K):wpQuiet P ops (fun w'=>w'=w1) Q (o::rest) a:=by
 obtain⟨v,h1,h2⟩:=h _ fun _ h=>h
 refine wpQuiet_step fun K hK=>?_
 rw[if_pos hg];refine⟨v,fun w _=>?_,hK _ h2⟩;have:=h1 w trivial;unfold Oper.quietAt at this ⊢;generalize hr:(execOp a.eval o).run P w=r at this
 cases r with
 | ok n w'=>cases n <;> first | exact this | exact(EV7 hc hr).elim
 | halt x w'=>exact this
theorem GB7{t:TypeId}{x:Operand}{b off:Nat}{v:Value}{W:World}{L:List HP}(hS:St W L w1)(ho:o.op=.load t x)(hg:Region.wanted o (yielded ops a.tmps)=true)(hx:a.eval x=.pointer (some ⟨b,off,none⟩))(ht:K7 P t=some false)(hc:i6 L b off v)
  (h:wpQuiet P ops (fun w'=>w'=w1) Q rest (a.put o.dst v)):wpQuiet P ops (fun w'=>w'=w1) Q (o::rest) a:=
 Qm7 hg (Dc7 hS ho hx ht hc) h
theorem JM7{f:FuncId}{args:Array Value}{v:Value}(hg:Region.wanted o (yielded ops a.tmps)=true)(hr:∀w,(execOp a.eval o).run P w=.ok (.enter f args) w)
  (hc:Calls P f args w1 fun e w'=>e=.returned v/\w'=w1) (h:wpQuiet P ops (fun w'=>w'=w1) Q rest (a.put o.dst v)):wpQuiet P ops (fun w'=>w'=w1) Q (o::rest) a:=
 wpQuiet_step fun K hK=>by rw[if_pos hg];exact⟨v,fun w hw=>by subst hw;unfold Oper.quietAt;rw[hr w];exact⟨rfl,hc⟩,hK _ h⟩
end
end Go.Sl
namespace Go.Proofs.YtienbkdjkjbelaaGreat
open Go.Shelf Go.RowKit Go.Lib Go.Sort Go.Sl
instance : Inhabited (Int × Int) := ⟨(0,0)⟩
def dk4(x y:Int×Int):Int:=if Lib.compareInt x.1 y.1≠0 then Lib.compareInt x.1 y.1 else Lib.compareInt x.2 y.2
theorem el4(x y:Int×Int):ltOf dk4 x y=ltW x y:=by
 unfold ltOf dk4 Lib.compareInt ltW;by_cases h1:x.1<y.1
 ·simp[h1]
 ·by_cases h2:y.1<x.1
  ·have:x.1≠y.1:=by omega
   simp[h1,h2,this]
  ·have h3:x.1=y.1:=by omega
   by_cases h4:x.2<y.2
   ·simp[h1,h2,h3,h4]
   ·by_cases h5:y.2<x.2 <;> simp[h1,h2,h3,h4,h5]
theorem gz4:SWO (ltOf dk4) where
 irrefl x:=by rw[el4];exact AA7.irr x
 trans x y z h1 h2:=by rw[el4]at *;exact AA7.tr x y z h1 h2
 ntrans x y z h1 h2:=by rw[el4]at *;simp[ltW]at *;omega
theorem orW{a b r:Int}(hr:(if a≠0 then a else b)=r)(g:Nat)(W:World)(h0:W.cell? ⟨g,0,none⟩=some (.I a))(h1:W.cell? ⟨g,1,none⟩=some (.I b)):
  Calls Tryz.prog 91 #[.S g 2 2] W fun e w'=>e=.returned (.I r)/\w'=W:=by
 have Hr:=jH hr;clear hr;go_enter Tryz.func91,Tryz.ntmps91;go_wp2_with fail
 go_loopw [8] (fun v8 wr=>∃i:Nat,v8=.I i/\i<=2/\wr=W/\(1<=i->a=0)/\(2<=i->b=0)) (fun v8 _=>2-(intOf v8).toNat)
 case atStart=>exact⟨0,rfl,by omega,rfl,fun h=>by omega,fun h=>by omega⟩
 case round=>
  obtain⟨i,rfl,hi,rfl,ha,hb⟩:=hrel;have hc:i=0\/i=1\/i=2:=by omega
  rcases hc with rfl|rfl|rfl
  ·clear ha hb hi;by_cases h:a=0
   ·have e:(a==0)=true:=by simpa using h
    have H:=jH h;clear h;go_wp2_with fail;go_roundw
    case rel=>exact⟨1,by simp,by omega,by simp,fun _=>H.out,fun h=>by omega⟩
    case measure=>simp[intOf]
   ·have e:(a==0)=false:=by simpa using h
    have H:=jH (show r=a by rw[<-Hr.out,if_pos h]);clear h;go_wp2_with fail;go_ret
    first
     | exact⟨rfl,rfl⟩
     | (rw[H.out];exact⟨rfl,rfl⟩)
  ·have h0':=ha (by omega);have H0:=jH (show r=b by rw[<-Hr.out,if_neg (by simp[h0'])]);have Ha:=jH h0';clear ha hb hi h0';by_cases h:b=0
   ·have e:(b==0)=true:=by simpa using h
    have H:=jH h;clear h;go_wp2_with fail;go_roundw
    case rel=>exact⟨2,by simp,by omega,by simp,fun _=>Ha.out,fun _=>H.out⟩
    case measure=>simp[intOf]
   ·have e:(b==0)=false:=by simpa using h
    clear h;go_wp2_with fail;go_ret
    first
     | exact⟨rfl,rfl⟩
     | (rw[H0.out];exact⟨rfl,rfl⟩)
  ·have H0:=jH (show r=0 by rw[<-Hr.out,ha (by omega),hb (by omega)];simp);clear ha hb hi;go_wp2_with fail;go_ret
   first
    | exact⟨rfl,rfl⟩
    | (rw[H0.out];exact⟨rfl,rfl⟩)
theorem dT4(x y:Int×Int)(W:World):Calls Tryz.prog 49 #[.agg #[.I x.1,.I x.2],.agg #[.I y.1,.I y.2]] W fun e w'=>e=.returned (.I (dk4 x y))/\∃q os',w'=grow (W.drewN q) os':=by
 obtain⟨x1,x2⟩:=x;obtain⟨y1,y2⟩:=y;have hS:=((St.start W).alloc (.cells #[.I x1,.I x2] 127)).alloc (.cells #[.I y1,.I y2] 127);simp only[World.size_alloc]at hS;generalize hr:dk4 (x1,x2) (y1,y2)=r;have Hr:=jH hr;clear hr;have hcon:=fun x y W'=>AnyG.cmp_Compare_int Tryz.cmpIntW x y W'
 change ∀x y W',Calls Tryz.prog 92 _ _ _ at hcon;go_enter Tryz.func49,Tryz.ntmps49;go_wp2_with fail;refine Fw7 10 (by kernel_rfl) (by kernel_rfl) ?_;have hS2:=hS.drawn (W.drawn+1);refine EN7 rfl rfl ?_;intro K hK;go_big_quiet_op;go_big_quiet_on;apply GB7 hS2;rfl;rfl;rfl;decide +kernel;(exact N5);(refine frS ?_);refine EN7 rfl rfl ?_;intro K hK;go_big_quiet_op;go_big_quiet_on;apply GB7 hS2;rfl;rfl;rfl;decide +kernel;(exact N5);(refine frS ?_);apply JM7;rfl;(intro w;apply Ah7;rfl;decide +kernel;(focus(simp only[fD,fI,fJ,Act.eval,fE,fF,fG,fH,fK];try rfl)));exact hcon _ _ _;(refine frS ?_);refine EN7 rfl rfl ?_;intro K hK;go_big_quiet_op;go_big_quiet_on;apply GB7 hS2;rfl;rfl;rfl;decide +kernel;(exact N5);(refine frS ?_);refine EN7 rfl rfl ?_;intro K hK;go_big_quiet_op;go_big_quiet_on;apply GB7 hS2;rfl;rfl;rfl;decide +kernel;(exact N5);(refine frS ?_);apply JM7;rfl;(intro w;apply Ah7;rfl;decide +kernel;(focus(simp only[fD,fI,fJ,Act.eval,fE,fF,fG,fH,fK];try rfl)));exact hcon _ _ _;(refine frS ?_);refine wpQuiet_nil ?_;clear hS2 hS;go_wp2_with fail;refine(orW (show(if Lib.compareInt x1 y1≠0 then Lib.compareInt x1 y1 else Lib.compareInt x2 y2)=r from Hr.out) _ _ ((World.cell?_alloc_at _ _ _ 0 (by simp[World.drewN])).trans rfl) ((World.cell?_alloc_at _ _ _ 1 (by simp[World.drewN])).trans rfl)).mono ?_;rintro e w' ⟨rfl,rfl⟩;go_wp2_with fail;go_ret;exact⟨rfl,1, #[_,_,_],rfl⟩
theorem dU4(blk off size:Nat)(w:World):CmpLays Tryz.prog 49 #[] whC 2 dk4 blk off size w:=fun _ _ _ _ x y=>dT4 x y _
theorem En7(l:List (Int×Int))(junk:List Value)(j:Nat)(hj:j<l.length*2):(l.flatMap whC++junk)[j]? = some ((flatK whC 2 l.toArray)[j]!):=by
 rw[get_flatK _ _ _ _ (by simpa using hj)];have hq:j / 2<l.length:=by omega
 have h1:=AS7 Ci7 l junk (j / 2) hq (j%2) (by omega);rw[show j / 2*2+j%2=j by omega]at h1;rw[h1];have h2:l.toArray[j / 2]! = l[j / 2]:=by simp[hq]
 rw[h2,jG (by rw[Ci7];omega)];rw[getElem!_pos _ _ (by rw[Ci7];omega)]
theorem MA7(l:List (Int×Int))(g cap:Nat)(junk:List Value)(h62:l.length<4611686018427387904)(W w:World)(L:List HP)(hS:St W (blk g (l.flatMap whC++junk) 127::L) w):
  Calls Tryz.prog 89 #[.S g l.length cap,.func (.func 49) #[] #[]] w fun e w'=> e=.returned (.tuple #[])/\∃l':List (Int×Int),l'.Perm l/\l'.Pairwise (fun x y=>ltW y x=false)/\St W (blk g (l'.flatMap whC++junk) 127::L) w':=by
 have eg:∀args w,(callFunc 49 args).run Tryz.prog w=.ok (.enter 49 args) w:=enters_of Tryz.func49 (by kernel_rfl) rfl;have hgt:=hS.get (b:=g) .head;have hblk:g<w.heap.size:=(Array.getElem?_eq_some_iff.1 hgt).1;have hH:HoldsK whC 2 w g 0 l.toArray:=by intro j hj;rw[size_flatK]at hj;refine⟨hS.cell .head ?_,hS.free .head⟩;rw[Nat.zero_add];exact En7 l junk j (by simpa using hj)
 have hcon:=AnyQ.slices_SortFunc Tryz.sortWh 2 Tryz.isAgg127 Tryz.sizeOf127 whC Ci7 (fun x v hv=>by simp[whC]at hv;rcases hv with rfl|rfl <;> rfl) dk4 gz4 49 #[] g 0 cap l.toArray w eg (dU4 g 0 l.toArray.size w) hH hblk (by simpa using h62);change Calls Tryz.prog 89 _ _ _ at hcon;simp only[List.size_toArray]at hcon;refine hcon.mono ?_;rintro e w' ⟨rfl,d',n,os,⟨hp1,_,hp3⟩,hs,rfl⟩;refine⟨rfl,d'.toList,?_,?_,?_⟩
 ·have e1:d'.extract 0 l.length=d':=by
   have:l.length=d'.size:=by rw[hp1];simp
   rw[this,Array.extract_size]
  have e2:l.toArray.extract 0 l.length=l.toArray:=by
   have:l.length=l.toArray.size:=by simp
   rw[this,Array.extract_size]
  rw[e1,e2]at hp3;exact hp3
 ·rw[List.pairwise_iff_getElem];intro i j hi hj hij;have:=hs i j (Nat.zero_le _) hij (by simp at hj;rw[hp1]at hj;simpa using hj);rw[el4]at this;have hi':i<d'.size:=by simpa using hi
  have hj':j<d'.size:=by simpa using hj
  rw[getElem!_pos d' i hi',getElem!_pos d' j hj']at this;simp only[Array.getElem_toList];exact this
 ·unfold sortWorldK;refine St.grow ?_ os;have hSd:St W (blk g (l.flatMap whC++junk) 127::L) (Sort.ahead w n):=⟨hS.os,hS.tape,hS.output,hS.sat⟩
  refine hSd.putO (w':=putRowK whC 2 (Sort.ahead w n) g 0 d') (o':=.cells (d'.toList.flatMap whC++junk).toArray 127 (0,0)) .head rfl rfl rfl fun k=>?_
  show((Sort.ahead w n).heap.modify g _)[k]? = _
  rw[Array.getElem?_modify];by_cases hk:k=g
  ·subst hk;rw[if_pos rfl,if_pos rfl];have hgt':(Sort.ahead w n).heap[k]? = some (.cells (l.flatMap whC++junk).toArray 127 (0,0)):=hgt;rw[hgt'];simp only[Option.map_some,Sort.onCells]
   congr 2
   have hdl:d'.toList.length=l.length:=by rw[Array.length_toList,hp1];simp
   have hf1:=Ab7 Ci7 l;have hf2:=Ab7 Ci7 d'.toList;apply Array.ext_getElem?;intro t;unfold Sort.putCells;simp only[Array.getElem?_mapIdx,List.getElem?_toArray,size_flatK,Nat.zero_le,true_and,Nat.zero_add,Nat.sub_zero,id];have hds:d'.size=l.length:=by rw[hp1];simp
   by_cases ht:t<l.length*2
   ·have h1:=En7 d'.toList junk t (by rw[hdl];exact ht);rw[h1,En7 l junk t ht];simp[hds,ht]
   ·have h2:(l.flatMap whC++junk)[t]? = (d'.toList.flatMap whC++junk)[t]? := by
     rw[List.getElem?_append_right (by omega),List.getElem?_append_right (by omega),hf1,hf2,hdl]
    rw[<-h2];simp[hds,ht]
  ·rw[if_neg (fun h=>hk h.symm),if_neg hk]
theorem IJ7(f:Value)(W w:World)(L:List HP)(hS:St W L w):
  Calls Tryz.prog 173 #[.slice none 0 0,.I 0,.I 0,f] w fun e w'=>e=.returned (.tuple #[])/\St W L w':=by
 go_enter Tryz.func173,Tryz.ntmps173;go_wp2_with fail
 go_loopw [8] (fun v wr=>v=.I 1/\St W L wr) (fun _ _=>0)
 case atStart=>exact⟨rfl,hS⟩
 case round=>
  clear hS;obtain⟨rfl,hS⟩:=hrel;go_wp2_with fail;go_end0;exact⟨rfl,hS⟩
theorem Os7(n:Int)(f:Value)(W w:World)(L:List HP)(hS:St W L w):
  Calls Tryz.prog 129 #[.slice none 0 0,.I 0,.I 0,.I n,f] w fun e w'=>e=.returned (.tuple #[])/\St W L w':=by
 go_enter Tryz.func129,Tryz.ntmps129;go_wp2_with fail
 go_loopw [1,2] (fun v1 v2 wr=>v1=.I 0/\v2=.I 0/\St W L wr) (fun _ _ _=>0)
 case atStart=>exact⟨rfl,rfl,hS⟩
 case round=>
  clear hS;obtain⟨rfl,rfl,hS⟩:=hrel;go_wp2_with(first|go_at_call 173;refine(IJ7 _ W _ _ hS).mono ?_;clear hS;rintro e w ⟨rfl,hS⟩);refine bodyPost_ret (results_none rfl _ _ _) rfl ?_;exact⟨rfl,hS⟩
theorem MB7(f:Value)(W w:World)(L:List HP)(hS:St W L w):
  Calls Tryz.prog 89 #[.slice none 0 0,f] w fun e w'=>e=.returned (.tuple #[])/\St W L w':=by
 have hl:∀w:World,Calls Tryz.prog 127 #[.int .u64 0] w fun e w'=>(∃l:Int,e=.returned (.I l))/\w'=w:=fun w=>
  (Any.bits_Len Tryz.bitsLenW 0 w (by omega) (by omega)).mono fun _ _ ⟨he,hw⟩=>⟨⟨_,he⟩,hw⟩
 go_enter Tryz.func89,Tryz.ntmps89;go_wp2_with(first|go_at_call 127;refine(hl _).mono ?_;rintro e w ⟨⟨l,rfl⟩,rfl⟩|go_at_call 129;refine(Os7 _ _ W _ _ hS).mono ?_;clear hS;rintro e w ⟨rfl,hS⟩);go_end0;exact⟨rfl,hS⟩
theorem dV4{gf:Nat}{lb:Array Value}{S:List (Int×Int)->Prop}{N:Nat}{W w:World}{R:List HP}(hN:N<=1000000000)(hseq:cZ4 Tryz.prog eWh N gf lb S W R)(eg:∀args w,(callFunc gf args).run Tryz.prog w=.ok (.enter gf args) w)(hS:St W R w):
  Calls Tryz.prog 88 #[.func (.func gf) #[] lb] w fun e w'=>∃v ss,e=.returned v/\S ss/\St W (row v 2 127 ss.length (ss.flatMap whC)::R) w':=by
 go_enter Tryz.func88,Tryz.ntmps88;go_wp2_with(go_at_call 128;refine(ek4 hN hseq eg hS).mono ?_;clear hS;rintro e w ⟨v,ss,rfl,hs,hS⟩);go_ret;exact⟨v,ss,rfl,hs,hS⟩
theorem em4{l:List (Int×Int)}(hn:l.Nodup)(h:l.Pairwise fun x y=>ltW y x=false):l.Pairwise fun x y=>ltW x y=true:=by refine List.Pairwise.imp_of_mem ?_ (hn.and h);rintro a b _ _ ⟨h1,h2⟩;exact AA7.tri b a h2 fun e=>h1 e.symm
theorem en4{gf:Nat}{lb:Array Value}{K:List (Int×Int)}{W w:World}{R:List HP}(hn:K.Nodup)(hN:K.length<=1000000000)(hseq:cZ4 Tryz.prog eWh K.length gf lb (fun ss=>ss.Perm K) W R)(eg:∀args w,(callFunc gf args).run Tryz.prog w=.ok (.enter gf args) w)(hS:St W R w):
  Calls Tryz.prog 47 #[.func (.func gf) #[] lb,.func (.func 49) #[] #[]] w fun e w'=>∃(v:Value) (ks:List (Int×Int)),e=.returned v/\ks.Perm K/\ks.Pairwise (fun x y=>ltW x y=true)/\St W (row v 2 127 ks.length (ks.flatMap whC)::R) w':=by
 go_enter Tryz.func47,Tryz.ntmps47;go_wp2_with(go_at_call 88;refine(dV4 hN hseq eg hS).mono ?_;clear hS;rintro e w ⟨v,ss,rfl,hp,hS⟩)
 rcases hS.rowOpen with ⟨rfl,h0,hc,hS1⟩|⟨g,cap,junk,rfl,hn1,hm1,hj,hl,hS1⟩
 ·refine(MB7 _ W _ _ hS1).mono ?_;clear hS;rintro e w ⟨rfl,hS⟩;go_wp2_with fail;go_ret;obtain rfl:ss=[]:=List.eq_nil_of_length_eq_zero h0;exact⟨_,[],rfl,hp,List.Pairwise.nil,hS.rowNil⟩
 ·refine(MA7 ss g cap junk (by rw[hp.length_eq];omega) W _ _ hS1).mono ?_;clear hS hS1;rintro e w ⟨rfl,l',hp2,hs,hS⟩;have hl2:l'.length=ss.length:=hp2.length_eq;have hf:(l'.flatMap whC).length=(ss.flatMap whC).length:=by rw[Ab7 Ci7,Ab7 Ci7,hl2]
  have hS1:=hS.rowShut (k:=2) (n:=ss.length) (cap:=cap) hn1 hm1 (by rw[jA,hf,<-jA];exact hj) (by rw[hf];exact hl);rw[<-hl2]at hS1;clear hS;have Hp:=jH (hp2.trans hp);have Hs:=jH (em4 ((hp2.trans hp).nodup_iff.2 hn) hs);rw[<-hl2];clear hp hp2 hs hl2 hf hn1 hm1 hj hl;go_wp2_with fail;go_ret;exact⟨_,l',rfl,Hp.out,Hs.out,hS1⟩
end Go.Proofs.YtienbkdjkjbelaaGreat
end
section
namespace Go.Proofs.YtienbkdjkjbelaaGreat
open Go.RowKit Go.Sl
theorem KF7(mb:Option Nat)(W w:World)(L:List HP)(hS:St W L w):
  Calls Tryz.prog 74 #[.map mb] w fun e w'=>∃g,e=.returned (.func (.func 118) #[] #[.P g])/\St W (blk g [.map mb] 109::L) w':=by
 go_enter Tryz.func74,Tryz.ntmps74;go_wp2_with(refine zbx hS ?_;clear hS;intro b w hS);go_ret;exact⟨b,rfl,hS⟩
theorem HJ7:∀args w,(callFunc 118 args).run Tryz.prog w=.ok (.enter 118 args) w:=enters_of Tryz.func118 (by kernel_rfl) rfl
abbrev tn0:Tns:=⟨0,0,⟨#[]⟩,⟨#[]⟩,⟨#[]⟩,⟨#[]⟩,0,0⟩
theorem IK7{ν:Type}{ts:List ((Int×Int)×ν)}{ks:List (Int×Int)}(z:ν)(hn:(ts.map (·.1)).Nodup)(hp:ks.Perm (ts.map (·.1)))(hs:ks.Pairwise fun x y=>ltW x y=true):
  ∃T:List ((Int×Int)×ν),T.map (·.1)=ks/\T.Perm ts/\Asc ltW T:=by
 have e1:(ks.map fun k=>(k,(j6 ts k).getD z)).map (·.1)=ks:=by rw[List.map_map];exact List.map_id ks
 refine⟨ks.map fun k=>(k,(j6 ts k).getD z),e1,?_,?_⟩
 ·have h1:=hp.map fun k=>(k,(j6 ts k).getD z)
  refine h1.trans ?_;rw[List.map_map]
  have h2:∀l':List ((Int×Int)×ν),(∀x∈l',x∈ts)->l'.map ((fun k=>(k,(j6 ts k).getD z))∘fun x=>x.1)=l':=by
   intro l'
   induction l' with
   | nil=>exact fun _=>rfl
   | cons x l' ih=>
    intro h;rw[List.map_cons,ih fun y hy=>h y (List.mem_cons_of_mem _ hy)];have hx:j6 ts x.1=some x.2:=Cr7 hn (h x (List.mem_cons_self ..));show(x.1,(j6 ts x.1).getD z)::l'=_
    rw[hx];rfl
  rw[h2 ts fun x hx=>hx]
 ·unfold Asc;exact List.pairwise_map.2 hs
theorem IL7{ν:Type}{ev:ν->Value}{g b:Nat}{l:List ((Int×Int)×ν)}{W:World}{R:List HP}:
  cZ4 Tryz.prog eWh (l.map (·.1)).length 118 #[.P g] (fun ss=>ss.Perm (l.map (·.1))) W (blk g [.map (some b)] 109::d9 eWh ev b l::R):=
 fun lp m X w hT hS=>Or7 (by rw[jM]at hT;exact hT) hS
def tnC(x:(Int×Int)×Tns):List Value:=x.2.cells
theorem AT7(x:(Int×Int)×Tns):(tnC x).length=8:=rfl
theorem CX7:∀l:List ((Int×Int)×Tns),(l.flatMap tnC).all (·.oneCell')=true
 | []=>rfl
 | x::l=>by rw[List.flatMap_cons,List.all_append,CX7 l];rfl
def TrR(W:World)(F:List HP)(T:List ((Int×Int)×Tns))(v3 v15:Value)(w:World):Prop:=
 ∃k:Nat,v15=.I k/\k<=T.length/\St W (row v3 8 97 k ((T.take k).flatMap tnC)::F) w
theorem GC7{eb:Nat}{ec:Ec}(hl:ec.ts.length<=1000000000)(W w:World)(R:List HP)(hS:St W (ecP eb ec::R) w):
  Calls Tryz.prog 29 #[.P eb] w fun e w'=>∃v T,e=.returned v/\T.Perm ec.ts/\Asc ltW T/\St W (row v 8 97 T.length (T.flatMap tnC)::ecP eb ec::R) w':=by
 obtain⟨m1,m2,m3,m4,E,hp,hn,hS⟩:=ca4 hS;have hS1:=G8 hS;clear hS;have hS:=hS1.s (ebB eb m1 m2 m3 m4::d9 eW eTn m3 ec.ts::d9 eS eN m1 (j9 E)::l9 E::d9 eI eSs m2 ec.ss::d9 eW eU m4 ec.ar::R);clear hS1;have hnt:=H7 hS.drop;have Hp:=jH hp;clear hp hn;go_enter Tryz.func29,Tryz.ntmps29;go_wp2_with(first|go_big_skip|refine zl1 hS ?_|go_at_call 74;refine(KF7 (some m3) W _ _ (hS.s (d9 eW eTn m3 ec.ts::ebB eb m1 m2 m3 m4::d9 eS eN m1 (j9 E)::l9 E::d9 eI eSs m2 ec.ss::d9 eW eU m4 ec.ar::R))).mono ?_;clear hS;rintro e w ⟨g,rfl,hS⟩|go_at_call 47;refine(en4 hnt (by rw[jM];exact hl) IL7 HJ7 hS).mono ?_;clear hS;rintro e w ⟨v,ks,rfl,hkp,hks,hS⟩;obtain⟨sa,sc,rfl⟩:=hS.rowVal);obtain⟨T,rfl,hT1,hT2⟩:=IK7 tn0 hnt hkp hks;have hlk:(T.map (·.1)).length=T.length:=jM _;have Hk:=jH (show ∀(k:Nat) (h:k<T.length) (h2:k<(T.map (·.1)).length),(T.map (·.1))[k]=T[k].1 from fun k h h2=>List.getElem_map _);have hTl:T.length<=1000000000:=by rw[hT1.length_eq];exact hl
 have Hg:=jH (show ∀x∈T,j6 ec.ts x.1=some x.2 from fun x hx=>Cr7 hnt (hT1.mem_iff.1 hx));generalize T.map (·.1)=ks at hS hlk Hk;have HT1:=jH hT1;have HT2:=jH hT2;have Hl:=jH hlk;clear hT1 hT2 hkp hks hl hnt;have hS1:=hS.rowNil (k:=8) (T:=97);clear hS;have hS:=hS1;clear hS1
 go_loopw [3,15] (fun v3 v15 wr=>TrR W (row (.slice sa ks.length sc) 2 127 ks.length (ks.flatMap whC)::blk g [.map (some m3)] 109::d9 eW eTn m3 ec.ts::ebB eb m1 m2 m3 m4::d9 eS eN m1 (j9 E)::l9 E::d9 eI eSs m2 ec.ss::d9 eW eU m4 ec.ar::R) T v3 v15 wr) (fun _ v15 _=>T.length-(intOf v15).toNat)
 case atStart=>exact⟨0,rfl,Nat.zero_le _,hS⟩
 case round=>
  clear hS;obtain⟨k,rfl,hkl,hS⟩:=hrel;by_cases hkn:k=T.length
  ·rw[hkn,List.take_length]at hS;have hd1:decide (k<ks.length)=false:=by simp;omega
   clear hkl hkn hTl hlk;go_wp2_with(first|go_big_skip);go_ret;exact⟨u3,T,rfl,HT1.out,HT2.out,(bu4 Hp.out (hS.s (ebB eb m1 m2 m3 m4::d9 eS eN m1 (j9 E)::l9 E::d9 eI eSs m2 ec.ss::d9 eW eTn m3 ec.ts::d9 eW eU m4 ec.ar::row u3 8 _ _ _::R))).swap⟩
  ·have hk1:k<T.length:=by omega
   have hk2:k<ks.length:=by omega
   obtain⟨⟨gk,rfl⟩,_,_⟩:=St.rowAddr hS.drop (by omega);have hcells:∀{K K':List HP},Take K (row (.S gk ks.length sc) 2 127 ks.length (ks.flatMap whC)) K'->d8 K gk (k*2) (whC ks[k]):=fun hu=>d8.elemM (enc:=whC) Ci7 hu hk2
   have hgt:=Hg.out _ (jW hk1);have hstep:(T.take (k+1)).flatMap tnC=(T.take k).flatMap tnC++tnC T[k]:=by rw[List.take_succ_eq_append_getElem hk1,List.flatMap_append];simp
   rw[Hk.out k hk1 hk2]at hcells;have Hstep:=jH hstep;have hd2:decide (k<ks.length)=true:=by simp;omega
   clear hstep hkn hkl hlk;generalize T[k]=x at hcells hgt Hstep;obtain⟨⟨c,q⟩,⟨t0,t1,t2,t3,t4,t5,t6,t7⟩⟩:=x;simp only[whC]at hcells;simp only at hgt;have hts:ad4 false (eTn tn0) ((j6 ec.ts (c,q)).map eTn)=.agg #[.I t0,.I t1,.string t2,.string t3,.string t4,.string t5,.I t6,.I t7]:=by rw[hgt];rfl
   have Hts:=jH hts;clear hts hgt;generalize (T.take k).flatMap tnC=acc at hS Hstep;go_wp2_with(first|go_big_skip|refine zlN hS ?_ (hc:=by exact hcells (by exact i7))|refine zal hS ?_;clear hS;intro b w hS|refine zsN hS ?_;clear hS;intro w hS);have hS1:=hS.s (row u3 8 _ _ _::d9 eW eTn m3 ec.ts::ebB eb m1 m2 m3 m4::blk b _ _::row (.S gk ks.length sc) 2 _ _ _::blk g _ _::d9 eS eN m1 (j9 E)::l9 E::d9 eI eSs m2 ec.ss::d9 eW eU m4 ec.ar::R);clear hS;have hb9:k<=1000000000:=by omega
   refine rf2 [0,0,2,6,14,0,62,126,255,511] (fun i=>i==7||i==8) [⟨some 7,none,fun nd=>L8 (nd 7) 1 1 [.I t0,.I t1,.string t2,.string t3,.string t4,.string t5,.I t6,.I t7] 97⟩,⟨some 8,none,fun nd=>row (nd 8) 8 97 (k+1) (acc++[.I t0,.I t1,.string t2,.string t3,.string t4,.string t5,.I t6,.I t7])⟩] [some 8,none,none,none] hS1 ?_;clear hS1;intro nd
   iterate 2 (refine cR ?_)
   (refine zcn ?_);refine cR ?_;refine zc1 ?_;refine zcN ?_;apply Az7 (ek:=eW) (ev:=eTn) (k:=(c,q));rfl;kernel_rfl;rfl;rfl;rfl;rfl;(intro F;exact⟨_,by exact A6⟩);exact mT;exact kW;exact zT;exact Hts.out;(refine frS ?_);apply aC4;rfl;rfl;rfl;(focus(simp only[fD,fI,fJ,Act.eval,fE,fF,fG,fH,fK];try rfl));(exact esS);(exact rsS);rfl;rfl;rfl;rfl;(intro _;rfl);rfl;(intro _;rfl);(refine frS ?_);apply Ai7;rfl;rfl;rfl;(focus((conv=>lhs;whnf);try rfl));(focus((conv=>lhs;whnf);try rfl));(exact esS);(exact rsS);rfl;decide;rfl;(intro F w hS;exact AC7 hS (by exact A6));(focus(try rfl));rfl;(focus(unfold maxLen;omega));(focus(omega));(intro _;rfl);(intro _;rfl);(refine frS ?_);refine cR ?_;refine Ad7 ?_;intro w hS;have hS2:St W [L8 (nd 7) _ _ _ _,row (nd 8) 8 _ _ _,d9 eW eTn m3 ec.ts,ebB eb m1 m2 m3 m4,blk b _ _,sats (row (.S gk ks.length sc) 2 127 ks.length (ks.flatMap whC)::blk g [.map (some m3)] 109::d9 eS eN m1 (j9 E)::l9 E::d9 eI eSs m2 ec.ss::d9 eW eU m4 ec.ar::R)] w:=hS;clear hS;have hS:=hS2.unpack [_,_,_,_,_];clear hS2;simp only[jK,jN]at hS;generalize nd 8=v8 at *;replace hS:=hS.drop;go_wp2_with fail;go_roundw
   case rel=>
    have hS2:=hS.s (row v8 8 _ _ _::row (.S gk ks.length sc) 2 _ _ _::blk g _ _::d9 eW eTn m3 ec.ts::ebB eb m1 m2 m3 m4::d9 eS eN m1 (j9 E)::l9 E::d9 eI eSs m2 ec.ss::d9 eW eU m4 ec.ar::R);exact⟨k+1,rfl,by omega,by rw[Hstep.out];exact hS2⟩
   case measure=>simp[intOf];omega
end Go.Proofs.YtienbkdjkjbelaaGreat
end
