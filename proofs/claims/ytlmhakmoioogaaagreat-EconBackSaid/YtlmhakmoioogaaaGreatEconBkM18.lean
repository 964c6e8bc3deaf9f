/-
  slices.Collect(maps.Keys(m)) of maps whose keys are structs.
-/
import Derived.Test.YtlmhakmoioogaaaGreatEconBkM17
set_option maxHeartbeats 16000000
set_option maxRecDepth 100000
set_option linter.unusedSimpArgs false
set_option linter.unusedVariables false
section
namespace Go.Proofs.YtlmhakmoioogaaaGreat
open Go.RowKit Go.Sl
abbrev eWh(x:Int×Int):Value:=.agg #[.I x.1,.I x.2]
def whC(x:Int×Int):List Value:=[.I x.1,.I x.2]
theorem CB7(x:Int×Int):(whC x).length=2:=rfl
theorem cO4(f:FuncId):Fence.wide.fn f:=trivial
theorem dE4(l:Nat)(f:FuncId):(Fence.wide.inRound l).fn f:=trivial
def KyR{ν:Type}(W:World)(ev:ν->Value)(X:List (Int×Int)->HP)(r b:Nat)(l:List ((Int×Int)×ν))(L:List HP)(w:World):Prop:=
 ∃(ss:List (Int×Int)) (todo:List ((Int×Int)×ν)),(ss++todo.map (·.1)).Perm (l.map (·.1))/\St W (itR eWh ev r b l todo::X ss::L) w
theorem RL7{ν:Type}{ev:ν->Value}{m lp g b:Nat}{l:List ((Int×Int)×ν)}{X:List (Int×Int)->HP}{W w:World}{L:List HP}(hY:dr4 Tryz.prog eWh l.length lp W X)(hS:St W (X []::blk g [.map (some b)] 81::d8 eWh ev b l::L) w):
  CallsIn Fence.wide m Tryz.prog 110 #[.func (.yield lp) #[] #[],.P g] w fun e w'=>(∃v,e=.returned v)/\∃ss,ss.Perm (l.map (·.1))/\St W (X ss::blk g [.map (some b)] 81::d8 eWh ev b l::L) w':=by
 refine callsIn_of_wp Tryz.func110 rfl trivial ?_ rfl;simp only[Tryz.ntmps110,List.size_toArray,jC,List.length_nil,Nat.reduceAdd,Nat.reduceSub,Array.replicate_succ,Array.replicate_zero,List.push_toArray,List.append_toArray,jN,jK]
 gi_wp2_with (first|((with_reducible apply DP7 cO4 hS);rfl;rfl;rfl;decide +kernel;exact R9;go_frame)|(gi_at_range;refine Fp7 (ek:=eWh) (ev:=ev) hS rfl rfl rfl (show I9 Tryz.prog 81=some (94,40)by kernel_rfl) (by exact j5) ?_;clear hS;intro r w hS;go_frame)|gi_in)
 gi_loopw [] (fun wr=>KyR W ev X r b l (blk g [.map (some b)] 81::L) wr) (fun wr=>cH4 r b wr)
 case atStart=>exact⟨[],l,by simp,hS⟩
 case round=>
  clear hS;obtain⟨ss,todo,hp,hS⟩:=hrel;have hm:=BF7 hS
  gi_wp2_with (first|(gi_at_next;refine GN7 (ek:=eWh) (ev:=ev) hS rfl rfl rfl ?_ ?_)|gi_in)
  ·intro h0;subst h0
   gi_wp2
   go_end0;exact⟨⟨_,rfl⟩,ss,by simpa using hp,(ef4 hS).s _⟩
  ·intro y1 y2 yv todo' w2 hp2 hy hS2 hen;have hlen:=hp.length_eq;have hlen2:=hp2.length_eq;simp only[jA,jM,jC]at hlen hlen2;have hp3:(ss++[(y1,y2)]++todo'.map (·.1)).Perm (l.map (·.1)):=by rw[jS];refine List.Perm.trans ?_ hp;exact List.Perm.append_left ss (show((((y1,y2),yv)::todo').map (fun x=>x.1)).Perm (todo.map (fun x=>x.1))from(hp2.map (fun x=>x.1)).symm)
   clear hS hy hp hp2;have hS:=hS2;clear hS2
   gi_wp2_with (first|((with_reducible apply GP7 cO4 hS);rfl;rfl;exact zsS;clear hS;intro bK w hS;go_frame)|((with_reducible apply KO7 cO4 hS);rfl;rfl;rfl;(focus((conv=>lhs;whnf);try rfl));kernel_rfl;rfl;exact db4;simp only[jC,List.length_nil];omega;((simp only[List.set_cons_zero,List.set_cons_succ,E8]);rfl);clear hS;intro w hS;go_frame)|((with_reducible apply KN7 cO4 hS);rfl;rfl;rfl;decide +kernel;kernel_rfl;exact x9;go_frame)|((with_reducible apply GQ7 (k:=(y1,y2)) (pre:=ss) hY hS);rfl;rfl;rfl;rfl;omega;exact j5;clear hS;intro w hS;go_frame)|gi_in)
   go_roundw
   case rel=>exact⟨ss++[(y1,y2)],todo',hp3,hS.s _⟩
   case measure=>
    have hm2:=BF7 (hS.s (itR eWh ev r b l todo'::X (ss++[(y1,y2)])::blk g [.map (some b)] 81::L));omega
def apI(bB:Nat)(ss:List (Int×Int)):HP:=fun f=>∃v,sep (blk bB [v] 91) (row v 2 94 ss.length (ss.flatMap whC)) f
theorem fe4{gf:Nat}{lb:Array Value}{S:List (Int×Int)->Prop}{N:Nat}{W w:World}{R:List HP}(hN:N<=1000000000)(hseq0:ck4 Tryz.prog eWh N gf lb S W R)(eg:∀args w,(callFunc gf args).run Tryz.prog w=.ok (.enter gf args) w)(hS:St W R w):
  Calls Tryz.prog 175 #[.slice none 0 0,.func (.func gf) #[] lb] w fun e w'=>∃v ss,e=.returned v/\S ss/\St W (row v 2 94 ss.length (ss.flatMap whC)::R) w':=by
 refine(callsIn_wide (n:=5)).1 ?_;refine callsIn_of_wp_marks Tryz.func175 rfl trivial ?_ rfl;simp only[Tryz.ntmps175,List.size_toArray,jC,List.length_nil,Nat.reduceAdd,Nat.reduceSub,Array.replicate_succ,Array.replicate_zero,List.push_toArray,List.append_toArray,jN,jK]
 gi_wp2_with (first|((with_reducible apply Pt7 cO4 hS);rfl;rfl;rfl;rfl;clear hS;intro bB w hS;go_frame)|gi_in)
 have h0:St W (apI bB []::R) w:=St.mkEx (.slice none 0 0) (St.join (St.swap (hS.rowNil (k:=2) (T:=94))));clear hS;refine eO4 rfl eg hseq0 h0 ?_ ?_
 ·clear hseq0 h0 eg;intro l m pre x L w hlt hS0;obtain⟨v,hS1⟩:=St.ex hS0;have hS:=St.split hS1;clear hS0 hS1;obtain⟨x1,x2⟩:=x;simp only[fA,fB,fC,Nat.reduceAdd]
  gi_wp2_with (first|((with_reducible apply GP7 (dE4 _) hS);rfl;rfl;exact zsS;clear hS;intro bK w hS;go_frame)|((with_reducible apply KO7 (dE4 _) hS);rfl;rfl;rfl;(focus((conv=>lhs;whnf);try rfl));kernel_rfl;rfl;exact db4;simp only[jC,List.length_nil];omega;((simp only[List.set_cons_zero,List.set_cons_succ,E8]);rfl);clear hS;intro w hS;go_frame)|gi_in)
  refine⟨_,St.join (St.join hS),?_⟩;clear hS;intro L2 w2 hS2;have hS:=St.split (St.split hS2);clear hS2
  gi_wp2_with (first|((with_reducible apply DP7 (dE4 _) hS);rfl;rfl;rfl;decide +kernel;exact R9;go_frame)|((with_reducible apply KN7 (dE4 _) hS);rfl;rfl;rfl;decide +kernel;kernel_rfl;exact x9;go_frame)|((with_reducible apply SR7 (dE4 _) hS);rfl;rfl;(focus(simp only[fD,fI,fJ,Act.eval,fE,fF,fG,fH,fK];try rfl));exact esS;exact rsS;rfl;rfl;rfl;rfl;clear hS;intro bS w hS;go_frame)|((with_reducible apply HF7 hS);rfl;rfl;rfl;rfl;exact esS;exact rsS;rfl;decide;exact j5;exact(Src.mk i8.whole).at hS;rfl;rfl;unfold maxLen;omega;omega;clear hS;intro v w hS;(have hv:=hS.rowVal;obtain⟨va,vc,rfl⟩:=hv);go_frame)|((with_reducible apply Pu7 (dE4 _) hS);rfl;rfl;rfl;(focus((conv=>lhs;whnf);try rfl));kernel_rfl;rfl;rfl;exact db4;simp only[jC,List.length_nil];omega;((simp only[List.set_cons_zero,List.set_cons_succ,E8]);rfl);clear hS;intro w hS;go_frame)|gi_in)
  have e1:(pre++[(x1,x2)]).length=pre.length+1:=by simp
  have e2:(pre++[(x1,x2)]).flatMap whC=pre.flatMap whC++[.I x1,.I x2]:=by rw[List.flatMap_append];rfl
  have hS1:=hS.s (blk bB [_] _::row _ 2 _ _ _::L2);have hS2:St W (blk bB [.slice va (pre.length+1) vc] 91::row (.slice va (pre.length+1) vc) 2 94 (pre.length+1) (pre.flatMap whC++[.I x1,.I x2])::L2) w:=hS1;rw[<-e2]at hS2;rw[<-e1]at hS2;exact St.mkEx _ (St.join hS2)
 ·clear hseq0 h0 eg;intro D ss w hs hS0;obtain⟨v,hS1⟩:=St.ex hS0;have hS:=St.split hS1;clear hS0 hS1;have hK:=hS.get (b:=D) (.tail (.tail .head))
  gi_wp2_with (first|((with_reducible apply DP7 cO4 hS);rfl;rfl;rfl;decide +kernel;exact R9;go_frame)|gi_in)
  refine⟨by simp,.inl ⟨_,_,rfl,run_takeDeferred hK,?_⟩⟩;have hS2:=(hS.s (ai4 D (.deferred (some []))::row v 2 94 ss.length (ss.flatMap whC)::R)).putObj (.deferred none);exact⟨_,results_tmp rfl _ _ _,v,ss,rfl,hs,hS2.drop⟩
end Go.Proofs.YtlmhakmoioogaaaGreat
end
section
namespace Go.Proofs.YtlmhakmoioogaaaGreat
open Go.Shelf
def Tryz.sortWh_ren:Go.Shelf.Ren:=⟨fun|6=>109|15=>177|14=>176|28=>224|29=>225|20=>216|21=>217|22=>218|23=>219|24=>220|25=>221|26=>222|27=>223|46=>251|47=>252|48=>253|49=>254|50=>255|57=>272|n=>n,fun|22=>91|24=>94|25=>98|3=>3|39=>195|0=>0|53=>295|55=>194|4=>4|46=>289|45=>288|50=>134|5=>5|9=>9|66=>318|70=>262|76=>332|77=>181|n=>n,fun|n=>n⟩
theorem Tryz.sortWh:Go.Proofs.SlLaysF0.n6 Tryz.prog Tryz.sortWh_ren:={
 mixed:=by kernel_rfl
 f6:=⟨Tryz.f109.name,by decide,Tryz.func109.trans (congrArg some (by kernel_rfl))⟩
 f14:=⟨Tryz.f176.name,by decide,Tryz.func176.trans (congrArg some (by kernel_rfl))⟩
 f15:=Tryz.func177.trans (congrArg some (by kernel_rfl))
 f20:=⟨Tryz.f216.name,by decide,Tryz.func216.trans (congrArg some (by kernel_rfl))⟩
 f21:=⟨Tryz.f217.name,by decide,Tryz.func217.trans (congrArg some (by kernel_rfl))⟩
 f22:=⟨Tryz.f218.name,by decide,Tryz.func218.trans (congrArg some (by kernel_rfl))⟩
 f23:=⟨Tryz.f219.name,by decide,Tryz.func219.trans (congrArg some (by kernel_rfl))⟩
 f24:=⟨Tryz.f220.name,by decide,Tryz.func220.trans (congrArg some (by kernel_rfl))⟩
 f25:=⟨Tryz.f221.name,by decide,Tryz.func221.trans (congrArg some (by kernel_rfl))⟩
 f26:=⟨Tryz.f222.name,by decide,Tryz.func222.trans (congrArg some (by kernel_rfl))⟩
 f27:=⟨Tryz.f223.name,by decide,Tryz.func223.trans (congrArg some (by kernel_rfl))⟩
 f28:=Tryz.func224.trans (congrArg some (by kernel_rfl))
 f29:=Tryz.func225.trans (congrArg some (by kernel_rfl))
 f46:=⟨Tryz.f251.name,by decide,Tryz.func251.trans (congrArg some (by kernel_rfl))⟩
 f47:=Tryz.func252.trans (congrArg some (by kernel_rfl))
 f48:=Tryz.func253.trans (congrArg some (by kernel_rfl))
 f49:=⟨Tryz.f254.name,by decide,Tryz.func254.trans (congrArg some (by kernel_rfl))⟩
 f50:=⟨Tryz.f255.name,by decide,Tryz.func255.trans (congrArg some (by kernel_rfl))⟩
 f57:=⟨Tryz.f272.name,by decide,Tryz.func272.trans (congrArg some (by kernel_rfl))⟩
 t0:=Tryz.underlying0
 a0:=Tryz.isAgg0
 z0:=Tryz.sizeOf0
 v0:=Tryz.zeroValue0
 t3:=Tryz.underlying3
 a3:=Tryz.isAgg3
 z3:=Tryz.sizeOf3
 v3:=Tryz.zeroValue3
 t4:=Tryz.underlying4
 a4:=Tryz.isAgg4
 z4:=Tryz.sizeOf4
 v4:=Tryz.zeroValue4
 t5:=Tryz.underlying5
 a5:=Tryz.isAgg5
 z5:=Tryz.sizeOf5
 v5:=Tryz.zeroValue5
 t9:=Tryz.underlying9
 a9:=Tryz.isAgg9
 z9:=Tryz.sizeOf9
 v9:=Tryz.zeroValue9
 t22:=Tryz.underlying91
 a22:=Tryz.isAgg91
 z22:=Tryz.sizeOf91
 v22:=Tryz.zeroValue91
 t25:=Tryz.underlying98
 a25:=Tryz.isAgg98
 z25:=Tryz.sizeOf98
 v25:=Tryz.zeroValue98
 t39:=Tryz.underlying195
 a39:=Tryz.isAgg195
 z39:=Tryz.sizeOf195
 v39:=Tryz.zeroValue195
 t45:=Tryz.underlying288
 a45:=Tryz.isAgg288
 z45:=Tryz.sizeOf288
 v45:=Tryz.zeroValue288
 t46:=Tryz.underlying289
 a46:=Tryz.isAgg289
 z46:=Tryz.sizeOf289
 v46:=Tryz.zeroValue289
 t50:=Tryz.underlying134
 a50:=Tryz.isAgg134
 z50:=Tryz.sizeOf134
 v50:=Tryz.zeroValue134
 t53:=Tryz.underlying295
 a53:=Tryz.isAgg295
 z53:=Tryz.sizeOf295
 v53:=Tryz.zeroValue295
 t55:=Tryz.underlying194
 a55:=Tryz.isAgg194
 z55:=Tryz.sizeOf194
 v55:=Tryz.zeroValue194
 t66:=Tryz.underlying318
 a66:=Tryz.isAgg318
 z66:=Tryz.sizeOf318
 v66:=Tryz.zeroValue318
 t70:=Tryz.underlying262
 a70:=Tryz.isAgg262
 z70:=Tryz.sizeOf262
 v70:=Tryz.zeroValue262
 t76:=Tryz.underlying332
 a76:=Tryz.isAgg332
 z76:=Tryz.sizeOf332
 v76:=Tryz.zeroValue332
 t77:=Tryz.underlying181
 a77:=Tryz.isAgg181
 z77:=Tryz.sizeOf181
 v77:=Tryz.zeroValue181 }
def Tryz.cmpIntW_ren:Go.Shelf.Ren:=⟨fun|5=>112|7=>178|n=>n,fun|22=>3|3=>3|4=>4|n=>n,fun|n=>n⟩
theorem Tryz.cmpIntW:Go.Proofs.SlLaysC2.n5 Tryz.prog Tryz.cmpIntW_ren:={
 mixed:=by kernel_rfl
 f5:=⟨Tryz.f112.name,by decide,Tryz.func112.trans (congrArg some (by kernel_rfl))⟩
 f7:=⟨Tryz.f178.name,by decide,Tryz.func178.trans (congrArg some (by kernel_rfl))⟩
 t3:=Tryz.underlying3
 a3:=Tryz.isAgg3
 z3:=Tryz.sizeOf3
 v3:=Tryz.zeroValue3
 t4:=Tryz.underlying4
 a4:=Tryz.isAgg4
 z4:=Tryz.sizeOf4
 v4:=Tryz.zeroValue4
 t22:=Tryz.underlying3
 a22:=Tryz.isAgg3
 z22:=Tryz.sizeOf3
 v22:=Tryz.zeroValue3 }
def Tryz.bitsLenW_ren:Go.Shelf.Ren:=⟨fun|125=>177|128=>224|129=>225|n=>n,fun|46=>195|3=>3|51=>295|53=>194|4=>4|5=>5|9=>9|n=>n,fun|n=>n⟩
theorem Tryz.bitsLenW:Go.Proofs.Lays.n125 Tryz.prog Tryz.bitsLenW_ren:={
 mixed:=by kernel_rfl
 f125:=Tryz.func177.trans (congrArg some (by kernel_rfl))
 f128:=Tryz.func224.trans (congrArg some (by kernel_rfl))
 f129:=Tryz.func225.trans (congrArg some (by kernel_rfl))
 t3:=Tryz.underlying3
 a3:=Tryz.isAgg3
 z3:=Tryz.sizeOf3
 v3:=Tryz.zeroValue3
 t4:=Tryz.underlying4
 a4:=Tryz.isAgg4
 z4:=Tryz.sizeOf4
 v4:=Tryz.zeroValue4
 t5:=Tryz.underlying5
 a5:=Tryz.isAgg5
 z5:=Tryz.sizeOf5
 v5:=Tryz.zeroValue5
 t9:=Tryz.underlying9
 a9:=Tryz.isAgg9
 z9:=Tryz.sizeOf9
 v9:=Tryz.zeroValue9
 t46:=Tryz.underlying195
 a46:=Tryz.isAgg195
 z46:=Tryz.sizeOf195
 v46:=Tryz.zeroValue195
 t51:=Tryz.underlying295
 a51:=Tryz.isAgg295
 z51:=Tryz.sizeOf295
 v51:=Tryz.zeroValue295
 t53:=Tryz.underlying194
 a53:=Tryz.isAgg194
 z53:=Tryz.sizeOf194
 v53:=Tryz.zeroValue194 }
end Go.Proofs.YtlmhakmoioogaaaGreat
end
section
namespace Go.Sl
open Go.RowKit Go.Sort
section
variable{P:Program}{ops:Array Oper}{w1:World}
theorem GS7{id:Nat}{Q:Exit->Act->World->Prop}{a:Act}{w:World}{l:List Oper}(n:Nat)(hm:P.follows .mixedOrders=true)(hB:Region.lexTailB .any l.toArray n=true)
  (h:wpQuiet P l.toArray (fun w'=>w'=w.drewN 1) (fun a'=>wpList P l.toArray Q (l.drop n) a' (w.drewN 1)) (l.take n) a):(Code.region id l.toArray true).wp P Q a w:=by
 simp only[Region.lexTailB,jB,decide_eq_true_eq]at hB;obtain⟨⟨⟨⟨hsel,hn⟩,hs⟩,hc⟩,hlex⟩:=hB;have htl:(l.take n).length=n:=by simp at hn ⊢;omega
 have hdl:(l.drop n).length=l.toArray.size-n:=by simp
 have inv0:HeadInv .any l.toArray n (Array.replicate l.toArray.size false):=
  ⟨by simp,fun j oj _ hl=>(by rw[getD_replicate_false]at hl;cases hl),fun t _ ht=>getD_in (by simpa using ht) (getD_replicate_false _ _)⟩
 have H:=NC7 (md:=.any) (g:=l.toArray.size-n) hsel hs hc hn (l.take n) 0 _ a (fun j hj=>by
  have hj':j<n:=by rw[htl]at hj;exact hj
  simp[hj']) (by simpa using htl) inv0 (by rw[htl];exact hlex) h
 refine wp_region_any hm ?_;have:=Gc7 (P:=P) (md:=.any) (ops:=l.toArray) (C:=fun w'=>w'=w.drewN 1) (n:=n) (T:=fun listed' a'=>Region.seqB .any l.toArray (l.toArray.size-n) n listed'=true/\wpList P l.toArray Q (l.drop n) a' (w.drewN 1)) (Q:=Q) (g:=l.toArray.size-n) (fun listed a' w' hC hL=>by subst hC;have:=wpAny_of_seq (md:=.any) (Q':=Q) (l.drop n) n listed a' (w.drewN 1) (fun j=>by simp[List.getElem?_drop]) (by rw[hdl];exact hL.1) hL.2;rwa [hdl]at this) _ _ _ (w.drewN 1) rfl H;rw[htl]at this;rwa [show n+(l.toArray.size-n)=l.toArray.size by omega]at this
variable{Q:Act->Prop}{a:Act}{o:Oper}{rest:List Oper}
theorem Ua7{v:Value}(hg:Region.wanted o (yielded ops a.tmps)=true)(hv:(execOp a.eval o).run P w1=.ok (.value v) w1)(h:wpQuiet P ops (fun w'=>w'=w1) Q rest (a.put o.dst v)):wpQuiet P ops (fun w'=>w'=w1) Q (o::rest) a:=
 wpQuiet_step fun K hK=>by rw[if_pos hg];exact⟨v,fun w hw=>by subst hw;unfold Oper.quietAt;rw[hv];exact⟨rfl,rfl⟩,hK _ h⟩
theorem FX7(hg:Region.wanted o (yielded ops a.tmps)=true)(hc:aS4 o.op=false)(h:∀K:Act->Prop,(∀a,wpQuiet P ops (fun w'=>w'=w1) Q rest a->K a)->o.quiet P a (fun _=>True) K):wpQuiet P ops (fun w'=>w'=w1) Q (o::rest) a:=by
 obtain⟨v,h1,h2⟩:=h _ fun _ h=>h
 refine wpQuiet_step fun K hK=>?_
 rw[if_pos hg];refine⟨v,fun w _=>?_,hK _ h2⟩;have:=h1 w trivial;unfold Oper.quietAt at this ⊢;generalize hr:(execOp a.eval o).run P w=r at this
 cases r with
 | ok n w'=>cases n <;> first | exact this | exact(Gd7 hc hr).elim
 | halt x w'=>exact this
theorem It7{t:TypeId}{x:Operand}{b off:Nat}{v:Value}{W:World}{L:List HP}(hS:St W L w1)(ho:o.op=.load t x)(hg:Region.wanted o (yielded ops a.tmps)=true)(hx:a.eval x=.pointer (some ⟨b,off,none⟩))(ht:Q9 P t=some false)(hc:i9 L b off v)
  (h:wpQuiet P ops (fun w'=>w'=w1) Q rest (a.put o.dst v)):wpQuiet P ops (fun w'=>w'=w1) Q (o::rest) a:=
 Ua7 hg (DW7 hS ho hx ht hc) h
theorem Mj7{f:FuncId}{args:Array Value}{v:Value}(hg:Region.wanted o (yielded ops a.tmps)=true)(hr:∀w,(execOp a.eval o).run P w=.ok (.enter f args) w)
  (hc:Calls P f args w1 fun e w'=>e=.returned v/\w'=w1) (h:wpQuiet P ops (fun w'=>w'=w1) Q rest (a.put o.dst v)):wpQuiet P ops (fun w'=>w'=w1) Q (o::rest) a:=
 wpQuiet_step fun K hK=>by rw[if_pos hg];exact⟨v,fun w hw=>by subst hw;unfold Oper.quietAt;rw[hr w];exact⟨rfl,hc⟩,hK _ h⟩
end
end Go.Sl
namespace Go.Proofs.YtlmhakmoioogaaaGreat
open Go.Shelf Go.RowKit Go.Lib Go.Sort Go.Sl
instance : Inhabited (Int × Int) := ⟨(0,0)⟩
def dW4(x y:Int×Int):Int:=if Lib.compareInt x.1 y.1≠0 then Lib.compareInt x.1 y.1 else Lib.compareInt x.2 y.2
theorem ff4(x y:Int×Int):ltOf dW4 x y=ltW x y:=by
 unfold ltOf dW4 Lib.compareInt ltW;by_cases h1:x.1<y.1
 ·simp[h1]
 ·by_cases h2:y.1<x.1
  ·have:x.1≠y.1:=by omega
   simp[h1,h2,this]
  ·have h3:x.1=y.1:=by omega
   by_cases h4:x.2<y.2
   ·simp[h1,h2,h3,h4]
   ·by_cases h5:y.2<x.2 <;> simp[h1,h2,h3,h4,h5]
theorem hG4:SWO (ltOf dW4) where
 irrefl x:=by rw[ff4];exact Aw7.irr x
 trans x y z h1 h2:=by rw[ff4]at *;exact Aw7.tr x y z h1 h2
 ntrans x y z h1 h2:=by rw[ff4]at *;simp[ltW]at *;omega
theorem orW{a b r:Int}(hr:(if a≠0 then a else b)=r)(g:Nat)(W:World)(h0:W.cell? ⟨g,0,none⟩=some (.I a))(h1:W.cell? ⟨g,1,none⟩=some (.I b)):
  Calls Tryz.prog 111 #[.S g 2 2] W fun e w'=>e=.returned (.I r)/\w'=W:=by
 have Hr:=jH hr;clear hr;go_enter Tryz.func111,Tryz.ntmps111;go_wp2_with fail
 go_loopw [8] (fun v8 wr=>∃i:Nat,v8=.I i/\i<=2/\wr=W/\(1<=i->a=0)/\(2<=i->b=0)) (fun v8 _=>2-(intOf v8).toNat)
 case atStart=>exact⟨0,rfl,by omega,rfl,fun h=>by omega,fun h=>by omega⟩
 case round=>
  obtain⟨i,rfl,hi,rfl,ha,hb⟩:=hrel;have hc:i=0\/i=1\/i=2:=by omega
  rcases hc with rfl|rfl|rfl
  ·clear ha hb hi;by_cases h:a=0
   ·have e:(a==0)=true:=by simpa using h
    have H:=jH h;clear h;go_wp2_with fail;go_roundw
    case rel=>exact⟨1,by simp,by omega,by simp,fun _=>H.out,fun h=>by omega⟩
    case measure=>simp[intOf]
   ·have e:(a==0)=false:=by simpa using h
    have H:=jH (show r=a by rw[<-Hr.out,if_pos h]);clear h;go_wp2_with fail;go_ret
    first
     | exact⟨rfl,rfl⟩
     | (rw[H.out];exact⟨rfl,rfl⟩)
  ·have h0':=ha (by omega);have H0:=jH (show r=b by rw[<-Hr.out,if_neg (by simp[h0'])]);have Ha:=jH h0';clear ha hb hi h0';by_cases h:b=0
   ·have e:(b==0)=true:=by simpa using h
    have H:=jH h;clear h;go_wp2_with fail;go_roundw
    case rel=>exact⟨2,by simp,by omega,by simp,fun _=>Ha.out,fun _=>H.out⟩
    case measure=>simp[intOf]
   ·have e:(b==0)=false:=by simpa using h
    clear h;go_wp2_with fail;go_ret
    first
     | exact⟨rfl,rfl⟩
     | (rw[H0.out];exact⟨rfl,rfl⟩)
  ·have H0:=jH (show r=0 by rw[<-Hr.out,ha (by omega),hb (by omega)];simp);clear ha hb hi;go_wp2_with fail;go_ret
   first
    | exact⟨rfl,rfl⟩
    | (rw[H0.out];exact⟨rfl,rfl⟩)
theorem eP4(x y:Int×Int)(W:World):Calls Tryz.prog 46 #[.agg #[.I x.1,.I x.2],.agg #[.I y.1,.I y.2]] W fun e w'=>e=.returned (.I (dW4 x y))/\∃q os',w'=grow (W.drewN q) os':=by
 obtain⟨x1,x2⟩:=x;obtain⟨y1,y2⟩:=y;have hS:=((St.start W).alloc (.cells #[.I x1,.I x2] 94)).alloc (.cells #[.I y1,.I y2] 94);simp only[World.size_alloc]at hS;generalize hr:dW4 (x1,x2) (y1,y2)=r;have Hr:=jH hr;clear hr;have hcon:=fun x y W'=>AnyG.cmp_Compare_int Tryz.cmpIntW x y W'
 change ∀x y W',Calls Tryz.prog 112 _ _ _ at hcon;go_enter Tryz.func46,Tryz.ntmps46;go_wp2_with fail;refine GS7 10 (by kernel_rfl) (by kernel_rfl) ?_;have hS2:=hS.drawn (W.drawn+1);refine FX7 rfl rfl ?_;intro K hK;go_big_quiet_op;go_big_quiet_on;apply It7 hS2;rfl;rfl;rfl;decide +kernel;(exact R9);(refine frS ?_);refine FX7 rfl rfl ?_;intro K hK;go_big_quiet_op;go_big_quiet_on;apply It7 hS2;rfl;rfl;rfl;decide +kernel;(exact R9);(refine frS ?_);apply Mj7;rfl;(intro w;apply Ag7;rfl;decide +kernel;(focus(simp only[fD,fI,fJ,Act.eval,fE,fF,fG,fH,fK];try rfl)));exact hcon _ _ _;(refine frS ?_);refine FX7 rfl rfl ?_;intro K hK;go_big_quiet_op;go_big_quiet_on;apply It7 hS2;rfl;rfl;rfl;decide +kernel;(exact R9);(refine frS ?_);refine FX7 rfl rfl ?_;intro K hK;go_big_quiet_op;go_big_quiet_on;apply It7 hS2;rfl;rfl;rfl;decide +kernel;(exact R9);(refine frS ?_);apply Mj7;rfl;(intro w;apply Ag7;rfl;decide +kernel;(focus(simp only[fD,fI,fJ,Act.eval,fE,fF,fG,fH,fK];try rfl)));exact hcon _ _ _;(refine frS ?_);refine wpQuiet_nil ?_;clear hS2 hS;go_wp2_with fail;refine(orW (show(if Lib.compareInt x1 y1≠0 then Lib.compareInt x1 y1 else Lib.compareInt x2 y2)=r from Hr.out) _ _ ((World.cell?_alloc_at _ _ _ 0 (by simp[World.drewN])).trans rfl) ((World.cell?_alloc_at _ _ _ 1 (by simp[World.drewN])).trans rfl)).mono ?_;rintro e w' ⟨rfl,rfl⟩;go_wp2_with fail;go_ret;exact⟨rfl,1, #[_,_,_],rfl⟩
theorem eQ4(blk off size:Nat)(w:World):CmpLays Tryz.prog 46 #[] whC 2 dW4 blk off size w:=fun _ _ _ _ x y=>eP4 x y _
theorem Fq7(l:List (Int×Int))(junk:List Value)(j:Nat)(hj:j<l.length*2):(l.flatMap whC++junk)[j]? = some ((flatK whC 2 l.toArray)[j]!):=by
 rw[get_flatK _ _ _ _ (by simpa using hj)];have hq:j / 2<l.length:=by omega
 have h1:=CP7 CB7 l junk (j / 2) hq (j%2) (by omega);rw[show j / 2*2+j%2=j by omega]at h1;rw[h1];have h2:l.toArray[j / 2]! = l[j / 2]:=by simp[hq]
 rw[h2,jG (by rw[CB7];omega)];rw[getElem!_pos _ _ (by rw[CB7];omega)]
theorem Py7(l:List (Int×Int))(g cap:Nat)(junk:List Value)(h62:l.length<4611686018427387904)(W w:World)(L:List HP)(hS:St W (blk g (l.flatMap whC++junk) 94::L) w):
  Calls Tryz.prog 109 #[.S g l.length cap,.func (.func 46) #[] #[]] w fun e w'=> e=.returned (.tuple #[])/\∃l':List (Int×Int),l'.Perm l/\l'.Pairwise (fun x y=>ltW y x=false)/\St W (blk g (l'.flatMap whC++junk) 94::L) w':=by
 have eg:∀args w,(callFunc 46 args).run Tryz.prog w=.ok (.enter 46 args) w:=enters_of Tryz.func46 (by kernel_rfl) rfl;have hgt:=hS.get (b:=g) .head;have hblk:g<w.heap.size:=(Array.getElem?_eq_some_iff.1 hgt).1;have hH:HoldsK whC 2 w g 0 l.toArray:=by intro j hj;rw[size_flatK]at hj;refine⟨hS.cell .head ?_,hS.free .head⟩;rw[Nat.zero_add];exact Fq7 l junk j (by simpa using hj)
 have hcon:=AnyQ.slices_SortFunc Tryz.sortWh 2 Tryz.isAgg94 Tryz.sizeOf94 whC CB7 (fun x v hv=>by simp[whC]at hv;rcases hv with rfl|rfl <;> rfl) dW4 hG4 46 #[] g 0 cap l.toArray w eg (eQ4 g 0 l.toArray.size w) hH hblk (by simpa using h62);change Calls Tryz.prog 109 _ _ _ at hcon;simp only[List.size_toArray]at hcon;refine hcon.mono ?_;rintro e w' ⟨rfl,d',n,os,⟨hp1,_,hp3⟩,hs,rfl⟩;refine⟨rfl,d'.toList,?_,?_,?_⟩
 ·have e1:d'.extract 0 l.length=d':=by
   have:l.length=d'.size:=by rw[hp1];simp
   rw[this,Array.extract_size]
  have e2:l.toArray.extract 0 l.length=l.toArray:=by
   have:l.length=l.toArray.size:=by simp
   rw[this,Array.extract_size]
  rw[e1,e2]at hp3;exact hp3
 ·rw[List.pairwise_iff_getElem];intro i j hi hj hij;have:=hs i j (Nat.zero_le _) hij (by simp at hj;rw[hp1]at hj;simpa using hj);rw[ff4]at this;have hi':i<d'.size:=by simpa using hi
  have hj':j<d'.size:=by simpa using hj
  rw[getElem!_pos d' i hi',getElem!_pos d' j hj']at this;simp only[Array.getElem_toList];exact this
 ·unfold sortWorldK;refine St.grow ?_ os;have hSd:St W (blk g (l.flatMap whC++junk) 94::L) (Sort.ahead w n):=⟨hS.os,hS.tape,hS.output,hS.sat⟩
  refine hSd.putO (w':=putRowK whC 2 (Sort.ahead w n) g 0 d') (o':=.cells (d'.toList.flatMap whC++junk).toArray 94 (0,0)) .head rfl rfl rfl fun k=>?_
  show((Sort.ahead w n).heap.modify g _)[k]? = _
  rw[Array.getElem?_modify];by_cases hk:k=g
  ·subst hk;rw[if_pos rfl,if_pos rfl];have hgt':(Sort.ahead w n).heap[k]? = some (.cells (l.flatMap whC++junk).toArray 94 (0,0)):=hgt;rw[hgt'];simp only[Option.map_some,Sort.onCells]
   congr 2
   have hdl:d'.toList.length=l.length:=by rw[Array.length_toList,hp1];simp
   have hf1:=Ab7 CB7 l;have hf2:=Ab7 CB7 d'.toList;apply Array.ext_getElem?;intro t;unfold Sort.putCells;simp only[Array.getElem?_mapIdx,List.getElem?_toArray,size_flatK,Nat.zero_le,true_and,Nat.zero_add,Nat.sub_zero,id];have hds:d'.size=l.length:=by rw[hp1];simp
   by_cases ht:t<l.length*2
   ·have h1:=Fq7 d'.toList junk t (by rw[hdl];exact ht);rw[h1,Fq7 l junk t ht];simp[hds,ht]
   ·have h2:(l.flatMap whC++junk)[t]? = (d'.toList.flatMap whC++junk)[t]? := by
     rw[List.getElem?_append_right (by omega),List.getElem?_append_right (by omega),hf1,hf2,hdl]
    rw[<-h2];simp[hds,ht]
  ·rw[if_neg (fun h=>hk h.symm),if_neg hk]
theorem KP7(f:Value)(W w:World)(L:List HP)(hS:St W L w):
  Calls Tryz.prog 216 #[.slice none 0 0,.I 0,.I 0,f] w fun e w'=>e=.returned (.tuple #[])/\St W L w':=by
 go_enter Tryz.func216,Tryz.ntmps216;go_wp2_with fail
 go_loopw [8] (fun v wr=>v=.I 1/\St W L wr) (fun _ _=>0)
 case atStart=>exact⟨rfl,hS⟩
 case round=>
  clear hS;obtain⟨rfl,hS⟩:=hrel;go_wp2_with fail;go_end0;exact⟨rfl,hS⟩
theorem RM7(n:Int)(f:Value)(W w:World)(L:List HP)(hS:St W L w):
  Calls Tryz.prog 176 #[.slice none 0 0,.I 0,.I 0,.I n,f] w fun e w'=>e=.returned (.tuple #[])/\St W L w':=by
 go_enter Tryz.func176,Tryz.ntmps176;go_wp2_with fail
 go_loopw [1,2] (fun v1 v2 wr=>v1=.I 0/\v2=.I 0/\St W L wr) (fun _ _ _=>0)
 case atStart=>exact⟨rfl,rfl,hS⟩
 case round=>
  clear hS;obtain⟨rfl,rfl,hS⟩:=hrel;go_wp2_with(first|go_at_call 216;refine(KP7 _ W _ _ hS).mono ?_;clear hS;rintro e w ⟨rfl,hS⟩);refine bodyPost_ret (results_none rfl _ _ _) rfl ?_;exact⟨rfl,hS⟩
theorem Pz7(f:Value)(W w:World)(L:List HP)(hS:St W L w):
  Calls Tryz.prog 109 #[.slice none 0 0,f] w fun e w'=>e=.returned (.tuple #[])/\St W L w':=by
 have hl:∀w:World,Calls Tryz.prog 177 #[.int .u64 0] w fun e w'=>(∃l:Int,e=.returned (.I l))/\w'=w:=fun w=>
  (Any.bits_Len Tryz.bitsLenW 0 w (by omega) (by omega)).mono fun _ _ ⟨he,hw⟩=>⟨⟨_,he⟩,hw⟩
 go_enter Tryz.func109,Tryz.ntmps109;go_wp2_with(first|go_at_call 177;refine(hl _).mono ?_;rintro e w ⟨⟨l,rfl⟩,rfl⟩|go_at_call 176;refine(RM7 _ _ W _ _ hS).mono ?_;clear hS;rintro e w ⟨rfl,hS⟩);go_end0;exact⟨rfl,hS⟩
theorem eR4{gf:Nat}{lb:Array Value}{S:List (Int×Int)->Prop}{N:Nat}{W w:World}{R:List HP}(hN:N<=1000000000)(hseq:ck4 Tryz.prog eWh N gf lb S W R)(eg:∀args w,(callFunc gf args).run Tryz.prog w=.ok (.enter gf args) w)(hS:St W R w):
  Calls Tryz.prog 108 #[.func (.func gf) #[] lb] w fun e w'=>∃v ss,e=.returned v/\S ss/\St W (row v 2 94 ss.length (ss.flatMap whC)::R) w':=by
 go_enter Tryz.func108,Tryz.ntmps108;go_wp2_with(go_at_call 175;refine(fe4 hN hseq eg hS).mono ?_;clear hS;rintro e w ⟨v,ss,rfl,hs,hS⟩);go_ret;exact⟨v,ss,rfl,hs,hS⟩
theorem fg4{l:List (Int×Int)}(hn:l.Nodup)(h:l.Pairwise fun x y=>ltW y x=false):l.Pairwise fun x y=>ltW x y=true:=by refine List.Pairwise.imp_of_mem ?_ (hn.and h);rintro a b _ _ ⟨h1,h2⟩;exact Aw7.tri b a h2 fun e=>h1 e.symm
theorem el4{gf:Nat}{lb:Array Value}{K:List (Int×Int)}{W w:World}{R:List HP}(hn:K.Nodup)(hN:K.length<=1000000000)(hseq:ck4 Tryz.prog eWh K.length gf lb (fun ss=>ss.Perm K) W R)(eg:∀args w,(callFunc gf args).run Tryz.prog w=.ok (.enter gf args) w)(hS:St W R w):
  Calls Tryz.prog 44 #[.func (.func gf) #[] lb,.func (.func 46) #[] #[]] w fun e w'=>∃(v:Value) (ks:List (Int×Int)),e=.returned v/\ks.Perm K/\ks.Pairwise (fun x y=>ltW x y=true)/\St W (row v 2 94 ks.length (ks.flatMap whC)::R) w':=by
 go_enter Tryz.func44,Tryz.ntmps44;go_wp2_with(go_at_call 108;refine(eR4 hN hseq eg hS).mono ?_;clear hS;rintro e w ⟨v,ss,rfl,hp,hS⟩)
 rcases hS.rowOpen with ⟨rfl,h0,hc,hS1⟩|⟨g,cap,junk,rfl,hn1,hm1,hj,hl,hS1⟩
 ·refine(Pz7 _ W _ _ hS1).mono ?_;clear hS;rintro e w ⟨rfl,hS⟩;go_wp2_with fail;go_ret;obtain rfl:ss=[]:=List.eq_nil_of_length_eq_zero h0;exact⟨_,[],rfl,hp,List.Pairwise.nil,hS.rowNil⟩
 ·refine(Py7 ss g cap junk (by rw[hp.length_eq];omega) W _ _ hS1).mono ?_;clear hS hS1;rintro e w ⟨rfl,l',hp2,hs,hS⟩;have hl2:l'.length=ss.length:=hp2.length_eq;have hf:(l'.flatMap whC).length=(ss.flatMap whC).length:=by rw[Ab7 CB7,Ab7 CB7,hl2]
  have hS1:=hS.rowShut (k:=2) (n:=ss.length) (cap:=cap) hn1 hm1 (by rw[jA,hf,<-jA];exact hj) (by rw[hf];exact hl);rw[<-hl2]at hS1;clear hS;have Hp:=jH (hp2.trans hp);have Hs:=jH (fg4 ((hp2.trans hp).nodup_iff.2 hn) hs);rw[<-hl2];clear hp hp2 hs hl2 hf hn1 hm1 hj hl;go_wp2_with fail;go_ret;exact⟨_,l',rfl,Hp.out,Hs.out,hS1⟩
end Go.Proofs.YtlmhakmoioogaaaGreat
end
section
namespace Go.Proofs.YtlmhakmoioogaaaGreat
open Go.RowKit Go.Sl
theorem Nl7(mb:Option Nat)(W w:World)(L:List HP)(hS:St W L w):
  Calls Tryz.prog 45 #[.map mb] w fun e w'=>∃g,e=.returned (.func (.func 110) #[] #[.P g])/\St W (blk g [.map mb] 81::L) w':=by
 go_enter Tryz.func45,Tryz.ntmps45;go_wp2_with(refine zbx hS ?_;clear hS;intro b w hS);go_ret;exact⟨b,rfl,hS⟩
theorem JI7:∀args w,(callFunc 110 args).run Tryz.prog w=.ok (.enter 110 args) w:=enters_of Tryz.func110 (by kernel_rfl) rfl
abbrev tn0:Tns:=⟨0,0,⟨#[]⟩,⟨#[]⟩,⟨#[]⟩,⟨#[]⟩,0,0⟩
theorem KQ7{ν:Type}{ts:List ((Int×Int)×ν)}{ks:List (Int×Int)}(z:ν)(hn:(ts.map (·.1)).Nodup)(hp:ks.Perm (ts.map (·.1)))(hs:ks.Pairwise fun x y=>ltW x y=true):
  ∃T:List ((Int×Int)×ν),T.map (·.1)=ks/\T.Perm ts/\Asc ltW T:=by
 have e1:(ks.map fun k=>(k,(m7 ts k).getD z)).map (·.1)=ks:=by rw[List.map_map];exact List.map_id ks
 refine⟨ks.map fun k=>(k,(m7 ts k).getD z),e1,?_,?_⟩
 ·have h1:=hp.map fun k=>(k,(m7 ts k).getD z)
  refine h1.trans ?_;rw[List.map_map]
  have h2:∀l':List ((Int×Int)×ν),(∀x∈l',x∈ts)->l'.map ((fun k=>(k,(m7 ts k).getD z))∘fun x=>x.1)=l':=by
   intro l'
   induction l' with
   | nil=>exact fun _=>rfl
   | cons x l' ih=>
    intro h;rw[List.map_cons,ih fun y hy=>h y (List.mem_cons_of_mem _ hy)];have hx:m7 ts x.1=some x.2:=Br7 hn (h x (List.mem_cons_self ..));show(x.1,(m7 ts x.1).getD z)::l'=_
    rw[hx];rfl
  rw[h2 ts fun x hx=>hx]
 ·unfold Asc;exact List.pairwise_map.2 hs
theorem KR7{ν:Type}{ev:ν->Value}{g b:Nat}{l:List ((Int×Int)×ν)}{W:World}{R:List HP}:
  ck4 Tryz.prog eWh (l.map (·.1)).length 110 #[.P g] (fun ss=>ss.Perm (l.map (·.1))) W (blk g [.map (some b)] 81::d8 eWh ev b l::R):=
 fun lp m X w hT hS=>RL7 (by rw[jM]at hT;exact hT) hS
def tnC(x:(Int×Int)×Tns):List Value:=x.2.cells
theorem Bh7(x:(Int×Int)×Tns):(tnC x).length=8:=rfl
theorem DQ7:∀l:List ((Int×Int)×Tns),(l.flatMap tnC).all (·.oneCell')=true
 | []=>rfl
 | x::l=>by rw[List.flatMap_cons,List.all_append,DQ7 l];rfl
def TrR(W:World)(F:List HP)(T:List ((Int×Int)×Tns))(v3 v15:Value)(w:World):Prop:=
 ∃k:Nat,v15=.I k/\k<=T.length/\St W (row v3 8 40 k ((T.take k).flatMap tnC)::F) w
theorem EE7{eb:Nat}{ec:Ec}(hl:ec.ts.length<=1000000000)(W w:World)(R:List HP)(hS:St W (ecP eb ec::R) w):
  Calls Tryz.prog 17 #[.P eb] w fun e w'=>∃v T,e=.returned v/\T.Perm ec.ts/\Asc ltW T/\St W (row v 8 40 T.length (T.flatMap tnC)::ecP eb ec::R) w':=by
 obtain⟨m1,m2,m3,m4,E,hp,hn,hS⟩:=av4 hS;have hS1:=G6 hS;clear hS;have hS:=hS1.s (ebB eb m1 m2 m3 m4::d8 eW eTn m3 ec.ts::d8 eS eN m1 (j6 E)::m9 E::d8 eI eSs m2 ec.ss::d8 eW eU m4 ec.ar::R);clear hS1;have hnt:=K8 hS.drop;have Hp:=jH hp;clear hp hn;go_enter Tryz.func17,Tryz.ntmps17;go_wp2_with(first|go_big_skip|refine zl1 hS ?_|go_at_call 45;refine(Nl7 (some m3) W _ _ (hS.s (d8 eW eTn m3 ec.ts::ebB eb m1 m2 m3 m4::d8 eS eN m1 (j6 E)::m9 E::d8 eI eSs m2 ec.ss::d8 eW eU m4 ec.ar::R))).mono ?_;clear hS;rintro e w ⟨g,rfl,hS⟩|go_at_call 44;refine(el4 hnt (by rw[jM];exact hl) KR7 JI7 hS).mono ?_;clear hS;rintro e w ⟨v,ks,rfl,hkp,hks,hS⟩;obtain⟨sa,sc,rfl⟩:=hS.rowVal);obtain⟨T,rfl,hT1,hT2⟩:=KQ7 tn0 hnt hkp hks;have hlk:(T.map (·.1)).length=T.length:=jM _;have Hk:=jH (show ∀(k:Nat) (h:k<T.length) (h2:k<(T.map (·.1)).length),(T.map (·.1))[k]=T[k].1 from fun k h h2=>List.getElem_map _);have hTl:T.length<=1000000000:=by rw[hT1.length_eq];exact hl
 have Hg:=jH (show ∀x∈T,m7 ec.ts x.1=some x.2 from fun x hx=>Br7 hnt (hT1.mem_iff.1 hx));generalize T.map (·.1)=ks at hS hlk Hk;have HT1:=jH hT1;have HT2:=jH hT2;have Hl:=jH hlk;clear hT1 hT2 hkp hks hl hnt;have hS1:=hS.rowNil (k:=8) (T:=40);clear hS;have hS:=hS1;clear hS1
 go_loopw [3,15] (fun v3 v15 wr=>TrR W (row (.slice sa ks.length sc) 2 94 ks.length (ks.flatMap whC)::blk g [.map (some m3)] 81::d8 eW eTn m3 ec.ts::ebB eb m1 m2 m3 m4::d8 eS eN m1 (j6 E)::m9 E::d8 eI eSs m2 ec.ss::d8 eW eU m4 ec.ar::R) T v3 v15 wr) (fun _ v15 _=>T.length-(intOf v15).toNat)
 case atStart=>exact⟨0,rfl,Nat.zero_le _,hS⟩
 case round=>
  clear hS;obtain⟨k,rfl,hkl,hS⟩:=hrel;by_cases hkn:k=T.length
  ·rw[hkn,List.take_length]at hS;have hd1:decide (k<ks.length)=false:=by simp;omega
   clear hkl hkn hTl hlk;go_wp2_with(first|go_big_skip);go_ret;exact⟨u3,T,rfl,HT1.out,HT2.out,(S8 Hp.out (hS.s (ebB eb m1 m2 m3 m4::d8 eS eN m1 (j6 E)::m9 E::d8 eI eSs m2 ec.ss::d8 eW eTn m3 ec.ts::d8 eW eU m4 ec.ar::row u3 8 _ _ _::R))).swap⟩
  ·have hk1:k<T.length:=by omega
   have hk2:k<ks.length:=by omega
   obtain⟨⟨gk,rfl⟩,_,_⟩:=St.rowAddr hS.drop (by omega);have hcells:∀{K K':List HP},Take K (row (.S gk ks.length sc) 2 94 ks.length (ks.flatMap whC)) K'->i8 K gk (k*2) (whC ks[k]):=fun hu=>i8.elemM (enc:=whC) CB7 hu hk2
   have hgt:=Hg.out _ (jW hk1);have hstep:(T.take (k+1)).flatMap tnC=(T.take k).flatMap tnC++tnC T[k]:=by rw[List.take_succ_eq_append_getElem hk1,List.flatMap_append];simp
   rw[Hk.out k hk1 hk2]at hcells;have Hstep:=jH hstep;have hd2:decide (k<ks.length)=true:=by simp;omega
   clear hstep hkn hkl hlk;generalize T[k]=x at hcells hgt Hstep;obtain⟨⟨c,q⟩,⟨t0,t1,t2,t3,t4,t5,t6,t7⟩⟩:=x;simp only[whC]at hcells;simp only at hgt;have hts:ap4 false (eTn tn0) ((m7 ec.ts (c,q)).map eTn)=.agg #[.I t0,.I t1,.string t2,.string t3,.string t4,.string t5,.I t6,.I t7]:=by rw[hgt];rfl
   have Hts:=jH hts;clear hts hgt;generalize (T.take k).flatMap tnC=acc at hS Hstep;go_wp2_with(first|go_big_skip|refine zlN hS ?_ (hc:=by exact hcells (by exact j5))|refine zal hS ?_;clear hS;intro b w hS|refine zsN hS ?_;clear hS;intro w hS);have hS1:=hS.s (row u3 8 _ _ _::d8 eW eTn m3 ec.ts::ebB eb m1 m2 m3 m4::blk b _ _::row (.S gk ks.length sc) 2 _ _ _::blk g _ _::d8 eS eN m1 (j6 E)::m9 E::d8 eI eSs m2 ec.ss::d8 eW eU m4 ec.ar::R);clear hS;have hb9:k<=1000000000:=by omega
   refine rf2 [0,0,2,6,14,0,62,126,255,511] (fun i=>i==7||i==8) [⟨some 7,none,fun nd=>R5 (nd 7) 1 1 [.I t0,.I t1,.string t2,.string t3,.string t4,.string t5,.I t6,.I t7] 40⟩,⟨some 8,none,fun nd=>row (nd 8) 8 40 (k+1) (acc++[.I t0,.I t1,.string t2,.string t3,.string t4,.string t5,.I t6,.I t7])⟩] [some 8,none,none,none] hS1 ?_;clear hS1;intro nd
   iterate 2 (refine cR ?_)
   (refine zcn ?_);refine cR ?_;refine zc1 ?_;refine zcN ?_;apply AL7 (ek:=eW) (ev:=eTn) (k:=(c,q));rfl;kernel_rfl;rfl;rfl;rfl;rfl;(intro F;exact⟨_,by exact D5⟩);exact mT;exact kW;exact zT;exact Hts.out;(refine frS ?_);apply an4;rfl;rfl;rfl;(focus(simp only[fD,fI,fJ,Act.eval,fE,fF,fG,fH,fK];try rfl));(exact esS);(exact rsS);rfl;rfl;rfl;rfl;(intro _;rfl);rfl;(intro _;rfl);(refine frS ?_);apply Ai7;rfl;rfl;rfl;(focus((conv=>lhs;whnf);try rfl));(focus((conv=>lhs;whnf);try rfl));(exact esS);(exact rsS);rfl;decide;rfl;(intro F w hS;exact AT7 hS (by exact D5));(focus(try rfl));rfl;(focus(unfold maxLen;omega));(focus(omega));(intro _;rfl);(intro _;rfl);(refine frS ?_);refine cR ?_;refine Ad7 ?_;intro w hS;have hS2:St W [R5 (nd 7) _ _ _ _,row (nd 8) 8 _ _ _,d8 eW eTn m3 ec.ts,ebB eb m1 m2 m3 m4,blk b _ _,sats (row (.S gk ks.length sc) 2 94 ks.length (ks.flatMap whC)::blk g [.map (some m3)] 81::d8 eS eN m1 (j6 E)::m9 E::d8 eI eSs m2 ec.ss::d8 eW eU m4 ec.ar::R)] w:=hS;clear hS;have hS:=hS2.unpack [_,_,_,_,_];clear hS2;simp only[jK,jN]at hS;generalize nd 8=v8 at *;replace hS:=hS.drop;go_wp2_with fail;go_roundw
   case rel=>
    have hS2:=hS.s (row v8 8 _ _ _::row (.S gk ks.length sc) 2 _ _ _::blk g _ _::d8 eW eTn m3 ec.ts::ebB eb m1 m2 m3 m4::d8 eS eN m1 (j6 E)::m9 E::d8 eI eSs m2 ec.ss::d8 eW eU m4 ec.ar::R);exact⟨k+1,rfl,by omega,by rw[Hstep.out];exact hS2⟩
   case measure=>simp[intOf];omega
abbrev ltB(x y:ByteArray):Bool:=Op.bytesLess x.toList y.toList
theorem Bp7:Ordr ltB:=⟨fun a=>by
  cases h:ltB a a with
  | false=>rfl
  | true=>exact absurd rfl (Eq7 h),fun a b c h1 h2=>Dj7 h1 h2,fun a b h1 h2=>by
  refine HA7 ?_ h2;show ¬ltB a b=true
  rw[h1];exact Bool.noConfusion⟩
def rwC(x:ByteArray×(Nat×Vs)):List Value:=[.string x.1,.pointer (some ⟨x.2.1,0,none⟩)]
theorem Bm7(x:ByteArray×(Nat×Vs)):(rwC x).length=2:=rfl
def seC(x:Int×(Int×Rpl)):List Value:=[.I x.1,.I x.2.1,.I x.2.2.err,.I x.2.2.id,.I x.2.2.has.x0,.I x.2.2.has.x1,.I x.2.2.has.x2,.I x.2.2.has.x3]
theorem AX7(x:Int×(Int×Rpl)):(seC x).length=8:=rfl
def mkC(x:(Int×Int)×Unit):List Value:=[.I x.1.1,.I x.1.2]
theorem Cj7(x:(Int×Int)×Unit):(mkC x).length=2:=rfl
def dvP(vb:Nat)(V:Vs):HP:=fun f=>∃xB:Nat,sats [xvP vb (.P xB) V.n V.ps,xkP xB V.L V.n] f
def w8(D:Ev):HP:=sats (D.map fun x=>dvP x.2.1 x.2.2)
abbrev xrP(v:Value)(D:Ev):HP:=row v 2 137 D.length (D.flatMap rwC)
abbrev xsP(v:Value)(l:List (Int×(Int×Rpl))):HP:=row v 8 143 l.length (l.flatMap seC)
abbrev xtP(v:Value)(l:List ((Int×Int)×Tns)):HP:=row v 8 40 l.length (l.flatMap tnC)
abbrev xmP(v:Value)(l:List ((Int×Int)×Unit)):HP:=row v 2 140 l.length (l.flatMap mkC)
abbrev xeB(xb:Nat)(v1 v2 v3 v4:Value):HP:=blk xb [v1,v2,v3,v4] 50
def XpR(W:World)(L:List HP)(D:Ev)(k:ByteArray)(v:Value)(w:World):Prop:=
 ∃i:Nat,v=.I i/\i<=D.length/\plI ltB D k=i+plI ltB (D.drop i) k/\plB ltB D k=plB ltB (D.drop i) k/\St W L w
theorem Nm7(D:Ev)(k:ByteArray)(xb:Nat)(v1 v2 v3 v4:Value)(W w:World)(R:List HP)(hS:St W (xeB xb v1 v2 v3 v4::xrP v1 D::R) w):
  Calls Tryz.prog 80 #[.P xb,.string k] w fun e w'=>e=.returned (.tuple #[.I (plI ltB D k),.bool (plB ltB D k)])/\St W (xeB xb v1 v2 v3 v4::xrP v1 D::R) w':=by
 obtain⟨a,cap,rfl⟩:=hS.drop.rowVal
 have h63:D.length<=9223372036854775807:=by
  rcases St.rowCase hS.drop with ⟨_,h0,_⟩|⟨_,_,h1,h2⟩
  ·omega
  ·omega
 go_enter Tryz.func80,Tryz.ntmps80;go_wp2_with fail
 go_loopw [6] (fun v wr=>XpR W (xeB xb (.slice a D.length cap) v2 v3 v4::xrP (.slice a D.length cap) D::R) D k v wr) (fun v _=>D.length-(intOf v).toNat)
 case atStart=>exact⟨0,rfl,Nat.zero_le _,by simp,rfl,hS⟩
 case round=>
  clear hS;obtain⟨i,rfl,hil,e1,e2,hS⟩:=hrel;by_cases hin:i=D.length
  ·subst hin;rw[List.drop_length]at e1 e2;have E1:=jH (show plI ltB D k=D.length from e1);have E2:=jH (show plB ltB D k=false from e2);clear e1 e2;go_wp2_with(first|go_big_skip|refine zl1 hS ?_);go_ret2;rw[E1.out,E2.out];exact⟨rfl,hS⟩
  ·have hi1:i<D.length:=by omega
   obtain⟨⟨g,rfl⟩,_,_⟩:=St.rowAddr hS.drop (by omega);have hname:∀{K K':List HP},Take K (xrP (.S g D.length cap) D) K'->i9 K g (i*2) (.string D[i].1):=fun hu=>i8.elemM (enc:=rwC) Bm7 hu hi1 0 _ rfl
   have hdr:D.drop i=D[i]::D.drop (i+1):=List.drop_eq_getElem_cons hi1;rw[hdr]at e1 e2;generalize D[i]=x at hname e1 e2;obtain⟨xw,xi⟩:=x;simp only at hname;rw[plI]at e1;rw[plB]at e2;simp only at e1 e2;clear hdr
   cases hb:Op.bytesLess xw.toList k.toList with
   | true=>
    rw[if_pos hb]at e1 e2;have E1:=jH e1;have E2:=jH e2;clear e1 e2;go_wp2_with(first|go_big_skip|refine zl1 hS ?_|refine zl1 hS ?_ (hc:=by exact hname (by exact j5)));go_roundw
    case rel=>exact⟨i+1,rfl,hi1,by rw[E1.out];omega,E2.out,hS⟩
    case measure=>simp[intOf];omega
   | false=>
    rw[if_neg (by rw[show ltB xw k=false from hb];simp)]at e1 e2
    have e3:plB ltB D k=(xw.toList==k.toList):=by
     rw[e2]
     cases h:(xw.toList==k.toList)with
     | true=>simpa using Ce7.1 h
     | false=>simp only[decide_eq_false_iff_not];intro e;rw[Ce7.2 e]at h;cases h
    have E1:=jH (show plI ltB D k=i from e1);have E2:=jH e3;clear e1 e2 e3;go_wp2_with(first|go_big_skip|refine zl1 hS ?_|refine zl1 hS ?_ (hc:=by exact hname (by exact j5)));refine Aa7 (by kernel_rfl) (by kernel_rfl) hS ?_
    iterate 2 (refine qR ?_)
    (refine zqn ?_);refine qR ?_;refine zq1 ?_
    iterate 3 (refine qR ?_)
    (apply As7;rfl;rfl;rfl;decide +kernel;exact hname (by exact j5);refine frS ?_)
    iterate 4 (refine qR ?_)
    clear hS;intro w hS;go_wp2_with fail;go_ret2;rw[E1.out,E2.out];exact⟨rfl,hS⟩
theorem EF7{D:Ev}{k:ByteArray}{p:Nat}{b:Bool}(h1:plI ltB D k=p)(h2:plB ltB D k=b)(xb:Nat)(v1 v2 v3 v4:Value)(W w:World)(R:List HP)(hS:St W (xeB xb v1 v2 v3 v4::xrP v1 D::R) w):
  Calls Tryz.prog 80 #[.P xb,.string k] w fun e w'=>e=.returned (.tuple #[.I p,.bool b])/\St W (xeB xb v1 v2 v3 v4::xrP v1 D::R) w':=
 (Nm7 D k xb v1 v2 v3 v4 W w R hS).mono fun e w' ⟨he,hS⟩=>⟨by rw[he,h1,h2],hS⟩
theorem EG7{κ ν:Type}[DecidableEq κ](x:κ×ν)(l:List (κ×ν))(k:κ):m7 (x::l) k=if x.1=k then some x.2 else m7 l k:=by unfold m7;rw[List.find?_cons];by_cases hk:x.1=k <;> simp[hk]
theorem fW4(a b c d:Int)(w:World):(Op.equalIn 10000 140 (.agg #[.I a,.I b]) (.agg #[.I c,.I d])).run Tryz.prog w=.ok (decide ((a,b)=(c,d))) w:=by
 have u3:=Tryz.underlying3;have a3:=Tryz.isAgg3;have z3:=Tryz.sizeOf3;have hs:Tryz.prog.stoodInHeld 140=false:=by kernel_rfl
 rw[Op.equalIn];simp only[Sem.run_bind,run_underlying Tryz.underlying140,Result.andThen_ok,run_program,hs,Bool.false_eq_true,if_false];rw[<-Array.forIn_toList];simp only[List.forIn_cons,List.forIn_nil]
 go_simp
 by_cases h1:a=c <;> by_cases h2:b=d <;> simp[h1,h2]
theorem JJ7{a b c d:Int}{r:Bool}(h:decide ((a,b)=(c,d))=r)(w:World):(Op.equalIn 10000 140 (.agg #[.I a,.I b]) (.agg #[.I c,.I d])).run Tryz.prog w=.ok r w:=by rw[<-h];exact fW4 a b c d w
def ArR(W:World)(L:List HP)(l:List ((Int×Int)×Unit))(k:Int×Int)(v:Value)(w:World):Prop:=
 ∃i:Nat,v=.I i/\i<=l.length/\(m7 l k).isSome=(m7 (l.drop i) k).isSome/\St W L w
theorem EH7(l:List ((Int×Int)×Unit))(cl sq:Int){b:Bool}(hb:(m7 l (cl,sq)).isSome=b)(xb:Nat)(v1 v2 v3 v4:Value)(W w:World)(R:List HP)(hS:St W (xeB xb v1 v2 v3 v4::xmP v4 l::R) w):
  Calls Tryz.prog 82 #[.P xb,.I cl,.I sq] w fun e w'=>e=.returned (.bool b)/\St W (xeB xb v1 v2 v3 v4::xmP v4 l::R) w':=by
 obtain⟨a,cap,rfl⟩:=hS.drop.rowVal
 have h63:l.length<=9223372036854775807:=by
  rcases St.rowCase hS.drop with ⟨_,h0,_⟩|⟨_,_,h1,h2⟩
  ·omega
  ·omega
 have Hb:=jH hb;clear hb;go_enter Tryz.func82,Tryz.ntmps82;go_wp2_with fail
 go_loopw [7] (fun v wr=>ArR W (xeB xb v1 v2 v3 (.slice a l.length cap)::xmP (.slice a l.length cap) l::R) l (cl,sq) v wr) (fun v _=>l.length-(intOf v).toNat)
 case atStart=>exact⟨0,rfl,Nat.zero_le _,rfl,hS⟩
 case round=>
  clear hS;obtain⟨i,rfl,hil,e1,hS⟩:=hrel;by_cases hin:i=l.length
  ·subst hin;rw[List.drop_length]at e1;have E1:=jH (show false=b by rw[<-Hb.out,e1];rfl);clear e1;go_wp2_with(first|go_big_skip|refine zl1 hS ?_);go_ret;rw[E1.out];exact⟨rfl,hS⟩
  ·have hi1:i<l.length:=by omega
   obtain⟨⟨g,rfl⟩,_,_⟩:=St.rowAddr hS.drop (by omega);have hcells:∀{K K':List HP},Take K (xmP (.S g l.length cap) l) K'->i8 K g (i*2) (mkC l[i]):=fun hu=>i8.elemM (enc:=mkC) Cj7 hu hi1
   have hdr:l.drop i=l[i]::l.drop (i+1):=List.drop_eq_getElem_cons hi1;rw[hdr,EG7]at e1;generalize l[i]=x at hcells e1;obtain⟨⟨xc,xq⟩,xu⟩:=x;simp only[mkC]at hcells;simp only at e1;clear hdr;by_cases hx:(xc,xq)=(cl,sq)
   ·rw[if_pos hx]at e1;have D1:=jH (show decide ((xc,xq)=(cl,sq))=true from decide_eq_true hx);have E1:=jH (show true=b by rw[<-Hb.out,e1];rfl);clear e1 hx;go_wp2_with(first|go_big_skip|refine zl1 hS ?_|refine zlN hS ?_ (hc:=by exact hcells (by exact j5))|(with_reducible apply Co7);rfl;rfl;rfl;rfl;kernel_rfl;exact JJ7 D1.out;refine frS ?_);go_ret;rw[E1.out];exact⟨rfl,hS⟩
   ·rw[if_neg hx]at e1;have D1:=jH (show decide ((xc,xq)=(cl,sq))=false from decide_eq_false hx);have E1:=jH e1;clear e1 hx;go_wp2_with(first|go_big_skip|refine zl1 hS ?_|refine zlN hS ?_ (hc:=by exact hcells (by exact j5))|(with_reducible apply Co7);rfl;rfl;rfl;rfl;kernel_rfl;exact JJ7 D1.out;refine frS ?_);go_roundw
    case rel=>exact⟨i+1,rfl,hi1,E1.out,hS⟩
    case measure=>simp[intOf];omega
def fdI{κ ν:Type}[DecidableEq κ]:List (κ×ν)->κ->Int
 | [],_ => -1
 | x::l,k=>if x.1=k then 0 else if fdI l k<0 then -1 else fdI l k+1
theorem JK7{κ ν:Type}[DecidableEq κ](k:κ):∀l:List (κ×ν), -1<=fdI l k/\fdI l k<l.length
 | []=>by simp[fdI]
 | x::l=>by
  have h:=JK7 k l;rw[fdI,jC];split
  ·omega
  ·split <;> omega
def TsK(ts:List ((Int×Int)×Tns)):Prop:=∀x∈ts,x.1=(x.2.client,x.2.seq)
def UnR(W:World)(L:List HP)(l:List ((Int×Int)×Tns))(k:Int×Int)(v:Value)(w:World):Prop:=
 ∃i:Nat,v=.I i/\i<=l.length/\fdI l k=(if fdI (l.drop i) k<0 then -1 else i+fdI (l.drop i) k)/\St W L w
theorem GT7(l:List ((Int×Int)×Tns))(hk:TsK l)(cl sq:Int){r:Int}(hr:fdI l (cl,sq)=r)(xb:Nat)(v1 v2 v3 v4:Value)(W w:World)(R:List HP)(hS:St W (xeB xb v1 v2 v3 v4::xtP v3 l::R) w):
  Calls Tryz.prog 53 #[.P xb,.I cl,.I sq] w fun e w'=>e=.returned (.I r)/\St W (xeB xb v1 v2 v3 v4::xtP v3 l::R) w':=by
 obtain⟨a,cap,rfl⟩:=hS.drop.rowVal
 have h63:l.length<=9223372036854775807:=by
  rcases St.rowCase hS.drop with ⟨_,h0,_⟩|⟨_,_,h1,h2⟩
  ·omega
  ·omega
 have Hr:=jH hr;have Hk:=jH hk;clear hr hk;go_enter Tryz.func53,Tryz.ntmps53;go_wp2_with fail
 go_loopw [7] (fun v wr=>UnR W (xeB xb v1 v2 (.slice a l.length cap) v4::xtP (.slice a l.length cap) l::R) l (cl,sq) v wr) (fun v _=>l.length-(intOf v).toNat)
 case atStart=>exact⟨0,rfl,Nat.zero_le _,by
  have:=JK7 (cl,sq) l;show fdI l (cl,sq)=if fdI l (cl,sq)<0 then -1 else(0:Nat)+fdI l (cl,sq)
  split <;> omega,hS⟩
 case round=>
  clear hS;obtain⟨i,rfl,hil,e1,hS⟩:=hrel;by_cases hin:i=l.length
  ·subst hin;rw[List.drop_length]at e1;have E1:=jH (show r = -1 by rw[<-Hr.out,e1];rfl);clear e1;go_wp2_with(first|go_big_skip|refine zl1 hS ?_);go_ret;rw[E1.out];exact⟨rfl,hS⟩
  ·have hi1:i<l.length:=by omega
   obtain⟨⟨g,rfl⟩,_,_⟩:=St.rowAddr hS.drop (by omega);have hcl:∀{K K':List HP},Take K (xtP (.S g l.length cap) l) K'->i9 K g (i*8) (.I l[i].2.client):=fun hu=>i8.elemM (enc:=tnC) Bh7 hu hi1 0 _ rfl
   have hsq:∀{K K':List HP},Take K (xtP (.S g l.length cap) l) K'->i9 K g (i*8+1) (.I l[i].2.seq):=fun hu=>i8.elemM (enc:=tnC) Bh7 hu hi1 1 _ rfl
   have hdr:l.drop i=l[i]::l.drop (i+1):=List.drop_eq_getElem_cons hi1;have hkk:=Hk.out _ (jW hi1);have e2:fdI (l.drop i) (cl,sq)=if(l[i].2.client,l[i].2.seq)=(cl,sq)then 0 else if fdI (l.drop (i+1)) (cl,sq)<0 then -1 else fdI (l.drop (i+1)) (cl,sq)+1:=by rw[hdr,fdI,hkk]
   generalize fdI (l.drop i) (cl,sq)=F at e1 e2;generalize l[i]=x at hcl hsq e2;obtain⟨xk,⟨xc,xq,x2,x3,x4,x5,x6,x7⟩⟩:=x;simp only at e2 hcl hsq;clear hdr hkk;have hge:=JK7 (cl,sq) (l.drop (i+1));by_cases hx:xc=cl
   ·have dx:(xc==cl)=true:=by simpa using hx
    by_cases hy:xq=sq
    ·have dy:(xq==sq)=true:=by simpa using hy
     rw[if_pos (by rw[hx,hy])]at e2;have E1:=jH (show r=i by rw[<-Hr.out,e1,e2];simp);clear e1 e2 hx hy hge;go_wp2_with(first|go_big_skip|refine zl1 hS ?_|refine zl1 hS ?_ (hc:=by exact hcl (by exact j5))|refine zl1 hS ?_ (hc:=by exact hsq (by exact j5)));go_ret;rw[E1.out];exact⟨rfl,hS⟩
    ·have dy:(xq==sq)=false:=by simpa using hy
     rw[if_neg (by intro e;injection e with _ e;exact hy e)]at e2;have E1:=jH (show fdI l (cl,sq)=if fdI (l.drop (i+1)) (cl,sq)<0 then -1 else((i+1:Nat):Int)+fdI (l.drop (i+1)) (cl,sq)by rw[e1];split at e2 <;> (repeat' split) <;> omega);clear e1 e2 hx hy hge;go_wp2_with(first|go_big_skip|refine zl1 hS ?_|refine zl1 hS ?_ (hc:=by exact hcl (by exact j5))|refine zl1 hS ?_ (hc:=by exact hsq (by exact j5)));go_roundw
     case rel=>exact⟨i+1,rfl,hi1,E1.out,hS⟩
     case measure=>simp[intOf];omega
   ·have dx:(xc==cl)=false:=by simpa using hx
    rw[if_neg (by intro e;injection e with e _;exact hx e)]at e2;have E1:=jH (show fdI l (cl,sq)=if fdI (l.drop (i+1)) (cl,sq)<0 then -1 else((i+1:Nat):Int)+fdI (l.drop (i+1)) (cl,sq)by rw[e1];split at e2 <;> (repeat' split) <;> omega);clear e1 e2 hx hge;go_wp2_with(first|go_big_skip|refine zl1 hS ?_|refine zl1 hS ?_ (hc:=by exact hcl (by exact j5))|refine zl1 hS ?_ (hc:=by exact hsq (by exact j5)));go_roundw
    case rel=>exact⟨i+1,rfl,hi1,E1.out,hS⟩
    case measure=>simp[intOf];omega
theorem EI7{a b c d:Int}{r:Bool}(h:ltW (c,d) (a,b)=r)(W w:World)(R:List HP)(hS:St W R w):
  Calls Tryz.prog 98 #[.I a,.I b,.I c,.I d] w fun e w'=>e=.returned (.bool r)/\St W R w':=by
 unfold ltW at h;simp only at h;go_enter Tryz.func98,Tryz.ntmps98;by_cases h1:c<a
 ·have e:=jH (show r=true by rw[<-h];simp[h1]);have d1:decide (c<a)=true:=by simpa using h1
  clear h h1;go_wp2_with(fail);go_ret;rw[e.out];exact⟨rfl,hS⟩
 have d1:decide (c<a)=false:=by simpa using h1
 by_cases h2:a=c
 ·have d2:(a==c)=true:=by simpa using h2
  by_cases h3:d<b
  ·have e:=jH (show r=true by rw[<-h];simp[h2,h3]);have d3:decide (d<b)=true:=by simpa using h3
   clear h h1 h2 h3;go_wp2_with(fail);go_ret;rw[e.out];exact⟨rfl,hS⟩
  ·have e:=jH (show r=false by rw[<-h];simp[h2];omega);have d3:decide (d<b)=false:=by simpa using h3
   clear h h1 h2 h3;go_wp2_with(fail);go_ret;rw[e.out];exact⟨rfl,hS⟩
 ·have d2:(a==c)=false:=by simpa using h2
  have e:=jH (show r=false by rw[<-h];simp[h1];omega);clear h h1 h2;go_wp2_with(fail);go_ret;rw[e.out];exact⟨rfl,hS⟩
def CmR{ν:Type}(W:World)(L:List HP)(l:List ((Int×Int)×ν))(k:Int×Int)(v:Value)(w:World):Prop:=
 ∃i:Nat,v=.I i/\i<=l.length/\plI ltW l k=i+plI ltW (l.drop i) k/\St W L w
theorem GU7:∀l:List ((Int×Int)×Unit),(l.flatMap mkC).all (·.oneCell')=true
 | []=>rfl
 | x::l=>by rw[List.flatMap_cons,List.all_append,GU7 l];rfl
theorem Bu7{α:Type}(H:List α)(p q:Nat)(x:α)(hp:p<=H.length):(H.take p++x::H.drop q).length=0+p+1+(H.length-q):=by rw[jA,jT,jC,List.length_drop,Nat.min_eq_left hp];omega
theorem Bi7{α:Type}(enc:α->List Value)(H:List α)(p q:Nat)(x:α):(H.take p++x::H.drop q).flatMap enc=[]++(H.take p).flatMap enc++enc x++(H.drop q).flatMap enc:=by rw[List.flatMap_append,List.flatMap_cons,jN,jS]
theorem gE4(l:List ((Int×Int)×Unit))(hl:l.length<=1000000)(cl sq:Int)(xb:Nat)(v1 v2 v3 v4:Value)(W w:World)(R:List HP)(hS:St W (xeB xb v1 v2 v3 v4::xmP v4 l::R) w):
  Calls Tryz.prog 52 #[.P xb,.I cl,.I sq] w fun e w'=>e=.returned (.tuple #[])/\∃v,St W (xeB xb v1 v2 v3 v::xmP v (l.take (plI ltW l (cl,sq))++((cl,sq),())::l.drop (plI ltW l (cl,sq)))::R) w':=by
 obtain⟨a,cap,rfl⟩:=hS.drop.rowVal;have h63:l.length<=9223372036854775807:=by omega
 go_enter Tryz.func52,Tryz.ntmps52;go_wp2_with fail
 go_loopw [6] (fun v wr=>CmR W (xeB xb v1 v2 v3 (.slice a l.length cap)::xmP (.slice a l.length cap) l::R) l (cl,sq) v wr) (fun v _=>l.length-(intOf v).toNat)
 case atStart=>exact⟨0,rfl,Nat.zero_le _,by simp,hS⟩
 case round=>
  clear hS;obtain⟨i,rfl,hil,e1,hS⟩:=hrel;by_cases hin:i=l.length
  ·have hdr:l.drop i=[]:=by rw[hin];exact List.drop_length
   rw[hdr]at e1;have E1:=jH (show plI ltW l (cl,sq)=i from e1);have di:decide (i<l.length)=false:=by simp;omega
   have hi0:l=[]->i=0:=fun h=>by rw[h]at hil;simpa using hil
   clear e1 hdr hin;go_wp2_with fail;refine Aa7 (by kernel_rfl) (by kernel_rfl) hS ?_
   repeat(first|go_big_quiet_skip|refine zq1 ?_|refine zqn ?_|refine qR ?_)
   clear hS;intro w hS
   rcases St.rowCase hS.drop with ⟨rfl,h0,rfl,hc0⟩|⟨g,rfl,hcap,hcn⟩
   ·have hH:l=[]:=List.eq_nil_of_length_eq_zero h0;obtain rfl:=hi0 hH;clear hi0 E1;subst hH;go_wp2_with(first|refine zl1 hS ?_|(with_reducible apply Bq7 (n:=0) hS);rfl;rfl;(focus(simp only[fD,fI,fJ,Act.eval,fE,fF,fG,fH,fK];try rfl));exact esS;exact rsS;rfl;rfl;rfl;rfl;rfl;decide;clear hS;intro bv w hS;refine frS ?_|refine zbs hS ?_;clear hS;intro bS w hS|(with_reducible apply Ae7 hS);rfl;rfl;rfl;rfl;exact esS;exact rsS;rfl;decide;exact j5;exact .inl ⟨rfl,rfl,rfl⟩;(focus(rfl));exact rfl;(focus(unfold maxLen;omega));(focus(omega));clear hS;intro v w hS;(have hv:=hS.rowVal;obtain⟨va,vc,rfl⟩:=hv);refine frS ?_|(with_reducible apply Ae7 hS);rfl;rfl;rfl;rfl;exact esS;exact rsS;rfl;decide;exact j5;exact Src.mk i8.whole;(focus(rfl));exact rfl;(focus(unfold maxLen;omega));(focus(omega));clear hS;intro v w hS;(have hv:=hS.rowVal;obtain⟨va,vc,rfl⟩:=hv);refine frS ?_|refine zs1 hS ?_;clear hS;intro w hS);go_end0;have hS1:St W (xmP (.slice va 1 vc) [((cl,sq),())]::_) w:=hS;have hS2:=hS1.s (xeB xb v1 v2 v3 _::xmP (.slice va 1 vc) [((cl,sq),())]::R);exact⟨rfl,.slice va 1 vc,hS2⟩
   ·clear hi0;have Hpp:=jH (show plI ltW l (cl,sq)=i from E1.out);go_wp2_with(first|refine zl1 hS ?_|(with_reducible apply Bq7 (n:=0) hS);rfl;rfl;(focus(simp only[fD,fI,fJ,Act.eval,fE,fF,fG,fH,fK];try rfl));exact esS;exact rsS;rfl;rfl;rfl;rfl;rfl;decide;clear hS;intro bv w hS;refine frS ?_|refine zbs hS ?_;clear hS;intro bS w hS|(with_reducible apply Ae7 hS);rfl;rfl;rfl;rfl;exact esS;exact rsS;rfl;decide;exact j5;exact Src.partM (by exact bu4) (F5 l (i));(focus(rw[Ab7 Cj7,jT,Nat.min_eq_left (by omega)]));exact GU7 _;(focus(unfold maxLen;omega));(focus(omega));clear hS;intro v w hS;(have hv:=hS.rowVal;obtain⟨va,vc,rfl⟩:=hv);refine frS ?_|(with_reducible apply Ae7 hS);rfl;rfl;rfl;rfl;exact esS;exact rsS;rfl;decide;exact j5;exact Src.mk i8.whole;(focus(rfl));exact rfl;(focus(unfold maxLen;omega));(focus(omega));clear hS;intro v w hS;(have hv:=hS.rowVal;obtain⟨va,vc,rfl⟩:=hv);refine frS ?_|(with_reducible apply Ae7 hS);rfl;rfl;rfl;rfl;exact esS;exact rsS;rfl;decide;exact j5;exact Src.behindM (by exact bu4) (fun h=>⟨by omega,by rw[List.drop_eq_nil_of_le (by omega)];rfl⟩) (fun j u h=>H9 Cj7 l (i) j u (by omega) h);(focus(rw[Ab7 Cj7,List.length_drop]));exact GU7 _;(focus(unfold maxLen;omega));(focus(omega));clear hS;intro v w hS;(have hv:=hS.rowVal;obtain⟨va,vc,rfl⟩:=hv);refine frS ?_|refine zs1 hS ?_;clear hS;intro w hS)
    all_goals go_end0
    all_goals refine⟨rfl,.slice va (0+i+1+(l.length-i)) vc,?_⟩
    all_goals rw[Hpp.out]
    all_goals unfold xmP
    all_goals rw[Bu7 l (i) (i) _ (by omega),Bi7]
    all_goals have hS1:St W (row (.slice va (0+i+1+(l.length-i)) vc) 2 140 (0+i+1+(l.length-i)) ([]++(l.take (i)).flatMap mkC++mkC ((cl,sq),())++(l.drop (i)).flatMap mkC)::_) w:=hS
    all_goals exact hS1.s _
  ·have hi1:i<l.length:=by omega
   obtain⟨⟨g,rfl⟩,_,_⟩:=St.rowAddr hS.drop (by omega);have hca:∀{K K':List HP},Take K (xmP (.S g l.length cap) l) K'->i9 K g (i*2) (.I l[i].1.1):=fun hu=>i8.elemM (enc:=mkC) Cj7 hu hi1 0 _ rfl
   have hcb:∀{K K':List HP},Take K (xmP (.S g l.length cap) l) K'->i9 K g (i*2+1) (.I l[i].1.2):=fun hu=>i8.elemM (enc:=mkC) Cj7 hu hi1 1 _ rfl
   have hdr:l.drop i=l[i]::l.drop (i+1):=List.drop_eq_getElem_cons hi1;rw[hdr,plI]at e1;generalize l[i]=x at hca hcb e1;obtain⟨⟨xa,xc⟩,xu⟩:=x;simp only at hca hcb e1;clear hdr;have di:decide (i<l.length)=true:=by simpa using hi1
   cases hlt:ltW (xa,xc) (cl,sq)with
   | true=>
    rw[hlt,if_pos rfl]at e1;have Hlt:=jH hlt;have E1:=jH e1;clear hlt e1;go_wp2_with fail;refine Aa7 (by kernel_rfl) (by kernel_rfl) hS ?_
    repeat(first|refine zq1 ?_|apply As7;rfl;rfl;rfl;decide +kernel;exact hca (by exact j5);refine frS ?_|apply As7;rfl;rfl;rfl;decide +kernel;exact hcb (by exact j5);refine frS ?_|refine zqn ?_|apply At7;rfl;intro w;apply Ag7;rfl;decide +kernel;(focus(simp only[fD,fI,fJ,Act.eval,fE,fF,fG,fH,fK];try rfl));intro w hS;exact EI7 Hlt.out W w _ hS;refine frS ?_|refine qR ?_)
    clear hS;intro w hS;go_wp2_with(fail);go_roundw
    case rel=>exact⟨i+1,rfl,hi1,by rw[E1.out];omega,hS⟩
    case measure=>simp[intOf];omega
   | false=>
    rw[hlt,if_neg (by simp)]at e1;have Hlt:=jH hlt;have E1:=jH (show plI ltW l (cl,sq)=i from e1);clear hlt e1;go_wp2_with fail;refine Aa7 (by kernel_rfl) (by kernel_rfl) hS ?_
    repeat(first|refine zq1 ?_|apply As7;rfl;rfl;rfl;decide +kernel;exact hca (by exact j5);refine frS ?_|apply As7;rfl;rfl;rfl;decide +kernel;exact hcb (by exact j5);refine frS ?_|refine zqn ?_|apply At7;rfl;intro w;apply Ag7;rfl;decide +kernel;(focus(simp only[fD,fI,fJ,Act.eval,fE,fF,fG,fH,fK];try rfl));intro w hS;exact EI7 Hlt.out W w _ hS;refine frS ?_|refine qR ?_)
    clear hS;intro w hS;have Hpp:=jH (show plI ltW l (cl,sq)=i from E1.out);go_wp2_with(first|refine zl1 hS ?_|(with_reducible apply Bq7 (n:=0) hS);rfl;rfl;(focus(simp only[fD,fI,fJ,Act.eval,fE,fF,fG,fH,fK];try rfl));exact esS;exact rsS;rfl;rfl;rfl;rfl;rfl;decide;clear hS;intro bv w hS;refine frS ?_|refine zbs hS ?_;clear hS;intro bS w hS|(with_reducible apply Ae7 hS);rfl;rfl;rfl;rfl;exact esS;exact rsS;rfl;decide;exact j5;exact Src.partM (by exact bu4) (F5 l (i));(focus(rw[Ab7 Cj7,jT,Nat.min_eq_left (by omega)]));exact GU7 _;(focus(unfold maxLen;omega));(focus(omega));clear hS;intro v w hS;(have hv:=hS.rowVal;obtain⟨va,vc,rfl⟩:=hv);refine frS ?_|(with_reducible apply Ae7 hS);rfl;rfl;rfl;rfl;exact esS;exact rsS;rfl;decide;exact j5;exact Src.mk i8.whole;(focus(rfl));exact rfl;(focus(unfold maxLen;omega));(focus(omega));clear hS;intro v w hS;(have hv:=hS.rowVal;obtain⟨va,vc,rfl⟩:=hv);refine frS ?_|(with_reducible apply Ae7 hS);rfl;rfl;rfl;rfl;exact esS;exact rsS;rfl;decide;exact j5;exact Src.partM (by exact bu4) (fun j u h=>H9 Cj7 l (i) j u (by omega) h);(focus(rw[Ab7 Cj7,List.length_drop]));exact GU7 _;(focus(unfold maxLen;omega));(focus(omega));clear hS;intro v w hS;(have hv:=hS.rowVal;obtain⟨va,vc,rfl⟩:=hv);refine frS ?_|refine zs1 hS ?_;clear hS;intro w hS)
    all_goals go_end0
    all_goals refine⟨rfl,.slice va (0+i+1+(l.length-i)) vc,?_⟩
    all_goals rw[Hpp.out]
    all_goals unfold xmP
    all_goals rw[Bu7 l (i) (i) _ (by omega),Bi7]
    all_goals have hS1:St W (row (.slice va (0+i+1+(l.length-i)) vc) 2 140 (0+i+1+(l.length-i)) ([]++(l.take (i)).flatMap mkC++mkC ((cl,sq),())++(l.drop (i)).flatMap mkC)::_) w:=hS
    all_goals exact hS1.s _
end Go.Proofs.YtlmhakmoioogaaaGreat
end
