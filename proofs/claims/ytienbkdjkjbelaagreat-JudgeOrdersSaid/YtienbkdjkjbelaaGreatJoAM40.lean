/-
  The library's contracts laid at this program.
-/
import Derived.Test.YtienbkdjkjbelaaGreatJoAM5
import Derived.Test.YtienbkdjkjbelaaGreatJoAM28
import Derived.Test.YtienbkdjkjbelaaGreatJoAM29
import Derived.Test.YtienbkdjkjbelaaGreatJoAM33
import Derived.Test.YtienbkdjkjbelaaGreatProg
import Derived.Shelf.Sort.Plain
import Derived.Ground.NamesProg
import Derived.Laws.Bits64b
import Derived.Laws.IdiomStrings
set_option maxHeartbeats 16000000
set_option maxRecDepth 100000
set_option linter.unusedSimpArgs false
set_option linter.unusedVariables false
section
namespace Go.Proofs.YtienbkdjkjbelaaGreat
open Go.Shelf
def Tryz.sortInts_ren:Go.Shelf.Ren:=⟨fun|189=>85|125=>127|257=>126|128=>171|129=>172|294=>162|295=>163|296=>164|297=>165|298=>166|299=>167|216=>168|300=>169|301=>170|328=>207|329=>208|330=>209|331=>210|332=>211|215=>130|343=>230|n=>n,fun|28=>115|3=>3|46=>163|0=>0|51=>265|53=>162|4=>4|183=>259|182=>258|131=>188|5=>5|9=>9|218=>296|222=>300|228=>317|229=>196|n=>n,fun|n=>n⟩
theorem Tryz.sortInts:Go.Proofs.Lays.n189 Tryz.prog Tryz.sortInts_ren:={
 mixed:=by kernel_rfl
 f125:=Tryz.func127.trans (congrArg some (by kernel_rfl))
 f128:=Tryz.func171.trans (congrArg some (by kernel_rfl))
 f129:=Tryz.func172.trans (congrArg some (by kernel_rfl))
 f189:=Tryz.func85.trans (congrArg some (by kernel_rfl))
 f215:=Tryz.func130.trans (congrArg some (by kernel_rfl))
 f216:=Tryz.func168.trans (congrArg some (by kernel_rfl))
 f257:=Tryz.func126.trans (congrArg some (by kernel_rfl))
 f294:=Tryz.func162.trans (congrArg some (by kernel_rfl))
 f295:=Tryz.func163.trans (congrArg some (by kernel_rfl))
 f296:=Tryz.func164.trans (congrArg some (by kernel_rfl))
 f297:=Tryz.func165.trans (congrArg some (by kernel_rfl))
 f298:=Tryz.func166.trans (congrArg some (by kernel_rfl))
 f299:=Tryz.func167.trans (congrArg some (by kernel_rfl))
 f300:=Tryz.func169.trans (congrArg some (by kernel_rfl))
 f301:=Tryz.func170.trans (congrArg some (by kernel_rfl))
 f328:=Tryz.func207.trans (congrArg some (by kernel_rfl))
 f329:=Tryz.func208.trans (congrArg some (by kernel_rfl))
 f330:=Tryz.func209.trans (congrArg some (by kernel_rfl))
 f331:=Tryz.func210.trans (congrArg some (by kernel_rfl))
 f332:=Tryz.func211.trans (congrArg some (by kernel_rfl))
 f343:=Tryz.func230.trans (congrArg some (by kernel_rfl))
 t0:=Tryz.underlying0
 a0:=Tryz.isAgg0
 z0:=Tryz.sizeOf0
 v0:=Tryz.zeroValue0
 t3:=Tryz.underlying3
 a3:=Tryz.isAgg3
 z3:=Tryz.sizeOf3
 v3:=Tryz.zeroValue3
 t4:=Tryz.underlying4
 a4:=Tryz.isAgg4
 z4:=Tryz.sizeOf4
 v4:=Tryz.zeroValue4
 t5:=Tryz.underlying5
 a5:=Tryz.isAgg5
 z5:=Tryz.sizeOf5
 v5:=Tryz.zeroValue5
 t9:=Tryz.underlying9
 a9:=Tryz.isAgg9
 z9:=Tryz.sizeOf9
 v9:=Tryz.zeroValue9
 t28:=Tryz.underlying115
 a28:=Tryz.isAgg115
 z28:=Tryz.sizeOf115
 v28:=Tryz.zeroValue115
 t46:=Tryz.underlying163
 a46:=Tryz.isAgg163
 z46:=Tryz.sizeOf163
 v46:=Tryz.zeroValue163
 t51:=Tryz.underlying265
 a51:=Tryz.isAgg265
 z51:=Tryz.sizeOf265
 v51:=Tryz.zeroValue265
 t53:=Tryz.underlying162
 a53:=Tryz.isAgg162
 z53:=Tryz.sizeOf162
 v53:=Tryz.zeroValue162
 t131:=Tryz.underlying188
 a131:=Tryz.isAgg188
 z131:=Tryz.sizeOf188
 v131:=Tryz.zeroValue188
 t182:=Tryz.underlying258
 a182:=Tryz.isAgg258
 z182:=Tryz.sizeOf258
 v182:=Tryz.zeroValue258
 t183:=Tryz.underlying259
 a183:=Tryz.isAgg259
 z183:=Tryz.sizeOf259
 v183:=Tryz.zeroValue259
 t218:=Tryz.underlying296
 a218:=Tryz.isAgg296
 z218:=Tryz.sizeOf296
 v218:=Tryz.zeroValue296
 t222:=Tryz.underlying300
 a222:=Tryz.isAgg300
 z222:=Tryz.sizeOf300
 v222:=Tryz.zeroValue300
 t228:=Tryz.underlying317
 a228:=Tryz.isAgg317
 z228:=Tryz.sizeOf317
 v228:=Tryz.zeroValue317
 t229:=Tryz.underlying196
 a229:=Tryz.isAgg196
 z229:=Tryz.sizeOf196
 v229:=Tryz.zeroValue196 }
end Go.Proofs.YtienbkdjkjbelaaGreat
end
section
namespace Go.Proofs.YtienbkdjkjbelaaGreat
open Go.Shelf Go.RowKit Go.Lib Go.Sort Go.Sl
abbrev eZ(z:Int):Value:=.I z
def KzR{ν:Type}(W:World)(ev:ν->Value)(X:List Int->HP)(r b:Nat)(l:List (Int×ν))(L:List HP)(w:World):Prop:=
 ∃(ss:List Int) (todo:List (Int×ν)),(ss++todo.map (·.1)).Perm (l.map (·.1))/\St W (itR eZ ev r b l todo::X ss::L) w
theorem gJ4:D5 Tryz.prog 108=some (3,121):=by kernel_rfl
theorem Ou7{ν:Type}{ev:ν->Value}{m lp g b:Nat}{l:List (Int×ν)}{X:List Int->HP}{W w:World}{L:List HP}(hY:cF4 Tryz.prog eZ l.length lp W X)(hS:St W (X []::blk g [.map (some b)] 108::d8 eZ ev b l::L) w):
  CallsIn Fence.wide m Tryz.prog 86 #[.func (.yield lp) #[] #[],.P g] w fun e w'=>(∃v,e=.returned v)/\∃ss,ss.Perm (l.map (·.1))/\St W (X ss::blk g [.map (some b)] 108::d8 eZ ev b l::L) w':=by
 refine callsIn_of_wp Tryz.func86 rfl trivial ?_ rfl;simp only[Tryz.ntmps86,List.size_toArray,jC,List.length_nil,Nat.reduceAdd,Nat.reduceSub,Array.replicate_succ,Array.replicate_zero,List.push_toArray,List.append_toArray,jN,jK]
 gi_wp2_with (first|((with_reducible apply CX7 cb4 hS);rfl;rfl;rfl;decide +kernel;exact K9;go_frame)|(gi_at_range;refine El7 (ek:=eZ) (ev:=ev) hS rfl rfl rfl gJ4 (by exact i8) ?_;clear hS;intro r w hS;go_frame)|gi_in)
 gi_loopw [] (fun wr=>KzR W ev X r b l (blk g [.map (some b)] 108::L) wr) (fun wr=>cq4 r b wr)
 case atStart=>exact⟨[],l,by simp,hS⟩
 case round=>
  clear hS;obtain⟨ss,todo,hp,hS⟩:=hrel;have hm:=Ce7 hS
  gi_wp2_with (first|(gi_at_next;refine Fr7 (ek:=eZ) (ev:=ev) hS rfl rfl rfl ?_ ?_)|gi_in)
  ·intro h0;subst h0
   gi_wp2
   go_end0;exact⟨⟨_,rfl⟩,ss,by simpa using hp,(dD4 hS).s _⟩
  ·intro y1 yv todo' w2 hp2 hy hS2 hen;have hlen:=hp.length_eq;have hlen2:=hp2.length_eq;simp only[jA,jM,jC]at hlen hlen2;have hp3:(ss++[y1]++todo'.map (·.1)).Perm (l.map (·.1)):=by rw[jS];refine List.Perm.trans ?_ hp;exact List.Perm.append_left ss (show(((y1,yv)::todo').map (fun x=>x.1)).Perm (todo.map (fun x=>x.1))from(hp2.map (fun x=>x.1)).symm)
   clear hS hy hp hp2;have hS:=hS2;clear hS2
   gi_wp2_with (first|((with_reducible apply Fu7 (k:=y1) (pre:=ss) hY hS);rfl;rfl;rfl;rfl;omega;exact i8;clear hS;intro w hS;go_frame)|gi_in)
   go_roundw
   case rel=>exact⟨ss++[y1],todo',hp3,hS.s _⟩
   case measure=>
    have hm2:=Ce7 (hS.s (itR eZ ev r b l todo'::X (ss++[y1])::blk g [.map (some b)] 108::L));omega
def apZ(bB:Nat)(ss:List Int):HP:=fun f=>∃v,sep (blk bB [v] 115) (row v 1 3 ss.length (ss.map eZ)) f
theorem eq4{gf:Nat}{lb:Array Value}{S:List Int->Prop}{N:Nat}{W w:World}{R:List HP}(hN:N<=1000000000)(hseq0:bz4 Tryz.prog eZ N gf lb S W R)(eg:∀args w,(callFunc gf args).run Tryz.prog w=.ok (.enter gf args) w)(hS:St W R w):
  Calls Tryz.prog 125 #[.slice none 0 0,.func (.func gf) #[] lb] w fun e w'=>∃v ss,e=.returned v/\S ss/\St W (row v 1 3 ss.length (ss.map eZ)::R) w':=by
 refine(callsIn_wide (n:=5)).1 ?_;refine callsIn_of_wp_marks Tryz.func125 rfl trivial ?_ rfl;simp only[Tryz.ntmps125,List.size_toArray,jC,List.length_nil,Nat.reduceAdd,Nat.reduceSub,Array.replicate_succ,Array.replicate_zero,List.push_toArray,List.append_toArray,jN,jK]
 gi_wp2_with (first|((with_reducible apply Mg7 cb4 hS);rfl;rfl;rfl;rfl;clear hS;intro bB w hS;go_frame)|gi_in)
 have h0:St W (apZ bB []::R) w:=St.mkEx (.slice none 0 0) (St.join (St.swap (hS.rowNil (k:=1) (T:=3))));clear hS;refine dP4 rfl eg hseq0 h0 ?_ ?_
 ·clear hseq0 h0 eg;intro l m pre x L w hlt hS0;obtain⟨v,hS1⟩:=St.ex hS0;have hS:=St.split hS1;clear hS0 hS1;simp only[fA,fB,fC,Nat.reduceAdd]
  gi_wp2_with (first|gi_in)
  refine⟨_,St.join hS,?_⟩;clear hS;intro L2 w2 hS2;have hS:=St.split hS2;clear hS2
  gi_wp2_with (first|((with_reducible apply CX7 (cN4 _) hS);rfl;rfl;rfl;decide +kernel;exact K9;go_frame)|((with_reducible apply Pe7 (cN4 _) hS);rfl;rfl;(focus(simp only[fD,fI,fJ,Act.eval,fE,fF,fG,fH,fK];try rfl));exact esS;exact rsS;rfl;rfl;rfl;rfl;clear hS;intro bS w hS;go_frame)|((with_reducible apply Ge7 hS);rfl;rfl;rfl;rfl;exact esS;exact rsS;rfl;decide;exact i8;exact(Src.mk i6.whole).at hS;rfl;rfl;unfold maxLen;omega;omega;clear hS;intro v w hS;(have hv:=hS.rowVal;obtain⟨va,vc,rfl⟩:=hv);go_frame)|((with_reducible apply Mh7 (cN4 _) hS);rfl;rfl;rfl;(focus((conv=>lhs;whnf);try rfl));kernel_rfl;rfl;rfl;exact cp4;simp only[jC,List.length_nil];omega;((simp only[List.set_cons_zero,List.set_cons_succ,A8]);rfl);clear hS;intro w hS;go_frame)|gi_in)
  have e1:(pre++[x]).length=pre.length+1:=by simp
  have e2:(pre++[x]).map eZ=pre.map eZ++[.I x]:=by rw[List.map_append];rfl
  have hS1:=hS.s (blk bB [_] _::row _ 1 _ _ _::L2);have hS2:St W (blk bB [.slice va (pre.length+1) vc] 115::row (.slice va (pre.length+1) vc) 1 3 (pre.length+1) (pre.map eZ++[.I x])::L2) w:=hS1;rw[<-e2]at hS2;rw[<-e1]at hS2;exact St.mkEx _ (St.join hS2)
 ·clear hseq0 h0 eg;intro D ss w hs hS0;obtain⟨v,hS1⟩:=St.ex hS0;have hS:=St.split hS1;clear hS0 hS1;have hK:=hS.get (b:=D) (.tail (.tail .head))
  gi_wp2_with (first|((with_reducible apply CX7 cb4 hS);rfl;rfl;rfl;decide +kernel;exact K9;go_frame)|gi_in)
  refine⟨by simp,.inl ⟨_,_,rfl,run_takeDeferred hK,?_⟩⟩;have hS2:=(hS.s (P5 D (.deferred (some []))::row v 1 3 ss.length (ss.map eZ)::R)).putObj (.deferred none);exact⟨_,results_tmp rfl _ _ _,v,ss,rfl,hs,hS2.drop⟩
theorem eb4{gf:Nat}{lb:Array Value}{S:List Int->Prop}{N:Nat}{W w:World}{R:List HP}(hN:N<=1000000000)(hseq:bz4 Tryz.prog eZ N gf lb S W R)(eg:∀args w,(callFunc gf args).run Tryz.prog w=.ok (.enter gf args) w)(hS:St W R w):
  Calls Tryz.prog 84 #[.func (.func gf) #[] lb] w fun e w'=>∃v ss,e=.returned v/\S ss/\St W (row v 1 3 ss.length (ss.map eZ)::R) w':=by
 go_enter Tryz.func84,Tryz.ntmps84;go_wp2_with(go_at_call 125;refine(eq4 hN hseq eg hS).mono ?_;clear hS;rintro e w ⟨v,ss,rfl,hs,hS⟩);go_ret;exact⟨v,ss,rfl,hs,hS⟩
def aq4(l:List Int):List Int:=l.mergeSort fun x y=>decide (x<=y)
theorem CG7(l:List Int):(aq4 l).Perm l:=List.mergeSort_perm _ _
theorem EO7(l:List Int):(aq4 l).length=l.length:=(CG7 l).length_eq
theorem MF7(l:List Int)(g cap:Nat)(junk:List Value)(h62:l.length<4611686018427387904)(W w:World)(L:List HP)(hS:St W (blk g (l.map eZ++junk) 3::L) w):
  Calls Tryz.prog 85 #[.S g l.length cap] w fun e w'=>e=.returned (.tuple #[])/\St W (blk g ((aq4 l).map eZ++junk) 3::L) w':=by
 have hgt:=hS.get (b:=g) .head;have hblk:g<w.heap.size:=(Array.getElem?_eq_some_iff.1 hgt).1
 have hH:Holds (Value.int .i64) w g 0 l.toArray:=by
  intro j hj;have hj2:j<l.length:=by simpa using hj
  refine⟨hS.cell .head ?_,hS.free .head⟩;rw[Nat.zero_add,List.getElem?_append_left (by simpa using hj2),List.getElem?_map,jG hj2];simp[hj2]
 have hcon:=Any.slices_Sort_int Tryz.sortInts g 0 cap l w hH hblk h62;change Calls Tryz.prog 85 _ _ _ at hcon;refine hcon.mono ?_;rintro e w' ⟨rfl,n,os,rfl⟩;refine⟨rfl,?_⟩;refine St.grow ?_ os;have hSd:St W (blk g (l.map eZ++junk) 3::L) (Sort.ahead w n):=⟨hS.os,hS.tape,hS.output,hS.sat⟩
 refine hSd.putO (w':=putRow (Value.int .i64) (Sort.ahead w n) g 0 (aq4 l).toArray) (o':=.cells ((aq4 l).map eZ++junk).toArray 3 (0,0)) .head rfl rfl rfl fun k=>?_
 show((Sort.ahead w n).heap.modify g _)[k]? = _
 rw[Array.getElem?_modify];by_cases hk:k=g
 ·subst hk;rw[if_pos rfl,if_pos rfl];have hgt':(Sort.ahead w n).heap[k]? = some (.cells (l.map eZ++junk).toArray 3 (0,0)):=hgt;rw[hgt'];simp only[Option.map_some,Sort.onCells]
  congr 2
  have hsl:=EO7 l;apply Array.ext_getElem?;intro t;unfold Sort.putCells;simp only[Array.getElem?_mapIdx,List.getElem?_toArray,List.size_toArray,Nat.zero_le,true_and,Nat.zero_add,Nat.sub_zero];by_cases ht:t<l.length
  ·have ht2:t<(aq4 l).length:=by omega
   rw[List.getElem?_append_left (by simpa using ht),List.getElem?_append_left (by simpa using ht2),List.getElem?_map,List.getElem?_map,jG ht,jG ht2];simp[ht2]
  ·have h2:(l.map eZ++junk)[t]? = ((aq4 l).map eZ++junk)[t]? := by
    rw[List.getElem?_append_right (by simpa using ht),List.getElem?_append_right (by rw[jM];omega),jM,jM,hsl]
   rw[<-h2];have ht3:¬t<(aq4 l).length:=by omega
   simp[ht3]
 ·rw[if_neg (fun h=>hk h.symm),if_neg hk]
theorem IR7(W w:World)(L:List HP)(hS:St W L w):
  Calls Tryz.prog 162 #[.slice none 0 0,.I 0,.I 0] w fun e w'=>e=.returned (.tuple #[])/\St W L w':=by
 go_enter Tryz.func162,Tryz.ntmps162;go_wp2_with fail
 go_loopw [6] (fun v wr=>v=.I 1/\St W L wr) (fun _ _=>0)
 case atStart=>exact⟨rfl,hS⟩
 case round=>
  clear hS;obtain⟨rfl,hS⟩:=hrel;go_wp2_with fail;go_end0;exact⟨rfl,hS⟩
theorem Ov7(n:Int)(W w:World)(L:List HP)(hS:St W L w):
  Calls Tryz.prog 126 #[.slice none 0 0,.I 0,.I 0,.I n] w fun e w'=>e=.returned (.tuple #[])/\St W L w':=by
 go_enter Tryz.func126,Tryz.ntmps126;go_wp2_with fail
 go_loopw [1,2] (fun v1 v2 wr=>v1=.I 0/\v2=.I 0/\St W L wr) (fun _ _ _=>0)
 case atStart=>exact⟨rfl,rfl,hS⟩
 case round=>
  clear hS;obtain⟨rfl,rfl,hS⟩:=hrel;go_wp2_with(first|go_at_call 162;refine(IR7 W _ _ hS).mono ?_;clear hS;rintro e w ⟨rfl,hS⟩);refine bodyPost_ret (results_none rfl _ _ _) rfl ?_;exact⟨rfl,hS⟩
theorem MG7(W w:World)(L:List HP)(hS:St W L w):
  Calls Tryz.prog 85 #[.slice none 0 0] w fun e w'=>e=.returned (.tuple #[])/\St W L w':=by
 have hl:∀w:World,Calls Tryz.prog 127 #[.int .u64 0] w fun e w'=>(∃l:Int,e=.returned (.I l))/\w'=w:=fun w=>
  (Any.bits_Len Tryz.bitsLenW 0 w (by omega) (by omega)).mono fun _ _ ⟨he,hw⟩=>⟨⟨_,he⟩,hw⟩
 go_enter Tryz.func85,Tryz.ntmps85;go_wp2_with(first|go_at_call 127;refine(hl _).mono ?_;rintro e w ⟨⟨l,rfl⟩,rfl⟩|go_at_call 126;refine(Ov7 _ W _ _ hS).mono ?_;clear hS;rintro e w ⟨rfl,hS⟩);go_end0;exact⟨rfl,hS⟩
theorem Gh7{l l':List Int}(h:l.Perm l'):aq4 l=aq4 l':=by
 have hp:∀m:List Int,(aq4 m).Pairwise fun x y=>decide (x<=y)=true:=fun m=>List.pairwise_mergeSort (fun a b c h1 h2=>by simp only[decide_eq_true_eq]at *;omega) (fun a b=>by simp only[Bool.or_eq_true,decide_eq_true_eq];omega) m
 exact List.Perm.eq_of_pairwise (fun a b _ _ h1 h2=>by simp only[decide_eq_true_eq]at h1 h2;omega) (hp l) (hp l') (((CG7 l).trans h).trans (CG7 l').symm)
theorem er4{gf:Nat}{lb:Array Value}{K:List Int}{W w:World}{R:List HP}(hN:K.length<=1000000000)(hseq:bz4 Tryz.prog eZ K.length gf lb (fun ss=>ss.Perm K) W R)(eg:∀args w,(callFunc gf args).run Tryz.prog w=.ok (.enter gf args) w)(hS:St W R w):
  Calls Tryz.prog 44 #[.func (.func gf) #[] lb] w fun e w'=>∃v,e=.returned v/\St W (row v 1 3 K.length ((aq4 K).map eZ)::R) w':=by
 go_enter Tryz.func44,Tryz.ntmps44;go_wp2_with(go_at_call 84;refine(eb4 hN hseq eg hS).mono ?_;clear hS;rintro e w ⟨v,ss,rfl,hp,hS⟩)
 rcases hS.rowOpen with ⟨rfl,h0,hc,hS1⟩|⟨g,cap,junk,rfl,hn1,hm1,hj,hl,hS1⟩
 ·refine(MG7 W _ _ hS1).mono ?_;clear hS;rintro e w ⟨rfl,hS⟩;go_wp2_with fail;go_ret;obtain rfl:ss=[]:=List.eq_nil_of_length_eq_zero h0;obtain rfl:K=[]:=List.Perm.eq_nil hp.symm;have e:aq4 []=[]:=by unfold aq4;simp
  refine⟨.slice none 0 0,rfl,?_⟩;rw[e];exact hS.rowNil
 ·refine(MF7 ss g cap junk (by rw[hp.length_eq];omega) W _ _ hS1).mono ?_;clear hS hS1;rintro e w ⟨rfl,hS⟩;have hl2:=EO7 ss;have hf:((aq4 ss).map eZ).length=(ss.map eZ).length:=by rw[jM,jM,hl2]
  have hS1:=hS.rowShut (k:=1) (n:=ss.length) (cap:=cap) hn1 hm1 (by rw[jA,hf,<-jA];exact hj) (by rw[hf];exact hl);have hk:K.length=ss.length:=hp.length_eq.symm;have hfin:St W (row (.S g ss.length cap) 1 3 K.length ((aq4 K).map eZ)::R) w:=by rw[hk,<-Gh7 hp];exact hS1
  have Hfin:=jH hfin;clear hp hl2 hf hn1 hm1 hj hl hk hfin hS hS1;go_wp2_with fail;go_ret;exact⟨_,rfl,Hfin.out⟩
theorem KL7(mb:Option Nat)(W w:World)(L:List HP)(hS:St W L w):
  Calls Tryz.prog 45 #[.map mb] w fun e w'=>∃g,e=.returned (.func (.func 86) #[] #[.P g])/\St W (blk g [.map mb] 108::L) w':=by
 go_enter Tryz.func45,Tryz.ntmps45;go_wp2_with(refine zbx hS ?_;clear hS;intro b w hS);go_ret;exact⟨b,rfl,hS⟩
theorem HS7:∀args w,(callFunc 86 args).run Tryz.prog w=.ok (.enter 86 args) w:=enters_of Tryz.func86 (by kernel_rfl) rfl
theorem IS7{ν:Type}{ev:ν->Value}{g b:Nat}{l:List (Int×ν)}{W:World}{R:List HP}:
  bz4 Tryz.prog eZ (l.map (·.1)).length 86 #[.P g] (fun ss=>ss.Perm (l.map (·.1))) W (blk g [.map (some b)] 108::d8 eZ ev b l::R):=
 fun lp m X w hT hS=>Ou7 (by rw[jM]at hT;exact hT) hS
end Go.Proofs.YtienbkdjkjbelaaGreat
end
section
namespace Go.Proofs.YtienbkdjkjbelaaGreat
open Go.RowKit Go.Sl
def bc4:Nat->Nat->List Int
 | 0,u=>[(u:Int)]
 | f+1,u=>if 128<=u then((u%128+128:Nat):Int)::bc4 f (u / 128)else[(u:Int)]
def bR4(n:Int):Nat:=if 4611686018427387904<n then 4611686018427387904 else if 0<n then n.toNat else 0
def l6(n:Int):List Int:=bc4 8 (bR4 n)
theorem CR7{f u:Nat}(h:u<128):bc4 f u=[(u:Int)]:=by
 cases f with
 | zero=>rfl
 | succ f=>rw[bc4,if_neg (by omega)]
theorem JV7:∀f u,(bc4 f u).length<=f+1
 | 0,u=>Nat.le_refl _
 | f+1,u=>by
  rw[bc4];split
  ·have:=JV7 f (u / 128);rw[jC];omega
  ·simp
theorem MH7(n:Int):bR4 n<=4611686018427387904:=by
 unfold bR4
 repeat' split
 all_goals omega
theorem Ak7(n:Int):(l6 n).length<=9:=JV7 _ _
theorem QS7:∀v:Fin 256,bits .or .u8 ((v.val:Nat):Int) 128=((v.val%128+128:Nat):Int):=by decide +kernel
theorem MI7(u:Nat):bits .or .u8 ((u:Int)%256) 128=((u%128+128:Nat):Int):=by
 have h:=QS7 ⟨u%256,Nat.mod_lt _ (by decide)⟩;have e:((u:Int)%256)=((u%256:Nat):Int):=by omega
 rw[e,h];have:u%256%128=u%128:=Nat.mod_mod_of_dvd _ (by decide);simp only[this]
theorem GK7{u:Nat}(hu:u<=4611686018427387904):bits .or .u8 (bits .and .u64 (u:Int) 127%256) 128=((u%128+128:Nat):Int):=by
 have h:=bits_and_u64_nat u 127 (by omega) (by decide);have e:u &&& 127=u%128:=Nat.and_two_pow_sub_one_eq_mod u 7;have h2:bits .and .u64 (u:Int) 127=((u%128:Nat):Int):=by rw[<-e];exact h
 rw[h2,MI7,Nat.mod_mod]
theorem GL7{u:Nat}(h:u<=4611686018427387904):u<128^(8+1):=by
 have:(128:Nat)^(8+1)=9223372036854775808:=by decide
 omega
abbrev u8s(l:List Int):List Value:=l.map (Value.int .u8)
abbrev byR(v:Value)(l:List Int):HP:=row v 1 5 l.length (u8s l)
def NmR(W:World)(L:List HP)(t:List Int)(v3 v4:Value)(w:World):Prop:=
 ∃(f u:Nat) (d:List Int),v3=.int .u64 u/\u<128^(f+1)/\u<=4611686018427387904/\f<=8/\d.length<=8-f/\d++bc4 f u=t/\St W (byR v4 d::L) w
theorem BX7(d:List Int)(x:Int):u8s (d++[x])=u8s d++[Value.int .u8 x]:=by unfold u8s;rw[List.map_append];rfl
theorem AC7{v:Value}{n:Nat}{l:List Int}{L:List HP}{W w:World}(hl:l.length=n)(h:St W (row v 1 5 n (u8s l)::L) w):St W (byR v l::L) w:=by unfold byR;rw[hl];exact h
theorem ci4(n:Int)(hn : -9223372036854775808<=n/\n<=9223372036854775807)(W w:World)(R:List HP)(hS:St W R w):
  Calls Tryz.prog 51 #[.I n] w fun e w'=>∃v,e=.returned v/\St W (byR v (l6 n)::R) w':=by
 obtain⟨u0,hu0⟩:∃u,bR4 n=u:=⟨_,rfl⟩
 have hul:u0<=4611686018427387904:=by rw[<-hu0];exact MH7 n
 unfold l6;rw[hu0];by_cases h1:4611686018427387904<n
 ·have e:bR4 n=4611686018427387904:=by unfold bR4;rw[if_pos h1]
  have eu:u0=4611686018427387904:=hu0.symm.trans e;have Eu:=jH eu;clear hu0 e eu;go_enter Tryz.func51,Tryz.ntmps51;go_wp2_with(first|go_big_skip);have hS1:=hS.rowNil (k:=1) (T:=5);clear hS;have hS:=hS1;clear hS1
  go_loopw [3,4] (fun v3 v4 wr=>NmR W R (bc4 8 u0) v3 v4 wr) (fun v3 _ _=>(intOf v3).toNat)
  case atStart=>exact⟨8,u0,[],by rw[Eu.out];rfl,GL7 hul,hul,by omega,by simp,rfl,hS⟩
  case round=>
   clear hS;obtain⟨f,u,d,rfl,hu,hu2,hf,hd,hE,hS⟩:=hrel;by_cases h128:128<=u
   ·obtain⟨f,rfl⟩:∃f',f=f'+1:=by
     cases f with
     | zero=>simp at hu;omega
     | succ f=>exact⟨f,rfl⟩
    have hu3:u / 128<128^(f+1):=Nat.div_lt_of_lt_mul (by rw[Nat.pow_succ]at hu;omega);rw[bc4,if_pos h128]at hE;have Hu3:=jH hu3;have HE:=jH hE;clear hE hu hu3;go_wp2_with(first|go_big_skip|refine zbs hS ?_;clear hS;intro bS w hS|refine zap hS ?_ (h63:=by unfold maxLen;omega) (hb:=by omega);clear hS;intro v w hS);have hb:=GK7 hu2;have h0:St W (row v 1 5 (d.length+1) (u8s d++[Value.int .u8 (bits .or .u8 (bits .and .u64 (u:Int) 127%256) 128)])::_) w:=hS;rw[hb,<-BX7]at h0;have h2:=AC7 (by rw[jA,List.length_singleton]) h0;go_roundw
    case rel=>exact⟨f,u / 128,d++[((u%128+128:Nat):Int)],by rw[Int.natCast_ediv];rfl,Hu3.out,by omega,by omega,by rw[jA,List.length_singleton];omega,by rw[jS];exact HE.out,h2.s _⟩
    case measure=>simp[intOf];omega
   ·have hu4:u<128:=by omega
    rw[CR7 hu4]at hE;have HE:=jH hE;clear hE hu h128;go_wp2_with(first|go_big_skip|refine zbs hS ?_;clear hS;intro bS w hS|refine zap hS ?_ (h63:=by unfold maxLen;omega) (hb:=by omega);clear hS;intro v w hS);go_ret;refine⟨v,rfl,?_⟩;have h0:St W (row v 1 5 (d.length+1) (u8s d++[Value.int .u8 (u:Int)])::_) w:=hS;rw[<-BX7,HE.out]at h0;have h2:=AC7 (by rw[<-HE.out,jA,List.length_singleton]) h0;exact h2.s _
 ·have d1:decide (4611686018427387904<n)=false:=by simpa using h1
  by_cases h2:0<n
  ·have e:bR4 n=n.toNat:=by unfold bR4;rw[if_neg h1,if_pos h2]
   obtain⟨m,rfl⟩:∃m:Nat,n=m:=⟨n.toNat,by omega⟩
   have eu:u0=m:=hu0.symm.trans (by rw[e];simp);subst eu;clear hu0 e;go_enter Tryz.func51,Tryz.ntmps51;go_wp2_with(first|go_big_skip);have hS1:=hS.rowNil (k:=1) (T:=5);clear hS;have hS:=hS1;clear hS1
   go_loopw [3,4] (fun v3 v4 wr=>NmR W R (bc4 8 u0) v3 v4 wr) (fun v3 _ _=>(intOf v3).toNat)
   case atStart=>exact⟨8,u0,[],rfl,GL7 hul,hul,by omega,by simp,rfl,hS⟩
   case round=>
    clear hS;obtain⟨f,u,d,rfl,hu,hu2,hf,hd,hE,hS⟩:=hrel;by_cases h128:128<=u
    ·obtain⟨f,rfl⟩:∃f',f=f'+1:=by
      cases f with
      | zero=>simp at hu;omega
      | succ f=>exact⟨f,rfl⟩
     have hu3:u / 128<128^(f+1):=Nat.div_lt_of_lt_mul (by rw[Nat.pow_succ]at hu;omega);rw[bc4,if_pos h128]at hE;have Hu3:=jH hu3;have HE:=jH hE;clear hE hu hu3;go_wp2_with(first|go_big_skip|refine zbs hS ?_;clear hS;intro bS w hS|refine zap hS ?_ (h63:=by unfold maxLen;omega) (hb:=by omega);clear hS;intro v w hS);have hb:=GK7 hu2;have h0:St W (row v 1 5 (d.length+1) (u8s d++[Value.int .u8 (bits .or .u8 (bits .and .u64 (u:Int) 127%256) 128)])::_) w:=hS;rw[hb,<-BX7]at h0;have h2:=AC7 (by rw[jA,List.length_singleton]) h0;go_roundw
     case rel=>exact⟨f,u / 128,d++[((u%128+128:Nat):Int)],by rw[Int.natCast_ediv];rfl,Hu3.out,by omega,by omega,by rw[jA,List.length_singleton];omega,by rw[jS];exact HE.out,h2.s _⟩
     case measure=>simp[intOf];omega
    ·have hu4:u<128:=by omega
     rw[CR7 hu4]at hE;have HE:=jH hE;clear hE hu h128;go_wp2_with(first|go_big_skip|refine zbs hS ?_;clear hS;intro bS w hS|refine zap hS ?_ (h63:=by unfold maxLen;omega) (hb:=by omega);clear hS;intro v w hS);go_ret;refine⟨v,rfl,?_⟩;have h0:St W (row v 1 5 (d.length+1) (u8s d++[Value.int .u8 (u:Int)])::_) w:=hS;rw[<-BX7,HE.out]at h0;have h2:=AC7 (by rw[<-HE.out,jA,List.length_singleton]) h0;exact h2.s _
  ·have d2:decide (0<n)=false:=by simpa using h2
   have e:bR4 n=0:=by unfold bR4;rw[if_neg h1,if_neg h2]
   have eu:u0=0:=hu0.symm.trans e;have Eu:=jH eu;clear hu0 e eu;go_enter Tryz.func51,Tryz.ntmps51;go_wp2_with(first|go_big_skip);have hS1:=hS.rowNil (k:=1) (T:=5);clear hS;have hS:=hS1;clear hS1
   go_loopw [3,4] (fun v3 v4 wr=>NmR W R (bc4 8 u0) v3 v4 wr) (fun v3 _ _=>(intOf v3).toNat)
   case atStart=>exact⟨8,u0,[],by rw[Eu.out];rfl,GL7 hul,hul,by omega,by simp,rfl,hS⟩
   case round=>
    clear hS;obtain⟨f,u,d,rfl,hu,hu2,hf,hd,hE,hS⟩:=hrel;by_cases h128:128<=u
    ·obtain⟨f,rfl⟩:∃f',f=f'+1:=by
      cases f with
      | zero=>simp at hu;omega
      | succ f=>exact⟨f,rfl⟩
     have hu3:u / 128<128^(f+1):=Nat.div_lt_of_lt_mul (by rw[Nat.pow_succ]at hu;omega);rw[bc4,if_pos h128]at hE;have Hu3:=jH hu3;have HE:=jH hE;clear hE hu hu3;go_wp2_with(first|go_big_skip|refine zbs hS ?_;clear hS;intro bS w hS|refine zap hS ?_ (h63:=by unfold maxLen;omega) (hb:=by omega);clear hS;intro v w hS);have hb:=GK7 hu2;have h0:St W (row v 1 5 (d.length+1) (u8s d++[Value.int .u8 (bits .or .u8 (bits .and .u64 (u:Int) 127%256) 128)])::_) w:=hS;rw[hb,<-BX7]at h0;have h2:=AC7 (by rw[jA,List.length_singleton]) h0;go_roundw
     case rel=>exact⟨f,u / 128,d++[((u%128+128:Nat):Int)],by rw[Int.natCast_ediv];rfl,Hu3.out,by omega,by omega,by rw[jA,List.length_singleton];omega,by rw[jS];exact HE.out,h2.s _⟩
     case measure=>simp[intOf];omega
    ·have hu4:u<128:=by omega
     rw[CR7 hu4]at hE;have HE:=jH hE;clear hE hu h128;go_wp2_with(first|go_big_skip|refine zbs hS ?_;clear hS;intro bS w hS|refine zap hS ?_ (h63:=by unfold maxLen;omega) (hb:=by omega);clear hS;intro v w hS);go_ret;refine⟨v,rfl,?_⟩;have h0:St W (row v 1 5 (d.length+1) (u8s d++[Value.int .u8 (u:Int)])::_) w:=hS;rw[<-BX7,HE.out]at h0;have h2:=AC7 (by rw[<-HE.out,jA,List.length_singleton]) h0;exact h2.s _
end Go.Proofs.YtienbkdjkjbelaaGreat
end
section
namespace Go.Sl
open Go.RowKit
def A7(s:ByteArray):List Int:=s.data.toList.map fun b=>(b.toNat:Int)
theorem AD7(s:ByteArray):(A7 s).length=s.size:=by unfold A7;rw[jM];rfl
def sbR(g:Nat)(s:ByteArray):HP:=fun f=>∃o:Obj,(∀w:World,w.heap[g]? = some o->∀(j:Nat) (u:Value),((A7 s).map (Value.int .u8))[j]? = some u->w.cell? ⟨g,j,none⟩=some u)/\P5 g o f
section
variable{P:Program}{ops:Array Oper}{Q:Exit->Act->World->Prop}{a:Act}{w:World}{W:World}{L:List HP}{rest:List Oper}{o:Oper}
theorem i6.sb{g:Nat}{s:ByteArray}:i6 (sbR g s::L) g 0 ((A7 s).map (Value.int .u8)):=fun j v hj W w hS=>by obtain⟨o,hS⟩:=St.ex hS;obtain⟨h1,hS⟩:=St.and hS;rw[Nat.zero_add];exact h1 w (hS.get .head) j v hj
theorem Au7{src dst e:TypeId}{x:Operand}{s:ByteArray}(hS:St W L w)(ho:o.op=.convert src dst x)(hg:Region.wanted o (yielded ops a.tmps)=true)(hx:a.eval x=.string s)
  (hs:P.underlying src=some .string) (hd:P.underlying dst=some (.slice e)) (he:P.underlying e=some (.int .u8))
  (h:∀g c w',St W (sbR g s::L) w'->wpList P ops Q rest (a.put o.dst (.S g s.size c)) w'):wpList P ops Q (o::rest) a w:=by
 have h1:=run_bytes_of_string (P:=P) w src dst e s hs hd he;refine Ao7 hg (v:=.slice (some ⟨w.heap.size,0,none⟩) s.size (grownCap w s.size 0 e)) (w':=w.drew.alloc (.cells (bytesRow s (grownCap w s.size 0 e)) e ((bytesRow s (grownCap w s.size 0 e)).size,(bytesRow s (grownCap w s.size 0 e)).size+1))) ?_ (h _ _ _ ?_)
 ·unfold execOp;simp[ho,hx,h1]
 ·have h2:=(hS.drawn (w.drawn+1)).alloc (.cells (bytesRow s (grownCap w s.size 0 e)) e ((bytesRow s (grownCap w s.size 0 e)).size,(bytesRow s (grownCap w s.size 0 e)).size+1));refine St.mkEx _ (St.mkAnd ?_ h2);intro w' hw j u hj;rw[List.getElem?_map]at hj;unfold A7 at hj;rw[List.getElem?_map]at hj;have hw2:w'.heap[w.heap.size]? = some (.cells (bytesRow s (grownCap w s.size 0 e)) e ((bytesRow s (grownCap w s.size 0 e)).size,(bytesRow s (grownCap w s.size 0 e)).size+1)):=hw
  cases hb:s.data.toList[j]? with
  | none=>rw[hb]at hj;cases hj
  | some b=>
   rw[hb]at hj;simp only[Option.map_some,Option.some.injEq]at hj;have hb2:s.data[j]? = some b:=by rw[<-hb];simp
   have hjl:j<s.data.size:=(Array.getElem?_eq_some_iff.1 hb2).1;have h3:(bytesRow s (grownCap w s.size 0 e))[j]? = some u:=by unfold bytesRow;rw[Array.getElem?_append_left (by simpa using hjl),Array.getElem?_map,hb2,<-hj];rfl
   show w'.cell? ⟨w.heap.size,j,none⟩=some u
   simp[World.cell?,hw2,h3]
end
end Go.Sl
namespace Go.Proofs.YtienbkdjkjbelaaGreat
open Go.RowKit Go.Sl
theorem AX7(l:List Int):(u8s l).all (·.oneCell')=true:=by rw[List.all_eq_true];intro v hv;obtain⟨x,_,rfl⟩:=List.mem_map.1 hv;rfl
theorem Av7(a b:List Int):u8s (a++b)=u8s a++u8s b:=List.map_append
theorem AM7(a:List Int):(u8s a).length=a.length:=jM ..
theorem fd4(g c:Nat)(s:ByteArray)(hs:s.size<=1000000)(W w:World)(R:List HP)(hS:St W (sbR g s::R) w):
  Calls Tryz.prog 52 #[.S g s.size c] w fun e w'=>∃v,e=.returned v/\St W (byR v (l6 s.size++A7 s)::R) w':=by
 have hln:=Ak7 s.size;go_enter Tryz.func52,Tryz.ntmps52;go_wp2_with(first|go_big_skip|go_at_call 51;refine(ci4 _ ⟨by omega,by omega⟩ W _ _ hS).mono ?_;clear hS;rintro e w ⟨vn,rfl,hS⟩;(have hv:=hS.rowVal;obtain⟨na,nc,rfl⟩:=hv)|(with_reducible apply Ae7 hS);rfl;rfl;rfl;rfl;exact esS;exact rsS;rfl;decide;exact i8;exact Src.mk (i6.there i6.sb);(focus(rw[jM,AD7,Nat.mul_one]));exact AX7 _;(focus(unfold maxLen;omega));(focus(omega));clear hS;intro v w hS;refine frS ?_);go_ret;refine⟨v,rfl,?_⟩;have h0:St W (row v 1 5 ((l6 s.size).length+s.size) (u8s (l6 s.size)++u8s (A7 s))::_) w:=hS;rw[<-Av7]at h0;have h2:=AC7 (by rw[jA,AD7]) h0;exact h2.s _
def NsR(W:World)(L:List HP)(ns:List Int)(v3 v4:Value)(w:World):Prop:=
 ∃i:Nat,v4=.I i/\i<=ns.length/\St W (byR v3 ((ns.take i).flatMap l6)::L) w
theorem IT7(ns:List Int):(ns.flatMap l6).length<=9*ns.length:=by
 induction ns with
 | nil=>simp
 | cons n ns ih=>
  have:=Ak7 n;rw[List.flatMap_cons,jA,jC];omega
theorem ga4(ns:List Int)(b c:Nat)(hl:ns.length<=100)(hn:∀x∈ns, -9223372036854775808<=x/\x<=9223372036854775807)(W w:World)(R:List HP)(hS:St W (blk b (ns.map (Value.int .i64)) 3::R) w):
  Calls Tryz.prog 55 #[.S b ns.length c] w fun e w'=>∃v,e=.returned v/\St W (byR v (ns.flatMap l6)::R) w':=by
 have Hn:=jH hn;clear hn;go_enter Tryz.func55,Tryz.ntmps55;go_wp2_with(first|go_big_skip);have hS1:=hS.rowNil (k:=1) (T:=5);clear hS;have hS:=hS1;clear hS1
 go_loopw [3,4] (fun v3 v4 wr=>NsR W (blk b (ns.map (Value.int .i64)) 3::R) ns v3 v4 wr) (fun _ v4 _=>ns.length-(intOf v4).toNat)
 case atStart=>exact⟨0,rfl,Nat.zero_le _,hS⟩
 case round=>
  clear hS;obtain⟨i,rfl,hil,hS⟩:=hrel;by_cases hin:i=ns.length
  ·subst hin;rw[List.take_length]at hS;go_wp2_with(first|go_big_skip);go_ret;exact⟨u3,rfl,hS.s _⟩
  ·have hi1:i<ns.length:=by omega
   have hx:(ns.map (Value.int .i64))[i]? = some (.I ns[i]):=by rw[List.getElem?_map,jG hi1];rfl
   have hr:=Hn.out _ (jW hi1);have hst:(ns.take (i+1)).flatMap l6=(ns.take i).flatMap l6++l6 ns[i]:=by rw[List.take_succ_eq_append_getElem hi1,List.flatMap_append];simp
   have hle:=IT7 (ns.take i);rw[jT]at hle;generalize ns[i]=x at hx hr hst;obtain⟨r1,r2⟩:=hr;have hlx:=Ak7 x;have Hst:=jH hst;clear hst hin hil;generalize (ns.take i).flatMap l6=d at hS Hst hle;go_wp2_with(first|go_big_skip|refine zl1 hS ?_ (hc:=by exact i7.there (i7.here hx))|refine zl1 hS ?_ (hc:=by exact i7.here hx)|go_at_call 51;refine(ci4 _ ⟨by omega,by omega⟩ W _ _ hS).mono ?_;clear hS;rintro e w ⟨vn,rfl,hS⟩;(have hv:=hS.rowVal;obtain⟨na,nc,rfl⟩:=hv)|(with_reducible apply Ae7 hS);rfl;rfl;rfl;rfl;exact esS;exact rsS;rfl;decide;exact i8;exact St.src (by decide) hS;(focus(rw[AM7,Nat.mul_one]));exact AX7 _;(focus(unfold maxLen;omega));(focus(omega));clear hS;intro v w hS;refine frS ?_);go_roundw
   case rel=>
    refine⟨i+1,rfl,hi1,?_⟩;rw[Hst.out];have h0:St W (row v 1 5 (d.length+(l6 x).length) (u8s d++u8s (l6 x))::_) w:=hS;rw[<-Av7]at h0;have h2:=AC7 (by rw[jA]) h0;exact h2.s _
   case measure=>simp[intOf];omega
end Go.Proofs.YtienbkdjkjbelaaGreat
end
