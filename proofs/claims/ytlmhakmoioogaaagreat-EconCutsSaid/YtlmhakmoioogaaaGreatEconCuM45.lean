/-
  EconTotal.
-/
import Derived.Test.YtlmhakmoioogaaaGreatEconCuM5
import Derived.Test.YtlmhakmoioogaaaGreatEconCuM30
import Derived.Test.YtlmhakmoioogaaaGreatEconCuM35
import Derived.Test.YtlmhakmoioogaaaGreatEconCuM36
import Derived.Test.YtlmhakmoioogaaaGreatEconCuM37
import Derived.Test.YtlmhakmoioogaaaGreatEconCuM44
import Derived.Test.YtlmhakmoioogaaaGreatProg
import Derived.Shelf.Sort.Plain
import Derived.Ground.NamesProg
set_option maxHeartbeats 16000000
set_option maxRecDepth 100000
set_option linter.unusedSimpArgs false
set_option linter.unusedVariables false
section
namespace Go.Proofs.YtlmhakmoioogaaaGreat
open Go.RowKit Go.Sl
theorem ST7{e:Ec}{n:Nat}(hE:EOk e n)(he:bb4 e)(hb:∀k,Kx k->L8 e k<=500000000):∀x∈e.vs,C6 (cg4 x.2) it0=some (am4 x.2):=fun x hx=>
 Ry7 (eI4 (hE x hx)) (he x hx).1 fun k hk=>by have h1:=FD7 (hE.nn he k) x hx;have h2:=hb k hk;unfold L8 at h2;omega
theorem Lz7{k:Int}(hk:Kx k):∀l:List (ByteArray×Vs),al4 k (l.map fun x=>am4 x.2)=E9 k l
 | []=>rfl
 | x::l=>by
  have ih:=Lz7 hk l;show p8 (am4 x.2) k+al4 k (l.map fun x=>am4 x.2)=_
  rw[ih,Fy7 _ hk];rfl
theorem Jk7(f:Int->Int){k:Int}(hk:Kx k):p8 ⟨f 0,f 1,f 2,f 3⟩ k=f k:=by
 obtain⟨h0,h3⟩:=hk;have h:k=0\/k=1\/k=2\/k=3:=by omega
 rcases h with rfl|rfl|rfl|rfl <;> rfl
theorem SU7{e:Ec}{n:Nat}(hE:EOk e n)(he:bb4 e)(hb:∀k,Kx k->L8 e k<=500000000):∀l:List It,l.Perm (e.vs.map fun x=>am4 x.2)->C6 l it0=some ⟨L8 e 0,L8 e 1,L8 e 2,L8 e 3⟩:=fun l hl=>by
 refine Fx7 l ?_ HG7 (fun k hk=>?_) (fun k hk=>?_)
 ·intro i hi;obtain⟨x,hx,rfl⟩:=List.mem_map.1 (hl.mem_iff.1 hi);refine JZ7 fun k hk=>?_
  have h1:=FD7 (hE.nn he k) x hx;have h2:=hb k hk;have h3:=hE.nn he k x hx;unfold L8 at h2;rw[Fy7 _ hk];omega
 ·rw[Jk7 (L8 e) hk,BN7,IQ7 hl,Lz7 hk];show L8 e k=0+L8 e k
  omega
 ·rw[Jk7 (L8 e) hk];have:=hb k hk;omega
theorem hC4{W w:World}{R:List HP}{xb:Nat}(h:St W (xeB xb (.slice none 0 0) (.slice none 0 0) (.slice none 0 0) (.slice none 0 0)::R) w):St W (xU6 xb ec0::R) w:=by have h1:=h.rowNil (k:=2) (T:=140);have h2:=h1.rowNil (k:=8) (T:=40);have h3:=h2.rowNil (k:=8) (T:=143);have h4:St W (sats []::_) w:=St.shutS [] h3;have h5:=h4.rowNil (k:=2) (T:=137);have h6:St W (xrP (.slice none 0 0) []::l6 []::xsP (.slice none 0 0) []::xtP (.slice none 0 0) []::xmP (.slice none 0 0) []::xeB xb (.slice none 0 0) (.slice none 0 0) (.slice none 0 0) (.slice none 0 0)::R) w:=h5;exact J5 (D:=[]) (d:=ec0) rfl (h6.s _)
abbrev hD4(b:Nat)(s0 s1 s2 s3:Int):HP:=blk b [.I s0,.I s1,.I s2,.I s3] 28
def TlR(W:World)(Lr:List HP)(eb xb sb:Nat)(xs:List Opn)(v:Value)(w:World):Prop:=
 ∃i:Nat,v=.I i/\i<=xs.length/\GOk (bJ4 (xs.take i) ec0) (bg4 (xs.take i) ec0) i/\(∀k,Kx k->L8 (bg4 (xs.take i) ec0) k<=i*1048576) /\
  St W (ecP eb (bg4 (xs.take i) ec0)::xU6 xb (bJ4 (xs.take i) ec0)::hD4 sb (L8 (bg4 (xs.take i) ec0) 0) (L8 (bg4 (xs.take i) ec0) 1) (L8 (bg4 (xs.take i) ec0) 2) (L8 (bg4 (xs.take i) ec0) 3)::Lr) w
end Go.Proofs.YtlmhakmoioogaaaGreat
end
section
namespace Go.Proofs.YtlmhakmoioogaaaGreat
open Go.Shelf
def Tryz.sortInts_ren:Go.Shelf.Ren:=⟨fun|189=>134|125=>177|257=>191|128=>224|129=>225|294=>239|295=>240|296=>241|297=>242|298=>243|299=>244|216=>245|300=>246|301=>247|328=>261|329=>252|330=>253|331=>262|332=>263|215=>178|343=>274|n=>n,fun|28=>62|3=>3|46=>195|0=>0|51=>295|53=>194|4=>4|183=>289|182=>288|131=>134|5=>5|9=>9|218=>318|222=>262|228=>332|229=>181|n=>n,fun|n=>n⟩
theorem Tryz.sortInts:Go.Proofs.Lays.n189 Tryz.prog Tryz.sortInts_ren:={
 mixed:=by kernel_rfl
 f125:=Tryz.func177.trans (congrArg some (by kernel_rfl))
 f128:=Tryz.func224.trans (congrArg some (by kernel_rfl))
 f129:=Tryz.func225.trans (congrArg some (by kernel_rfl))
 f189:=Tryz.func134.trans (congrArg some (by kernel_rfl))
 f215:=Tryz.func178.trans (congrArg some (by kernel_rfl))
 f216:=Tryz.func245.trans (congrArg some (by kernel_rfl))
 f257:=Tryz.func191.trans (congrArg some (by kernel_rfl))
 f294:=Tryz.func239.trans (congrArg some (by kernel_rfl))
 f295:=Tryz.func240.trans (congrArg some (by kernel_rfl))
 f296:=Tryz.func241.trans (congrArg some (by kernel_rfl))
 f297:=Tryz.func242.trans (congrArg some (by kernel_rfl))
 f298:=Tryz.func243.trans (congrArg some (by kernel_rfl))
 f299:=Tryz.func244.trans (congrArg some (by kernel_rfl))
 f300:=Tryz.func246.trans (congrArg some (by kernel_rfl))
 f301:=Tryz.func247.trans (congrArg some (by kernel_rfl))
 f328:=Tryz.func261.trans (congrArg some (by kernel_rfl))
 f329:=Tryz.func252.trans (congrArg some (by kernel_rfl))
 f330:=Tryz.func253.trans (congrArg some (by kernel_rfl))
 f331:=Tryz.func262.trans (congrArg some (by kernel_rfl))
 f332:=Tryz.func263.trans (congrArg some (by kernel_rfl))
 f343:=Tryz.func274.trans (congrArg some (by kernel_rfl))
 t0:=Tryz.underlying0
 a0:=Tryz.isAgg0
 z0:=Tryz.sizeOf0
 v0:=Tryz.zeroValue0
 t3:=Tryz.underlying3
 a3:=Tryz.isAgg3
 z3:=Tryz.sizeOf3
 v3:=Tryz.zeroValue3
 t4:=Tryz.underlying4
 a4:=Tryz.isAgg4
 z4:=Tryz.sizeOf4
 v4:=Tryz.zeroValue4
 t5:=Tryz.underlying5
 a5:=Tryz.isAgg5
 z5:=Tryz.sizeOf5
 v5:=Tryz.zeroValue5
 t9:=Tryz.underlying9
 a9:=Tryz.isAgg9
 z9:=Tryz.sizeOf9
 v9:=Tryz.zeroValue9
 t28:=Tryz.underlying62
 a28:=Tryz.isAgg62
 z28:=Tryz.sizeOf62
 v28:=Tryz.zeroValue62
 t46:=Tryz.underlying195
 a46:=Tryz.isAgg195
 z46:=Tryz.sizeOf195
 v46:=Tryz.zeroValue195
 t51:=Tryz.underlying295
 a51:=Tryz.isAgg295
 z51:=Tryz.sizeOf295
 v51:=Tryz.zeroValue295
 t53:=Tryz.underlying194
 a53:=Tryz.isAgg194
 z53:=Tryz.sizeOf194
 v53:=Tryz.zeroValue194
 t131:=Tryz.underlying134
 a131:=Tryz.isAgg134
 z131:=Tryz.sizeOf134
 v131:=Tryz.zeroValue134
 t182:=Tryz.underlying288
 a182:=Tryz.isAgg288
 z182:=Tryz.sizeOf288
 v182:=Tryz.zeroValue288
 t183:=Tryz.underlying289
 a183:=Tryz.isAgg289
 z183:=Tryz.sizeOf289
 v183:=Tryz.zeroValue289
 t218:=Tryz.underlying318
 a218:=Tryz.isAgg318
 z218:=Tryz.sizeOf318
 v218:=Tryz.zeroValue318
 t222:=Tryz.underlying262
 a222:=Tryz.isAgg262
 z222:=Tryz.sizeOf262
 v222:=Tryz.zeroValue262
 t228:=Tryz.underlying332
 a228:=Tryz.isAgg332
 z228:=Tryz.sizeOf332
 v228:=Tryz.zeroValue332
 t229:=Tryz.underlying181
 a229:=Tryz.isAgg181
 z229:=Tryz.sizeOf181
 v229:=Tryz.zeroValue181 }
end Go.Proofs.YtlmhakmoioogaaaGreat
end
section
namespace Go.Proofs.YtlmhakmoioogaaaGreat
open Go.Shelf Go.RowKit Go.Lib Go.Sort Go.Sl
abbrev eZ(z:Int):Value:=.I z
def KzR{ν:Type}(W:World)(ev:ν->Value)(X:List Int->HP)(r b:Nat)(l:List (Int×ν))(L:List HP)(w:World):Prop:=
 ∃(ss:List Int) (todo:List (Int×ν)),(ss++todo.map (·.1)).Perm (l.map (·.1))/\St W (itR eZ ev r b l todo::X ss::L) w
theorem hE4:D6 Tryz.prog 80=some (3,90):=by kernel_rfl
theorem Qc7{ν:Type}{ev:ν->Value}{m lp g b:Nat}{l:List (Int×ν)}{X:List Int->HP}{W w:World}{L:List HP}(hY:dk4 Tryz.prog eZ l.length lp W X)(hS:St W (X []::blk g [.map (some b)] 80::d8 eZ ev b l::L) w):
  CallsIn Fence.wide m Tryz.prog 135 #[.func (.yield lp) #[] #[],.P g] w fun e w'=>(∃v,e=.returned v)/\∃ss,ss.Perm (l.map (·.1))/\St W (X ss::blk g [.map (some b)] 80::d8 eZ ev b l::L) w':=by
 refine callsIn_of_wp Tryz.func135 rfl trivial ?_ rfl;simp only[Tryz.ntmps135,List.size_toArray,jC,List.length_nil,Nat.reduceAdd,Nat.reduceSub,Array.replicate_succ,Array.replicate_zero,List.push_toArray,List.append_toArray,jN,jK]
 gi_wp2_with (first|((with_reducible apply DF7 cG4 hS);rfl;rfl;rfl;decide +kernel;exact M7;go_frame)|(gi_at_range;refine EQ7 (ek:=eZ) (ev:=ev) hS rfl rfl rfl hE4 (by exact i6) ?_;clear hS;intro r w hS;go_frame)|gi_in)
 gi_loopw [] (fun wr=>KzR W ev X r b l (blk g [.map (some b)] 80::L) wr) (fun wr=>aq4 r b wr)
 case atStart=>exact⟨[],l,by simp,hS⟩
 case round=>
  clear hS;obtain⟨ss,todo,hp,hS⟩:=hrel;have hm:=An7 hS
  gi_wp2_with (first|(gi_at_next;refine Gu7 (ek:=eZ) (ev:=ev) hS rfl rfl rfl ?_ ?_)|gi_in)
  ·intro h0;subst h0
   gi_wp2
   go_end0;exact⟨⟨_,rfl⟩,ss,by simpa using hp,(bh4 hS).s _⟩
  ·intro y1 yv todo' w2 hp2 hy hS2 hen;have hlen:=hp.length_eq;have hlen2:=hp2.length_eq;simp only[jA,jM,jC]at hlen hlen2;have hp3:(ss++[y1]++todo'.map (·.1)).Perm (l.map (·.1)):=by rw[jS];refine List.Perm.trans ?_ hp;exact List.Perm.append_left ss (show(((y1,yv)::todo').map (fun x=>x.1)).Perm (todo.map (fun x=>x.1))from(hp2.map (fun x=>x.1)).symm)
   clear hS hy hp hp2;have hS:=hS2;clear hS2
   gi_wp2_with (first|((with_reducible apply Gx7 (k:=y1) (pre:=ss) hY hS);rfl;rfl;rfl;rfl;omega;exact i6;clear hS;intro w hS;go_frame)|gi_in)
   go_roundw
   case rel=>exact⟨ss++[y1],todo',hp3,hS.s _⟩
   case measure=>
    have hm2:=An7 (hS.s (itR eZ ev r b l todo'::X (ss++[y1])::blk g [.map (some b)] 80::L));omega
def apZ(bB:Nat)(ss:List Int):HP:=fun f=>∃v,sep (blk bB [v] 62) (row v 1 3 ss.length (ss.map eZ)) f
theorem fa4{gf:Nat}{lb:Array Value}{S:List Int->Prop}{N:Nat}{W w:World}{R:List HP}(hN:N<=1000000000)(hseq0:cd4 Tryz.prog eZ N gf lb S W R)(eg:∀args w,(callFunc gf args).run Tryz.prog w=.ok (.enter gf args) w)(hS:St W R w):
  Calls Tryz.prog 190 #[.slice none 0 0,.func (.func gf) #[] lb] w fun e w'=>∃v ss,e=.returned v/\S ss/\St W (row v 1 3 ss.length (ss.map eZ)::R) w':=by
 refine(callsIn_wide (n:=5)).1 ?_;refine callsIn_of_wp_marks Tryz.func190 rfl trivial ?_ rfl;simp only[Tryz.ntmps190,List.size_toArray,jC,List.length_nil,Nat.reduceAdd,Nat.reduceSub,Array.replicate_succ,Array.replicate_zero,List.push_toArray,List.append_toArray,jN,jK]
 gi_wp2_with (first|((with_reducible apply Ol7 cG4 hS);rfl;rfl;rfl;rfl;clear hS;intro bB w hS;go_frame)|gi_in)
 have h0:St W (apZ bB []::R) w:=St.mkEx (.slice none 0 0) (St.join (St.swap (hS.rowNil (k:=1) (T:=3))));clear hS;refine eB4 rfl eg hseq0 h0 ?_ ?_
 ·clear hseq0 h0 eg;intro l m pre x L w hlt hS0;obtain⟨v,hS1⟩:=St.ex hS0;have hS:=St.split hS1;clear hS0 hS1;simp only[fA,fB,fC,Nat.reduceAdd]
  gi_wp2_with (first|gi_in)
  refine⟨_,St.join hS,?_⟩;clear hS;intro L2 w2 hS2;have hS:=St.split hS2;clear hS2
  gi_wp2_with (first|((with_reducible apply DF7 (dy4 _) hS);rfl;rfl;rfl;decide +kernel;exact M7;go_frame)|((with_reducible apply QU7 (dy4 _) hS);rfl;rfl;(focus(simp only[fD,fI,fJ,Act.eval,fE,fF,fG,fH,fK];try rfl));exact esS;exact rsS;rfl;rfl;rfl;rfl;clear hS;intro bS w hS;go_frame)|((with_reducible apply Hb7 hS);rfl;rfl;rfl;rfl;exact esS;exact rsS;rfl;decide;exact i6;exact(Src.mk i5.whole).at hS;rfl;rfl;unfold maxLen;omega;omega;clear hS;intro v w hS;(have hv:=hS.rowVal;obtain⟨va,vc,rfl⟩:=hv);go_frame)|((with_reducible apply Om7 (dy4 _) hS);rfl;rfl;rfl;(focus((conv=>lhs;whnf);try rfl));kernel_rfl;rfl;rfl;exact cS4;simp only[jC,List.length_nil];omega;((simp only[List.set_cons_zero,List.set_cons_succ,A9]);rfl);clear hS;intro w hS;go_frame)|gi_in)
  have e1:(pre++[x]).length=pre.length+1:=by simp
  have e2:(pre++[x]).map eZ=pre.map eZ++[.I x]:=by rw[List.map_append];rfl
  have hS1:=hS.s (blk bB [_] _::row _ 1 _ _ _::L2);have hS2:St W (blk bB [.slice va (pre.length+1) vc] 62::row (.slice va (pre.length+1) vc) 1 3 (pre.length+1) (pre.map eZ++[.I x])::L2) w:=hS1;rw[<-e2]at hS2;rw[<-e1]at hS2;exact St.mkEx _ (St.join hS2)
 ·clear hseq0 h0 eg;intro D ss w hs hS0;obtain⟨v,hS1⟩:=St.ex hS0;have hS:=St.split hS1;clear hS0 hS1;have hK:=hS.get (b:=D) (.tail (.tail .head))
  gi_wp2_with (first|((with_reducible apply DF7 cG4 hS);rfl;rfl;rfl;decide +kernel;exact M7;go_frame)|gi_in)
  refine⟨by simp,.inl ⟨_,_,rfl,run_takeDeferred hK,?_⟩⟩;have hS2:=(hS.s (aj4 D (.deferred (some []))::row v 1 3 ss.length (ss.map eZ)::R)).putObj (.deferred none);exact⟨_,results_tmp rfl _ _ _,v,ss,rfl,hs,hS2.drop⟩
theorem eJ4{gf:Nat}{lb:Array Value}{S:List Int->Prop}{N:Nat}{W w:World}{R:List HP}(hN:N<=1000000000)(hseq:cd4 Tryz.prog eZ N gf lb S W R)(eg:∀args w,(callFunc gf args).run Tryz.prog w=.ok (.enter gf args) w)(hS:St W R w):
  Calls Tryz.prog 133 #[.func (.func gf) #[] lb] w fun e w'=>∃v ss,e=.returned v/\S ss/\St W (row v 1 3 ss.length (ss.map eZ)::R) w':=by
 go_enter Tryz.func133,Tryz.ntmps133;go_wp2_with(go_at_call 190;refine(fa4 hN hseq eg hS).mono ?_;clear hS;rintro e w ⟨v,ss,rfl,hs,hS⟩);go_ret;exact⟨v,ss,rfl,hs,hS⟩
def aP4(l:List Int):List Int:=l.mergeSort fun x y=>decide (x<=y)
theorem De7(l:List Int):(aP4 l).Perm l:=List.mergeSort_perm _ _
theorem FE7(l:List Int):(aP4 l).length=l.length:=(De7 l).length_eq
theorem OA7(l:List Int)(g cap:Nat)(junk:List Value)(h62:l.length<4611686018427387904)(W w:World)(L:List HP)(hS:St W (blk g (l.map eZ++junk) 3::L) w):
  Calls Tryz.prog 134 #[.S g l.length cap] w fun e w'=>e=.returned (.tuple #[])/\St W (blk g ((aP4 l).map eZ++junk) 3::L) w':=by
 have hgt:=hS.get (b:=g) .head;have hblk:g<w.heap.size:=(Array.getElem?_eq_some_iff.1 hgt).1
 have hH:Holds (Value.int .i64) w g 0 l.toArray:=by
  intro j hj;have hj2:j<l.length:=by simpa using hj
  refine⟨hS.cell .head ?_,hS.free .head⟩;rw[Nat.zero_add,List.getElem?_append_left (by simpa using hj2),List.getElem?_map,jG hj2];simp[hj2]
 have hcon:=Any.slices_Sort_int Tryz.sortInts g 0 cap l w hH hblk h62;change Calls Tryz.prog 134 _ _ _ at hcon;refine hcon.mono ?_;rintro e w' ⟨rfl,n,os,rfl⟩;refine⟨rfl,?_⟩;refine St.grow ?_ os;have hSd:St W (blk g (l.map eZ++junk) 3::L) (Sort.ahead w n):=⟨hS.os,hS.tape,hS.output,hS.sat⟩
 refine hSd.putO (w':=putRow (Value.int .i64) (Sort.ahead w n) g 0 (aP4 l).toArray) (o':=.cells ((aP4 l).map eZ++junk).toArray 3 (0,0)) .head rfl rfl rfl fun k=>?_
 show((Sort.ahead w n).heap.modify g _)[k]? = _
 rw[Array.getElem?_modify];by_cases hk:k=g
 ·subst hk;rw[if_pos rfl,if_pos rfl];have hgt':(Sort.ahead w n).heap[k]? = some (.cells (l.map eZ++junk).toArray 3 (0,0)):=hgt;rw[hgt'];simp only[Option.map_some,Sort.onCells]
  congr 2
  have hsl:=FE7 l;apply Array.ext_getElem?;intro t;unfold Sort.putCells;simp only[Array.getElem?_mapIdx,List.getElem?_toArray,List.size_toArray,Nat.zero_le,true_and,Nat.zero_add,Nat.sub_zero];by_cases ht:t<l.length
  ·have ht2:t<(aP4 l).length:=by omega
   rw[List.getElem?_append_left (by simpa using ht),List.getElem?_append_left (by simpa using ht2),List.getElem?_map,List.getElem?_map,jG ht,jG ht2];simp[ht2]
  ·have h2:(l.map eZ++junk)[t]? = ((aP4 l).map eZ++junk)[t]? := by
    rw[List.getElem?_append_right (by simpa using ht),List.getElem?_append_right (by rw[jM];omega),jM,jM,hsl]
   rw[<-h2];have ht3:¬t<(aP4 l).length:=by omega
   simp[ht3]
 ·rw[if_neg (fun h=>hk h.symm),if_neg hk]
theorem Kr7(W w:World)(L:List HP)(hS:St W L w):
  Calls Tryz.prog 239 #[.slice none 0 0,.I 0,.I 0] w fun e w'=>e=.returned (.tuple #[])/\St W L w':=by
 go_enter Tryz.func239,Tryz.ntmps239;go_wp2_with fail
 go_loopw [6] (fun v wr=>v=.I 1/\St W L wr) (fun _ _=>0)
 case atStart=>exact⟨rfl,hS⟩
 case round=>
  clear hS;obtain⟨rfl,hS⟩:=hrel;go_wp2_with fail;go_end0;exact⟨rfl,hS⟩
theorem Qd7(n:Int)(W w:World)(L:List HP)(hS:St W L w):
  Calls Tryz.prog 191 #[.slice none 0 0,.I 0,.I 0,.I n] w fun e w'=>e=.returned (.tuple #[])/\St W L w':=by
 go_enter Tryz.func191,Tryz.ntmps191;go_wp2_with fail
 go_loopw [1,2] (fun v1 v2 wr=>v1=.I 0/\v2=.I 0/\St W L wr) (fun _ _ _=>0)
 case atStart=>exact⟨rfl,rfl,hS⟩
 case round=>
  clear hS;obtain⟨rfl,rfl,hS⟩:=hrel;go_wp2_with(first|go_at_call 239;refine(Kr7 W _ _ hS).mono ?_;clear hS;rintro e w ⟨rfl,hS⟩);refine bodyPost_ret (results_none rfl _ _ _) rfl ?_;exact⟨rfl,hS⟩
theorem OB7(W w:World)(L:List HP)(hS:St W L w):
  Calls Tryz.prog 134 #[.slice none 0 0] w fun e w'=>e=.returned (.tuple #[])/\St W L w':=by
 have hl:∀w:World,Calls Tryz.prog 177 #[.int .u64 0] w fun e w'=>(∃l:Int,e=.returned (.I l))/\w'=w:=fun w=>
  (Any.bits_Len Tryz.bitsLenW 0 w (by omega) (by omega)).mono fun _ _ ⟨he,hw⟩=>⟨⟨_,he⟩,hw⟩
 go_enter Tryz.func134,Tryz.ntmps134;go_wp2_with(first|go_at_call 177;refine(hl _).mono ?_;rintro e w ⟨⟨l,rfl⟩,rfl⟩|go_at_call 191;refine(Qd7 _ W _ _ hS).mono ?_;clear hS;rintro e w ⟨rfl,hS⟩);go_end0;exact⟨rfl,hS⟩
theorem Hf7{l l':List Int}(h:l.Perm l'):aP4 l=aP4 l':=by
 have hp:∀m:List Int,(aP4 m).Pairwise fun x y=>decide (x<=y)=true:=fun m=>List.pairwise_mergeSort (fun a b c h1 h2=>by simp only[decide_eq_true_eq]at *;omega) (fun a b=>by simp only[Bool.or_eq_true,decide_eq_true_eq];omega) m
 exact List.Perm.eq_of_pairwise (fun a b _ _ h1 h2=>by simp only[decide_eq_true_eq]at h1 h2;omega) (hp l) (hp l') (((De7 l).trans h).trans (De7 l').symm)
theorem fb4{gf:Nat}{lb:Array Value}{K:List Int}{W w:World}{R:List HP}(hN:K.length<=1000000000)(hseq:cd4 Tryz.prog eZ K.length gf lb (fun ss=>ss.Perm K) W R)(eg:∀args w,(callFunc gf args).run Tryz.prog w=.ok (.enter gf args) w)(hS:St W R w):
  Calls Tryz.prog 68 #[.func (.func gf) #[] lb] w fun e w'=>∃v,e=.returned v/\St W (row v 1 3 K.length ((aP4 K).map eZ)::R) w':=by
 go_enter Tryz.func68,Tryz.ntmps68;go_wp2_with(go_at_call 133;refine(eJ4 hN hseq eg hS).mono ?_;clear hS;rintro e w ⟨v,ss,rfl,hp,hS⟩)
 rcases hS.rowOpen with ⟨rfl,h0,hc,hS1⟩|⟨g,cap,junk,rfl,hn1,hm1,hj,hl,hS1⟩
 ·refine(OB7 W _ _ hS1).mono ?_;clear hS;rintro e w ⟨rfl,hS⟩;go_wp2_with fail;go_ret;obtain rfl:ss=[]:=List.eq_nil_of_length_eq_zero h0;obtain rfl:K=[]:=List.Perm.eq_nil hp.symm;have e:aP4 []=[]:=by unfold aP4;simp
  refine⟨.slice none 0 0,rfl,?_⟩;rw[e];exact hS.rowNil
 ·refine(OA7 ss g cap junk (by rw[hp.length_eq];omega) W _ _ hS1).mono ?_;clear hS hS1;rintro e w ⟨rfl,hS⟩;have hl2:=FE7 ss;have hf:((aP4 ss).map eZ).length=(ss.map eZ).length:=by rw[jM,jM,hl2]
  have hS1:=hS.rowShut (k:=1) (n:=ss.length) (cap:=cap) hn1 hm1 (by rw[jA,hf,<-jA];exact hj) (by rw[hf];exact hl);have hk:K.length=ss.length:=hp.length_eq.symm;have hfin:St W (row (.S g ss.length cap) 1 3 K.length ((aP4 K).map eZ)::R) w:=by rw[hk,<-Hf7 hp];exact hS1
  have Hfin:=jH hfin;clear hp hl2 hf hn1 hm1 hj hl hk hfin hS hS1;go_wp2_with fail;go_ret;exact⟨_,rfl,Hfin.out⟩
theorem MD7(mb:Option Nat)(W w:World)(L:List HP)(hS:St W L w):
  Calls Tryz.prog 69 #[.map mb] w fun e w'=>∃g,e=.returned (.func (.func 135) #[] #[.P g])/\St W (blk g [.map mb] 80::L) w':=by
 go_enter Tryz.func69,Tryz.ntmps69;go_wp2_with(refine zbx hS ?_;clear hS;intro b w hS);go_ret;exact⟨b,rfl,hS⟩
theorem Jl7:∀args w,(callFunc 135 args).run Tryz.prog w=.ok (.enter 135 args) w:=enters_of Tryz.func135 (by kernel_rfl) rfl
theorem Ks7{ν:Type}{ev:ν->Value}{g b:Nat}{l:List (Int×ν)}{W:World}{R:List HP}:
  cd4 Tryz.prog eZ (l.map (·.1)).length 135 #[.P g] (fun ss=>ss.Perm (l.map (·.1))) W (blk g [.map (some b)] 80::d8 eZ ev b l::R):=
 fun lp m X w hT hS=>Qc7 (by rw[jM]at hT;exact hT) hS
end Go.Proofs.YtlmhakmoioogaaaGreat
end
section
namespace Go.Proofs.YtlmhakmoioogaaaGreat
open Go.RowKit Go.Sl
def dI4(x:Int×Int):Prop:=(1<=x.1/\x.1<=1048576)/\1<=x.2/\x.2<=1099511627776
structure TnOk(t:Tns):Prop where
 w:dI4 (t.client,t.seq)
 ak:t.ak.size<=16
 aw:t.aw.size<=16
 tk:t.tk.size<=16
 tw:t.tw.size<=16
 i0:0<=t.item
 i1:t.item<4
 c0:1<=t.cnt
 c1:t.cnt<=1048576
structure EnOk(e:Ec)(n:Nat):Prop where
 ok:EOk e n
 vk:∀x∈e.vs,x.1.size<=16
 sw:∀x∈e.ss,dI4 (x.1,x.2.1)
 sr:∀x∈e.ss,RpOk x.2.2
 tw:∀x∈e.ts,TnOk x.2/\x.1=(x.2.client,x.2.seq)
 aw:∀x∈e.ar,dI4 x.1
 lv:e.vs.length<=n
 ls:e.ss.length<=n
 lt:e.ts.length<=n
 la:e.ar.length<=n
theorem gN4:EnOk ec0 0:=⟨fP4 0,fun _ h=>(by cases h),fun _ h=>(by cases h),fun _ h=>(by cases h),fun _ h=>(by cases h),fun _ h=>(by cases h),Nat.le_refl _,Nat.le_refl _,Nat.le_refl _,Nat.le_refl _⟩
theorem EnOk.on{e:Ec}{n:Nat}(h:EnOk e n):EnOk e (n+1):=⟨fun x hx=>(h.ok x hx).on,h.vk,h.sw,h.sr,h.tw,h.aw,Nat.le_succ_of_le h.lv,Nat.le_succ_of_le h.ls,Nat.le_succ_of_le h.lt,Nat.le_succ_of_le h.la⟩
theorem fx4:RpOk rp0:=⟨by decide,by decide,by decide,by decide,rfl⟩
theorem z00:(0:Int)<=0:=by decide
theorem z19:(0:Int)<=19:=by decide
theorem z40:(0:Int)<=1099511627776:=by decide
theorem SV7{V:Vs}{o:Opn}(hp:M6 V.ps)(hn:1<=V.n):RpOk (doV V o).1:=by
 unfold doV;split
 ·have:K7 V.ps o.aw (r8 o.item o.cnt)=0\/K7 V.ps o.aw (r8 o.item o.cnt)=6\/K7 V.ps o.aw (r8 o.item o.cnt)=1:=by
   unfold K7
   repeat' split
   all_goals simp
  exact⟨by show 0<=K7 V.ps o.aw (r8 o.item o.cnt);omega,by show K7 V.ps o.aw (r8 o.item o.cnt)<=19;omega,z00,z40,rfl⟩
 split
 ·have:m9 V.ps o.aw (r8 o.item o.cnt)=0\/m9 V.ps o.aw (r8 o.item o.cnt)=14\/m9 V.ps o.aw (r8 o.item o.cnt)=1:=by
   unfold m9
   repeat' split
   all_goals simp
  exact⟨by show 0<=m9 V.ps o.aw (r8 o.item o.cnt);omega,by show m9 V.ps o.aw (r8 o.item o.cnt)<=19;omega,z00,z40,rfl⟩
 split
 ·have:((B6 V (aT4 o)).2.1=0\/(B6 V (aT4 o)).2.1=1\/(B6 V (aT4 o)).2.1=6\/(B6 V (aT4 o)).2.1=14)/\0<=(B6 V (aT4 o)).1/\(B6 V (aT4 o)).1<=1099511627776:=by
   unfold B6;split
   ·simp
   ·split
    ·simp
    ·rename_i h
     split
     ·refine⟨.inl rfl,by show 0<=V.n;omega,by show V.n<=1099511627776;omega⟩
     ·simp
  obtain⟨h1,h2,h3⟩:=this;exact⟨by show 0<=(B6 V (aT4 o)).2.1;omega,by show(B6 V (aT4 o)).2.1<=19;omega,h2,h3,rfl⟩
 split
 ·have:(C7 V o.aw o.id).1=0\/(C7 V o.aw o.id).1=7:=by
   unfold C7;split
   ·exact .inl rfl
   ·exact .inr rfl
  exact⟨by show 0<=(C7 V o.aw o.id).1;omega,by show(C7 V o.aw o.id).1<=19;omega,z00,z40,rfl⟩
 split
 ·exact⟨z00,z19,z00,z40,hp _⟩
 split
 ·exact fx4
 ·exact fx4
theorem LA7{u:ByteArray}(h:B8 u=true):u.size<=16:=Gi7 h
theorem Jm7{o:Opn}(hm:w8 o=true):dI4 (o.client,o.seq)/\o.ak.size<=16/\o.aw.size<=16:=by unfold w8 F8 aL4 at hm;simp only[jB,decide_eq_true_eq]at hm;obtain⟨⟨h1,h2,h3,h4,h5,h6⟩,_⟩:=hm;exact⟨⟨⟨h1,h2⟩,h3,h4⟩,LA7 h5,LA7 h6⟩
theorem Kt7{o:Opn}(hm:w8 o=true)(hk:o.kind=2):TnOk (dD4 o):=by obtain⟨h1,h2,h3⟩:=Jm7 hm;have hc:=He7 hm (.inr (.inl hk));unfold w8 J9 at hm;rw[if_neg (by omega),if_pos hk]at hm;unfold N7 aL4 at hm;simp only[jB,decide_eq_true_eq]at hm;obtain⟨_,⟨h4,h5⟩,_⟩:=hm;exact⟨h1,h2,h3,LA7 h4,LA7 h5,hc.1.1,by have:=hc.1.2;show o.item<4;omega,hc.2.1,hc.2.2.1⟩
theorem HS7{κ ν:Type}[DecidableEq κ](l:List (κ×ν))(k:κ):(j6 l k).length<=l.length:=List.length_filter_le _ _
theorem DK7{κ ν:Type}[DecidableEq κ]{l:List (κ×ν)}{k:κ}{x:κ×ν}(h:x∈j6 l k):x∈l:=(List.mem_filter.1 h).1
theorem EnOk.app{e:Ec}{n:Nat}(h:EnOk e n)(o:Opn)(hok:EOk (G8 e o).2.2 (n+1)):EnOk (G8 e o).2.2 (n+1):=by
 cases hp:D7 e o with
 | mk r b=>
 cases b with
 | true=>
  rw[Dv7 hp];exact h.on
 | false=>
  obtain⟨rfl,hm⟩:=BQ7 hp;rw[Dw7 hp]at hok ⊢;dsimp only at hok ⊢;obtain⟨hw,hak,haw⟩:=Jm7 hm
  have hV:M6 (atV e o.ak).ps/\1<=(atV e o.ak).n:=by
   unfold atV
   cases hg:i9 e.vs o.ak with
   | none=>exact⟨Fr7,by decide⟩
   | some V=>exact⟨(h.ok _ (AI7 hg)).ok,(h.ok _ (AI7 hg)).n0⟩
  have hrp:=SV7 (o:=o) hV.1 hV.2;have hlv:=h.lv;have hls:=h.ls;have hlt:=h.lt;have hla:=h.la;refine⟨hok,?_,?_,?_,?_,?_,?_,?_,?_,?_⟩
  ·intro x hx;have hx2:x∈(if A6 (doV (atV e o.ak) o).2=true then j6 e.vs o.ak else(o.ak,(doV (atV e o.ak) o).2)::j6 e.vs o.ak):=hx;split at hx2
   ·exact h.vk x (DK7 hx2)
   ·rcases List.mem_cons.1 hx2 with rfl|hx2
    ·exact hak
    ·exact h.vk x (DK7 hx2)
  ·intro x hx;have hx2:x∈doS e o (doV (atV e o.ak) o).1:=hx;unfold doS at hx2;split at hx2
   ·exact h.sw x hx2
   ·rcases List.mem_cons.1 hx2 with rfl|hx2
    ·exact hw
    ·exact h.sw x (DK7 hx2)
  ·intro x hx;have hx2:x∈doS e o (doV (atV e o.ak) o).1:=hx;unfold doS at hx2;split at hx2
   ·exact h.sr x hx2
   ·rcases List.mem_cons.1 hx2 with rfl|hx2
    ·exact hrp
    ·exact h.sr x (DK7 hx2)
  ·intro x hx;have hx2:x∈doT e o (doV (atV e o.ak) o).1:=hx;unfold doT at hx2;split at hx2
   ·rename_i h2
    rcases List.mem_cons.1 hx2 with rfl|hx2
    ·exact⟨Kt7 hm h2.1,rfl⟩
    ·exact h.tw x (DK7 hx2)
   ·split at hx2
    ·exact h.tw x (DK7 hx2)
    ·exact h.tw x hx2
  ·intro x hx;have hx2:x∈doA e o:=hx;unfold doA at hx2;split at hx2
   ·rcases List.mem_cons.1 hx2 with rfl|hx2
    ·exact hw
    ·exact h.aw x (DK7 hx2)
   ·exact h.aw x hx2
  ·show(if A6 (doV (atV e o.ak) o).2=true then j6 e.vs o.ak else(o.ak,(doV (atV e o.ak) o).2)::j6 e.vs o.ak).length<=n+1
   have:=HS7 e.vs o.ak;split
   ·omega
   ·rw[jC];omega
  ·show(doS e o (doV (atV e o.ak) o).1).length<=n+1
   have:=HS7 e.ss o.client;unfold doS;split
   ·omega
   ·rw[jC];omega
  ·show(doT e o (doV (atV e o.ak) o).1).length<=n+1
   have:=HS7 e.ts (o.client,o.seq);unfold doT;split
   ·rw[jC];omega
   ·split <;> omega
  ·show(doA e o).length<=n+1
   have:=HS7 e.ar (o.client,o.seq);unfold doA;split
   ·rw[jC];omega
   ·omega
def ao4:List (ByteArray×Vs)->Nat
 | []=>0
 | x::l=>x.2.ps.length+ao4 l
theorem Jn7{l l':List (ByteArray×Vs)}(h:l.Perm l'):ao4 l=ao4 l':=by
 induction h with
 | nil=>rfl
 | cons x _ ih=>rw[ao4,ao4,ih]
 | swap x y l=>rw[ao4,ao4,ao4,ao4];omega
 | trans _ _ h1 h2=>rw[h1,h2]
theorem Qe7{l:List (ByteArray×Vs)}(hn:(l.map (·.1)).Nodup)(u:ByteArray):ao4 l=((i9 l u).getD vs0).ps.length+ao4 (j6 l u):=by
 cases hg:i9 l u with
 | none=>rw[Bk7 (AP7 hg)];show _=0+_;omega
 | some V=>rw[Jn7 (Bt7 hn hg)];rfl
theorem Qf7{p:Ps}{N:Nat}(h:PsW p N):PsW p p.length:=⟨h.nd,h.nz,h.who,Nat.le_refl _⟩
theorem OC7{V:Vs}{i:Nat}{o:Opn}(h:VOk V.ps V.n i)(hL:∀x∈V.L,MayP x)(hl:V.L.length<=32):(doV V o).2.ps.length<=V.ps.length+100:=by
 have hw:=Qf7 h.w;unfold doV;split
 ·have:=(JV7 hw o.aw (r8 o.item o.cnt)).len;show(F9 V.ps o.aw (r8 o.item o.cnt)).length<=_
  omega
 split
 ·have:=(Fv7 hw o.aw (r8 o.item o.cnt)).len;show(p9 V.ps o.aw (r8 o.item o.cnt)).length<=_
  omega
 split
 ·exact(QM7 (o:=aT4 o) hw hL hl).len
 split
 ·exact(QN7 (who:=o.aw) (id:=o.id) hw hL).len
 split
 ·show V.ps.length<=_
  omega
 split
 ·have:=(JV7 hw o.aw (r8 o.item o.cnt)).len;show(F9 V.ps o.aw (r8 o.item o.cnt)).length<=_
  omega
 ·show V.ps.length<=_
  omega
structure EnL(e:Ec)(n:Nat):Prop where
 en:EnOk e n
 nd:(e.vs.map (·.1)).Nodup
 ln:ao4 e.vs<=100*n
theorem hF4:EnL ec0 0:=⟨gN4,List.nodup_nil,Nat.le_refl _⟩
theorem OD7{e:Ec}(hn:(e.vs.map (·.1)).Nodup)(k:ByteArray)(V:Vs):((bF4 e k V).vs.map (·.1)).Nodup:=by
 show((if A6 V=true then j6 e.vs k else(k,V)::j6 e.vs k).map (·.1)).Nodup
 have h1:((j6 e.vs k).map (·.1)).Nodup:=hn.sublist (List.filter_sublist.map _);split
 ·exact h1
 ·rw[List.map_cons,List.nodup_cons];refine⟨fun h=>?_,h1⟩;obtain⟨x,hx,hk⟩:=List.mem_map.1 h;have:=(List.mem_filter.1 hx).2;simp only[ne_eq,decide_not,Bool.not_eq_eq_eq_not,Bool.not_true,decide_eq_false_iff_not]at this;exact this hk
theorem EnL.app{e:Ec}{n:Nat}(h:EnL e n)(he:bb4 e)(o:Opn)(hok:EOk (G8 e o).2.2 (n+1)):EnL (G8 e o).2.2 (n+1):=by
 refine⟨h.en.app o hok,?_,?_⟩
 ·cases hp:D7 e o with
  | mk r b=>
  cases b with
  | true=>rw[Dv7 hp];exact h.nd
  | false=>
   obtain⟨rfl,hm⟩:=BQ7 hp;rw[Dw7 hp];exact OD7 h.nd _ _
 ·cases hp:D7 e o with
  | mk r b=>
  cases b with
  | true=>rw[Dv7 hp];have:=h.ln;show ao4 e.vs<=_;omega
  | false=>
   obtain⟨rfl,hm⟩:=BQ7 hp;rw[Dw7 hp];show ao4 (if A6 (doV (atV e o.ak) o).2=true then j6 e.vs o.ak else(o.ak,(doV (atV e o.ak) o).2)::j6 e.vs o.ak)<=_
   have h1:=Qe7 h.nd o.ak;have h2:=h.ln
   have h3:(doV (atV e o.ak) o).2.ps.length<=(atV e o.ak).ps.length+100:=by
    unfold atV
    cases hg:i9 e.vs o.ak with
    | none=>exact OC7 (i:=0) (V:=vs0) gf4 (fun x hx=>(by cases hx)) (Nat.zero_le _)
    | some V=>
     have hm:=AI7 hg;exact OC7 (h.en.ok _ hm) (he _ hm).1 (he _ hm).2
   unfold atV at h3 ⊢;split
   ·omega
   ·show(doV ((i9 e.vs o.ak).getD vs0) o).2.ps.length+ao4 (j6 e.vs o.ak)<=_
    omega
theorem OE7{p:Ps}{L:List Ord}{n:Int}{N:Nat}(hw:PsW p N)(hL:∀x∈L,MayP x)(hl:L.length<=32):(aV4 p L n).length<=70*p.length+2300:=by
 have h1:=Ao7 ((hdL p).length:Int);have h2:=Ao7 (L.length:Int);have h3:=Ao7 n;have h4:=BK7 bI4 (hdL p) fun x hx=>Ek7 x (by have hk:x.who∈(hdL p).map Hd.who:=List.mem_map_of_mem hx;rw[Gm7]at hk;obtain⟨y,hy,e⟩:=Ld7 hk;rw[<-e];exact Gi7 (hw.who y hy))
 have h5:=BK7 bf4 L fun x hx=>El7 x (hL x hx).who1
 have h6:=Cs7 p;unfold aV4;rw[jA,jA,jA,jA];omega
def enK(e:Ec)(k:ByteArray):List Int:=E6 (A8 k)++E6 (aV4 (atV e k).ps (atV e k).L (atV e k).n)
theorem SW7{e:Ec}{n:Nat}(h:EnL e n)(he:bb4 e){x:ByteArray×Vs}(hx:x∈e.vs):(enK e x.1).length<=70*x.2.ps.length+2400:=by
 have hg:i9 e.vs x.1=some x.2:=Bf7 h.nd hx;have ha:atV e x.1=x.2:=by unfold atV;rw[hg];rfl
 have h1:=OE7 (n:=x.2.n) (h.en.ok x hx).w (he x hx).1 (he x hx).2;have h2:=AY7 (A8 x.1);have h3:=AY7 (aV4 x.2.ps x.2.L x.2.n);have h4:=h.en.vk x hx;rw[AK7]at h2;unfold enK;rw[ha,jA];omega
theorem HT7{e:Ec}{n:Nat}(h:EnL e n)(he:bb4 e):∀l:List (ByteArray×Vs),(∀x∈l,x∈e.vs)->((l.map (·.1)).flatMap (enK e)).length<=70*ao4 l+2400*l.length
 | [],_=>by simp
 | x::l,hl=>by
  have h1:=HT7 h he l fun y hy=>hl y (List.mem_cons_of_mem _ hy)
  have h2:=SW7 h he (hl x (List.mem_cons_self ..));rw[List.map_cons,List.flatMap_cons,jA,ao4,jC];omega
theorem Ev7{α:Type}(f:α->List Int)(xs:List α)(k:Nat):((xs.take k).flatMap f).length<=(xs.flatMap f).length:=by
 have e:xs.flatMap f=(xs.take k).flatMap f++(xs.drop k).flatMap f:=by rw[<-List.flatMap_append,List.take_append_drop]
 rw[e,jA];omega
theorem Sd7{e:Ec}{n:Nat}(h:EnL e n)(he:bb4 e)(hn:n<=600):((ksE e).flatMap (enK e)).length<=6000000:=by
 have h1:=HT7 h he e.vs fun x hx=>hx
 have h2:((ksE e).flatMap (enK e)).length=((e.vs.map (·.1)).flatMap (enK e)).length:=((Ax7 _).flatMap_right _).length_eq;have h3:=h.ln;have h4:=h.en.lv;omega
end Go.Proofs.YtlmhakmoioogaaaGreat
end
