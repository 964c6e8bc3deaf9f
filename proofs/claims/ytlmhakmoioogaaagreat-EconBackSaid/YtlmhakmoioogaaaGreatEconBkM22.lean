/-
  slices.Sorted(maps.Keys(m)) of maps by numbers.
-/
import Derived.Test.YtlmhakmoioogaaaGreatEconBkM21
set_option maxHeartbeats 16000000
set_option maxRecDepth 100000
set_option linter.unusedSimpArgs false
set_option linter.unusedVariables false
section
namespace Go.Proofs.YtlmhakmoioogaaaGreat
open Go.Shelf Go.RowKit Go.Lib Go.Sort Go.Sl
abbrev eZ(z:Int):Value:=.I z
def KzR{ν:Type}(W:World)(ev:ν->Value)(X:List Int->HP)(r b:Nat)(l:List (Int×ν))(L:List HP)(w:World):Prop:=
 ∃(ss:List Int) (todo:List (Int×ν)),(ss++todo.map (·.1)).Perm (l.map (·.1))/\St W (itR eZ ev r b l todo::X ss::L) w
theorem hN4:I9 Tryz.prog 80=some (3,90):=by kernel_rfl
theorem RX7{ν:Type}{ev:ν->Value}{m lp g b:Nat}{l:List (Int×ν)}{X:List Int->HP}{W w:World}{L:List HP}(hY:dr4 Tryz.prog eZ l.length lp W X)(hS:St W (X []::blk g [.map (some b)] 80::d8 eZ ev b l::L) w):
  CallsIn Fence.wide m Tryz.prog 135 #[.func (.yield lp) #[] #[],.P g] w fun e w'=>(∃v,e=.returned v)/\∃ss,ss.Perm (l.map (·.1))/\St W (X ss::blk g [.map (some b)] 80::d8 eZ ev b l::L) w':=by
 refine callsIn_of_wp Tryz.func135 rfl trivial ?_ rfl;simp only[Tryz.ntmps135,List.size_toArray,jC,List.length_nil,Nat.reduceAdd,Nat.reduceSub,Array.replicate_succ,Array.replicate_zero,List.push_toArray,List.append_toArray,jN,jK]
 gi_wp2_with (first|((with_reducible apply DP7 cO4 hS);rfl;rfl;rfl;decide +kernel;exact R9;go_frame)|(gi_at_range;refine Fp7 (ek:=eZ) (ev:=ev) hS rfl rfl rfl hN4 (by exact j5) ?_;clear hS;intro r w hS;go_frame)|gi_in)
 gi_loopw [] (fun wr=>KzR W ev X r b l (blk g [.map (some b)] 80::L) wr) (fun wr=>cH4 r b wr)
 case atStart=>exact⟨[],l,by simp,hS⟩
 case round=>
  clear hS;obtain⟨ss,todo,hp,hS⟩:=hrel;have hm:=BF7 hS
  gi_wp2_with (first|(gi_at_next;refine GN7 (ek:=eZ) (ev:=ev) hS rfl rfl rfl ?_ ?_)|gi_in)
  ·intro h0;subst h0
   gi_wp2
   go_end0;exact⟨⟨_,rfl⟩,ss,by simpa using hp,(ef4 hS).s _⟩
  ·intro y1 yv todo' w2 hp2 hy hS2 hen;have hlen:=hp.length_eq;have hlen2:=hp2.length_eq;simp only[jA,jM,jC]at hlen hlen2;have hp3:(ss++[y1]++todo'.map (·.1)).Perm (l.map (·.1)):=by rw[jS];refine List.Perm.trans ?_ hp;exact List.Perm.append_left ss (show(((y1,yv)::todo').map (fun x=>x.1)).Perm (todo.map (fun x=>x.1))from(hp2.map (fun x=>x.1)).symm)
   clear hS hy hp hp2;have hS:=hS2;clear hS2
   gi_wp2_with (first|((with_reducible apply GQ7 (k:=y1) (pre:=ss) hY hS);rfl;rfl;rfl;rfl;omega;exact j5;clear hS;intro w hS;go_frame)|gi_in)
   go_roundw
   case rel=>exact⟨ss++[y1],todo',hp3,hS.s _⟩
   case measure=>
    have hm2:=BF7 (hS.s (itR eZ ev r b l todo'::X (ss++[y1])::blk g [.map (some b)] 80::L));omega
def apZ(bB:Nat)(ss:List Int):HP:=fun f=>∃v,sep (blk bB [v] 62) (row v 1 3 ss.length (ss.map eZ)) f
theorem fh4{gf:Nat}{lb:Array Value}{S:List Int->Prop}{N:Nat}{W w:World}{R:List HP}(hN:N<=1000000000)(hseq0:ck4 Tryz.prog eZ N gf lb S W R)(eg:∀args w,(callFunc gf args).run Tryz.prog w=.ok (.enter gf args) w)(hS:St W R w):
  Calls Tryz.prog 190 #[.slice none 0 0,.func (.func gf) #[] lb] w fun e w'=>∃v ss,e=.returned v/\S ss/\St W (row v 1 3 ss.length (ss.map eZ)::R) w':=by
 refine(callsIn_wide (n:=5)).1 ?_;refine callsIn_of_wp_marks Tryz.func190 rfl trivial ?_ rfl;simp only[Tryz.ntmps190,List.size_toArray,jC,List.length_nil,Nat.reduceAdd,Nat.reduceSub,Array.replicate_succ,Array.replicate_zero,List.push_toArray,List.append_toArray,jN,jK]
 gi_wp2_with (first|((with_reducible apply Pt7 cO4 hS);rfl;rfl;rfl;rfl;clear hS;intro bB w hS;go_frame)|gi_in)
 have h0:St W (apZ bB []::R) w:=St.mkEx (.slice none 0 0) (St.join (St.swap (hS.rowNil (k:=1) (T:=3))));clear hS;refine eO4 rfl eg hseq0 h0 ?_ ?_
 ·clear hseq0 h0 eg;intro l m pre x L w hlt hS0;obtain⟨v,hS1⟩:=St.ex hS0;have hS:=St.split hS1;clear hS0 hS1;simp only[fA,fB,fC,Nat.reduceAdd]
  gi_wp2_with (first|gi_in)
  refine⟨_,St.join hS,?_⟩;clear hS;intro L2 w2 hS2;have hS:=St.split hS2;clear hS2
  gi_wp2_with (first|((with_reducible apply DP7 (dE4 _) hS);rfl;rfl;rfl;decide +kernel;exact R9;go_frame)|((with_reducible apply SR7 (dE4 _) hS);rfl;rfl;(focus(simp only[fD,fI,fJ,Act.eval,fE,fF,fG,fH,fK];try rfl));exact esS;exact rsS;rfl;rfl;rfl;rfl;clear hS;intro bS w hS;go_frame)|((with_reducible apply HF7 hS);rfl;rfl;rfl;rfl;exact esS;exact rsS;rfl;decide;exact j5;exact(Src.mk i8.whole).at hS;rfl;rfl;unfold maxLen;omega;omega;clear hS;intro v w hS;(have hv:=hS.rowVal;obtain⟨va,vc,rfl⟩:=hv);go_frame)|((with_reducible apply Pu7 (dE4 _) hS);rfl;rfl;rfl;(focus((conv=>lhs;whnf);try rfl));kernel_rfl;rfl;rfl;exact db4;simp only[jC,List.length_nil];omega;((simp only[List.set_cons_zero,List.set_cons_succ,E8]);rfl);clear hS;intro w hS;go_frame)|gi_in)
  have e1:(pre++[x]).length=pre.length+1:=by simp
  have e2:(pre++[x]).map eZ=pre.map eZ++[.I x]:=by rw[List.map_append];rfl
  have hS1:=hS.s (blk bB [_] _::row _ 1 _ _ _::L2);have hS2:St W (blk bB [.slice va (pre.length+1) vc] 62::row (.slice va (pre.length+1) vc) 1 3 (pre.length+1) (pre.map eZ++[.I x])::L2) w:=hS1;rw[<-e2]at hS2;rw[<-e1]at hS2;exact St.mkEx _ (St.join hS2)
 ·clear hseq0 h0 eg;intro D ss w hs hS0;obtain⟨v,hS1⟩:=St.ex hS0;have hS:=St.split hS1;clear hS0 hS1;have hK:=hS.get (b:=D) (.tail (.tail .head))
  gi_wp2_with (first|((with_reducible apply DP7 cO4 hS);rfl;rfl;rfl;decide +kernel;exact R9;go_frame)|gi_in)
  refine⟨by simp,.inl ⟨_,_,rfl,run_takeDeferred hK,?_⟩⟩;have hS2:=(hS.s (ai4 D (.deferred (some []))::row v 1 3 ss.length (ss.map eZ)::R)).putObj (.deferred none);exact⟨_,results_tmp rfl _ _ _,v,ss,rfl,hs,hS2.drop⟩
theorem eV4{gf:Nat}{lb:Array Value}{S:List Int->Prop}{N:Nat}{W w:World}{R:List HP}(hN:N<=1000000000)(hseq:ck4 Tryz.prog eZ N gf lb S W R)(eg:∀args w,(callFunc gf args).run Tryz.prog w=.ok (.enter gf args) w)(hS:St W R w):
  Calls Tryz.prog 133 #[.func (.func gf) #[] lb] w fun e w'=>∃v ss,e=.returned v/\S ss/\St W (row v 1 3 ss.length (ss.map eZ)::R) w':=by
 go_enter Tryz.func133,Tryz.ntmps133;go_wp2_with(go_at_call 190;refine(fh4 hN hseq eg hS).mono ?_;clear hS;rintro e w ⟨v,ss,rfl,hs,hS⟩);go_ret;exact⟨v,ss,rfl,hs,hS⟩
def aG4(l:List Int):List Int:=l.mergeSort fun x y=>decide (x<=y)
theorem Dn7(l:List Int):(aG4 l).Perm l:=List.mergeSort_perm _ _
theorem EO7(l:List Int):(aG4 l).length=l.length:=(Dn7 l).length_eq
theorem PK7(l:List Int)(g cap:Nat)(junk:List Value)(h62:l.length<4611686018427387904)(W w:World)(L:List HP)(hS:St W (blk g (l.map eZ++junk) 3::L) w):
  Calls Tryz.prog 134 #[.S g l.length cap] w fun e w'=>e=.returned (.tuple #[])/\St W (blk g ((aG4 l).map eZ++junk) 3::L) w':=by
 have hgt:=hS.get (b:=g) .head;have hblk:g<w.heap.size:=(Array.getElem?_eq_some_iff.1 hgt).1
 have hH:Holds (Value.int .i64) w g 0 l.toArray:=by
  intro j hj;have hj2:j<l.length:=by simpa using hj
  refine⟨hS.cell .head ?_,hS.free .head⟩;rw[Nat.zero_add,List.getElem?_append_left (by simpa using hj2),List.getElem?_map,jG hj2];simp[hj2]
 have hcon:=Any.slices_Sort_int Tryz.sortInts g 0 cap l w hH hblk h62;change Calls Tryz.prog 134 _ _ _ at hcon;refine hcon.mono ?_;rintro e w' ⟨rfl,n,os,rfl⟩;refine⟨rfl,?_⟩;refine St.grow ?_ os;have hSd:St W (blk g (l.map eZ++junk) 3::L) (Sort.ahead w n):=⟨hS.os,hS.tape,hS.output,hS.sat⟩
 refine hSd.putO (w':=putRow (Value.int .i64) (Sort.ahead w n) g 0 (aG4 l).toArray) (o':=.cells ((aG4 l).map eZ++junk).toArray 3 (0,0)) .head rfl rfl rfl fun k=>?_
 show((Sort.ahead w n).heap.modify g _)[k]? = _
 rw[Array.getElem?_modify];by_cases hk:k=g
 ·subst hk;rw[if_pos rfl,if_pos rfl];have hgt':(Sort.ahead w n).heap[k]? = some (.cells (l.map eZ++junk).toArray 3 (0,0)):=hgt;rw[hgt'];simp only[Option.map_some,Sort.onCells]
  congr 2
  have hsl:=EO7 l;apply Array.ext_getElem?;intro t;unfold Sort.putCells;simp only[Array.getElem?_mapIdx,List.getElem?_toArray,List.size_toArray,Nat.zero_le,true_and,Nat.zero_add,Nat.sub_zero];by_cases ht:t<l.length
  ·have ht2:t<(aG4 l).length:=by omega
   rw[List.getElem?_append_left (by simpa using ht),List.getElem?_append_left (by simpa using ht2),List.getElem?_map,List.getElem?_map,jG ht,jG ht2];simp[ht2]
  ·have h2:(l.map eZ++junk)[t]? = ((aG4 l).map eZ++junk)[t]? := by
    rw[List.getElem?_append_right (by simpa using ht),List.getElem?_append_right (by rw[jM];omega),jM,jM,hsl]
   rw[<-h2];have ht3:¬t<(aG4 l).length:=by omega
   simp[ht3]
 ·rw[if_neg (fun h=>hk h.symm),if_neg hk]
theorem KW7(W w:World)(L:List HP)(hS:St W L w):
  Calls Tryz.prog 239 #[.slice none 0 0,.I 0,.I 0] w fun e w'=>e=.returned (.tuple #[])/\St W L w':=by
 go_enter Tryz.func239,Tryz.ntmps239;go_wp2_with fail
 go_loopw [6] (fun v wr=>v=.I 1/\St W L wr) (fun _ _=>0)
 case atStart=>exact⟨rfl,hS⟩
 case round=>
  clear hS;obtain⟨rfl,hS⟩:=hrel;go_wp2_with fail;go_end0;exact⟨rfl,hS⟩
theorem RY7(n:Int)(W w:World)(L:List HP)(hS:St W L w):
  Calls Tryz.prog 191 #[.slice none 0 0,.I 0,.I 0,.I n] w fun e w'=>e=.returned (.tuple #[])/\St W L w':=by
 go_enter Tryz.func191,Tryz.ntmps191;go_wp2_with fail
 go_loopw [1,2] (fun v1 v2 wr=>v1=.I 0/\v2=.I 0/\St W L wr) (fun _ _ _=>0)
 case atStart=>exact⟨rfl,rfl,hS⟩
 case round=>
  clear hS;obtain⟨rfl,rfl,hS⟩:=hrel;go_wp2_with(first|go_at_call 239;refine(KW7 W _ _ hS).mono ?_;clear hS;rintro e w ⟨rfl,hS⟩);refine bodyPost_ret (results_none rfl _ _ _) rfl ?_;exact⟨rfl,hS⟩
theorem PL7(W w:World)(L:List HP)(hS:St W L w):
  Calls Tryz.prog 134 #[.slice none 0 0] w fun e w'=>e=.returned (.tuple #[])/\St W L w':=by
 have hl:∀w:World,Calls Tryz.prog 177 #[.int .u64 0] w fun e w'=>(∃l:Int,e=.returned (.I l))/\w'=w:=fun w=>
  (Any.bits_Len Tryz.bitsLenW 0 w (by omega) (by omega)).mono fun _ _ ⟨he,hw⟩=>⟨⟨_,he⟩,hw⟩
 go_enter Tryz.func134,Tryz.ntmps134;go_wp2_with(first|go_at_call 177;refine(hl _).mono ?_;rintro e w ⟨⟨l,rfl⟩,rfl⟩|go_at_call 191;refine(RY7 _ W _ _ hS).mono ?_;clear hS;rintro e w ⟨rfl,hS⟩);go_end0;exact⟨rfl,hS⟩
theorem HI7{l l':List Int}(h:l.Perm l'):aG4 l=aG4 l':=by
 have hp:∀m:List Int,(aG4 m).Pairwise fun x y=>decide (x<=y)=true:=fun m=>List.pairwise_mergeSort (fun a b c h1 h2=>by simp only[decide_eq_true_eq]at *;omega) (fun a b=>by simp only[Bool.or_eq_true,decide_eq_true_eq];omega) m
 exact List.Perm.eq_of_pairwise (fun a b _ _ h1 h2=>by simp only[decide_eq_true_eq]at h1 h2;omega) (hp l) (hp l') (((Dn7 l).trans h).trans (Dn7 l').symm)
theorem fi4{gf:Nat}{lb:Array Value}{K:List Int}{W w:World}{R:List HP}(hN:K.length<=1000000000)(hseq:ck4 Tryz.prog eZ K.length gf lb (fun ss=>ss.Perm K) W R)(eg:∀args w,(callFunc gf args).run Tryz.prog w=.ok (.enter gf args) w)(hS:St W R w):
  Calls Tryz.prog 68 #[.func (.func gf) #[] lb] w fun e w'=>∃v,e=.returned v/\St W (row v 1 3 K.length ((aG4 K).map eZ)::R) w':=by
 go_enter Tryz.func68,Tryz.ntmps68;go_wp2_with(go_at_call 133;refine(eV4 hN hseq eg hS).mono ?_;clear hS;rintro e w ⟨v,ss,rfl,hp,hS⟩)
 rcases hS.rowOpen with ⟨rfl,h0,hc,hS1⟩|⟨g,cap,junk,rfl,hn1,hm1,hj,hl,hS1⟩
 ·refine(PL7 W _ _ hS1).mono ?_;clear hS;rintro e w ⟨rfl,hS⟩;go_wp2_with fail;go_ret;obtain rfl:ss=[]:=List.eq_nil_of_length_eq_zero h0;obtain rfl:K=[]:=List.Perm.eq_nil hp.symm;have e:aG4 []=[]:=by unfold aG4;simp
  refine⟨.slice none 0 0,rfl,?_⟩;rw[e];exact hS.rowNil
 ·refine(PK7 ss g cap junk (by rw[hp.length_eq];omega) W _ _ hS1).mono ?_;clear hS hS1;rintro e w ⟨rfl,hS⟩;have hl2:=EO7 ss;have hf:((aG4 ss).map eZ).length=(ss.map eZ).length:=by rw[jM,jM,hl2]
  have hS1:=hS.rowShut (k:=1) (n:=ss.length) (cap:=cap) hn1 hm1 (by rw[jA,hf,<-jA];exact hj) (by rw[hf];exact hl);have hk:K.length=ss.length:=hp.length_eq.symm;have hfin:St W (row (.S g ss.length cap) 1 3 K.length ((aG4 K).map eZ)::R) w:=by rw[hk,<-HI7 hp];exact hS1
  have Hfin:=jH hfin;clear hp hl2 hf hn1 hm1 hj hl hk hfin hS hS1;go_wp2_with fail;go_ret;exact⟨_,rfl,Hfin.out⟩
theorem Ns7(mb:Option Nat)(W w:World)(L:List HP)(hS:St W L w):
  Calls Tryz.prog 69 #[.map mb] w fun e w'=>∃g,e=.returned (.func (.func 135) #[] #[.P g])/\St W (blk g [.map mb] 80::L) w':=by
 go_enter Tryz.func69,Tryz.ntmps69;go_wp2_with(refine zbx hS ?_;clear hS;intro b w hS);go_ret;exact⟨b,rfl,hS⟩
theorem JR7:∀args w,(callFunc 135 args).run Tryz.prog w=.ok (.enter 135 args) w:=enters_of Tryz.func135 (by kernel_rfl) rfl
theorem KX7{ν:Type}{ev:ν->Value}{g b:Nat}{l:List (Int×ν)}{W:World}{R:List HP}:
  ck4 Tryz.prog eZ (l.map (·.1)).length 135 #[.P g] (fun ss=>ss.Perm (l.map (·.1))) W (blk g [.map (some b)] 80::d8 eZ ev b l::R):=
 fun lp m X w hT hS=>RX7 (by rw[jM]at hT;exact hT) hS
end Go.Proofs.YtlmhakmoioogaaaGreat
end
section
namespace Go.Proofs.YtlmhakmoioogaaaGreat
open Go.RowKit Go.Sl
abbrev Rb:=Option Addr×Nat×List Int
abbrev rbV(x:Rb):Value:=.slice x.1 x.2.2.length x.2.1
def F7(r:List Int):List Int:=m6 r.length++r
def aR4(rs:List Rb):List Int:=rs.flatMap fun x=>F7 x.2.2
theorem Bb7(r:List Int):(F7 r).length<=r.length+9:=by have:=Ak7 r.length;unfold F7;rw[jA];omega
theorem gV4(wb:Nat)(d:List Int)(a:Option Addr)(c:Nat)(r:List Int)(hd:d.length<=90000000)(hr:r.length<=10000000)(W w:World)(R:List HP)(hsrc:Src R (.slice a r.length c) r.length (u8s r))(hS:St W (wrR wb d::R) w):
  Calls Tryz.prog 132 #[.P wb,.slice a r.length c] w fun e w'=>e=.returned (.tuple #[])/\St W (wrR wb (d++r)::R) w':=by
 obtain⟨wa,wc,hS1⟩:=dw4 hS;clear hS;have hS:=hS1;clear hS1;have Hsrc:=jH hsrc;clear hsrc;go_enter Tryz.func132,Tryz.ntmps132;go_wp2_with(first|refine zl1 hS ?_|(with_reducible apply Ae7 hS);rfl;rfl;rfl;rfl;exact esS;exact rsS;rfl;decide;exact j5;exact Hsrc.out.there.there;(focus(rw[AS7,Nat.mul_one]));exact Be7 _;(focus(unfold maxLen;omega));(focus(omega));clear hS;intro v w hS;(have hv:=hS.rowVal;obtain⟨va,vc,rfl⟩:=hv);refine frS ?_|refine zs1 hS ?_;clear hS;intro w hS);go_end0;have hS1:=hS.s (row (.slice va (d.length+r.length) vc) 1 _ _ _::blk wb _ _::R);have h0:St W (row (.slice va (d.length+r.length) vc) 1 5 (d.length+r.length) (u8s d++u8s r)::_) w:=hS1;rw[<-AB7]at h0;exact⟨rfl,cL4 (AN7 (by rw[jA]) h0).swap⟩
def hO4(W:World)(R:List HP)(wb:Nat)(d:List Int)(rs:List Rb)(v:Value)(w:World):Prop:=
 ∃k:Nat,v=.I k/\k<=rs.length/\St W (wrR wb (d++aR4 (rs.take k))::R) w
theorem Nt7{rs:List Rb}{k:Nat}(h:k<rs.length):aR4 (rs.take (k+1))=aR4 (rs.take k)++(m6 rs[k].2.2.length++rs[k].2.2):=by unfold aR4;rw[List.take_succ_eq_append_getElem h,List.flatMap_append];simp[F7]
theorem JS7:∀{rs:List Rb},(∀x∈rs,x.2.2.length<=5000000)->(aR4 rs).length<=rs.length*5000009
 | [],_=>by simp[aR4]
 | x::rs,h=>by
  have h1:=JS7 (rs:=rs) fun y hy=>h y (List.mem_cons_of_mem _ hy)
  have h2:=h x (List.mem_cons_self ..);have h3:=Bb7 x.2.2;unfold aR4 at h1 ⊢;rw[List.flatMap_cons,jA,jC];omega
theorem KY7(wb:Nat)(d:List Int)(rs:List Rb)(b off c:Nat)(hd:d.length<=30000000)(hl:rs.length<=8)(hlen:∀x∈rs,x.2.2.length<=5000000)(W w:World)(R:List HP)(hcell:∀i, ∀hi:i<rs.length,i9 R b (off+i) (rbV rs[i]))(hsrc:∀x∈rs,Src R (rbV x) x.2.2.length (u8s x.2.2))(hS:St W (wrR wb d::R) w):
  Calls Tryz.prog 66 #[.P wb,.slice (some ⟨b,off,none⟩) rs.length c] w fun e w'=>e=.returned (.tuple #[])/\St W (wrR wb (d++aR4 rs)::R) w':=by
 have Hcell:=jH hcell;have Hsrc:=jH hsrc;have Hlen:=jH hlen;clear hcell hsrc hlen;go_enter Tryz.func66,Tryz.ntmps66;go_wp2_with(fail)
 go_loopw [8] (fun v wr=>hO4 W R wb d rs v wr) (fun v _=>rs.length-(intOf v).toNat)
 case atStart=>exact⟨0,rfl,Nat.zero_le _,by simpa[aR4]using hS⟩
 case round=>
  clear hS;obtain⟨k,rfl,hkl,hS⟩:=hrel;by_cases hkn:k=rs.length
  ·subst hkn;have d3:decide ((rs.length:Int)<(rs.length:Int))=false:=by simp
   rw[List.take_length]at hS;go_wp2_with(fail);go_end0;exact⟨rfl,hS⟩
  ·have hk1:k<rs.length:=by omega
   have dk:decide ((k:Int)<(rs.length:Int))=true:=by simp;omega
   have hc:=(Hcell.out k hk1).there (X:=wrR wb (d++aR4 (rs.take k)));have hs:=Hsrc.out _ (jW hk1);have hln:=Hlen.out _ (jW hk1);have hst:=Nt7 hk1;have htl:=JS7 (rs:=rs.take k) fun x hx=>Hlen.out x (List.mem_of_mem_take hx)
   rw[jT]at htl;have hnl:=Ak7 (rs[k].2.2.length:Int);generalize rs[k]=x at hc hs hln hst hnl;obtain⟨xa,xc,r⟩:=x;simp only at hc hs hln hst hnl;generalize hE:aR4 (rs.take k)=E at hS hst htl hc;have hdl:(d++E).length<=80000000:=by rw[jA];omega
   have Hs:=jH hs;have Hst:=jH hst;have Hdl:=jH hdl;have hdl2:(d++E++m6 (r.length:Int)).length<=90000000:=by rw[jA];omega
   have Hdl2:=jH hdl2;clear hs hst htl hE hkn hkl hdl hdl2;go_wp2_with(first|refine zl1 hS ?_ (hc:=by exact hc)|refine zbs hS ?_;clear hS;intro bS w hS|go_at_call 65;refine(bq4 wb _ (r.length:Int) bS 1 (by have:=Hdl.out;omega) ⟨by omega,by omega⟩ W _ _ (hS.s (wrR wb (d++E)::blk bS _ _::R))).mono ?_;clear hS;rintro e w ⟨rfl,hS⟩|go_at_call 132;refine(gV4 wb _ xa xc r Hdl2.out (by omega) W _ _ Hs.out.there hS).mono ?_;clear hS;rintro e w ⟨rfl,hS⟩);go_roundw
   case rel=>exact⟨k+1,rfl,hk1,by rw[Hst.out,<-jS,<-jS];exact hS.s _⟩
   case measure=>simp[intOf];omega
structure RpOk(r:Rpl):Prop where
 e0:0<=r.err
 e1:r.err<=19
 i0:0<=r.id
 i1:r.id<=1099511627776
 has:x8 r.has=true
def rpB(r:Rpl):List Int:=r7 [r.err,r.id]++r7 [r.has.x0,r.has.x1,r.has.x2,r.has.x3]
theorem AM7(l:List Int):(r7 l).length<=l.length*9:=by
 induction l with
 | nil=>simp[r7]
 | cons x l ih=>
  have:=Ak7 x;unfold r7 at ih ⊢;rw[List.flatMap_cons,jA,jC];omega
theorem DT7(r:Rpl):(rpB r).length<=54:=by have h1:=AM7 [r.err,r.id];have h2:=AM7 [r.has.x0,r.has.x1,r.has.x2,r.has.x3];unfold rpB;rw[jA];simp only[jC,List.length_nil]at h1 h2;omega
theorem Uq7(r:Rpl):0<(rpB r).length:=by have:=Ex7 r.err;unfold rpB r7;rw[List.flatMap_cons,jS,jA];omega
theorem PM7{e i x0 x1 x2 x3:Int}(h:RpOk ⟨e,i,⟨x0,x1,x2,x3⟩⟩)(W w:World)(R:List HP)(hS:St W R w):
  Calls Tryz.prog 136 #[rV e i x0 x1 x2 x3] w fun x w'=>x=.returned (.bool true)/\St W R w':=by
 have d0:decide (0<=e)=true:=by simpa using h.e0
 have d1:decide (e<=19)=true:=by simpa using h.e1
 have d2:decide (0<=i)=true:=by simpa using h.i0
 have d3:decide (i<=1099511627776)=true:=by simpa using h.i1
 have Hi:=jH h.has;clear h;go_enter Tryz.func136,Tryz.ntmps136;go_wp2_with(first|refine zbx hS ?_;clear hS;intro bO w hS|refine zl1 hS ?_|refine zlN hS ?_ (vs:=[.I x0,.I x1,.I x2,.I x3]) (hc:=by exact i8.here rfl)|go_at_call 126;refine(bb4 _ _ _ _ W _ _ hS).mono ?_;clear hS;rw[Hi.out];rintro e w ⟨rfl,hS⟩);go_ret;exact⟨rfl,hS.drop⟩
theorem dh4(wb:Nat)(d:List Int)(x y:Int)(b c:Nat)(hd:d.length<=90000000)(hx : -9223372036854775808<=x/\x<=9223372036854775807)(hy : -9223372036854775808<=y/\y<=9223372036854775807)(W w:World)(R:List HP)(hS:St W (wrR wb d::blk b [.I x,.I y] 3::R) w):
  Calls Tryz.prog 65 #[.P wb,.S b 2 c] w fun e w'=>e=.returned (.tuple #[])/\St W (wrR wb (d++r7 [x,y])::blk b [.I x,.I y] 3::R) w':=
 OQ7 wb d [x,y] b c hd (by simp) (fun z hz=>by
  rcases List.mem_cons.1 hz with rfl|hz
  ·exact hx
  ·rw[List.mem_singleton.1 hz];exact hy) W w R hS
theorem KZ7{e i x0 x1 x2 x3:Int}(h:RpOk ⟨e,i,⟨x0,x1,x2,x3⟩⟩)(W w:World)(R:List HP)(hS:St W R w):
  Calls Tryz.prog 70 #[rV e i x0 x1 x2 x3] w fun x w'=>∃v,x=.returned (.tuple #[v,.I 0])/\St W (byR v (rpB ⟨e,i,⟨x0,x1,x2,x3⟩⟩)::R) w':=by
 have hl:=DT7 ⟨e,i,⟨x0,x1,x2,x3⟩⟩;have hp:=Uq7 ⟨e,i,⟨x0,x1,x2,x3⟩⟩;have he:rpB ⟨e,i,⟨x0,x1,x2,x3⟩⟩=r7 [e,i]++r7 [x0,x1,x2,x3]:=rfl;have hit:=Af7.1 h.has;obtain⟨⟨a0,a1⟩,⟨b0,b1⟩,⟨c0,c1⟩,⟨f0,f1⟩⟩:=hit;simp only at a0 a1 b0 b1 c0 c1 f0 f1;have e0:=h.e0;have e1:=h.e1;have i0:=h.i0;have i1:=h.i1;simp only at e0 e1 i0 i1
 have hn4:∀x∈[x0,x1,x2,x3], -9223372036854775808<=x/\x<=9223372036854775807:=by
  intro x hx;simp only[List.mem_cons,List.not_mem_nil,or_false]at hx
  rcases hx with rfl|rfl|rfl|rfl <;> constructor <;> omega
 have hd2:(r7 [e,i]).length<=90000000:=by have:=AM7 [e,i];simp only[jC,List.length_nil]at this;omega
 have Hn4:=jH hn4;have He:=jH he;have Hd2:=jH hd2;have Hh:=jH h;rw[he]at hl hp;have Hl:=jH hl;have Hp:=jH hp;clear hn4 h hd2 he hl hp;go_enter Tryz.func70,Tryz.ntmps70;go_wp2_with(first|refine zbx hS ?_;clear hS;intro bO w hS|refine zl1 hS ?_|refine zlN hS ?_|go_at_call 136;refine(PM7 Hh.out W _ _ hS).mono ?_;clear hS;rintro x w ⟨rfl,hS⟩|refine zal hS ?_;clear hS;intro wb w hS|refine zbs hS ?_;clear hS;intro bS w hS|(fail_if_success (have:=mN));go_at_call 65;refine(dh4 wb [] e i bS 2 (by simp) ⟨by omega,by omega⟩ ⟨by omega,by omega⟩ W _ _ (eK4 (hS.s (blk wb _ _::blk bS _ _::blk bO _ _::R)))).mono ?_;clear hS;rw[jN];rintro x w ⟨rfl,hS⟩;have mN:Nat:=0|(have:=mN);go_at_call 65;refine(dx4 wb (r7 [e,i]) x0 x1 x2 x3 bO 2 4 Hd2.out Hn4.out W _ _ (i9.there (i9.here rfl)) (i9.there (i9.here rfl)) (i9.there (i9.here rfl)) (i9.there (i9.here rfl)) hS).mono ?_;clear hS;rintro x w ⟨rfl,hS⟩|go_at_call 72;refine(eJ4 wb _ (by have:=Hl.out;omega) Hp.out W _ _ hS).mono ?_;clear hS;rintro x w ⟨v,rfl,hS⟩);go_ret2;refine⟨v,rfl,?_⟩;rw[He.out];exact hS.s _
def cR4(x:Int×Int):Prop:=(1<=x.1/\x.1<=1048576)/\1<=x.2/\x.2<=1099511627776
structure TnOk(t:Tns):Prop where
 w:cR4 (t.client,t.seq)
 ak:t.ak.size<=16
 aw:t.aw.size<=16
 tk:t.tk.size<=16
 tw:t.tw.size<=16
 i0:0<=t.item
 i1:t.item<4
 c0:1<=t.cnt
 c1:t.cnt<=1048576
structure EnOk(e:Ec)(n:Nat):Prop where
 ok:EOk e n
 vk:∀x∈e.vs,x.1.size<=16
 sw:∀x∈e.ss,cR4 (x.1,x.2.1)
 sr:∀x∈e.ss,RpOk x.2.2
 tw:∀x∈e.ts,TnOk x.2/\x.1=(x.2.client,x.2.seq)
 aw:∀x∈e.ar,cR4 x.1
 lv:e.vs.length<=n
 ls:e.ss.length<=n
 lt:e.ts.length<=n
 la:e.ar.length<=n
theorem gW4:EnOk ec0 0:=⟨fV4 0,fun _ h=>(by cases h),fun _ h=>(by cases h),fun _ h=>(by cases h),fun _ h=>(by cases h),fun _ h=>(by cases h),Nat.le_refl _,Nat.le_refl _,Nat.le_refl _,Nat.le_refl _⟩
theorem EnOk.on{e:Ec}{n:Nat}(h:EnOk e n):EnOk e (n+1):=⟨fun x hx=>(h.ok x hx).on,h.vk,h.sw,h.sr,h.tw,h.aw,Nat.le_succ_of_le h.lv,Nat.le_succ_of_le h.ls,Nat.le_succ_of_le h.lt,Nat.le_succ_of_le h.la⟩
theorem fA4:RpOk rp0:=⟨by decide,by decide,by decide,by decide,rfl⟩
theorem z00:(0:Int)<=0:=by decide
theorem z19:(0:Int)<=19:=by decide
theorem z40:(0:Int)<=1099511627776:=by decide
theorem Vq7{V:Vs}{o:Opn}(hp:N5 V.ps)(hn:1<=V.n):RpOk (doV V o).1:=by
 unfold doV;split
 ·have:Q5 V.ps o.aw (B5 o.item o.cnt)=0\/Q5 V.ps o.aw (B5 o.item o.cnt)=6\/Q5 V.ps o.aw (B5 o.item o.cnt)=1:=by
   unfold Q5
   repeat' split
   all_goals simp
  exact⟨by show 0<=Q5 V.ps o.aw (B5 o.item o.cnt);omega,by show Q5 V.ps o.aw (B5 o.item o.cnt)<=19;omega,z00,z40,rfl⟩
 split
 ·have:A5 V.ps o.aw (B5 o.item o.cnt)=0\/A5 V.ps o.aw (B5 o.item o.cnt)=14\/A5 V.ps o.aw (B5 o.item o.cnt)=1:=by
   unfold A5
   repeat' split
   all_goals simp
  exact⟨by show 0<=A5 V.ps o.aw (B5 o.item o.cnt);omega,by show A5 V.ps o.aw (B5 o.item o.cnt)<=19;omega,z00,z40,rfl⟩
 split
 ·have:((E6 V (aV4 o)).2.1=0\/(E6 V (aV4 o)).2.1=1\/(E6 V (aV4 o)).2.1=6\/(E6 V (aV4 o)).2.1=14)/\0<=(E6 V (aV4 o)).1/\(E6 V (aV4 o)).1<=1099511627776:=by
   unfold E6;split
   ·simp
   ·split
    ·simp
    ·rename_i h
     split
     ·refine⟨.inl rfl,by show 0<=V.n;omega,by show V.n<=1099511627776;omega⟩
     ·simp
  obtain⟨h1,h2,h3⟩:=this;exact⟨by show 0<=(E6 V (aV4 o)).2.1;omega,by show(E6 V (aV4 o)).2.1<=19;omega,h2,h3,rfl⟩
 split
 ·have:(F6 V o.aw o.id).1=0\/(F6 V o.aw o.id).1=7:=by
   unfold F6;split
   ·exact .inl rfl
   ·exact .inr rfl
  exact⟨by show 0<=(F6 V o.aw o.id).1;omega,by show(F6 V o.aw o.id).1<=19;omega,z00,z40,rfl⟩
 split
 ·exact⟨z00,z19,z00,z40,hp _⟩
 split
 ·exact fA4
 ·exact fA4
theorem Mr7{u:ByteArray}(h:C8 u=true):u.size<=16:=Dh7 h
theorem JT7{o:Opn}(hm:C5 o=true):cR4 (o.client,o.seq)/\o.ak.size<=16/\o.aw.size<=16:=by unfold C5 K6 ax4 at hm;simp only[jB,decide_eq_true_eq]at hm;obtain⟨⟨h1,h2,h3,h4,h5,h6⟩,_⟩:=hm;exact⟨⟨⟨h1,h2⟩,h3,h4⟩,Mr7 h5,Mr7 h6⟩
theorem GW7{o:Opn}(hm:C5 o=true)(hk:o.kind=2):TnOk (dp4 o):=by obtain⟨h1,h2,h3⟩:=JT7 hm;have hc:=HH7 hm (.inr (.inl hk));unfold C5 M7 at hm;rw[if_neg (by omega),if_pos hk]at hm;unfold R6 ax4 at hm;simp only[jB,decide_eq_true_eq]at hm;obtain⟨_,⟨h4,h5⟩,_⟩:=hm;exact⟨h1,h2,h3,Mr7 h4,Mr7 h5,hc.1.1,by have:=hc.1.2;show o.item<4;omega,hc.2.1,hc.2.2.1⟩
theorem Iv7{κ ν:Type}[DecidableEq κ](l:List (κ×ν))(k:κ):(j9 l k).length<=l.length:=List.length_filter_le _ _
theorem DU7{κ ν:Type}[DecidableEq κ]{l:List (κ×ν)}{k:κ}{x:κ×ν}(h:x∈j9 l k):x∈l:=(List.mem_filter.1 h).1
theorem EnOk.app{e:Ec}{n:Nat}(h:EnOk e n)(o:Opn)(hok:EOk (M8 e o).2.2 (n+1)):EnOk (M8 e o).2.2 (n+1):=by
 cases hp:G9 e o with
 | mk r b=>
 cases b with
 | true=>
  rw[CU7 hp];exact h.on
 | false=>
  obtain⟨rfl,hm⟩:=BC7 hp;rw[CV7 hp]at hok ⊢;dsimp only at hok ⊢;obtain⟨hw,hak,haw⟩:=JT7 hm
  have hV:N5 (atV e o.ak).ps/\1<=(atV e o.ak).n:=by
   unfold atV
   cases hg:m7 e.vs o.ak with
   | none=>exact⟨Ek7,by decide⟩
   | some V=>exact⟨(h.ok _ (AI7 hg)).ok,(h.ok _ (AI7 hg)).n0⟩
  have hrp:=Vq7 (o:=o) hV.1 hV.2;have hlv:=h.lv;have hls:=h.ls;have hlt:=h.lt;have hla:=h.la;refine⟨hok,?_,?_,?_,?_,?_,?_,?_,?_,?_⟩
  ·intro x hx;have hx2:x∈(if C6 (doV (atV e o.ak) o).2=true then j9 e.vs o.ak else(o.ak,(doV (atV e o.ak) o).2)::j9 e.vs o.ak):=hx;split at hx2
   ·exact h.vk x (DU7 hx2)
   ·rcases List.mem_cons.1 hx2 with rfl|hx2
    ·exact hak
    ·exact h.vk x (DU7 hx2)
  ·intro x hx;have hx2:x∈doS e o (doV (atV e o.ak) o).1:=hx;unfold doS at hx2;split at hx2
   ·exact h.sw x hx2
   ·rcases List.mem_cons.1 hx2 with rfl|hx2
    ·exact hw
    ·exact h.sw x (DU7 hx2)
  ·intro x hx;have hx2:x∈doS e o (doV (atV e o.ak) o).1:=hx;unfold doS at hx2;split at hx2
   ·exact h.sr x hx2
   ·rcases List.mem_cons.1 hx2 with rfl|hx2
    ·exact hrp
    ·exact h.sr x (DU7 hx2)
  ·intro x hx;have hx2:x∈doT e o (doV (atV e o.ak) o).1:=hx;unfold doT at hx2;split at hx2
   ·rename_i h2
    rcases List.mem_cons.1 hx2 with rfl|hx2
    ·exact⟨GW7 hm h2.1,rfl⟩
    ·exact h.tw x (DU7 hx2)
   ·split at hx2
    ·exact h.tw x (DU7 hx2)
    ·exact h.tw x hx2
  ·intro x hx;have hx2:x∈doA e o:=hx;unfold doA at hx2;split at hx2
   ·rcases List.mem_cons.1 hx2 with rfl|hx2
    ·exact hw
    ·exact h.aw x (DU7 hx2)
   ·exact h.aw x hx2
  ·show(if C6 (doV (atV e o.ak) o).2=true then j9 e.vs o.ak else(o.ak,(doV (atV e o.ak) o).2)::j9 e.vs o.ak).length<=n+1
   have:=Iv7 e.vs o.ak;split
   ·omega
   ·rw[jC];omega
  ·show(doS e o (doV (atV e o.ak) o).1).length<=n+1
   have:=Iv7 e.ss o.client;unfold doS;split
   ·omega
   ·rw[jC];omega
  ·show(doT e o (doV (atV e o.ak) o).1).length<=n+1
   have:=Iv7 e.ts (o.client,o.seq);unfold doT;split
   ·rw[jC];omega
   ·split <;> omega
  ·show(doA e o).length<=n+1
   have:=Iv7 e.ar (o.client,o.seq);unfold doA;split
   ·rw[jC];omega
   ·omega
end Go.Proofs.YtlmhakmoioogaaaGreat
end
section
namespace Go.Proofs.YtlmhakmoioogaaaGreat
open Go.Shelf
def Tryz.keysV_ren:Go.Shelf.Ren:=⟨fun|7=>63|10=>131|n=>n,fun|23=>79|26=>9|3=>100|28=>115|0=>0|27=>114|33=>178|4=>4|n=>n,fun|n=>n⟩
theorem Tryz.keysV:Go.Proofs.SlLaysZ.n7 Tryz.prog Tryz.keysV_ren:={
 mixed:=by kernel_rfl
 f7:=⟨Tryz.f63.name,by decide,Tryz.func63.trans (congrArg some (by kernel_rfl))⟩
 f10:=⟨Tryz.f131.name,by decide,Tryz.func131.trans (congrArg some (by kernel_rfl))⟩
 t0:=Tryz.underlying0
 a0:=Tryz.isAgg0
 z0:=Tryz.sizeOf0
 v0:=Tryz.zeroValue0
 t4:=Tryz.underlying4
 a4:=Tryz.isAgg4
 z4:=Tryz.sizeOf4
 v4:=Tryz.zeroValue4
 t23:=Tryz.underlying79
 a23:=Tryz.isAgg79
 z23:=Tryz.sizeOf79
 v23:=Tryz.zeroValue79
 t26:=Tryz.underlying9
 a26:=Tryz.isAgg9
 z26:=Tryz.sizeOf9
 v26:=Tryz.zeroValue9
 t27:=Tryz.underlying114
 a27:=Tryz.isAgg114
 z27:=Tryz.sizeOf114
 v27:=Tryz.zeroValue114
 t28:=Tryz.underlying115
 a28:=Tryz.isAgg115
 z28:=Tryz.sizeOf115
 v28:=Tryz.zeroValue115
 t33:=Tryz.underlying178
 a33:=Tryz.isAgg178
 z33:=Tryz.sizeOf178
 v33:=Tryz.zeroValue178 }
end Go.Proofs.YtlmhakmoioogaaaGreat
end
section
namespace Go.Proofs.YtlmhakmoioogaaaGreat
open Go.RowKit Go.Maps Go.Sort Go.Shelf Go.Sl
theorem Nu7(mb:Option Nat)(W w:World)(L:List HP)(hS:St W L w):
  Calls Tryz.prog 63 #[.map mb] w fun e w'=>∃g,e=.returned (.func (.func 131) #[] #[.P g])/\St W (blk g [.map mb] 79::L) w':=by
 have cK:CallsIn Fence.wide 5 Tryz.prog 63 #[.map mb] w fun e w'=>e=.returned (.func (.func 131) #[] #[.pointer (some ⟨w.heap.size,0,none⟩)])/\w'=w.alloc (.cells #[.map mb] 79):=AnyZ.keys_in Tryz.keysV Fence.wide 5 trivial rfl mb w
 refine((callsIn_wide (n:=5)).1 cK).mono ?_;rintro e w' ⟨rfl,rfl⟩;exact⟨_,rfl,hS.alloc _⟩
section
variable{ν:Type}{ev:ν->Value}{W w:World}{L:List HP}{b g:Nat}
theorem JU7{l:List (ByteArray×ν)}(hwf:∀x∈l,x.1.size<=maxLen)(hl:l.length<=1000000000)(hS:St W (blk g [.map (some b)] 79::d8 eS ev b l::L) w):
  Calls Tryz.prog 62 #[.func (.func 131) #[] #[.P g]] w fun e w'=>∃v,e=.returned v/\St W (row v 1 9 l.length ((bj4 (l.map (·.1))).map eS)::d8 eS ev b l::L) w':=by
 obtain⟨D,hD1,hD2,hD3⟩:=eE4 hS.drop hwf (by unfold maxLen;omega)
 have hseq:SeqGives Fence.wide 2 Tryz.prog 131 #[.P g] encStr (fun ss=>ss.Perm (strKeys D)) (Maps.size D) w:=
  AnyZ.keys_gives (ρ:=Tryz.keysV_ren) { Tryz.keysV with } Fence.wide _ trivial rfl (by omega) g b l.length D _ (Array.getElem?_eq_some_iff.1 (hS.get (b:=g) .head)).1 (hS.cell (b:=g) (off:=0) .head rfl) hD1
 have cS:=AnyZ.sorted_in Tryz.sortedS Fence.wide 5 trivial trivial trivial trivial rfl (by omega) (eD4 _) (enters_of Tryz.func130 (by kernel_rfl) rfl) 131 #[.P g] trivial (enters_of Tryz.func131 (by kernel_rfl) rfl) _ _ (by rw[hD2];unfold maxLen;omega) (by rw[hD2];omega) _ hseq;change CallsIn _ _ Tryz.prog 62 _ _ _ at cS;refine((callsIn_wide (n:=5)).1 cS).mono ?_;rintro e w' ⟨v,ss,rfl,hP,hrow,hnil,hb⟩;refine⟨v,rfl,?_⟩;have hp:=hP.trans hD3;have e:=LL7 (l:=l.map (·.1)) (ss:=ss) (by rw[List.map_map];exact hp);rw[e,show ss.length=l.length by rw[hp.length_eq,jM]]at hrow;exact(hS.drop).called hb hrow
end
theorem DV7{l l':List ByteArray}(h:l.Perm l'):bj4 l=bj4 l':=
 List.Perm.eq_of_pairwise (fun a b _ _ h1 h2=>FN7 h1 h2) (AR7 l) (AR7 l') (((Ax7 l).trans h).trans (Ax7 l').symm)
theorem Vr7{x y:ByteArray}(h:ltB x y=true):leB x y=true:=Er7 h
theorem GX7{ν:Type}{l:List (ByteArray×ν)}(h:Asc ltB l):bj4 (l.map (·.1))=l.map (·.1):=by refine List.Perm.eq_of_pairwise (fun a b _ _ h1 h2=>FN7 h1 h2) (AR7 _) ?_ (Ax7 _);exact List.pairwise_map.2 (List.Pairwise.imp (fun h=>Vr7 h) h)
def ksE(e:Ec):List ByteArray:=bj4 (e.vs.map (·.1))
theorem Iw7(e:Ec):(ksE e).length=e.vs.length:=by unfold ksE;rw[(Ax7 _).length_eq,jM]
theorem Ur7{d e:Ec}(h:SimE d e):d.vs.map (·.1)=ksE e:=by unfold ksE;rw[<-GX7 h.va,DV7 (h.v.map _)]
abbrev bs4(v:Value)(l:List ByteArray):HP:=row v 1 9 l.length (l.map eS)
theorem JV7{eb:Nat}{e:Ec}(hk:∀x∈e.vs,x.1.size<=maxLen)(hl:e.vs.length<=1000000)(W w:World)(R:List HP)(hS:St W (ecP eb e::R) w):
  Calls Tryz.prog 25 #[.P eb] w fun x w'=>∃v,x=.returned v/\St W (bs4 v (ksE e)::ecP eb e::R) w':=by
 obtain⟨m1,m2,m3,m4,E,hp,hn,hS0⟩:=av4 hS;have hS1:=G6 hS0;clear hS hS0;have hpk:((j6 E).map (·.1)).Perm (e.vs.map (·.1)):=by rw[AV7,<-BA7];exact hp.map _
 have hks:bj4 ((j6 E).map (·.1))=ksE e:=DV7 hpk;have hlk:(j6 E).length=(ksE e).length:=by rw[Iw7];have:=hpk.length_eq;rw[jM,jM]at this;exact this
 have hwf:∀x∈j6 E,x.1.size<=maxLen:=fun x hx=>by have h1:=hpk.mem_iff.1 (List.mem_map.2 ⟨x,hx,rfl⟩);obtain⟨y,hy,hxy⟩:=List.mem_map.1 h1;rw[<-hxy];exact hk y hy
 have hl2:(j6 E).length<=1000000000:=by rw[hlk,Iw7];omega
 have Hp:=jH hp;have Hks:=jH hks;have Hlk:=jH hlk;have Hwf:=jH hwf;have Hl2:=jH hl2;clear hp hn hpk hks hlk hwf hl2 hl;have hS:=hS1;clear hS1;go_enter Tryz.func25,Tryz.ntmps25;go_wp2_with(first|go_big_skip|refine zl1 hS ?_|go_at_call 63;refine(Nu7 (some m1) W _ _ hS).mono ?_;clear hS;rintro x w ⟨g,rfl,hS⟩|go_at_call 62;refine(JU7 (g:=g) (b:=m1) (ev:=eN) (l:=j6 E) Hwf.out Hl2.out (hS.s (blk g _ _::d8 eS eN m1 (j6 E)::ebB eb m1 m2 m3 m4::m9 E::d8 eI eSs m2 e.ss::d8 eW eTn m3 e.ts::d8 eW eU m4 e.ar::R))).mono ?_;clear hS;rintro x w ⟨v,rfl,hS⟩);go_ret;rw[Hks.out,Hlk.out]at hS;have h1:=hS.s (ebB eb m1 m2 m3 m4::d8 eS eN m1 (j6 E)::m9 E::d8 eI eSs m2 e.ss::d8 eW eTn m3 e.ts::d8 eW eU m4 e.ar::bs4 v (ksE e)::R);exact⟨v,rfl,(S8 Hp.out h1).swap⟩
end Go.Proofs.YtlmhakmoioogaaaGreat
end
section
namespace Go.Proofs.YtlmhakmoioogaaaGreat
open Go.RowKit Go.Sl
def bi4:List (ByteArray×Vs)->Nat
 | []=>0
 | x::l=>x.2.ps.length+bi4 l
theorem JW7{l l':List (ByteArray×Vs)}(h:l.Perm l'):bi4 l=bi4 l':=by
 induction h with
 | nil=>rfl
 | cons x _ ih=>rw[bi4,bi4,ih]
 | swap x y l=>rw[bi4,bi4,bi4,bi4];omega
 | trans _ _ h1 h2=>rw[h1,h2]
theorem RZ7{l:List (ByteArray×Vs)}(hn:(l.map (·.1)).Nodup)(u:ByteArray):bi4 l=((m7 l u).getD vs0).ps.length+bi4 (j9 l u):=by
 cases hg:m7 l u with
 | none=>rw[BN7 (BY7 hg)];show _=0+_;omega
 | some V=>rw[JW7 (BB7 hn hg)];rfl
theorem Sa7{p:Ps}{N:Nat}(h:PsW p N):PsW p p.length:=⟨h.nd,h.nz,h.who,Nat.le_refl _⟩
theorem PN7{V:Vs}{i:Nat}{o:Opn}(h:VOk V.ps V.n i)(hL:∀x∈V.L,MayP x)(hl:V.L.length<=32):(doV V o).2.ps.length<=V.ps.length+100:=by
 have hw:=Sa7 h.w;unfold doV;split
 ·have:=(Kz7 hw o.aw (B5 o.item o.cnt)).len;show(M5 V.ps o.aw (B5 o.item o.cnt)).length<=_
  omega
 split
 ·have:=(FO7 hw o.aw (B5 o.item o.cnt)).len;show(A8 V.ps o.aw (B5 o.item o.cnt)).length<=_
  omega
 split
 ·exact(SI7 (o:=aV4 o) hw hL hl).len
 split
 ·exact(SJ7 (who:=o.aw) (id:=o.id) hw hL).len
 split
 ·show V.ps.length<=_
  omega
 split
 ·have:=(Kz7 hw o.aw (B5 o.item o.cnt)).len;show(M5 V.ps o.aw (B5 o.item o.cnt)).length<=_
  omega
 ·show V.ps.length<=_
  omega
structure EnL(e:Ec)(n:Nat):Prop where
 en:EnOk e n
 nd:(e.vs.map (·.1)).Nodup
 ln:bi4 e.vs<=100*n
theorem hP4:EnL ec0 0:=⟨gW4,List.nodup_nil,Nat.le_refl _⟩
theorem PO7{e:Ec}(hn:(e.vs.map (·.1)).Nodup)(k:ByteArray)(V:Vs):((bL4 e k V).vs.map (·.1)).Nodup:=by
 show((if C6 V=true then j9 e.vs k else(k,V)::j9 e.vs k).map (·.1)).Nodup
 have h1:((j9 e.vs k).map (·.1)).Nodup:=hn.sublist (List.filter_sublist.map _);split
 ·exact h1
 ·rw[List.map_cons,List.nodup_cons];refine⟨fun h=>?_,h1⟩;obtain⟨x,hx,hk⟩:=List.mem_map.1 h;have:=(List.mem_filter.1 hx).2;simp only[ne_eq,decide_not,Bool.not_eq_eq_eq_not,Bool.not_true,decide_eq_false_iff_not]at this;exact this hk
theorem EnL.app{e:Ec}{n:Nat}(h:EnL e n)(he:aQ4 e)(o:Opn)(hok:EOk (M8 e o).2.2 (n+1)):EnL (M8 e o).2.2 (n+1):=by
 refine⟨h.en.app o hok,?_,?_⟩
 ·cases hp:G9 e o with
  | mk r b=>
  cases b with
  | true=>rw[CU7 hp];exact h.nd
  | false=>
   obtain⟨rfl,hm⟩:=BC7 hp;rw[CV7 hp];exact PO7 h.nd _ _
 ·cases hp:G9 e o with
  | mk r b=>
  cases b with
  | true=>rw[CU7 hp];have:=h.ln;show bi4 e.vs<=_;omega
  | false=>
   obtain⟨rfl,hm⟩:=BC7 hp;rw[CV7 hp];show bi4 (if C6 (doV (atV e o.ak) o).2=true then j9 e.vs o.ak else(o.ak,(doV (atV e o.ak) o).2)::j9 e.vs o.ak)<=_
   have h1:=RZ7 h.nd o.ak;have h2:=h.ln
   have h3:(doV (atV e o.ak) o).2.ps.length<=(atV e o.ak).ps.length+100:=by
    unfold atV
    cases hg:m7 e.vs o.ak with
    | none=>exact PN7 (i:=0) (V:=vs0) gk4 (fun x hx=>(by cases hx)) (Nat.zero_le _)
    | some V=>
     have hm:=AI7 hg;exact PN7 (h.en.ok _ hm) (he _ hm).1 (he _ hm).2
   unfold atV at h3 ⊢;split
   ·omega
   ·show(doV ((m7 e.vs o.ak).getD vs0) o).2.ps.length+bi4 (j9 e.vs o.ak)<=_
    omega
theorem PP7{p:Ps}{L:List Ord}{n:Int}{N:Nat}(hw:PsW p N)(hL:∀x∈L,MayP x)(hl:L.length<=32):(I5 p L n).length<=70*p.length+2300:=by
 have h1:=Ak7 ((hdL p).length:Int);have h2:=Ak7 (L.length:Int);have h3:=Ak7 n;have h4:=Bz7 T7 (hdL p) fun x hx=>Ew7 x (by have hk:x.who∈(hdL p).map Hd.who:=List.mem_map_of_mem hx;rw[DN7]at hk;obtain⟨y,hy,e⟩:=Hz7 hk;rw[<-e];exact Dh7 (hw.who y hy))
 have h5:=Bz7 S5 L fun x hx=>DB7 x (hL x hx).who1
 have h6:=Bl7 p;unfold I5;rw[jA,jA,jA,jA];omega
def enK(e:Ec)(k:ByteArray):List Int:=F7 (D6 k)++F7 (I5 (atV e k).ps (atV e k).L (atV e k).n)
theorem Vs7{e:Ec}{n:Nat}(h:EnL e n)(he:aQ4 e){x:ByteArray×Vs}(hx:x∈e.vs):(enK e x.1).length<=70*x.2.ps.length+2400:=by
 have hg:m7 e.vs x.1=some x.2:=Br7 h.nd hx;have ha:atV e x.1=x.2:=by unfold atV;rw[hg];rfl
 have h1:=PP7 (n:=x.2.n) (h.en.ok x hx).w (he x hx).1 (he x hx).2;have h2:=Bb7 (D6 x.1);have h3:=Bb7 (I5 x.2.ps x.2.L x.2.n);have h4:=h.en.vk x hx;rw[Ay7]at h2;unfold enK;rw[ha,jA];omega
theorem FZ7{e:Ec}{n:Nat}(h:EnL e n)(he:aQ4 e):∀l:List (ByteArray×Vs),(∀x∈l,x∈e.vs)->((l.map (·.1)).flatMap (enK e)).length<=70*bi4 l+2400*l.length
 | [],_=>by simp
 | x::l,hl=>by
  have h1:=FZ7 h he l fun y hy=>hl y (List.mem_cons_of_mem _ hy)
  have h2:=Vs7 h he (hl x (List.mem_cons_self ..));rw[List.map_cons,List.flatMap_cons,jA,bi4,jC];omega
theorem EP7{α:Type}(f:α->List Int)(xs:List α)(k:Nat):((xs.take k).flatMap f).length<=(xs.flatMap f).length:=by
 have e:xs.flatMap f=(xs.take k).flatMap f++(xs.drop k).flatMap f:=by rw[<-List.flatMap_append,List.take_append_drop]
 rw[e,jA];omega
theorem PQ7{e:Ec}{n:Nat}(h:EnL e n)(he:aQ4 e)(hn:n<=600):((ksE e).flatMap (enK e)).length<=6000000:=by
 have h1:=FZ7 h he e.vs fun x hx=>hx
 have h2:((ksE e).flatMap (enK e)).length=((e.vs.map (·.1)).flatMap (enK e)).length:=((Ax7 _).flatMap_right _).length_eq;have h3:=h.ln;have h4:=h.en.lv;omega
theorem Sb7{ν:Type}{ev:ν->Value}{m lp g b:Nat}{l:List ((Int×Int)×ν)}{X:List (Int×Int)->HP}{W w:World}{L:List HP}(hY:dr4 Tryz.prog eWh l.length lp W X)(hS:St W (X []::blk g [.map (some b)] 82::d8 eWh ev b l::L) w):
  CallsIn Fence.wide m Tryz.prog 137 #[.func (.yield lp) #[] #[],.P g] w fun e w'=>(∃v,e=.returned v)/\∃ss,ss.Perm (l.map (·.1))/\St W (X ss::blk g [.map (some b)] 82::d8 eWh ev b l::L) w':=by
 refine callsIn_of_wp Tryz.func137 rfl trivial ?_ rfl;simp only[Tryz.ntmps137,List.size_toArray,jC,List.length_nil,Nat.reduceAdd,Nat.reduceSub,Array.replicate_succ,Array.replicate_zero,List.push_toArray,List.append_toArray,jN,jK]
 gi_wp2_with (first|((with_reducible apply DP7 cO4 hS);rfl;rfl;rfl;decide +kernel;exact R9;go_frame)|(gi_at_range;refine Fp7 (ek:=eWh) (ev:=ev) hS rfl rfl rfl (show I9 Tryz.prog 82=some (94,4)by kernel_rfl) (by exact j5) ?_;clear hS;intro r w hS;go_frame)|gi_in)
 gi_loopw [] (fun wr=>KyR W ev X r b l (blk g [.map (some b)] 82::L) wr) (fun wr=>cH4 r b wr)
 case atStart=>exact⟨[],l,by simp,hS⟩
 case round=>
  clear hS;obtain⟨ss,todo,hp,hS⟩:=hrel;have hm:=BF7 hS
  gi_wp2_with (first|(gi_at_next;refine GN7 (ek:=eWh) (ev:=ev) hS rfl rfl rfl ?_ ?_)|gi_in)
  ·intro h0;subst h0
   gi_wp2
   go_end0;exact⟨⟨_,rfl⟩,ss,by simpa using hp,(ef4 hS).s _⟩
  ·intro y1 y2 yv todo' w2 hp2 hy hS2 hen;have hlen:=hp.length_eq;have hlen2:=hp2.length_eq;simp only[jA,jM,jC]at hlen hlen2;have hp3:(ss++[(y1,y2)]++todo'.map (·.1)).Perm (l.map (·.1)):=by rw[jS];refine List.Perm.trans ?_ hp;exact List.Perm.append_left ss (show((((y1,y2),yv)::todo').map (fun x=>x.1)).Perm (todo.map (fun x=>x.1))from(hp2.map (fun x=>x.1)).symm)
   clear hS hy hp hp2;have hS:=hS2;clear hS2
   gi_wp2_with (first|((with_reducible apply GP7 cO4 hS);rfl;rfl;exact zsS;clear hS;intro bK w hS;go_frame)|((with_reducible apply KO7 cO4 hS);rfl;rfl;rfl;(focus((conv=>lhs;whnf);try rfl));kernel_rfl;rfl;exact db4;simp only[jC,List.length_nil];omega;((simp only[List.set_cons_zero,List.set_cons_succ,E8]);rfl);clear hS;intro w hS;go_frame)|((with_reducible apply KN7 cO4 hS);rfl;rfl;rfl;decide +kernel;kernel_rfl;exact x9;go_frame)|((with_reducible apply GQ7 (k:=(y1,y2)) (pre:=ss) hY hS);rfl;rfl;rfl;rfl;omega;exact j5;clear hS;intro w hS;go_frame)|gi_in)
   go_roundw
   case rel=>exact⟨ss++[(y1,y2)],todo',hp3,hS.s _⟩
   case measure=>
    have hm2:=BF7 (hS.s (itR eWh ev r b l todo'::X (ss++[(y1,y2)])::blk g [.map (some b)] 82::L));omega
theorem Nv7(mb:Option Nat)(W w:World)(L:List HP)(hS:St W L w):
  Calls Tryz.prog 71 #[.map mb] w fun e w'=>∃g,e=.returned (.func (.func 137) #[] #[.P g])/\St W (blk g [.map mb] 82::L) w':=by
 go_enter Tryz.func71,Tryz.ntmps71;go_wp2_with(refine zbx hS ?_;clear hS;intro b w hS);go_ret;exact⟨b,rfl,hS⟩
theorem JX7:∀args w,(callFunc 137 args).run Tryz.prog w=.ok (.enter 137 args) w:=enters_of Tryz.func137 (by kernel_rfl) rfl
theorem La7{ν:Type}{ev:ν->Value}{g b:Nat}{l:List ((Int×Int)×ν)}{W:World}{R:List HP}:
  ck4 Tryz.prog eWh (l.map (·.1)).length 137 #[.P g] (fun ss=>ss.Perm (l.map (·.1))) W (blk g [.map (some b)] 82::d8 eWh ev b l::R):=
 fun lp m X w hT hS=>Sb7 (by rw[jM]at hT;exact hT) hS
theorem GY7(s:ByteArray):F7 (D6 s)=C9 s:=by unfold F7 C9;rw[Ay7]
theorem Sc7(wb:Nat)(d r:List Int)(a:Option Addr)(c b c2:Nat)(hd:d.length<=30000000)(hr:r.length<=5000000)(W w:World)(R:List HP)(hS:St W (wrR wb d::blk b [.slice a r.length c] 63::byR (.slice a r.length c) r::R) w):
  Calls Tryz.prog 66 #[.P wb,.S b 1 c2] w fun e w'=>e=.returned (.tuple #[])/\St W (wrR wb (d++F7 r)::blk b [.slice a r.length c] 63::byR (.slice a r.length c) r::R) w':=by
 have hsr:Src (byR (.slice a r.length c) r::R) (.slice a r.length c) r.length (u8s r):=St.src (by decide) hS.drop.drop
 have h:=KY7 wb d [(a,c,r)] b 0 c2 hd (by simp) (fun x hx=>by rw[List.mem_singleton.1 hx];exact hr) W w (blk b [.slice a r.length c] 63::byR (.slice a r.length c) r::R) (fun i hi=>by
  obtain rfl:i=0:=by simp at hi;omega
  exact i9.here rfl) (fun x hx=>by rw[List.mem_singleton.1 hx];exact hsr.there) hS
 have e:aR4 [(a,c,r)]=F7 r:=by unfold aR4;simp
 rw[e]at h;exact h
theorem Sd7(wb:Nat)(d:List Int)(s:ByteArray)(g9 c9:Nat)(r:List Int)(a:Option Addr)(c b c2:Nat)(hd:d.length<=30000000)(hs:s.size<=100)(hr:r.length<=5000000)(W w:World)(R:List HP)(hS:St W (wrR wb d::blk b [.S g9 s.size c9,.slice a r.length c] 63::sbR g9 s::byR (.slice a r.length c) r::R) w):
  Calls Tryz.prog 66 #[.P wb,.S b 2 c2] w fun e w'=>e=.returned (.tuple #[])/\St W (wrR wb (d++(F7 (D6 s)++F7 r))::blk b [.S g9 s.size c9,.slice a r.length c] 63::sbR g9 s::byR (.slice a r.length c) r::R) w':=by
 have hsr:Src (byR (.slice a r.length c) r::R) (.slice a r.length c) r.length (u8s r):=St.src (by decide) hS.drop.drop.drop;have hss:∀L:List HP,Src (sbR g9 s::L) (rbV (some ⟨g9,0,none⟩,c9,D6 s)) (D6 s).length (u8s (D6 s)):=fun L=>Src.mk i8.sb
 have h:=KY7 wb d [(some ⟨g9,0,none⟩,c9,D6 s),(a,c,r)] b 0 c2 hd (by simp) (fun x hx=>by
  rcases List.mem_cons.1 hx with rfl|hx
  ·show(D6 s).length<=_;rw[Ay7];omega
  ·rw[List.mem_singleton.1 hx];exact hr) W w (blk b [.S g9 s.size c9,.slice a r.length c] 63::sbR g9 s::byR (.slice a r.length c) r::R) (fun i hi=>by
  have h2:i=0\/i=1:=by simp at hi;omega
  rcases h2 with rfl|rfl
  ·show i9 _ b 0 (.S g9 (D6 s).length c9)
   rw[Ay7];exact i9.here rfl
  ·exact i9.here rfl) (fun x hx=>by
  rcases List.mem_cons.1 hx with rfl|hx
  ·exact(hss _).there
  ·rw[List.mem_singleton.1 hx];exact hsr.there.there) hS
 have e:aR4 [(some ⟨g9,0,none⟩,c9,D6 s),(a,c,r)]=F7 (D6 s)++F7 r:=by unfold aR4;simp
 rw[e]at h;exact h
abbrev sbV(g:Nat)(s:ByteArray)(c:Nat):Value:=.S g s.size c
theorem Se7(wb:Nat)(d:List Int)(s1 s2 s3 s4:ByteArray)(g1 g2 g3 g4 c1 c2 c3 c4 b c:Nat)(hd:d.length<=30000000)(h1:s1.size<=100)(h2:s2.size<=100)(h3:s3.size<=100)(h4:s4.size<=100)(W w:World)(R:List HP)(hS:St W (wrR wb d::blk b [sbV g1 s1 c1,sbV g2 s2 c2,sbV g3 s3 c3,sbV g4 s4 c4] 63::sbR g1 s1::sbR g2 s2::sbR g3 s3::sbR g4 s4::R) w):
  Calls Tryz.prog 66 #[.P wb,.S b 4 c] w fun e w'=>e=.returned (.tuple #[])/\St W (wrR wb (d++(F7 (D6 s1)++(F7 (D6 s2)++(F7 (D6 s3)++F7 (D6 s4)))))::blk b [sbV g1 s1 c1,sbV g2 s2 c2,sbV g3 s3 c3,sbV g4 s4 c4] 63::sbR g1 s1::sbR g2 s2::sbR g3 s3::sbR g4 s4::R) w':=by
 have hss:∀(g c:Nat) (s:ByteArray) (L:List HP),Src (sbR g s::L) (rbV (some ⟨g,0,none⟩,c,D6 s)) (D6 s).length (u8s (D6 s)):=fun g c s L=>Src.mk i8.sb
 have h:=KY7 wb d [(some ⟨g1,0,none⟩,c1,D6 s1),(some ⟨g2,0,none⟩,c2,D6 s2),(some ⟨g3,0,none⟩,c3,D6 s3),(some ⟨g4,0,none⟩,c4,D6 s4)] b 0 c hd (by simp) (fun x hx=>by
  simp only[List.mem_cons,List.not_mem_nil,or_false]at hx
  rcases hx with rfl|rfl|rfl|rfl
  all_goals
   dsimp only;rw[Ay7];omega) W w (blk b [sbV g1 s1 c1,sbV g2 s2 c2,sbV g3 s3 c3,sbV g4 s4 c4] 63::sbR g1 s1::sbR g2 s2::sbR g3 s3::sbR g4 s4::R) (fun i hi=>by
  have h2:i=0\/i=1\/i=2\/i=3:=by simp at hi;omega
  rcases h2 with rfl|rfl|rfl|rfl
  ·show i9 _ b 0 (.S g1 (D6 s1).length c1)
   rw[Ay7];exact i9.here rfl
  ·show i9 _ b 1 (.S g2 (D6 s2).length c2)
   rw[Ay7];exact i9.here rfl
  ·show i9 _ b 2 (.S g3 (D6 s3).length c3)
   rw[Ay7];exact i9.here rfl
  ·show i9 _ b 3 (.S g4 (D6 s4).length c4)
   rw[Ay7];exact i9.here rfl) (fun x hx=>by
  simp only[List.mem_cons,List.not_mem_nil,or_false]at hx
  rcases hx with rfl|rfl|rfl|rfl
  ·exact(hss _ _ _ _).there
  ·exact(hss _ _ _ _).there.there
  ·exact(hss _ _ _ _).there.there.there
  ·exact(hss _ _ _ _).there.there.there.there) hS
 have e:aR4 [(some ⟨g1,0,none⟩,c1,D6 s1),(some ⟨g2,0,none⟩,c2,D6 s2),(some ⟨g3,0,none⟩,c3,D6 s3),(some ⟨g4,0,none⟩,c4,D6 s4)]=F7 (D6 s1)++(F7 (D6 s2)++(F7 (D6 s3)++F7 (D6 s4))):=by unfold aR4;simp
 rw[e]at h;exact h
end Go.Proofs.YtlmhakmoioogaaaGreat
end
