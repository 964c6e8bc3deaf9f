/-
  slices.SortFunc on an owned row of orders, by their IDs.
-/
import Derived.Test.YtienbkdjkjbelaaGreatJuTM1
import Derived.Test.YtienbkdjkjbelaaGreatJuTM2
import Derived.Test.YtienbkdjkjbelaaGreatJuTM5
import Derived.Test.YtienbkdjkjbelaaGreatJuTM13
import Derived.Shelf.SlSortCmp.WholeK
import Derived.Shelf.SlicesG.Cmp
import Derived.Shelf.Small.Bits
import Derived.Test.YtienbkdjkjbelaaGreatRows
import Derived.Lib.SmallJoins
import Derived.ChangeArms
import Derived.ProofKit
set_option maxHeartbeats 16000000
set_option maxRecDepth 100000
set_option linter.unusedSimpArgs false
set_option linter.unusedVariables false
section
namespace Go.Proofs.YtienbkdjkjbelaaGreat
open Go.Shelf Go.RowKit Go.Lib Go.Sort Go.Sl
instance : Inhabited Ord := ⟨o0⟩
def di4(x y:Ord):Int:=Lib.compareInt x.id y.id
theorem ltO(x y:Ord):ltOf di4 x y=decide (x.id<y.id):=by
 unfold ltOf di4 Lib.compareInt;by_cases h1:x.id<y.id
 ·simp[h1]
 ·by_cases h2:y.id<x.id <;> simp[h1,h2]
theorem gp4:SWO (ltOf di4) where
 irrefl x:=by rw[ltO];simp
 trans x y z h1 h2:=by rw[ltO]at *;simp at *;omega
 ntrans x y z h1 h2:=by rw[ltO]at *;simp at *;omega
theorem dK4(x y:Ord)(W:World):Calls Tryz.prog 161 #[.agg x.cells.toArray,.agg y.cells.toArray] W fun e w'=>e=.returned (.I (di4 x y))/\∃q os',w'=grow (W.drewN q) os':=by
 have hcon:=fun W'=>AnyG.cmp_Compare_int Tryz.cmpInt x.id y.id W'
 change ∀W',Calls Tryz.prog 92 _ _ _ at hcon;unfold di4;obtain⟨i,u,b,t,c,p⟩:=x;obtain⟨i',u',b',t',c',p'⟩:=y;simp only[Ord.cells]at hcon ⊢;generalize Lib.compareInt i i'=r at hcon ⊢;go_enter Tryz.func161,Tryz.ntmps161;go_wp2_with(go_at_call 92;refine(hcon _).mono ?_;rintro e w' ⟨rfl,rfl⟩);go_ret;exact⟨rfl,0,_,by rw[alloc_eq_grow,alloc_eq_grow,grow_grow];rfl⟩
theorem dL4(blk off size:Nat)(w:World):CmpLays Tryz.prog 161 #[] Ord.cells 6 di4 blk off size w:=fun _ _ _ _ x y=>dK4 x y _
theorem St.grow{W w:World}{L:List HP}(h:St W L w)(os:Array Obj):St W L (Sort.grow w os):=by
 refine⟨h.os,h.tape,h.output,BK7 (S:=fun b=>decide (w.heap.size<=b)) ?_⟩
 have e:l8 (fun b=>decide (w.heap.size<=b)) (fun b=>(Sort.grow w os).heap[b]?)=fun b=>w.heap[b]? := by
  funext b
  show cond (decide (w.heap.size<=b)) none ((w.heap++os)[b]?)=w.heap[b]?
  by_cases hb:w.heap.size<=b
  ·rw[decide_eq_true hb,Array.getElem?_eq_none hb];rfl
  ·rw[decide_eq_false hb,Array.getElem?_append_left (by omega)];rfl
 rw[e];exact h.sat
theorem Fj7(l:List Ord)(junk:List Value)(j:Nat)(hj:j<l.length*6):(l.flatMap Ord.cells++junk)[j]? = some ((flatK Ord.cells 6 l.toArray)[j]!):=by
 rw[get_flatK _ _ _ _ (by simpa using hj)];have hq:j / 6<l.length:=by omega
 have h1:=AS7 Ord.len l junk (j / 6) hq (j%6) (by omega);rw[show j / 6*6+j%6=j by omega]at h1;rw[h1];have h2:l.toArray[j / 6]! = l[j / 6]:=by simp[hq]
 rw[h2,jG (by rw[Ord.len];omega)];rw[getElem!_pos _ _ (by rw[Ord.len];omega)]
theorem NW7(l:List Ord)(g cap:Nat)(junk:List Value)(h62:l.length<4611686018427387904)(W w:World)(L:List HP)(hS:St W (blk g (l.flatMap Ord.cells++junk) 173::L) w):
  Calls Tryz.prog 160 #[.S g l.length cap,.func (.func 161) #[] #[]] w fun e w'=> e=.returned (.tuple #[])/\∃l':List Ord,l'.Perm l/\l'.Pairwise (fun x y=>x.id<=y.id)/\St W (blk g (l'.flatMap Ord.cells++junk) 173::L) w':=by
 have eg:∀args w,(callFunc 161 args).run Tryz.prog w=.ok (.enter 161 args) w:=enters_of Tryz.func161 (by kernel_rfl) rfl;have hgt:=hS.get (b:=g) .head;have hblk:g<w.heap.size:=(Array.getElem?_eq_some_iff.1 hgt).1;have hH:HoldsK Ord.cells 6 w g 0 l.toArray:=by intro j hj;rw[size_flatK]at hj;refine⟨hS.cell .head ?_,hS.free .head⟩;rw[Nat.zero_add];exact Fj7 l junk j (by simpa using hj)
 have hcon:=AnyQ.slices_SortFunc Tryz.sortOrd 6 Tryz.isAgg173 Tryz.sizeOf173 Ord.cells Ord.len (fun x v hv=>by simp[Ord.cells]at hv;rcases hv with rfl|rfl|rfl|rfl|rfl|rfl <;> rfl) di4 gp4 161 #[] g 0 cap l.toArray w eg (dL4 g 0 l.toArray.size w) hH hblk (by simpa using h62);change Calls Tryz.prog 160 _ _ _ at hcon;simp only[List.size_toArray]at hcon;refine hcon.mono ?_;rintro e w' ⟨rfl,d',n,os,⟨hp1,_,hp3⟩,hs,rfl⟩;refine⟨rfl,d'.toList,?_,?_,?_⟩
 ·have e1:d'.extract 0 l.length=d':=by
   have:l.length=d'.size:=by rw[hp1];simp
   rw[this,Array.extract_size]
  have e2:l.toArray.extract 0 l.length=l.toArray:=by
   have:l.length=l.toArray.size:=by simp
   rw[this,Array.extract_size]
  rw[e1,e2]at hp3;exact hp3
 ·rw[List.pairwise_iff_getElem];intro i j hi hj hij;have:=hs i j (Nat.zero_le _) hij (by simp at hj;rw[hp1]at hj;simpa using hj);rw[ltO]at this;simp only[decide_eq_false_iff_not]at this;have hi':i<d'.size:=by simpa using hi
  have hj':j<d'.size:=by simpa using hj
  rw[getElem!_pos d' i hi',getElem!_pos d' j hj']at this;simp only[Array.getElem_toList];omega
 ·unfold sortWorldK;refine St.grow ?_ os;have hSd:St W (blk g (l.flatMap Ord.cells++junk) 173::L) (Sort.ahead w n):=⟨hS.os,hS.tape,hS.output,hS.sat⟩
  refine hSd.putO (w':=putRowK Ord.cells 6 (Sort.ahead w n) g 0 d') (o':=.cells (d'.toList.flatMap Ord.cells++junk).toArray 173 (0,0)) .head rfl rfl rfl fun k=>?_
  show((Sort.ahead w n).heap.modify g _)[k]? = _
  rw[Array.getElem?_modify];by_cases hk:k=g
  ·subst hk;rw[if_pos rfl,if_pos rfl];have hgt':(Sort.ahead w n).heap[k]? = some (.cells (l.flatMap Ord.cells++junk).toArray 173 (0,0)):=hgt;rw[hgt'];simp only[Option.map_some,Sort.onCells]
   congr 2
   have hdl:d'.toList.length=l.length:=by rw[Array.length_toList,hp1];simp
   have hf1:=Ab7 Ord.len l;have hf2:=Ab7 Ord.len d'.toList;apply Array.ext_getElem?;intro t;unfold Sort.putCells;simp only[Array.getElem?_mapIdx,List.getElem?_toArray,size_flatK,Nat.zero_le,true_and,Nat.zero_add,Nat.sub_zero,id];have hds:d'.size=l.length:=by rw[hp1];simp
   by_cases ht:t<l.length*6
   ·have h1:=Fj7 d'.toList junk t (by rw[hdl];exact ht);rw[h1,Fj7 l junk t ht];simp[hds,ht]
   ·have h2:(l.flatMap Ord.cells++junk)[t]? = (d'.toList.flatMap Ord.cells++junk)[t]? := by
     rw[List.getElem?_append_right (by omega),List.getElem?_append_right (by omega),hf1,hf2,hdl]
    rw[<-h2];simp[hds,ht]
  ·rw[if_neg (fun h=>hk h.symm),if_neg hk]
theorem Kn7(f:Value)(W w:World)(L:List HP)(hS:St W L w):
  Calls Tryz.prog 222 #[.slice none 0 0,.I 0,.I 0,f] w fun e w'=>e=.returned (.tuple #[])/\St W L w':=by
 go_enter Tryz.func222,Tryz.ntmps222;go_wp2_with fail
 go_loopw [8] (fun v wr=>v=.I 1/\St W L wr) (fun _ _=>0)
 case atStart=>exact⟨rfl,hS⟩
 case round=>
  clear hS;obtain⟨rfl,hS⟩:=hrel;go_wp2_with fail;go_end0;exact⟨rfl,hS⟩
theorem PQ7(n:Int)(f:Value)(W w:World)(L:List HP)(hS:St W L w):
  Calls Tryz.prog 206 #[.slice none 0 0,.I 0,.I 0,.I n,f] w fun e w'=>e=.returned (.tuple #[])/\St W L w':=by
 go_enter Tryz.func206,Tryz.ntmps206;go_wp2_with fail
 go_loopw [1,2] (fun v1 v2 wr=>v1=.I 0/\v2=.I 0/\St W L wr) (fun _ _ _=>0)
 case atStart=>exact⟨rfl,rfl,hS⟩
 case round=>
  clear hS;obtain⟨rfl,rfl,hS⟩:=hrel;go_wp2_with(first|go_at_call 222;refine(Kn7 _ W _ _ hS).mono ?_;clear hS;rintro e w ⟨rfl,hS⟩);refine bodyPost_ret (results_none rfl _ _ _) rfl ?_;exact⟨rfl,hS⟩
theorem NX7(f:Value)(W w:World)(L:List HP)(hS:St W L w):
  Calls Tryz.prog 160 #[.slice none 0 0,f] w fun e w'=>e=.returned (.tuple #[])/\St W L w':=by
 have hl:∀w:World,Calls Tryz.prog 127 #[.int .u64 0] w fun e w'=>(∃l:Int,e=.returned (.I l))/\w'=w:=fun w=>
  (Any.bits_Len Tryz.bitsLen 0 w (by omega) (by omega)).mono fun _ _ ⟨he,hw⟩=>⟨⟨_,he⟩,hw⟩
 go_enter Tryz.func160,Tryz.ntmps160;go_wp2_with(first|go_at_call 127;refine(hl _).mono ?_;rintro e w ⟨⟨l,rfl⟩,rfl⟩|go_at_call 206;refine(PQ7 _ _ W _ _ hS).mono ?_;clear hS;rintro e w ⟨rfl,hS⟩);go_end0;exact⟨rfl,hS⟩
end Go.Proofs.YtienbkdjkjbelaaGreat
end
section
namespace Go.Proofs.YtienbkdjkjbelaaGreat
open Go.RowKit Go.Sl
theorem Trd.len(o:Trd):o.cells.length=8:=rfl
def so(zs:List Int)(k:Nat):Ord:=⟨(k:Int)+1,⟨#[115]⟩,false,2,1,1+(zs.getD k 0)%8⟩
def bB(q:List Ord)(k:Nat):Bk:=⟨[[],[],[],[],[],[],q,[]],k⟩
def bo(want:Int):Ord:=⟨100,⟨#[98]⟩,true,2,want,1024⟩
def bt(x:Ord):Trd:=⟨⟨#[98]⟩,x.who,100,x.id,2,1,x.price,1024⟩
structure BestL(zs:List Int)(ts:List Trd):Prop where
 one:∀i (h:i<ts.length),ts[i].cnt=1/\∃k,k<zs.length/\ts[i].sell=(k:Int)+1/\ts[i].price=1+(zs.getD k 0)%8
 two:∀i (h:i+1<ts.length),ts[i].price<ts[i+1].price\/(ts[i].price=ts[i+1].price/\ts[i].sell<=ts[i+1].sell)
def sg(zs:List Int)(k:Nat):Ord:=⟨(k:Int)+1,⟨#[115]⟩,false,1,2,1+(zs.getD k 0)%8⟩
def bG(q:List Ord)(k:Nat):Bk:=⟨[[],[],[],[],[],q,[],[]],k⟩
structure GoneQ(n:Nat)(q:List Ord):Prop where
 nodup:(q.map Ord.id).Nodup
 each:∀x∈q,x.cnt=2/\x.id<=n
end Go.Proofs.YtienbkdjkjbelaaGreat
end
section
namespace Go.Proofs.YtienbkdjkjbelaaGreat
open Go.Joins Go.ChangeShapes Go.WideShapes Go.RowKit Go.Deep Go.Sl
def gT4(w:World)(v:Value)(zs:List Int):Prop:=
 (zs=[]/\∃a cap,v=.slice a 0 cap) \/
 ∃b off cap,v=.slice (some ⟨b,off,none⟩) zs.length cap/\0<zs.length/\zs.length<=9223372036854775807/\∀i,i<zs.length->w.cell? ⟨b,off+i,none⟩=some (.I (zs.getD i 0))
end Go.Proofs.YtienbkdjkjbelaaGreat
end
section
namespace Go.Proofs.YtienbkdjkjbelaaGreat
open Go.RowKit Go.Sl
def fm4(v:Value)(ks:List Int):HP:=row v 1 3 ks.length (ks.map (Value.int .i64))
def gU4(W:World)(L:List HP)(zs:List Int)(bb:Nat)(v8:Value)(w:World):Prop:=
 ∃(k:Nat) (q:List Ord),v8=.I k/\k<=zs.length/\q.length=k/\GoneQ k q/\St W (w9 bb (bG q k)::L) w
def gV4(W:World)(L:List HP)(n m:Nat)(bb:Nat)(v9 v10:Value)(w:World):Prop:=
 ∃(k:Nat) (q:List Ord) (gone:List Int),v10=.I k/\k<=m/\q.length<=20/\GoneQ n q/\gone.length=k/\(∀x∈q,x.id∉gone)/\(∀x∈gone,x<=32)/\St W (w9 bb (bG q n)::fm4 v9 gone::L) w
def gW4(W:World)(L:List HP)(n:Nat)(v:Value)(w:World):Prop:=∃i:Nat,v=.I i/\i<=n/\St W L w
end Go.Proofs.YtienbkdjkjbelaaGreat
end
section
namespace Go.Sl
open Go.RowKit
section
variable{P:Program}{ops:Array Oper}{Q:Exit->Act->World->Prop}{a:Act}{w:World}{W:World}{L L' R:List HP}{rest:List Oper}{o:Oper}
theorem Hn7{t t2 e e2:TypeId}(ht:P.underlying t=some (.slice e))(h2:P.underlying t2=some (.slice e2))(ty:TypeId)(s x:Value)(w:World):(Builtin.append_ #[t,t2] ty #[s,x]).run P w=(Builtin.append_ #[t,t] ty #[s,x]).run P w:=by
 unfold Builtin.append_;simp only[List.getElem?_toArray,List.getElem?_cons_zero,List.getElem?_cons_succ,Sem.run_bind,run_underlying ht,run_underlying h2,Result.andThen_ok]
 cases s <;> simp[run_underlying ht,run_underlying h2]
theorem Ko7{s x:Operand}{t t2 e e2:TypeId}{z:Value}{k bytes:Nat}{v xv:Value}{n m:Nat}{cs news:List Value}(hS:St W L w)(ho:o.op=.call { callee:=.builtin .append,args:=#[s,x],argTypes:=#[t,t2] })
  (hg:Region.wanted o (yielded ops a.tmps)=true) (hs:a.eval s=v) (hx:a.eval x=xv) (ht:s5 P t=some e) (ht2:s5 P t2=some e2) (hi:A8 P e=some (some z,k,bytes)) (hz:z.cells.size=k) (hk:0<k) (hu:Take L (row v k e n cs) R)
  (hsrc:Src L xv m news) (hl:news.length=m*k) (h1:news.all (·.oneCell')=true) (h63:n+m<=maxLen) (hb:(n+m)*bytes<=140737488355328)
  (h:∀v' w',St W (row v' k e (n+m) (cs++news)::R) w'->wpList P ops Q rest (a.put o.dst v') w'):wpList P ops Q (o::rest) a w:=by
 obtain⟨v',w',hr,hS'⟩:=CB7 (P:=P) (ty:=o.type) ht hi hz hk rfl hS hu (hsrc.at hS) hl h1 h63 hb;refine Am7 hg (v:=v') (w':=w') ?_ (h v' w' hS');unfold execOp;simp only[ho,resolve,invoke,builtin,Sem.run_bind,Sem.run_pure,Result.andThen_ok,List.map_toArray,List.map_cons,List.map_nil,hs,hx,Hn7 (AY7 ht) (AY7 ht2),hr]
end
end Go.Sl
end
section
namespace Go.Proofs.YtienbkdjkjbelaaGreat
open Go.RowKit Go.Sl
def ax4(ps:List (List Ord))(k:Nat):List Ord:=(br4.take k).flatMap fun o=>ps.getD o []
theorem Ho7(ps:List (List Ord))(k:Nat)(hk:k<=8):(ax4 ps k).length=t8 ps k:=by
 obtain h|h|h|h|h|h|h|h|h:k=0\/k=1\/k=2\/k=3\/k=4\/k=5\/k=6\/k=7\/k=8:=by omega
 all_goals subst h
 all_goals simp[ax4,t8,br4]
 all_goals omega
theorem Kp7(ps:List (List Ord)){k o:Nat}(h:br4.drop k=o::br4.drop (k+1)):ax4 ps (k+1)=ax4 ps k++ps.getD o []:=by
 have h1:br4[k]? = some o:=by have:=congrArg List.head? h;simpa[List.head?_drop]using this
 unfold ax4;rw[List.take_add_one,h1];simp
theorem St.src{W w:World}{L:List HP}{v:Value}{k n:Nat}{T:TypeId}{cs:List Value}(hk:0<k)(h:St W (row v k T n cs::L) w):Src (row v k T n cs::L) v n cs:=by
 rcases h.rowOpen with ⟨rfl,rfl,rfl,_⟩|⟨g,cap,junk,rfl,hn1,hm1,hj1,hl1,_⟩
 ·exact .inl ⟨rfl,rfl,rfl⟩
 ·refine .inr ⟨g,0,cap,rfl,fun j u hj=>?_⟩;rw[Nat.zero_add];have hjl:=(List.getElem?_eq_some_iff.1 hj).1;refine i6.row ?_ hj
  rcases Nat.eq_zero_or_pos n with h0|h0
  ·rw[hl1,h0,Nat.zero_mul]at hjl;omega
  ·exact h0
def eh4(W:World)(L:List HP)(bb:Nat)(b:Bk)(v3 v11:Value)(w:World):Prop:=
 ∃k:Nat,v11=.I k/\k<=8/\St W (j7 v3 (ax4 b.ps k)::w9 bb b::L) w
theorem EE7(l:List Ord):(l.flatMap Ord.cells).all (·.oneCell')=true:=by
 rw[List.all_eq_true];intro v hv;obtain⟨x,_,hx⟩:=List.mem_flatMap.1 hv;simp[Ord.cells]at hx
 rcases hx with rfl|rfl|rfl|rfl|rfl|rfl <;> rfl
theorem LM7(bb:Nat)(b1:Bk)(hok:b1.len<=32)(W w:World)(L:List HP)(hS:St W (w9 bb b1::L) w):
  Calls Tryz.prog 124 #[.P bb] w fun e w'=>∃v l,e=.returned v/\l.Perm (ax4 b1.ps 8)/\l.Pairwise (fun x y:Ord=>x.id<=y.id)/\St W (w9 bb b1::j7 v l::L) w':=by
 go_enter Tryz.func124,Tryz.ntmps124;go_wp2_with(first|(go_at_call 159;refine(DX7 bb W _ _ hS).mono ?_;clear hS;rintro e w ⟨v,rfl,hS⟩;rcases hS.rowOpen with ⟨_,h0,_⟩|⟨g,cap,junk,rfl,hn1,hm1,hj1,hl1,hS'⟩;exfalso;omega;clear hS;have hS:=hS';clear hS';unfold maxLen at hm1)|refine zl1 hS ?_|refine zlN hS ?_|refine zs1 hS ?_;clear hS;intro w hS|refine zsN hS ?_;clear hS;intro w hS|refine zbx hS ?_;clear hS;intro b w hS|refine zal hS ?_;clear hS;intro b w hS);have hS1:=(hS.swap.rowNil (k:=6) (T:=173))
 clear hS;have hS:=hS1;clear hS1
 go_loopw [3,11] (fun v3 v wr=>eh4 W (blk g (cn4 bb++junk) 253::L) bb b1 v3 v wr) (fun _ v _=>8-(intOf v).toNat)
 case atStart=>exact⟨0,rfl,by omega,hS⟩
 case round=>
  clear hS;obtain⟨k,rfl,hk,hS⟩:=hrel;by_cases h8:k=8
  ·subst h8;have hcl:(ax4 b1.ps 8).length<=32:=by rw[Ho7 _ _ (Nat.le_refl _)];exact hok
   rcases hS.rowOpen with ⟨rfl,h0,_,hS'⟩|⟨g2,cap2,junk2,rfl,hn2,hm2,hj2,hl2,hS'⟩
   ·have hc0:ax4 b1.ps 8=[]:=List.eq_nil_of_length_eq_zero h0;go_wp2_with(first|go_at_call 160;refine(NX7 _ W _ _ hS).mono ?_;clear hS;rintro e w ⟨rfl,hS⟩);go_ret;refine⟨_,ax4 b1.ps 8,rfl,.refl _,by rw[hc0];exact .nil,?_⟩;exact(hS.take .t2).drop.swap
   ·clear hS;have hS:=hS';clear hS';go_wp2_with(first|go_at_call 160;refine(NW7 (ax4 b1.ps 8) g2 cap2 junk2 (by omega) W _ _ hS).mono ?_;clear hS;rintro e w ⟨rfl,l,hl,hsd,hS⟩);go_ret;refine⟨_,l,rfl,hl,hsd,?_⟩;have hll:=hl.length_eq;have hf1:=Ab7 Ord.len l;have hf2:=Ab7 Ord.len (ax4 b1.ps 8);rw[<-hll]at hn2;have h1:St W (j7 (.S g2 l.length cap2) l::w9 bb b1::blk g (cn4 bb++junk) 253::L) w:=St.rowShut hS hn2 hm2 (by rw[jA]at hj2 ⊢;rw[hf1,hll,<-hf2];exact hj2) (by rw[hf1]);rw[hll]at h1;exact(h1.take .t2).drop.swap
  ·have hk8:k<8:=by omega
   clear h8 hk;obtain⟨o,ho,hdr,hpt⟩:=JA7 bb junk k hk8;have hcs:=Kp7 b1.ps hdr;obtain⟨vs,h1,h2,hS0⟩:=ae4 hS.swap;clear hS;have ho1:o<vs.length:=by omega
   have ho2:o<b1.ps.length:=by omega
   have hpk:b1.ps[o]=b1.pile o:=by unfold Bk.pile;simp[List.getD_eq_getElem?_getD,jG ho2]
   have hS1:=bb4 o ho1 ho2 hS0.swap;clear hS0;rw[hpk]at hS1;have hl:(vs++[Value.int .i64 b1.last])[o]? = some vs[o]:=by rw[List.getElem?_append_left ho1,jG ho1]
   generalize hvv:vs[o]=v at hl hS1;have hp32:=JB7 b1 o ho hok;have hgd:b1.ps.getD o []=b1.pile o:=rfl;rw[hgd]at hp32 hcs;have Hvv:=jH hvv;clear hvv;have hS:=hS1.take .t3;clear hS1;have hcl:(ax4 b1.ps k).length<=32:=by rw[Ho7 _ _ (by omega)];exact Nat.le_trans (As7 _ (by omega)) hok
   have hsrc:Src (j7 u3 (ax4 b1.ps k)::j7 v (b1.pile o)::sats ((C7 vs b1.ps).eraseIdx o)::blk bb (vs++[Value.int .i64 b1.last]) 279::blk g (cn4 bb++junk) 253::L) v (b1.pile o).length ((b1.pile o).flatMap Ord.cells):=(St.src (by decide) hS.drop).there;have Hcs:=jH hcs;clear hcs hdr;go_wp2_with(first|refine zl1 hS ?_ (hc:=by exact i6.there (i6.there (i6.there (i6.there (i6.here hpt)))))|refine zl1 hS ?_ (hc:=by exact i6.there (i6.there (i6.there (i6.here hl))))|(with_reducible apply Ko7 (e2:=173) hS);rfl;rfl;rfl;rfl;exact esS;kernel_rfl;exact rsS;rfl;decide;exact i7;exact hsrc;(focus(rw[Ab7 Ord.len]));(focus(exact EE7 _));(focus(unfold maxLen;omega));(focus(omega));clear hS;intro v3 w hS;refine frS ?_);have hS3:=((hS.take .t1).take .t2).swap;clear hS;have hS4:=bc4 o ho1 ho2 hS3;clear hS3;rw[<-Hvv.out,<-hpk,List.set_getElem_self,List.set_getElem_self]at hS4;have hS5:=(K8 h1 h2 (hS4.take .t2)).swap;clear hS4;go_roundw
   case rel=>
    refine⟨k+1,rfl,hk8,?_⟩;rw[Hcs.out];unfold j7;rw[jA,List.flatMap_append,<-hpk];exact hS5
   case measure=>simp[intOf];omega
def K9(a b:Ord):Bool:=decide (a.item=b.item)&&(a.buy != b.buy)&&(if a.buy then decide (b.price<=a.price)else decide (a.price<=b.price))
def ah4(o x z:Ord):Bool:=if o.buy then decide (x.price<z.price)else decide (z.price<x.price)
def cD4(o:Ord)(L:List Ord)(n:Nat):Option Nat->Bool
 | none=>true
 | some k=>ah4 o (at' L n) (at' L k)
def s9(o:Ord)(L:List Ord):Nat->Option Nat
 | 0=>none
 | n+1=>
  if K9 o (at' L n)&&cD4 o L n (s9 o L n)then some n else s9 o L n
def F5(o x:Ord):Trd:=if o.buy then⟨o.who,x.who,o.id,x.id,o.item,I6 o.cnt x.cnt,x.price,o.price⟩else⟨x.who,o.who,x.id,o.id,o.item,I6 o.cnt x.cnt,x.price,x.price⟩
def aT4(L:List Ord)(k:Nat)(c:Int):List Ord:=if c=0 then L.eraseIdx k else L.set k { at' L k with cnt:=c }
def m7:Nat->Ord->List Ord->List Trd->Ord×List Ord×List Trd
 | 0,o,L,ts=>(o,L,ts)
 | f+1,o,L,ts=>
  if 0<o.cnt then
   match s9 o L L.length with
   | none=>(o,L,ts)
   | some k=>m7 f { o with cnt:=o.cnt-I6 o.cnt (at' L k).cnt } (aT4 L k ((at' L k).cnt-I6 o.cnt (at' L k).cnt)) (ts++[F5 o (at' L k)])
  else(o,L,ts)
structure PlacedR where
 trades:List Trd
 left:Int
 errno:Int
 L:List Ord
 last:Int
def F9(L:List Ord)(last:Int)(o:Ord):PlacedR:=
 if J7 o=false\/o.id<=last then⟨[],0,1,L,last⟩
 else if 32<=L.length then⟨[],0,6,L,last⟩
 else
  let r:=m7 (L.length+1) o L []
  ⟨r.2.2,r.1.cnt,0,if 0<r.1.cnt then r.2.1++[r.1]else r.2.1,o.id⟩
structure CancelledR where
 o:Ord
 errno:Int
 L:List Ord
def m9(L:List Ord)(id:Int):CancelledR:=
 match L.findIdx? (fun o=>o.id==id)with
 | none=>⟨o0,7,L⟩
 | some i=>⟨at' L i,0,L.eraseIdx i⟩
theorem Fk7{o:Ord}{L:List Ord}:∀{n:Nat},s9 o L n=none->∀i,i<n->K9 o (at' L i)=false
 | 0,_,i,hi=>absurd hi (Nat.not_lt_zero _)
 | n+1,h,i,hi=>by
  rw[s9]at h;split at h
  ·cases h
  ·rename_i hc
   by_cases hin:i=n
   ·subst hin;rw[h]at hc;simpa[cD4]using hc
   ·exact Fk7 h i (by omega)
theorem AG7{o:Ord}{L:List Ord}:∀{n k:Nat},s9 o L n=some k->k<n/\K9 o (at' L k)=true/\∀i,i<n->K9 o (at' L i)=true->ah4 o (at' L i) (at' L k)=false/\(i<k->ah4 o (at' L k) (at' L i)=true)
 | 0,k,h=>by cases h
 | n+1,k,h=>by
  rw[s9]at h;split at h
  ·rename_i hc
   cases h
   simp only[jB]at hc;refine⟨Nat.lt_succ_self _,hc.1,fun i hi hm=>?_⟩;by_cases hin:i=n
   ·subst hin;refine⟨?_,fun h=>absurd h (Nat.lt_irrefl _)⟩;unfold ah4;split <;> simp
   ·have hin':i<n:=by omega
    cases hb:s9 o L n with
    | none=>rw[Fk7 hb i hin']at hm;cases hm
    | some k'=>
     rw[hb]at hc;obtain⟨_,_,h3⟩:=AG7 hb;have h4:=(h3 i hin' hm).1;have h5:ah4 o (at' L n) (at' L k')=true:=hc.2;unfold ah4 at *;split at h5
     ·rename_i ho
      rw[if_pos ho]at h4 ⊢;rw[if_pos ho];simp only[decide_eq_true_eq,decide_eq_false_iff_not]at *;exact⟨by omega,fun _=>by omega⟩
     ·rename_i ho
      rw[if_neg ho]at h4 ⊢;rw[if_neg ho];simp only[decide_eq_true_eq,decide_eq_false_iff_not]at *;exact⟨by omega,fun _=>by omega⟩
  ·rename_i hc
   obtain⟨h1,h2,h3⟩:=AG7 h;refine⟨by omega,h2,fun i hi hm=>?_⟩;by_cases hin:i=n
   ·subst hin;refine⟨?_,fun h=>by omega⟩;rw[h,hm]at hc;simpa[cD4]using hc
   ·exact h3 i (by omega) hm
theorem LN7(o x z:Ord):ah4 o x z=decide (ky (!o.buy) x<ky (!o.buy) z):=by
 unfold ah4 ky
 cases o.buy <;> simp
abbrev bE4(L:List Ord):Prop:=L.Pairwise fun x z=>x.id<z.id
theorem bE4.lt{L:List Ord}(h:bE4 L){i j:Nat}(hj:j<L.length)(hij:i<j):(at' L i).id<(at' L j).id:=by rw[m5 hj,m5 (show i<L.length by omega)];exact List.pairwise_iff_getElem.1 h i j (by omega) hj hij
theorem bE4.inj{L:List Ord}(h:bE4 L){i j:Nat}(hi:i<L.length)(hj:j<L.length)(he:(at' L i).id=(at' L j).id):i=j:=by
 rcases Nat.lt_trichotomy i j with h1|h1|h1
 ·have:=h.lt hj h1;omega
 ·exact h1
 ·have:=h.lt hi h1;omega
theorem cq4{L:List Ord}{x:Ord}(hx:x∈L):∃i,i<L.length/\at' L i=x:=by obtain⟨i,hi,rfl⟩:=List.mem_iff_getElem.1 hx;exact⟨i,hi,m5 hi⟩
theorem H8{L:List Ord}{i:Nat}(hi:i<L.length):at' L i∈L:=by rw[m5 hi];exact jW hi
theorem bE4.eq{L:List Ord}(h:bE4 L){x z:Ord}(hx:x∈L)(hz:z∈L)(he:x.id=z.id):x=z:=by obtain⟨i,hi,rfl⟩:=cq4 hx;obtain⟨j,hj,rfl⟩:=cq4 hz;rw[h.inj hi hj he]
theorem Hp7:∀{l L:List Ord},l.Perm L->l.Pairwise (fun x z=>x.id<=z.id)->bE4 L->l=L
 | [],L,hp,_,_=>(List.nil_perm.1 hp).symm
 | a::l,[],hp,_,_=>by simp at hp
 | a::l,b::L,hp,h1,h2=>by
  have ha:a∈b::L:=hp.mem_iff.1 (List.mem_cons_self ..);have hb:b∈a::l:=hp.mem_iff.2 (List.mem_cons_self ..)
  have hab:a=b:=by
   rcases List.mem_cons.1 ha with h|h
   ·exact h
   ·rcases List.mem_cons.1 hb with h'|h'
    ·exact h'.symm
    ·have e1:=(List.pairwise_cons.1 h2).1 a h;have e2:=(List.pairwise_cons.1 h1).1 b h';omega
  subst hab;rw[Hp7 hp.cons_inv (List.pairwise_cons.1 h1).2 (List.pairwise_cons.1 h2).2]
theorem Gr7(L:List Ord){k:Nat}(hk:k<L.length):(at' L k::L.eraseIdx k).Perm L:=by rw[m5 hk];exact BC7 L k hk
theorem Pn7(L:List Ord){k:Nat}(hk:k<L.length)(x:Ord):(x::L.eraseIdx k).Perm (L.set k x):=by have h:=BC7 (L.set k x) k (by simpa using hk);rw[List.getElem_set_self,List.eraseIdx_set_eq]at h;exact h
theorem bE4.erase{L:List Ord}(h:bE4 L)(k:Nat):bE4 (L.eraseIdx k):=List.Pairwise.sublist (List.eraseIdx_sublist L k) h
theorem bE4.set{L:List Ord}(h:bE4 L){k:Nat}(hk:k<L.length)(c:Int):bE4 (L.set k { at' L k with cnt:=c }):=by
 have e:∀i (hi:i<L.length),((L.set k { at' L k with cnt:=c })[i]'(by simpa using hi)).id=(at' L i).id:=by
  intro i hi;rw[List.getElem_set];split
  ·rename_i he;subst he;rfl
  ·rw[m5 hi]
 rw[bE4,List.pairwise_iff_getElem];intro i j hi hj hij;rw[List.length_set]at hi hj;rw[e i hi,e j hj];exact h.lt hj hij
structure Sim(o:Ord)(q rest L:List Ord):Prop where
 perm:L.Perm (q++rest)
 heap:Heap (!o.buy) q
 item:∀x∈q,x.item=o.item
 far:∀x∈rest,K9 o x=false
 byId:bE4 L
theorem Hq7{o x:Ord}(hi:x.item=o.item)(hb:x.buy=!o.buy):K9 o x=av4 o x:=by
 unfold K9 av4;rw[hi,hb]
 cases o.buy <;> simp
theorem Kq7{o x:Ord}(hb:x.buy=!o.buy):F5 o x=P5 o x:=by
 unfold F5 P5;rw[hb]
 cases o.buy <;> simp
theorem Sim.best_no{o:Ord}{x:Ord}{q rest L:List Ord}(h:Sim o (x::q) rest L)(hm:av4 o x=false):s9 o L L.length=none:=by
 cases hb:s9 o L L.length with
 | none=>rfl
 | some k=>
  obtain⟨hk,hmk,_⟩:=AG7 hb;have hmem:=h.perm.mem_iff.1 (H8 hk)
  rcases List.mem_append.1 hmem with hq|hr
  ·have hle:=h.heap.top _ hq;have hs:=h.heap.side _ hq;have hs0:=h.heap.side x (List.mem_cons_self ..);rw[Hq7 (h.item _ hq) hs]at hmk;unfold leK ky at hle;unfold av4 at hm hmk;rw[hs]at hmk;rw[hs0]at hm
   cases ho:o.buy <;> simp[ho]at hm hmk hle <;> omega
  ·rw[h.far _ hr]at hmk;cases hmk
theorem Sim.best_nil{o:Ord}{rest L:List Ord}(h:Sim o [] rest L):s9 o L L.length=none:=by
 cases hb:s9 o L L.length with
 | none=>rfl
 | some k=>
  obtain⟨hk,hmk,_⟩:=AG7 hb;rw[h.far _ (h.perm.mem_iff.1 (H8 hk))]at hmk
  cases hmk
theorem Sim.best_yes{o:Ord}{x:Ord}{q rest L:List Ord}(h:Sim o (x::q) rest L)(hm:av4 o x=true):∃k,s9 o L L.length=some k/\k<L.length/\at' L k=x:=by
 have hs0:=h.heap.side x (List.mem_cons_self ..);have hx:x∈L:=h.perm.mem_iff.2 (by simp);obtain⟨i,hi,hix⟩:=cq4 hx;have hmi:K9 o (at' L i)=true:=by rw[hix,Hq7 (h.item x (List.mem_cons_self ..)) hs0];exact hm
 cases hb:s9 o L L.length with
 | none=>rw[Fk7 hb i hi]at hmi;cases hmi
 | some k=>
  obtain⟨hk,hmk,hall⟩:=AG7 hb;refine⟨k,rfl,hk,?_⟩;have hmem:=h.perm.mem_iff.1 (H8 hk)
  rcases List.mem_append.1 hmem with hq|hr
  ·have hle:=h.heap.top _ hq;obtain⟨h1,h2⟩:=hall i hi hmi;rw[LN7,hix]at h1 h2;simp only[decide_eq_false_iff_not,decide_eq_true_eq]at h1 h2;unfold leK at hle
   rcases Nat.lt_trichotomy i k with h3|h3|h3
   ·have:=h2 h3;omega
   ·rw[<-h3];exact hix
   ·have:=h.byId.lt hi h3;rw[hix]at this;omega
  ·rw[h.far _ hr]at hmk;cases hmk
theorem CG7{a b:Int}(ha:0<a)(hb:0<b):0<I6 a b/\I6 a b<=a/\I6 a b<=b:=by unfold I6;split <;> omega
theorem Sim.step{o:Ord}{x:Ord}{q rest L:List Ord}(h:Sim o (x::q) rest L){k:Nat}(hk:k<L.length)(hx:at' L k=x)(c c':Int):
  Sim { o with cnt:=c' } (if c=0 then bs4 ({ x with cnt:=c }::q)else{ x with cnt:=c }::q) rest (aT4 L k c):=by
 have hc:=h.heap.cnt c;have hp:=Cu7 { x with cnt:=c } q;have h1:=(Gr7 L hk).symm;rw[hx]at h1;have h2:(L.eraseIdx k).Perm (q++rest):=(h1.symm.trans h.perm).cons_inv;unfold aT4;by_cases hz:c=0
 ·rw[if_pos hz,if_pos hz];refine⟨h2.trans (hp.symm.append_right rest),hc.pop,fun z hz'=>h.item z (List.mem_cons_of_mem _ (hp.mem_iff.1 hz')),h.far,h.byId.erase k⟩
 ·rw[if_neg hz,if_neg hz,hx];refine⟨(Pn7 L hk _).symm.trans (h2.cons _),hc,?_,h.far,?_⟩
  ·intro z hz'
   rcases List.mem_cons.1 hz' with rfl|hz'
   ·exact h.item x (List.mem_cons_self ..)
   ·exact h.item z (List.mem_cons_of_mem _ hz')
  ·have:=h.byId.set hk c;rw[hx]at this;exact this
theorem Ea7(o x:Ord):(P5 o x).cnt=I6 o.cnt x.cnt:=by unfold P5;split <;> rfl
theorem sim:∀(f:Nat) (o:Ord) (q rest L:List Ord) (ts:List Trd),Sim o q rest L->
  ∃L',m7 f o L ts=((K5 f o q ts).1,L',(K5 f o q ts).2.2)/\Sim (K5 f o q ts).1 (K5 f o q ts).2.1 rest L'
 | 0,o,q,rest,L,ts,h=>⟨L,rfl,h⟩
 | f+1,o,[],rest,L,ts,h=>by refine⟨L,?_,h⟩;rw[m7,h.best_nil];simp only[ite_self];rfl
 | f+1,o,x::q,rest,L,ts,h=>by
  rw[m7,K5];by_cases h0:0<o.cnt
  ·rw[if_pos h0]
   cases hm:av4 o x
   ·rw[h.best_no hm,if_neg (by rintro⟨_,h⟩;cases h)];exact⟨L,rfl,h⟩
   ·obtain⟨k,hb,hk,hx⟩:=h.best_yes hm;rw[hb,if_pos ⟨h0,rfl⟩];simp only;rw[hx,Ea7,Kq7 (h.heap.side x (List.mem_cons_self ..))];exact sim f _ _ rest _ _ (h.step hk hx _ _)
  ·rw[if_neg h0,if_neg (fun h=>h0 h.1)];exact⟨L,rfl,h⟩
theorem Hr7:∀(f f':Nat) (o:Ord) (q:List Ord) (ts:List Trd),(∀x∈q,0<x.cnt)->(q.length<f/\q.length<f')\/(o.cnt<=0/\0<f/\0<f')->K5 f o q ts=K5 f' o q ts
 | 0,_,_,_,_,_,h=>by omega
 | _+1,0,_,_,_,_,h=>by omega
 | f+1,f'+1,o,[],ts,_,h=>rfl
 | f+1,f'+1,o,x::q,ts,hc,h=>by
  rw[K5,K5];by_cases hcond:0<o.cnt/\av4 o x=true
  ·rw[if_pos hcond,if_pos hcond];have hx:=hc x (List.mem_cons_self ..);have hmin:=CG7 hcond.1 hx;have hl:(x::q).length<f+1/\(x::q).length<f'+1:=by omega
   simp only[jC]at hl;rw[Ea7];refine Hr7 f f' _ _ _ ?_ ?_
   ·intro z hz;split at hz
    ·exact hc z (List.mem_cons_of_mem _ ((Cu7 _ _).mem_iff.1 hz))
    ·rename_i hne
     rcases List.mem_cons.1 hz with rfl|hz
     ·simp only;omega
     ·exact hc z (List.mem_cons_of_mem _ hz)
   ·by_cases hz:x.cnt-I6 o.cnt x.cnt=0
    ·left
     rw[if_pos hz,BD7];simp only[jC];omega
    ·right
     refine⟨?_,by omega,by omega⟩;simp only;unfold I6 at hz ⊢;split at hz <;> split <;> omega
  ·rw[if_neg hcond,if_neg hcond]
end Go.Proofs.YtienbkdjkjbelaaGreat
end
