/-
  slices.SortFunc on an owned row of orders, by their IDs.
-/
import Derived.Test.YtlmhakmoioogaaaGreatEconBkM6
import Derived.Lib.SmallJoins
import Derived.ChangeArms
import Derived.ProofKit
set_option maxHeartbeats 16000000
set_option maxRecDepth 100000
set_option linter.unusedSimpArgs false
set_option linter.unusedVariables false
section
namespace Go.Proofs.YtlmhakmoioogaaaGreat
open Go.Shelf Go.RowKit Go.Lib Go.Sort Go.Sl
instance : Inhabited Ord := ⟨o0⟩
def dT4(x y:Ord):Int:=Lib.compareInt x.id y.id
theorem ltO(x y:Ord):ltOf dT4 x y=decide (x.id<y.id):=by
 unfold ltOf dT4 Lib.compareInt;by_cases h1:x.id<y.id
 ·simp[h1]
 ·by_cases h2:y.id<x.id <;> simp[h1,h2]
theorem hg4:SWO (ltOf dT4) where
 irrefl x:=by rw[ltO];simp
 trans x y z h1 h2:=by rw[ltO]at *;simp at *;omega
 ntrans x y z h1 h2:=by rw[ltO]at *;simp at *;omega
theorem ez4(x y:Ord)(W:World):Calls Tryz.prog 212 #[.agg x.cells.toArray,.agg y.cells.toArray] W fun e w'=>e=.returned (.I (dT4 x y))/\∃q os',w'=grow (W.drewN q) os':=by
 have hcon:=fun W'=>AnyG.cmp_Compare_int Tryz.cmpInt x.id y.id W'
 change ∀W',Calls Tryz.prog 112 _ _ _ at hcon;unfold dT4;obtain⟨i,u,b,t,c,p⟩:=x;obtain⟨i',u',b',t',c',p'⟩:=y;simp only[Ord.cells]at hcon ⊢;generalize Lib.compareInt i i'=r at hcon ⊢;go_enter Tryz.func212,Tryz.ntmps212;go_wp2_with(go_at_call 112;refine(hcon _).mono ?_;rintro e w' ⟨rfl,rfl⟩);go_ret;exact⟨rfl,0,_,by rw[alloc_eq_grow,alloc_eq_grow,grow_grow];rfl⟩
theorem eA4(blk off size:Nat)(w:World):CmpLays Tryz.prog 212 #[] Ord.cells 6 dT4 blk off size w:=fun _ _ _ _ x y=>ez4 x y _
theorem St.grow{W w:World}{L:List HP}(h:St W L w)(os:Array Obj):St W L (Sort.grow w os):=by
 refine⟨h.os,h.tape,h.output,Cm7 (S:=fun b=>decide (w.heap.size<=b)) ?_⟩
 have e:A9 (fun b=>decide (w.heap.size<=b)) (fun b=>(Sort.grow w os).heap[b]?)=fun b=>w.heap[b]? := by
  funext b
  show cond (decide (w.heap.size<=b)) none ((w.heap++os)[b]?)=w.heap[b]?
  by_cases hb:w.heap.size<=b
  ·rw[decide_eq_true hb,Array.getElem?_eq_none hb];rfl
  ·rw[decide_eq_false hb,Array.getElem?_append_left (by omega)];rfl
 rw[e];exact h.sat
theorem Gs7(l:List Ord)(junk:List Value)(j:Nat)(hj:j<l.length*6):(l.flatMap Ord.cells++junk)[j]? = some ((flatK Ord.cells 6 l.toArray)[j]!):=by
 rw[get_flatK _ _ _ _ (by simpa using hj)];have hq:j / 6<l.length:=by omega
 have h1:=CP7 Ord.len l junk (j / 6) hq (j%6) (by omega);rw[show j / 6*6+j%6=j by omega]at h1;rw[h1];have h2:l.toArray[j / 6]! = l[j / 6]:=by simp[hq]
 rw[h2,jG (by rw[Ord.len];omega)];rw[getElem!_pos _ _ (by rw[Ord.len];omega)]
theorem QQ7(l:List Ord)(g cap:Nat)(junk:List Value)(h62:l.length<4611686018427387904)(W w:World)(L:List HP)(hS:St W (blk g (l.flatMap Ord.cells++junk) 166::L) w):
  Calls Tryz.prog 211 #[.S g l.length cap,.func (.func 212) #[] #[]] w fun e w'=> e=.returned (.tuple #[])/\∃l':List Ord,l'.Perm l/\l'.Pairwise (fun x y=>x.id<=y.id)/\St W (blk g (l'.flatMap Ord.cells++junk) 166::L) w':=by
 have eg:∀args w,(callFunc 212 args).run Tryz.prog w=.ok (.enter 212 args) w:=enters_of Tryz.func212 (by kernel_rfl) rfl;have hgt:=hS.get (b:=g) .head;have hblk:g<w.heap.size:=(Array.getElem?_eq_some_iff.1 hgt).1;have hH:HoldsK Ord.cells 6 w g 0 l.toArray:=by intro j hj;rw[size_flatK]at hj;refine⟨hS.cell .head ?_,hS.free .head⟩;rw[Nat.zero_add];exact Gs7 l junk j (by simpa using hj)
 have hcon:=AnyQ.slices_SortFunc Tryz.sortOrd 6 Tryz.isAgg166 Tryz.sizeOf166 Ord.cells Ord.len (fun x v hv=>by simp[Ord.cells]at hv;rcases hv with rfl|rfl|rfl|rfl|rfl|rfl <;> rfl) dT4 hg4 212 #[] g 0 cap l.toArray w eg (eA4 g 0 l.toArray.size w) hH hblk (by simpa using h62);change Calls Tryz.prog 211 _ _ _ at hcon;simp only[List.size_toArray]at hcon;refine hcon.mono ?_;rintro e w' ⟨rfl,d',n,os,⟨hp1,_,hp3⟩,hs,rfl⟩;refine⟨rfl,d'.toList,?_,?_,?_⟩
 ·have e1:d'.extract 0 l.length=d':=by
   have:l.length=d'.size:=by rw[hp1];simp
   rw[this,Array.extract_size]
  have e2:l.toArray.extract 0 l.length=l.toArray:=by
   have:l.length=l.toArray.size:=by simp
   rw[this,Array.extract_size]
  rw[e1,e2]at hp3;exact hp3
 ·rw[List.pairwise_iff_getElem];intro i j hi hj hij;have:=hs i j (Nat.zero_le _) hij (by simp at hj;rw[hp1]at hj;simpa using hj);rw[ltO]at this;simp only[decide_eq_false_iff_not]at this;have hi':i<d'.size:=by simpa using hi
  have hj':j<d'.size:=by simpa using hj
  rw[getElem!_pos d' i hi',getElem!_pos d' j hj']at this;simp only[Array.getElem_toList];omega
 ·unfold sortWorldK;refine St.grow ?_ os;have hSd:St W (blk g (l.flatMap Ord.cells++junk) 166::L) (Sort.ahead w n):=⟨hS.os,hS.tape,hS.output,hS.sat⟩
  refine hSd.putO (w':=putRowK Ord.cells 6 (Sort.ahead w n) g 0 d') (o':=.cells (d'.toList.flatMap Ord.cells++junk).toArray 166 (0,0)) .head rfl rfl rfl fun k=>?_
  show((Sort.ahead w n).heap.modify g _)[k]? = _
  rw[Array.getElem?_modify];by_cases hk:k=g
  ·subst hk;rw[if_pos rfl,if_pos rfl];have hgt':(Sort.ahead w n).heap[k]? = some (.cells (l.flatMap Ord.cells++junk).toArray 166 (0,0)):=hgt;rw[hgt'];simp only[Option.map_some,Sort.onCells]
   congr 2
   have hdl:d'.toList.length=l.length:=by rw[Array.length_toList,hp1];simp
   have hf1:=Ab7 Ord.len l;have hf2:=Ab7 Ord.len d'.toList;apply Array.ext_getElem?;intro t;unfold Sort.putCells;simp only[Array.getElem?_mapIdx,List.getElem?_toArray,size_flatK,Nat.zero_le,true_and,Nat.zero_add,Nat.sub_zero,id];have hds:d'.size=l.length:=by rw[hp1];simp
   by_cases ht:t<l.length*6
   ·have h1:=Gs7 d'.toList junk t (by rw[hdl];exact ht);rw[h1,Gs7 l junk t ht];simp[hds,ht]
   ·have h2:(l.flatMap Ord.cells++junk)[t]? = (d'.toList.flatMap Ord.cells++junk)[t]? := by
     rw[List.getElem?_append_right (by omega),List.getElem?_append_right (by omega),hf1,hf2,hdl]
    rw[<-h2];simp[hds,ht]
  ·rw[if_neg (fun h=>hk h.symm),if_neg hk]
theorem MK7(f:Value)(W w:World)(L:List HP)(hS:St W L w):
  Calls Tryz.prog 264 #[.slice none 0 0,.I 0,.I 0,f] w fun e w'=>e=.returned (.tuple #[])/\St W L w':=by
 go_enter Tryz.func264,Tryz.ntmps264;go_wp2_with fail
 go_loopw [8] (fun v wr=>v=.I 1/\St W L wr) (fun _ _=>0)
 case atStart=>exact⟨rfl,hS⟩
 case round=>
  clear hS;obtain⟨rfl,hS⟩:=hrel;go_wp2_with fail;go_end0;exact⟨rfl,hS⟩
theorem Tl7(n:Int)(f:Value)(W w:World)(L:List HP)(hS:St W L w):
  Calls Tryz.prog 250 #[.slice none 0 0,.I 0,.I 0,.I n,f] w fun e w'=>e=.returned (.tuple #[])/\St W L w':=by
 go_enter Tryz.func250,Tryz.ntmps250;go_wp2_with fail
 go_loopw [1,2] (fun v1 v2 wr=>v1=.I 0/\v2=.I 0/\St W L wr) (fun _ _ _=>0)
 case atStart=>exact⟨rfl,rfl,hS⟩
 case round=>
  clear hS;obtain⟨rfl,rfl,hS⟩:=hrel;go_wp2_with(first|go_at_call 264;refine(MK7 _ W _ _ hS).mono ?_;clear hS;rintro e w ⟨rfl,hS⟩);refine bodyPost_ret (results_none rfl _ _ _) rfl ?_;exact⟨rfl,hS⟩
theorem QR7(f:Value)(W w:World)(L:List HP)(hS:St W L w):
  Calls Tryz.prog 211 #[.slice none 0 0,f] w fun e w'=>e=.returned (.tuple #[])/\St W L w':=by
 have hl:∀w:World,Calls Tryz.prog 177 #[.int .u64 0] w fun e w'=>(∃l:Int,e=.returned (.I l))/\w'=w:=fun w=>
  (Any.bits_Len Tryz.bitsLen 0 w (by omega) (by omega)).mono fun _ _ ⟨he,hw⟩=>⟨⟨_,he⟩,hw⟩
 go_enter Tryz.func211,Tryz.ntmps211;go_wp2_with(first|go_at_call 177;refine(hl _).mono ?_;rintro e w ⟨⟨l,rfl⟩,rfl⟩|go_at_call 250;refine(Tl7 _ _ W _ _ hS).mono ?_;clear hS;rintro e w ⟨rfl,hS⟩);go_end0;exact⟨rfl,hS⟩
end Go.Proofs.YtlmhakmoioogaaaGreat
end
section
namespace Go.Proofs.YtlmhakmoioogaaaGreat
open Go.RowKit Go.Sl
theorem Trd.len(o:Trd):o.cells.length=8:=rfl
def so(zs:List Int)(k:Nat):Ord:=⟨(k:Int)+1,⟨#[115]⟩,false,2,1,1+(zs.getD k 0)%8⟩
def bB(q:List Ord)(k:Nat):Bk:=⟨[[],[],[],[],[],[],q,[]],k⟩
def bo(want:Int):Ord:=⟨100,⟨#[98]⟩,true,2,want,1024⟩
def bt(x:Ord):Trd:=⟨⟨#[98]⟩,x.who,100,x.id,2,1,x.price,1024⟩
structure BestL(zs:List Int)(ts:List Trd):Prop where
 one:∀i (h:i<ts.length),ts[i].cnt=1/\∃k,k<zs.length/\ts[i].sell=(k:Int)+1/\ts[i].price=1+(zs.getD k 0)%8
 two:∀i (h:i+1<ts.length),ts[i].price<ts[i+1].price\/(ts[i].price=ts[i+1].price/\ts[i].sell<=ts[i+1].sell)
def sg(zs:List Int)(k:Nat):Ord:=⟨(k:Int)+1,⟨#[115]⟩,false,1,2,1+(zs.getD k 0)%8⟩
def bG(q:List Ord)(k:Nat):Bk:=⟨[[],[],[],[],[],q,[],[]],k⟩
structure GoneQ(n:Nat)(q:List Ord):Prop where
 nodup:(q.map Ord.id).Nodup
 each:∀x∈q,x.cnt=2/\x.id<=n
end Go.Proofs.YtlmhakmoioogaaaGreat
end
section
namespace Go.Proofs.YtlmhakmoioogaaaGreat
open Go.Joins Go.ChangeShapes Go.WideShapes Go.RowKit Go.Deep Go.Sl
def hW4(w:World)(v:Value)(zs:List Int):Prop:=
 (zs=[]/\∃a cap,v=.slice a 0 cap) \/
 ∃b off cap,v=.slice (some ⟨b,off,none⟩) zs.length cap/\0<zs.length/\zs.length<=9223372036854775807/\∀i,i<zs.length->w.cell? ⟨b,off+i,none⟩=some (.I (zs.getD i 0))
end Go.Proofs.YtlmhakmoioogaaaGreat
end
section
namespace Go.Proofs.YtlmhakmoioogaaaGreat
open Go.RowKit Go.Sl
def gd4(v:Value)(ks:List Int):HP:=row v 1 3 ks.length (ks.map (Value.int .i64))
def hX4(W:World)(L:List HP)(zs:List Int)(bb:Nat)(v8:Value)(w:World):Prop:=
 ∃(k:Nat) (q:List Ord),v8=.I k/\k<=zs.length/\q.length=k/\GoneQ k q/\St W (D9 bb (bG q k)::L) w
def hY4(W:World)(L:List HP)(n m:Nat)(bb:Nat)(v9 v10:Value)(w:World):Prop:=
 ∃(k:Nat) (q:List Ord) (gone:List Int),v10=.I k/\k<=m/\q.length<=20/\GoneQ n q/\gone.length=k/\(∀x∈q,x.id∉gone)/\(∀x∈gone,x<=32)/\St W (D9 bb (bG q n)::gd4 v9 gone::L) w
def hZ4(W:World)(L:List HP)(n:Nat)(v:Value)(w:World):Prop:=∃i:Nat,v=.I i/\i<=n/\St W L w
end Go.Proofs.YtlmhakmoioogaaaGreat
end
section
namespace Go.Sl
open Go.RowKit
section
variable{P:Program}{ops:Array Oper}{Q:Exit->Act->World->Prop}{a:Act}{w:World}{W:World}{L L' R:List HP}{rest:List Oper}{o:Oper}
theorem Ja7{t t2 e e2:TypeId}(ht:P.underlying t=some (.slice e))(h2:P.underlying t2=some (.slice e2))(ty:TypeId)(s x:Value)(w:World):(Builtin.append_ #[t,t2] ty #[s,x]).run P w=(Builtin.append_ #[t,t] ty #[s,x]).run P w:=by
 unfold Builtin.append_;simp only[List.getElem?_toArray,List.getElem?_cons_zero,List.getElem?_cons_succ,Sem.run_bind,run_underlying ht,run_underlying h2,Result.andThen_ok]
 cases s <;> simp[run_underlying ht,run_underlying h2]
theorem ML7{s x:Operand}{t t2 e e2:TypeId}{z:Value}{k bytes:Nat}{v xv:Value}{n m:Nat}{cs news:List Value}(hS:St W L w)(ho:o.op=.call { callee:=.builtin .append,args:=#[s,x],argTypes:=#[t,t2] })
  (hg:Region.wanted o (yielded ops a.tmps)=true) (hs:a.eval s=v) (hx:a.eval x=xv) (ht:C7 P t=some e) (ht2:C7 P t2=some e2) (hi:F9 P e=some (some z,k,bytes)) (hz:z.cells.size=k) (hk:0<k) (hu:Take L (row v k e n cs) R)
  (hsrc:Src L xv m news) (hl:news.length=m*k) (h1:news.all (·.oneCell')=true) (h63:n+m<=maxLen) (hb:(n+m)*bytes<=140737488355328)
  (h:∀v' w',St W (row v' k e (n+m) (cs++news)::R) w'->wpList P ops Q rest (a.put o.dst v') w'):wpList P ops Q (o::rest) a w:=by
 obtain⟨v',w',hr,hS'⟩:=Dq7 (P:=P) (ty:=o.type) ht hi hz hk rfl hS hu (hsrc.at hS) hl h1 h63 hb;refine Aj7 hg (v:=v') (w':=w') ?_ (h v' w' hS');unfold execOp;simp only[ho,resolve,invoke,builtin,Sem.run_bind,Sem.run_pure,Result.andThen_ok,List.map_toArray,List.map_cons,List.map_nil,hs,hx,Ja7 (Bv7 ht) (Bv7 ht2),hr]
end
end Go.Sl
end
section
namespace Go.Proofs.YtlmhakmoioogaaaGreat
open Go.RowKit Go.Sl
def aK4(ps:List (List Ord))(k:Nat):List Ord:=(bR4.take k).flatMap fun o=>ps.getD o []
theorem Jb7(ps:List (List Ord))(k:Nat)(hk:k<=8):(aK4 ps k).length=D7 ps k:=by
 obtain h|h|h|h|h|h|h|h|h:k=0\/k=1\/k=2\/k=3\/k=4\/k=5\/k=6\/k=7\/k=8:=by omega
 all_goals subst h
 all_goals simp[aK4,D7,bR4]
 all_goals omega
theorem MM7(ps:List (List Ord)){k o:Nat}(h:bR4.drop k=o::bR4.drop (k+1)):aK4 ps (k+1)=aK4 ps k++ps.getD o []:=by
 have h1:bR4[k]? = some o:=by have:=congrArg List.head? h;simpa[List.head?_drop]using this
 unfold aK4;rw[List.take_add_one,h1];simp
theorem St.src{W w:World}{L:List HP}{v:Value}{k n:Nat}{T:TypeId}{cs:List Value}(hk:0<k)(h:St W (row v k T n cs::L) w):Src (row v k T n cs::L) v n cs:=by
 rcases h.rowOpen with ⟨rfl,rfl,rfl,_⟩|⟨g,cap,junk,rfl,hn1,hm1,hj1,hl1,_⟩
 ·exact .inl ⟨rfl,rfl,rfl⟩
 ·refine .inr ⟨g,0,cap,rfl,fun j u hj=>?_⟩;rw[Nat.zero_add];have hjl:=(List.getElem?_eq_some_iff.1 hj).1;refine i9.row ?_ hj
  rcases Nat.eq_zero_or_pos n with h0|h0
  ·rw[hl1,h0,Nat.zero_mul]at hjl;omega
  ·exact h0
def eZ4(W:World)(L:List HP)(bb:Nat)(b:Bk)(v3 v11:Value)(w:World):Prop:=
 ∃k:Nat,v11=.I k/\k<=8/\St W (j8 v3 (aK4 b.ps k)::D9 bb b::L) w
theorem FK7(l:List Ord):(l.flatMap Ord.cells).all (·.oneCell')=true:=by
 rw[List.all_eq_true];intro v hv;obtain⟨x,_,hx⟩:=List.mem_flatMap.1 hv;simp[Ord.cells]at hx
 rcases hx with rfl|rfl|rfl|rfl|rfl|rfl <;> rfl
theorem Ol7(bb:Nat)(b1:Bk)(hok:b1.len<=32)(W w:World)(L:List HP)(hS:St W (D9 bb b1::L) w):
  Calls Tryz.prog 172 #[.P bb] w fun e w'=>∃v l,e=.returned v/\l.Perm (aK4 b1.ps 8)/\l.Pairwise (fun x y:Ord=>x.id<=y.id)/\St W (D9 bb b1::j8 v l::L) w':=by
 go_enter Tryz.func172,Tryz.ntmps172;go_wp2_with(first|(go_at_call 207;refine(EY7 bb W _ _ hS).mono ?_;clear hS;rintro e w ⟨v,rfl,hS⟩;rcases hS.rowOpen with ⟨_,h0,_⟩|⟨g,cap,junk,rfl,hn1,hm1,hj1,hl1,hS'⟩;exfalso;omega;clear hS;have hS:=hS';clear hS';unfold maxLen at hm1)|refine zl1 hS ?_|refine zlN hS ?_|refine zs1 hS ?_;clear hS;intro w hS|refine zsN hS ?_;clear hS;intro w hS|refine zbx hS ?_;clear hS;intro b w hS|refine zal hS ?_;clear hS;intro b w hS);have hS1:=(hS.swap.rowNil (k:=6) (T:=166))
 clear hS;have hS:=hS1;clear hS1
 go_loopw [3,11] (fun v3 v wr=>eZ4 W (blk g (cW4 bb++junk) 273::L) bb b1 v3 v wr) (fun _ v _=>8-(intOf v).toNat)
 case atStart=>exact⟨0,rfl,by omega,hS⟩
 case round=>
  clear hS;obtain⟨k,rfl,hk,hS⟩:=hrel;by_cases h8:k=8
  ·subst h8;have hcl:(aK4 b1.ps 8).length<=32:=by rw[Jb7 _ _ (Nat.le_refl _)];exact hok
   rcases hS.rowOpen with ⟨rfl,h0,_,hS'⟩|⟨g2,cap2,junk2,rfl,hn2,hm2,hj2,hl2,hS'⟩
   ·have hc0:aK4 b1.ps 8=[]:=List.eq_nil_of_length_eq_zero h0;go_wp2_with(first|go_at_call 211;refine(QR7 _ W _ _ hS).mono ?_;clear hS;rintro e w ⟨rfl,hS⟩);go_ret;refine⟨_,aK4 b1.ps 8,rfl,.refl _,by rw[hc0];exact .nil,?_⟩;exact(hS.take .t2).drop.swap
   ·clear hS;have hS:=hS';clear hS';go_wp2_with(first|go_at_call 211;refine(QQ7 (aK4 b1.ps 8) g2 cap2 junk2 (by omega) W _ _ hS).mono ?_;clear hS;rintro e w ⟨rfl,l,hl,hsd,hS⟩);go_ret;refine⟨_,l,rfl,hl,hsd,?_⟩;have hll:=hl.length_eq;have hf1:=Ab7 Ord.len l;have hf2:=Ab7 Ord.len (aK4 b1.ps 8);rw[<-hll]at hn2;have h1:St W (j8 (.S g2 l.length cap2) l::D9 bb b1::blk g (cW4 bb++junk) 273::L) w:=St.rowShut hS hn2 hm2 (by rw[jA]at hj2 ⊢;rw[hf1,hll,<-hf2];exact hj2) (by rw[hf1]);rw[hll]at h1;exact(h1.take .t2).drop.swap
  ·have hk8:k<8:=by omega
   clear h8 hk;obtain⟨o,ho,hdr,hpt⟩:=LD7 bb junk k hk8;have hcs:=MM7 b1.ps hdr;obtain⟨vs,h1,h2,hS0⟩:=aq4 hS.swap;clear hS;have ho1:o<vs.length:=by omega
   have ho2:o<b1.ps.length:=by omega
   have hpk:b1.ps[o]=b1.pile o:=by unfold Bk.pile;simp[List.getD_eq_getElem?_getD,jG ho2]
   have hS1:=bx4 o ho1 ho2 hS0.swap;clear hS0;rw[hpk]at hS1;have hl:(vs++[Value.int .i64 b1.last])[o]? = some vs[o]:=by rw[List.getElem?_append_left ho1,jG ho1]
   generalize hvv:vs[o]=v at hl hS1;have hp32:=LE7 b1 o ho hok;have hgd:b1.ps.getD o []=b1.pile o:=rfl;rw[hgd]at hp32 hcs;have Hvv:=jH hvv;clear hvv;have hS:=hS1.take .t3;clear hS1;have hcl:(aK4 b1.ps k).length<=32:=by rw[Jb7 _ _ (by omega)];exact Nat.le_trans (Av7 _ (by omega)) hok
   have hsrc:Src (j8 u3 (aK4 b1.ps k)::j8 v (b1.pile o)::sats ((F8 vs b1.ps).eraseIdx o)::blk bb (vs++[Value.int .i64 b1.last]) 272::blk g (cW4 bb++junk) 273::L) v (b1.pile o).length ((b1.pile o).flatMap Ord.cells):=(St.src (by decide) hS.drop).there;have Hcs:=jH hcs;clear hcs hdr;go_wp2_with(first|refine zl1 hS ?_ (hc:=by exact i9.there (i9.there (i9.there (i9.there (i9.here hpt)))))|refine zl1 hS ?_ (hc:=by exact i9.there (i9.there (i9.there (i9.here hl))))|(with_reducible apply ML7 (e2:=166) hS);rfl;rfl;rfl;rfl;exact esS;kernel_rfl;exact rsS;rfl;decide;exact j5;exact hsrc;(focus(rw[Ab7 Ord.len]));(focus(exact FK7 _));(focus(unfold maxLen;omega));(focus(omega));clear hS;intro v3 w hS;refine frS ?_);have hS3:=((hS.take .t1).take .t2).swap;clear hS;have hS4:=by4 o ho1 ho2 hS3;clear hS3;rw[<-Hvv.out,<-hpk,List.set_getElem_self,List.set_getElem_self]at hS4;have hS5:=(R7 h1 h2 (hS4.take .t2)).swap;clear hS4;go_roundw
   case rel=>
    refine⟨k+1,rfl,hk8,?_⟩;rw[Hcs.out];unfold j8;rw[jA,List.flatMap_append,<-hpk];exact hS5
   case measure=>simp[intOf];omega
def K5(a b:Ord):Bool:=decide (a.item=b.item)&&(a.buy != b.buy)&&(if a.buy then decide (b.price<=a.price)else decide (a.price<=b.price))
def at4(o x z:Ord):Bool:=if o.buy then decide (x.price<z.price)else decide (z.price<x.price)
def do4(o:Ord)(L:List Ord)(n:Nat):Option Nat->Bool
 | none=>true
 | some k=>at4 o (at' L n) (at' L k)
def B8(o:Ord)(L:List Ord):Nat->Option Nat
 | 0=>none
 | n+1=>
  if K5 o (at' L n)&&do4 o L n (B8 o L n)then some n else B8 o L n
def L6(o x:Ord):Trd:=if o.buy then⟨o.who,x.who,o.id,x.id,o.item,O9 o.cnt x.cnt,x.price,o.price⟩else⟨x.who,o.who,x.id,o.id,o.item,O9 o.cnt x.cnt,x.price,x.price⟩
def bf4(L:List Ord)(k:Nat)(c:Int):List Ord:=if c=0 then L.eraseIdx k else L.set k { at' L k with cnt:=c }
def w6:Nat->Ord->List Ord->List Trd->Ord×List Ord×List Trd
 | 0,o,L,ts=>(o,L,ts)
 | f+1,o,L,ts=>
  if 0<o.cnt then
   match B8 o L L.length with
   | none=>(o,L,ts)
   | some k=>w6 f { o with cnt:=o.cnt-O9 o.cnt (at' L k).cnt } (bf4 L k ((at' L k).cnt-O9 o.cnt (at' L k).cnt)) (ts++[L6 o (at' L k)])
  else(o,L,ts)
structure PlacedR where
 trades:List Trd
 left:Int
 errno:Int
 L:List Ord
 last:Int
def L7(L:List Ord)(last:Int)(o:Ord):PlacedR:=
 if P9 o=false\/o.id<=last then⟨[],0,1,L,last⟩
 else if 32<=L.length then⟨[],0,6,L,last⟩
 else
  let r:=w6 (L.length+1) o L []
  ⟨r.2.2,r.1.cnt,0,if 0<r.1.cnt then r.2.1++[r.1]else r.2.1,o.id⟩
structure CancelledR where
 o:Ord
 errno:Int
 L:List Ord
def A6(L:List Ord)(id:Int):CancelledR:=
 match L.findIdx? (fun o=>o.id==id)with
 | none=>⟨o0,7,L⟩
 | some i=>⟨at' L i,0,L.eraseIdx i⟩
theorem Eh7{o:Ord}{L:List Ord}:∀{n:Nat},B8 o L n=none->∀i,i<n->K5 o (at' L i)=false
 | 0,_,i,hi=>absurd hi (Nat.not_lt_zero _)
 | n+1,h,i,hi=>by
  rw[B8]at h;split at h
  ·cases h
  ·rename_i hc
   by_cases hin:i=n
   ·subst hin;rw[h]at hc;simpa[do4]using hc
   ·exact Eh7 h i (by omega)
theorem AK7{o:Ord}{L:List Ord}:∀{n k:Nat},B8 o L n=some k->k<n/\K5 o (at' L k)=true/\∀i,i<n->K5 o (at' L i)=true->at4 o (at' L i) (at' L k)=false/\(i<k->at4 o (at' L k) (at' L i)=true)
 | 0,k,h=>by cases h
 | n+1,k,h=>by
  rw[B8]at h;split at h
  ·rename_i hc
   cases h
   simp only[jB]at hc;refine⟨Nat.lt_succ_self _,hc.1,fun i hi hm=>?_⟩;by_cases hin:i=n
   ·subst hin;refine⟨?_,fun h=>absurd h (Nat.lt_irrefl _)⟩;unfold at4;split <;> simp
   ·have hin':i<n:=by omega
    cases hb:B8 o L n with
    | none=>rw[Eh7 hb i hin']at hm;cases hm
    | some k'=>
     rw[hb]at hc;obtain⟨_,_,h3⟩:=AK7 hb;have h4:=(h3 i hin' hm).1;have h5:at4 o (at' L n) (at' L k')=true:=hc.2;unfold at4 at *;split at h5
     ·rename_i ho
      rw[if_pos ho]at h4 ⊢;rw[if_pos ho];simp only[decide_eq_true_eq,decide_eq_false_iff_not]at *;exact⟨by omega,fun _=>by omega⟩
     ·rename_i ho
      rw[if_neg ho]at h4 ⊢;rw[if_neg ho];simp only[decide_eq_true_eq,decide_eq_false_iff_not]at *;exact⟨by omega,fun _=>by omega⟩
  ·rename_i hc
   obtain⟨h1,h2,h3⟩:=AK7 h;refine⟨by omega,h2,fun i hi hm=>?_⟩;by_cases hin:i=n
   ·subst hin;refine⟨?_,fun h=>by omega⟩;rw[h,hm]at hc;simpa[do4]using hc
   ·exact h3 i (by omega) hm
theorem Om7(o x z:Ord):at4 o x z=decide (ky (!o.buy) x<ky (!o.buy) z):=by
 unfold at4 ky
 cases o.buy <;> simp
abbrev bp4(L:List Ord):Prop:=L.Pairwise fun x z=>x.id<z.id
theorem bp4.lt{L:List Ord}(h:bp4 L){i j:Nat}(hj:j<L.length)(hij:i<j):(at' L i).id<(at' L j).id:=by rw[w5 hj,w5 (show i<L.length by omega)];exact List.pairwise_iff_getElem.1 h i j (by omega) hj hij
theorem bp4.inj{L:List Ord}(h:bp4 L){i j:Nat}(hi:i<L.length)(hj:j<L.length)(he:(at' L i).id=(at' L j).id):i=j:=by
 rcases Nat.lt_trichotomy i j with h1|h1|h1
 ·have:=h.lt hj h1;omega
 ·exact h1
 ·have:=h.lt hi h1;omega
theorem cu4{L:List Ord}{x:Ord}(hx:x∈L):∃i,i<L.length/\at' L i=x:=by obtain⟨i,hi,rfl⟩:=List.mem_iff_getElem.1 hx;exact⟨i,hi,w5 hi⟩
theorem L8{L:List Ord}{i:Nat}(hi:i<L.length):at' L i∈L:=by rw[w5 hi];exact jW hi
theorem bp4.eq{L:List Ord}(h:bp4 L){x z:Ord}(hx:x∈L)(hz:z∈L)(he:x.id=z.id):x=z:=by obtain⟨i,hi,rfl⟩:=cu4 hx;obtain⟨j,hj,rfl⟩:=cu4 hz;rw[h.inj hi hj he]
theorem Jc7:∀{l L:List Ord},l.Perm L->l.Pairwise (fun x z=>x.id<=z.id)->bp4 L->l=L
 | [],L,hp,_,_=>(List.nil_perm.1 hp).symm
 | a::l,[],hp,_,_=>by simp at hp
 | a::l,b::L,hp,h1,h2=>by
  have ha:a∈b::L:=hp.mem_iff.1 (List.mem_cons_self ..);have hb:b∈a::l:=hp.mem_iff.2 (List.mem_cons_self ..)
  have hab:a=b:=by
   rcases List.mem_cons.1 ha with h|h
   ·exact h
   ·rcases List.mem_cons.1 hb with h'|h'
    ·exact h'.symm
    ·have e1:=(List.pairwise_cons.1 h2).1 a h;have e2:=(List.pairwise_cons.1 h1).1 b h';omega
  subst hab;rw[Jc7 hp.cons_inv (List.pairwise_cons.1 h1).2 (List.pairwise_cons.1 h2).2]
theorem HX7(L:List Ord){k:Nat}(hk:k<L.length):(at' L k::L.eraseIdx k).Perm L:=by rw[w5 hk];exact Ca7 L k hk
theorem SF7(L:List Ord){k:Nat}(hk:k<L.length)(x:Ord):(x::L.eraseIdx k).Perm (L.set k x):=by have h:=Ca7 (L.set k x) k (by simpa using hk);rw[List.getElem_set_self,List.eraseIdx_set_eq]at h;exact h
theorem bp4.erase{L:List Ord}(h:bp4 L)(k:Nat):bp4 (L.eraseIdx k):=List.Pairwise.sublist (List.eraseIdx_sublist L k) h
theorem bp4.set{L:List Ord}(h:bp4 L){k:Nat}(hk:k<L.length)(c:Int):bp4 (L.set k { at' L k with cnt:=c }):=by
 have e:∀i (hi:i<L.length),((L.set k { at' L k with cnt:=c })[i]'(by simpa using hi)).id=(at' L i).id:=by
  intro i hi;rw[List.getElem_set];split
  ·rename_i he;subst he;rfl
  ·rw[w5 hi]
 rw[bp4,List.pairwise_iff_getElem];intro i j hi hj hij;rw[List.length_set]at hi hj;rw[e i hi,e j hj];exact h.lt hj hij
structure Sim(o:Ord)(q rest L:List Ord):Prop where
 perm:L.Perm (q++rest)
 heap:Heap (!o.buy) q
 item:∀x∈q,x.item=o.item
 far:∀x∈rest,K5 o x=false
 byId:bp4 L
theorem Jd7{o x:Ord}(hi:x.item=o.item)(hb:x.buy=!o.buy):K5 o x=aJ4 o x:=by
 unfold K5 aJ4;rw[hi,hb]
 cases o.buy <;> simp
theorem MN7{o x:Ord}(hb:x.buy=!o.buy):L6 o x=af4 o x:=by
 unfold L6 af4;rw[hb]
 cases o.buy <;> simp
theorem Sim.best_no{o:Ord}{x:Ord}{q rest L:List Ord}(h:Sim o (x::q) rest L)(hm:aJ4 o x=false):B8 o L L.length=none:=by
 cases hb:B8 o L L.length with
 | none=>rfl
 | some k=>
  obtain⟨hk,hmk,_⟩:=AK7 hb;have hmem:=h.perm.mem_iff.1 (L8 hk)
  rcases List.mem_append.1 hmem with hq|hr
  ·have hle:=h.heap.top _ hq;have hs:=h.heap.side _ hq;have hs0:=h.heap.side x (List.mem_cons_self ..);rw[Jd7 (h.item _ hq) hs]at hmk;unfold leK ky at hle;unfold aJ4 at hm hmk;rw[hs]at hmk;rw[hs0]at hm
   cases ho:o.buy <;> simp[ho]at hm hmk hle <;> omega
  ·rw[h.far _ hr]at hmk;cases hmk
theorem Sim.best_nil{o:Ord}{rest L:List Ord}(h:Sim o [] rest L):B8 o L L.length=none:=by
 cases hb:B8 o L L.length with
 | none=>rfl
 | some k=>
  obtain⟨hk,hmk,_⟩:=AK7 hb;rw[h.far _ (h.perm.mem_iff.1 (L8 hk))]at hmk
  cases hmk
theorem Sim.best_yes{o:Ord}{x:Ord}{q rest L:List Ord}(h:Sim o (x::q) rest L)(hm:aJ4 o x=true):∃k,B8 o L L.length=some k/\k<L.length/\at' L k=x:=by
 have hs0:=h.heap.side x (List.mem_cons_self ..);have hx:x∈L:=h.perm.mem_iff.2 (by simp);obtain⟨i,hi,hix⟩:=cu4 hx;have hmi:K5 o (at' L i)=true:=by rw[hix,Jd7 (h.item x (List.mem_cons_self ..)) hs0];exact hm
 cases hb:B8 o L L.length with
 | none=>rw[Eh7 hb i hi]at hmi;cases hmi
 | some k=>
  obtain⟨hk,hmk,hall⟩:=AK7 hb;refine⟨k,rfl,hk,?_⟩;have hmem:=h.perm.mem_iff.1 (L8 hk)
  rcases List.mem_append.1 hmem with hq|hr
  ·have hle:=h.heap.top _ hq;obtain⟨h1,h2⟩:=hall i hi hmi;rw[Om7,hix]at h1 h2;simp only[decide_eq_false_iff_not,decide_eq_true_eq]at h1 h2;unfold leK at hle
   rcases Nat.lt_trichotomy i k with h3|h3|h3
   ·have:=h2 h3;omega
   ·rw[<-h3];exact hix
   ·have:=h.byId.lt hi h3;rw[hix]at this;omega
  ·rw[h.far _ hr]at hmk;cases hmk
theorem Du7{a b:Int}(ha:0<a)(hb:0<b):0<O9 a b/\O9 a b<=a/\O9 a b<=b:=by unfold O9;split <;> omega
theorem Sim.step{o:Ord}{x:Ord}{q rest L:List Ord}(h:Sim o (x::q) rest L){k:Nat}(hk:k<L.length)(hx:at' L k=x)(c c':Int):
  Sim { o with cnt:=c' } (if c=0 then bS4 ({ x with cnt:=c }::q)else{ x with cnt:=c }::q) rest (bf4 L k c):=by
 have hc:=h.heap.cnt c;have hp:=Df7 { x with cnt:=c } q;have h1:=(HX7 L hk).symm;rw[hx]at h1;have h2:(L.eraseIdx k).Perm (q++rest):=(h1.symm.trans h.perm).cons_inv;unfold bf4;by_cases hz:c=0
 ·rw[if_pos hz,if_pos hz];refine⟨h2.trans (hp.symm.append_right rest),hc.pop,fun z hz'=>h.item z (List.mem_cons_of_mem _ (hp.mem_iff.1 hz')),h.far,h.byId.erase k⟩
 ·rw[if_neg hz,if_neg hz,hx];refine⟨(SF7 L hk _).symm.trans (h2.cons _),hc,?_,h.far,?_⟩
  ·intro z hz'
   rcases List.mem_cons.1 hz' with rfl|hz'
   ·exact h.item x (List.mem_cons_self ..)
   ·exact h.item z (List.mem_cons_of_mem _ hz')
  ·have:=h.byId.set hk c;rw[hx]at this;exact this
theorem Fb7(o x:Ord):(af4 o x).cnt=O9 o.cnt x.cnt:=by unfold af4;split <;> rfl
theorem sim:∀(f:Nat) (o:Ord) (q rest L:List Ord) (ts:List Trd),Sim o q rest L->
  ∃L',w6 f o L ts=((Q8 f o q ts).1,L',(Q8 f o q ts).2.2)/\Sim (Q8 f o q ts).1 (Q8 f o q ts).2.1 rest L'
 | 0,o,q,rest,L,ts,h=>⟨L,rfl,h⟩
 | f+1,o,[],rest,L,ts,h=>by refine⟨L,?_,h⟩;rw[w6,h.best_nil];simp only[ite_self];rfl
 | f+1,o,x::q,rest,L,ts,h=>by
  rw[w6,Q8];by_cases h0:0<o.cnt
  ·rw[if_pos h0]
   cases hm:aJ4 o x
   ·rw[h.best_no hm,if_neg (by rintro⟨_,h⟩;cases h)];exact⟨L,rfl,h⟩
   ·obtain⟨k,hb,hk,hx⟩:=h.best_yes hm;rw[hb,if_pos ⟨h0,rfl⟩];simp only;rw[hx,Fb7,MN7 (h.heap.side x (List.mem_cons_self ..))];exact sim f _ _ rest _ _ (h.step hk hx _ _)
  ·rw[if_neg h0,if_neg (fun h=>h0 h.1)];exact⟨L,rfl,h⟩
theorem Je7:∀(f f':Nat) (o:Ord) (q:List Ord) (ts:List Trd),(∀x∈q,0<x.cnt)->(q.length<f/\q.length<f')\/(o.cnt<=0/\0<f/\0<f')->Q8 f o q ts=Q8 f' o q ts
 | 0,_,_,_,_,_,h=>by omega
 | _+1,0,_,_,_,_,h=>by omega
 | f+1,f'+1,o,[],ts,_,h=>rfl
 | f+1,f'+1,o,x::q,ts,hc,h=>by
  rw[Q8,Q8];by_cases hcond:0<o.cnt/\aJ4 o x=true
  ·rw[if_pos hcond,if_pos hcond];have hx:=hc x (List.mem_cons_self ..);have hmin:=Du7 hcond.1 hx;have hl:(x::q).length<f+1/\(x::q).length<f'+1:=by omega
   simp only[jC]at hl;rw[Fb7];refine Je7 f f' _ _ _ ?_ ?_
   ·intro z hz;split at hz
    ·exact hc z (List.mem_cons_of_mem _ ((Df7 _ _).mem_iff.1 hz))
    ·rename_i hne
     rcases List.mem_cons.1 hz with rfl|hz
     ·simp only;omega
     ·exact hc z (List.mem_cons_of_mem _ hz)
   ·by_cases hz:x.cnt-O9 o.cnt x.cnt=0
    ·left
     rw[if_pos hz,Cb7];simp only[jC];omega
    ·right
     refine⟨?_,by omega,by omega⟩;simp only;unfold O9 at hz ⊢;split at hz <;> split <;> omega
  ·rw[if_neg hcond,if_neg hcond]
structure Rep(b:Bk)(L:List Ord):Prop where
 ok:BkOk b
 perm:L.Perm b.ps.flatten
 byId:bp4 L
 heap:∀k,k<8->Heap (decide (k<4)) (b.pile k)
 item:∀k,k<8->∀x∈b.pile k,x.item=((k%4:Nat):Int)
 each:∀x∈L,MayP x/\x.id<=b.last
theorem fq4(k:Nat):bk0.pile k=[]:=by
 unfold Bk.pile bk0
 match k with
 | 0=>rfl
 | 1=>rfl
 | 2=>rfl
 | 3=>rfl
 | 4=>rfl
 | 5=>rfl
 | 6=>rfl
 | 7=>rfl
 | k+8=>rfl
theorem ge4:Rep bk0 []:=
 ⟨UM7,.refl _,.nil,fun k _=>(by rw[fq4];exact Heap.nil _),fun k _ x hx=>(by rw[fq4]at hx;cases hx),fun x hx=>(by cases hx)⟩
theorem Cr7(b:Bk)(h:b.ps.length=8):b.len=b.ps.flatten.length:=by
 obtain⟨ps,last⟩:=b
 match ps,h with
 | [p0,p1,p2,p3,p4,p5,p6,p7],_=>
  simp[Bk.len,D7,bR4];omega
theorem LF7(ps:List (List Ord))(h:ps.length=8):(aK4 ps 8).Perm ps.flatten:=by
 have hp:bR4.Perm (List.range 8):=by decide
 have h1:(aK4 ps 8).Perm ((List.range 8).flatMap fun o=>ps.getD o []):=hp.flatMap_right _
 match ps,h with
 | [p0,p1,p2,p3,p4,p5,p6,p7],_=>exact h1
theorem Dv7(ps:List (List Ord))(h:ps.length=8)(k j:Nat)(hk:k<8)(q:List Ord)(m m':Int):(Bk.mk (ps.set k q) m).pile j=if j=k then q else(Bk.mk ps m').pile j:=by
 unfold Bk.pile;simp only[List.getD_eq_getElem?_getD,List.getElem?_set];by_cases hj:k=j
 ·subst hj;simp[h,hk]
 ·rw[if_neg hj,if_neg (fun h=>hj h.symm)]
theorem FL7(b:Bk)(h:b.ps.length=8)(k:Nat)(hk:k<8):b.ps[k]'(by omega)=b.pile k:=by unfold Bk.pile;simp[List.getD_eq_getElem?_getD,jG (show k<b.ps.length by omega)]
def dc4(b:Bk)(k:Nat):List Ord:=(b.ps.eraseIdx k).flatten
theorem Gt7(b:Bk)(h:b.ps.length=8)(k:Nat)(hk:k<8):b.ps.flatten.Perm (b.pile k++dc4 b k):=by have:=(Ca7 b.ps k (by omega)).symm.flatten;rw[FL7 b h k hk]at this;exact this
theorem Gu7(ps:List (List Ord))(h:ps.length=8)(k:Nat)(hk:k<8)(q:List Ord):(ps.set k q).flatten.Perm (q++(ps.eraseIdx k).flatten):=by have:=(Ca7 (ps.set k q) k (by simp;omega)).symm.flatten;rw[List.getElem_set_self,List.eraseIdx_set_eq]at this;exact this
theorem MO7(ps:List (List Ord))(h:ps.length=8)(j:Nat)(hj:j<8)(o:Ord):(ps.set j (ar4 (ps.getD j []) o)).flatten.Perm (o::ps.flatten):=by have h1:=Gu7 ps h j hj (ar4 (ps.getD j []) o);have h2:=Gt7 ⟨ps,0⟩ h j hj;exact(h1.trans ((EZ7 _ _).append_right _)).trans (h2.symm.cons o)
theorem QS7{b:Bk}(h:b.ps.length=8){k:Nat}{z:Ord}(hz:z∈dc4 b k):∃j,j<8/\j≠k/\z∈b.pile j:=by obtain⟨p,hp,hzp⟩:=List.mem_flatten.1 hz;obtain⟨j,hj,hjk,rfl⟩:=List.mem_eraseIdx_iff_getElem.1 hp;exact⟨j,by omega,hjk,by rw[<-FL7 b h j (by omega)];exact hzp⟩
theorem Rep.far{b:Bk}{L:List Ord}(h:Rep b L){o:Ord}{it:Nat}(hit:o.item=it)(h4:it<4):∀x∈dc4 b (w9 it (!o.buy)),K5 o x=false:=by
 intro x hx;obtain⟨j,hj,hjk,hxj⟩:=QS7 h.ok.n8 hx;have h1:=h.item j hj x hxj;have h2:=(h.heap j hj).side x hxj
 cases hm:K5 o x with
 | false=>rfl
 | true=>
  exfalso
  apply hjk;unfold K5 at hm;simp only[jB,decide_eq_true_eq,bne_iff_ne,ne_eq]at hm;obtain⟨⟨h3,h5⟩,_⟩:=hm;rw[hit,h1]at h3;rw[h2]at h5;have h6:it=j%4:=by omega
  unfold w9
  cases ho:o.buy
  ·rw[ho]at h5
   have:j<4:=by
    by_cases h:j<4
    ·exact h
    ·simp[h]at h5
   simp only[Bool.not_false,cond_true];omega
  ·rw[ho]at h5;have:¬j<4:=by intro h;simp[h]at h5
   simp only[Bool.not_true,cond_false];omega
theorem Ei7(it:Nat)(y:Bool)(h:it<4):decide (w9 it y<4)=y:=by unfold w9;cases y <;> simp;exact h
theorem Gv7(it:Nat)(y:Bool)(h:it<4):w9 it y%4=it:=by unfold w9;cases y <;> simp <;> omega
theorem Rep.sim{b:Bk}{L:List Ord}(h:Rep b L){o:Ord}{it:Nat}(hit:o.item=it)(h4:it<4):Sim o (b.pile (w9 it (!o.buy))) (dc4 b (w9 it (!o.buy))) L:=by
 have hk:=Bt7 it (!o.buy) h4;refine⟨h.perm.trans (Gt7 b h.ok.n8 _ hk),?_,?_,h.far hit h4,h.byId⟩
 ·have:=h.heap _ hk;rw[Ei7 it _ h4]at this;exact this
 ·intro x hx;rw[h.item _ hk x hx,Gv7 it _ h4,hit]
theorem SG7:∀(f:Nat) (o:Ord) (q:List Ord) (ts:List Trd),(∀x∈q,0<x.cnt)->0<=o.cnt->(Q8 f o q ts).1={ o with cnt:=(Q8 f o q ts).1.cnt }/\0<=(Q8 f o q ts).1.cnt/\(Q8 f o q ts).1.cnt<=o.cnt
 | 0,o,q,ts,_,h=>⟨rfl,h,Int.le_refl _⟩
 | f+1,o,[],ts,_,h=>⟨rfl,h,Int.le_refl _⟩
 | f+1,o,x::q,ts,hq,h=>by
  rw[Q8];by_cases hc:0<o.cnt/\aJ4 o x=true
  ·rw[if_pos hc];have hx:=hq x (List.mem_cons_self ..);have hmin:=Du7 hc.1 hx;rw[Fb7]
   obtain⟨h1,h2,h3⟩:=SG7 f { o with cnt:=o.cnt-O9 o.cnt x.cnt } (if x.cnt-O9 o.cnt x.cnt=0 then bS4 ({ x with cnt:=x.cnt-O9 o.cnt x.cnt }::q)else{ x with cnt:=x.cnt-O9 o.cnt x.cnt }::q) (ts++[af4 o x]) (fun z hz=>by
    split at hz
    ·exact hq z (List.mem_cons_of_mem _ ((Df7 _ _).mem_iff.1 hz))
    ·rename_i hne
     rcases List.mem_cons.1 hz with rfl|hz
     ·simp only;omega
     ·exact hq z (List.mem_cons_of_mem _ hz)) (by simp only;omega)
   exact⟨h1,h2,by simp only at h3;omega⟩
  ·rw[if_neg hc];exact⟨rfl,h,Int.le_refl _⟩
theorem LG7(P:Ord->Prop)(hP:∀x c,P x->1<=c->c<=x.cnt->P { x with cnt:=c })(h1:∀x,P x->1<=x.cnt):∀(f:Nat) (o:Ord) (L:List Ord) (ts:List Trd),(∀x∈L,P x)->(∀x∈(w6 f o L ts).2.1,P x)/\(w6 f o L ts).2.1.length<=L.length
 | 0,o,L,ts,h=>⟨h,Nat.le_refl _⟩
 | f+1,o,L,ts,h=>by
  rw[w6];by_cases h0:0<o.cnt
  ·rw[if_pos h0]
   cases hb:B8 o L L.length with
   | none=>exact⟨h,Nat.le_refl _⟩
   | some k=>
    obtain⟨hk,_,_⟩:=AK7 hb;have hx:=h _ (L8 hk);have hmin:=Du7 h0 (h1 _ hx)
    have hcut:∀x∈bf4 L k ((at' L k).cnt-O9 o.cnt (at' L k).cnt),P x:=by
     unfold bf4;split
     ·exact fun x hx=>h x (List.mem_of_mem_eraseIdx hx)
     ·intro x hxm
      rcases List.mem_or_eq_of_mem_set hxm with hx'|rfl
      ·exact h x hx'
      ·exact hP _ _ hx (by omega) (by omega)
    have hlen:(bf4 L k ((at' L k).cnt-O9 o.cnt (at' L k).cnt)).length<=L.length:=by
     unfold bf4;split
     ·rw[List.length_eraseIdx];split <;> omega
     ·rw[List.length_set];exact Nat.le_refl _
    obtain⟨h2,h3⟩:=LG7 P hP h1 f { o with cnt:=o.cnt-O9 o.cnt (at' L k).cnt } (bf4 L k ((at' L k).cnt-O9 o.cnt (at' L k).cnt)) (ts++[L6 o (at' L k)]) hcut;exact⟨h2,Nat.le_trans h3 hlen⟩
  ·rw[if_neg h0];exact⟨h,Nat.le_refl _⟩
theorem HY7{x:Ord}{c:Int}(h:MayP x)(h1:1<=c)(h2:c<=x.cnt):MayP { x with cnt:=c }:=⟨h.id0,h.id1,h.who0,h.who1,h.item0,h.item1,h1,Int.le_trans h2 h.cnt1,h.price0,h.price1⟩
theorem Gw7{b:Bk}{L:List Ord}(h:Rep b L)(o:Ord):
  (J5 b o).trades=(L7 L b.last o).trades/\(J5 b o).left=(L7 L b.last o).left/\(J5 b o).errno=(L7 L b.last o).errno/\(J5 b o).book.last=(L7 L b.last o).last/\Rep (J5 b o).book (L7 L b.last o).L:=by
 have hlen:b.len=L.length:=by rw[Cr7 b h.ok.n8,h.perm.length_eq]
 unfold J5 L7;by_cases hbad:P9 o=false\/o.id<=b.last
 ·rw[if_pos hbad,if_pos hbad];exact⟨rfl,rfl,rfl,rfl,h⟩
 ·rw[if_neg hbad,if_neg hbad,hlen];by_cases hf:32<=L.length
  ·rw[if_pos hf,if_pos hf];exact⟨rfl,rfl,rfl,rfl,h⟩
  ·rw[if_neg hf,if_neg hf]
   have hmay:MayP o:=Ao7.1 (by
    cases hm:P9 o with
    | true=>rfl
    | false=>exact absurd (Or.inl hm) hbad)
   have hid:b.last<o.id:=by
    by_cases hle:o.id<=b.last
    ·exact absurd (Or.inr hle) hbad
    ·omega
   obtain⟨it,hit⟩:∃it:Nat,o.item=it:=⟨o.item.toNat,by have:=hmay.item0;omega⟩
   have h4:it<4:=by have:=hmay.item1;omega
   have hik:bz4 o=it:=by unfold bz4;rw[hit];rfl
   dsimp only;rw[hik];have hk:=Bt7 it (!o.buy) h4;have hj:=Bt7 it o.buy h4;have hne:=LA7 it o.buy h4;have hsim:=h.sim hit h4;have hq:∀x∈b.pile (w9 it (!o.buy)),0<x.cnt:=fun x hx=>by have:=(h.each x (hsim.perm.mem_iff.2 (List.mem_append_left _ hx))).1.cnt0;omega
   have hlq:(b.pile (w9 it (!o.buy))).length<=L.length:=by rw[<-hlen];exact Fa7 b _ hk
   rw[Je7 ((b.pile (w9 it (!o.buy))).length+1) (L.length+1) o _ [] hq (.inl ⟨by omega,by omega⟩)];obtain⟨L',hr,hs⟩:=sim (L.length+1) o _ _ _ [] hsim;obtain⟨ho1,ho2,ho3⟩:=SG7 (L.length+1) o (b.pile (w9 it (!o.buy))) [] hq (by have:=hmay.cnt0;omega);obtain⟨hkeep,hlk⟩:=LG7 (fun x=>MayP x/\x.id<=b.last) (fun x c hx h1 h2=>⟨HY7 hx.1 h1 h2,hx.2⟩) (fun x hx=>hx.1.cnt0) (L.length+1) o L [] h.each;rw[hr]at hkeep hlk ⊢;generalize Q8 (L.length+1) o (b.pile (w9 it (!o.buy))) []=r at hs ho1 ho2 ho3 hr hkeep hlk ⊢;obtain⟨o',q',ts⟩:=r;simp only at hs ho1 ho2 ho3 hkeep hlk ⊢;have hob:o'.buy=o.buy:=by rw[ho1]
   have hoi:o'.item=it:=by rw[ho1];exact hit
   have hoid:o'.id=o.id:=by rw[ho1]
   have hn8:=h.ok.n8;have hps:(b.ps.set (w9 it (!o.buy)) q').length=8:=by simpa using hn8
   refine⟨by trivial,by trivial,by trivial,by trivial,?_⟩;have hpermS:L'.Perm (b.ps.set (w9 it (!o.buy)) q').flatten:=hs.perm.trans (Gu7 b.ps hn8 _ hk q').symm
   have hheap1:∀j,j<8->Heap (decide (j<4)) ((Bk.mk (b.ps.set (w9 it (!o.buy)) q') o.id).pile j):=by
    intro j hj;rw[Dv7 b.ps hn8 _ j hk q' o.id b.last];split
    ·rename_i he
     rw[he,Ei7 it _ h4];have:=hs.heap;rw[hob]at this;exact this
    ·exact h.heap j hj
   have hitem1:∀j,j<8->∀x∈(Bk.mk (b.ps.set (w9 it (!o.buy)) q') o.id).pile j,x.item=((j%4:Nat):Int):=by
    intro j hj x hx;rw[Dv7 b.ps hn8 _ j hk q' o.id b.last]at hx;split at hx
    ·rename_i he
     rw[he,Gv7 it _ h4,hs.item x hx,hoi]
    ·exact h.item j hj x hx
   have hid1:=hmay.id1;have hlast:=h.ok.last0;by_cases hc:0<o'.cnt
   ·rw[if_pos hc,if_pos hc];have hmo:MayP o':=by rw[ho1];exact HY7 hmay (by omega) ho3
    have hperm:(L'++[o']).Perm ((b.ps.set (w9 it (!o.buy)) q').set (w9 it o.buy) (ar4 ((b.ps.set (w9 it (!o.buy)) q').getD (w9 it o.buy) []) o')).flatten:=
     ((List.perm_append_singleton o' L').trans (hpermS.cons o')).trans (MO7 _ hps _ hj o').symm
    have heach:∀x∈L'++[o'],MayP x/\x.id<=o.id:=by
     intro x hx
     rcases List.mem_append.1 hx with hx|hx
     ·have:=hkeep x hx;exact⟨this.1,by omega⟩
     ·rw[List.mem_singleton.1 hx];exact⟨hmo,by omega⟩
    refine⟨⟨by simp[hn8],?_,?_,by simp only;omega,hid1⟩,hperm,?_,?_,?_,heach⟩
    ·rw[Cr7 _ (by simp[hn8]),<-hperm.length_eq,jA];simp only[jC,List.length_nil];omega
    ·intro p hp x hx;have hxm:x∈L'++[o']:=hperm.mem_iff.2 (List.mem_flatten.2 ⟨p,hp,hx⟩);have:=(heach x hxm).1;exact⟨this.cnt0,this.cnt1⟩
    ·refine List.pairwise_append.2 ⟨hs.byId,List.pairwise_singleton _ _,?_⟩;intro x hx z hz;rw[List.mem_singleton.1 hz,hoid];have:=(hkeep x hx).2;omega
    ·intro j hj8;rw[Dv7 _ hps _ j hj _ o.id o.id];split
     ·rename_i he
      rw[he,Ei7 it _ h4];have:=hheap1 _ hj;rw[Ei7 it _ h4]at this;exact this.push hob
     ·exact hheap1 j hj8
    ·intro j hj8 x hx;rw[Dv7 _ hps _ j hj _ o.id o.id]at hx;split at hx
     ·rename_i he
      rcases List.mem_cons.1 ((EZ7 _ _).mem_iff.1 hx)with rfl|hx
      ·rw[he,Gv7 it _ h4,hoi]
      ·rw[he];exact hitem1 _ hj x hx
     ·exact hitem1 j hj8 x hx
   ·rw[if_neg hc,if_neg hc];have heach:∀x∈L',MayP x/\x.id<=o.id:=fun x hx=>by have:=hkeep x hx;exact⟨this.1,by omega⟩
    refine⟨⟨hps,?_,?_,by simp only;omega,hid1⟩,hpermS,hs.byId,hheap1,hitem1,heach⟩
    ·rw[Cr7 _ hps,<-hpermS.length_eq];omega
    ·intro p hp x hx;have hxm:x∈L':=hpermS.mem_iff.2 (List.mem_flatten.2 ⟨p,hp,hx⟩);have:=(heach x hxm).1;exact⟨this.cnt0,this.cnt1⟩
theorem Hv7:∀{ps:List (List Ord)} {id:Int} {ks:List Nat} {k i:Nat},aB4 ps id ks=some (k,i)->k∈ks/\i<(ps.getD k []).length/\((ps.getD k []).getD i o0).id=id
 | _,_,[],_,_,h=>by cases h
 | ps,id,k'::ks,k,i,h=>by
  by_cases hx:bT4 id (ps.getD k' [])<0
  ·rw[Gq7 hx]at h;obtain⟨h1,h2,h3⟩:=Hv7 h;exact⟨List.mem_cons_of_mem _ h1,h2,h3⟩
  ·obtain⟨j,hj⟩:∃j:Nat,bT4 id (ps.getD k' [])=j:=⟨(bT4 id (ps.getD k' [])).toNat,by omega⟩
   obtain⟨h1,h2,h3⟩:=Gr7 (ks:=ks) hj;rw[h1]at h
   cases h
   exact⟨List.mem_cons_self ..,h2,h3⟩
theorem Gx7:∀{ps:List (List Ord)} {id:Int} {ks:List Nat},aB4 ps id ks=none->∀k∈ks, ∀x∈ps.getD k [],x.id≠id
 | _,_,[],_,k,hk=>by cases hk
 | ps,id,k'::ks,h,k,hk=>by
  rw[aB4]at h
  cases hf:(ps.getD k' []).findIdx? (fun o=>o.id==id)with
  | some i=>rw[hf]at h;cases h
  | none=>
   rw[hf]at h
   rcases List.mem_cons.1 hk with rfl|hk
   ·intro x hx;simpa using List.findIdx?_eq_none_iff.1 hf x hx
   ·exact Gx7 h k hk
theorem MP7{b:Bk}{L:List Ord}(h:Rep b L)(id:Int):
  (ac4 b id).o=(A6 L id).o/\(ac4 b id).errno=(A6 L id).errno/\(ac4 b id).book.last=b.last/\Rep (ac4 b id).book (A6 L id).L:=by
 have hn8:=h.ok.n8;unfold ac4 A6
 cases hf:aB4 b.ps id bR4 with
 | none=>
  have hno:∀x∈L,x.id≠id:=by intro x hx;have hx':=(LF7 b.ps hn8).mem_iff.2 (h.perm.mem_iff.1 hx);obtain⟨o,ho,hxo⟩:=List.mem_flatMap.1 hx';exact Gx7 hf o (List.mem_of_mem_take ho) x hxo
  rw[List.findIdx?_eq_none_iff.2 (fun x hx=>by simpa using hno x hx)];exact⟨rfl,rfl,rfl,h⟩
 | some p=>
  obtain⟨k,i⟩:=p;obtain⟨hkm,hil,hid⟩:=Hv7 hf
  have hk8:k<8:=by
   have:∀o∈bR4,o<8:=by decide
   exact this k hkm
  have hil':i<(b.pile k).length:=hil;have hsp:=Gt7 b hn8 k hk8;have hrem:=IZ7 (b.pile k) i hil';have hx:(b.pile k).getD i o0=(b.pile k)[i]:=by simp[List.getD_eq_getElem?_getD,jG hil']
  have hxid:((b.pile k)[i]).id=id:=by rw[<-hx];exact hid
  have hxL:(b.pile k)[i]∈L:=h.perm.mem_iff.2 (hsp.mem_iff.2 (List.mem_append_left _ (jW hil')))
  cases hg:L.findIdx? (fun o=>o.id==id)with
  | none=>
   have:=List.findIdx?_eq_none_iff.1 hg _ hxL;simp[hxid]at this
  | some m=>
   obtain⟨hm,hmx,_⟩:=List.findIdx?_eq_some_iff_getElem.1 hg;have hmid:(at' L m).id=id:=by rw[w5 hm];simpa using hmx
   have heq:(b.pile k)[i]=at' L m:=h.byId.eq hxL (L8 hm) (by rw[hxid,hmid]);dsimp only;rw[hx,heq];refine⟨rfl,rfl,rfl,?_⟩
   have hperm:(L.eraseIdx m).Perm (b.ps.set k (cn4 (b.pile k) i)).flatten:=by
    have h1:=(HX7 L hm).trans (h.perm.trans hsp);have h2:(b.pile k++dc4 b k).Perm (at' L m::(cn4 (b.pile k) i++dc4 b k)):=by rw[<-heq];exact(hrem.symm.append_right (dc4 b k))
    exact(h1.trans h2).cons_inv.trans (Gu7 b.ps hn8 k hk8 _).symm
   have heach:∀x∈L.eraseIdx m,MayP x/\x.id<=b.last:=fun x hx=>h.each x (List.mem_of_mem_eraseIdx hx)
   have hps:(b.ps.set k (cn4 (b.pile k) i)).length=8:=by simpa using hn8
   refine⟨⟨hps,?_,?_,h.ok.last0,h.ok.last1⟩,hperm,h.byId.erase m,?_,?_,heach⟩
   ·rw[Cr7 _ hps,<-hperm.length_eq,List.length_eraseIdx];have:=h.ok.few;rw[Cr7 _ hn8,<-h.perm.length_eq]at this;split <;> omega
   ·intro p hp x hx;have:=(heach x (hperm.mem_iff.2 (List.mem_flatten.2 ⟨p,hp,hx⟩))).1;exact⟨this.cnt0,this.cnt1⟩
   ·intro j hj;rw[Dv7 b.ps hn8 k j hk8 _ b.last b.last];split
    ·rename_i he
     rw[he];exact(h.heap k hk8).rem hil'
    ·exact h.heap j hj
   ·intro j hj x hx;rw[Dv7 b.ps hn8 k j hk8 _ b.last b.last]at hx;split at hx
    ·rename_i he
     rw[he];exact h.item k hk8 x (hrem.mem_iff.1 (List.mem_cons_of_mem _ hx))
    ·exact h.item j hj x hx
structure TrOk(o x:Ord)(t:Trd):Prop where
 price:t.price=x.price
 buys:o.buy=true->t.sell=x.id/\t.bid=o.price/\x.price<=o.price
 sells:o.buy=false->t.buy=x.id/\t.bid=x.price/\o.price<=x.price
theorem On7{o x:Ord}(hm:K5 o x=true):TrOk o x (L6 o x):=by
 unfold K5 at hm;simp only[jB,decide_eq_true_eq]at hm;obtain⟨_,h3⟩:=hm;unfold L6
 cases hb:o.buy
 ·rw[hb]at h3;simp only[Bool.false_eq_true,if_false,decide_eq_true_eq]at h3 ⊢;exact⟨rfl,fun h=>(by rw[hb]at h;cases h),fun _=>⟨rfl,rfl,h3⟩⟩
 ·rw[hb]at h3;simp only[if_true,decide_eq_true_eq]at h3 ⊢;exact⟨rfl,fun _=>⟨rfl,rfl,h3⟩,fun h=>(by rw[hb]at h;cases h)⟩
theorem Hw7:∀(f:Nat) (o:Ord) (L:List Ord) (ts:List Trd) (t:Trd),t∈(w6 f o L ts).2.2->t∈ts\/∃x∈L,TrOk o x t
 | 0,o,L,ts,t,h=>.inl h
 | f+1,o,L,ts,t,h=>by
  rw[w6]at h;by_cases h0:0<o.cnt
  ·rw[if_pos h0]at h
   cases hb:B8 o L L.length with
   | none=>rw[hb]at h;exact .inl h
   | some k=>
    rw[hb]at h;obtain⟨hk,hm,_⟩:=AK7 hb
    rcases Hw7 f _ _ _ t h with h|⟨x,hx,hok⟩
    ·rcases List.mem_append.1 h with h|h
     ·exact .inl h
     ·rw[List.mem_singleton.1 h];exact .inr ⟨_,L8 hk,On7 hm⟩
    ·have hx':∃z∈L,z.id=x.id/\z.price=x.price:=by
      unfold bf4 at hx;split at hx
      ·exact⟨x,List.mem_of_mem_eraseIdx hx,rfl,rfl⟩
      ·rcases List.mem_or_eq_of_mem_set hx with hx|rfl
       ·exact⟨x,hx,rfl,rfl⟩
       ·exact⟨_,L8 hk,rfl,rfl⟩
     obtain⟨z,hz,e1,e2⟩:=hx';refine .inr ⟨z,hz,⟨by rw[e2];exact hok.price,fun hy=>?_,fun hy=>?_⟩⟩
     ·have:=hok.buys hy;rw[e1,e2];exact this
     ·have:=hok.sells hy;rw[e1,e2];exact this
  ·rw[if_neg h0]at h;exact .inl h
theorem Jf7{b:Bk}{L:List Ord}(h:Rep b L)(o:Ord){t:Trd}(ht:t∈(J5 b o).trades):∃x∈L,TrOk o x t:=by
 rw[(Gw7 h o).1]at ht;unfold L7 at ht;split at ht
 ·cases ht
 ·split at ht
  ·cases ht
  ·rcases Hw7 _ _ _ _ _ ht with h|h
   ·cases h
   ·exact h
def pTo(L:List Ord)(id:Int):Nat->Int
 | 0=>0
 | n+1=>if(at' L n).id=id then(at' L n).price else pTo L id n
theorem QT7{b:Bk}{L l:List Ord}(h:Rep b L)(hp:l.Perm (aK4 b.ps 8))(hs:l.Pairwise fun x z=>x.id<=z.id):l=L:=
 Jc7 ((hp.trans (LF7 b.ps h.ok.n8)).trans h.perm.symm) hs h.byId
theorem Tm7(bb:Nat){b:Bk}{L:List Ord}(h:Rep b L)(W w:World)(Lr:List HP)(hS:St W (D9 bb b::Lr) w):
  Calls Tryz.prog 172 #[.P bb] w fun e w'=>∃a c,e=.returned (.slice a L.length c)/\St W (D9 bb b::j8 (.slice a L.length c) L::Lr) w':=by
 refine(Ol7 bb b h.ok.few W w Lr hS).mono ?_;rintro e w' ⟨v,l,rfl,hl,hsd,hS⟩;obtain rfl:=QT7 h hl hsd;obtain⟨a,c,rfl⟩:=hS.drop.rowVal;exact⟨a,c,rfl,hS⟩
theorem QU7(bb:Nat){b:Bk}{L:List Ord}(h:Rep b L)(o:Ord)(W w:World)(Lr:List HP)(hS:St W (D9 bb b::Lr) w):
  Calls Tryz.prog 169 #[.P bb,.agg o.cells.toArray] w fun e w'=>∃b' ts a c,(ts=(L7 L b.last o).trades/\b'.last=(L7 L b.last o).last/\Rep b' (L7 L b.last o).L/\∀t∈ts, ∃x∈L,TrOk o x t) /\
   e=.returned (.tuple #[.slice a ts.length c,.I (L7 L b.last o).left,.I (L7 L b.last o).errno])/\St W (D9 bb b'::as4 (.slice a ts.length c) ts::Lr) w':=by
 obtain⟨h1,h2,h3,h4,h5⟩:=Gw7 h o;refine(MJ7 bb b o h.ok W w Lr hS).mono ?_;rintro e w' ⟨v,rfl,hS⟩;obtain⟨a,c,rfl⟩:=hS.drop.rowVal;refine⟨_,_,a,c,⟨h1,h4,h5,fun t ht=>Jf7 h o ht⟩,?_,hS⟩;rw[h2,h3]
theorem Oo7(bb:Nat){b:Bk}{L:List Ord}(h:Rep b L)(id:Int)(W w:World)(Lr:List HP)(hS:St W (D9 bb b::Lr) w):
  Calls Tryz.prog 174 #[.P bb,.I id] w fun e w'=>∃b',(b'.last=b.last/\Rep b' (A6 L id).L) /\
   e=.returned (.tuple #[.agg (A6 L id).o.cells.toArray,.I (A6 L id).errno])/\St W (D9 bb b'::Lr) w':=by
 obtain⟨h1,h2,h3,h4⟩:=MP7 h id;refine(Kp7 bb b id h.ok.few W w Lr hS).mono ?_;rintro e w' ⟨rfl,hS⟩;exact⟨_,⟨h3,h4⟩,by rw[h1,h2],hS⟩
theorem MQ7(o s:Ord)(W w:World)(L:List HP)(hS:St W L w):
  Calls Tryz.prog 256 #[.agg o.cells.toArray,.agg s.cells.toArray] w fun e w'=>e=.returned (.bool (K5 o s))/\St W L w':=by
 obtain⟨i,u,y,t,c,p⟩:=o;obtain⟨i',u',y',t',c',p'⟩:=s;simp only[Ord.cells];by_cases ht:t=t'
 ·subst ht
  cases y <;> cases y'
  all_goals go_enter Tryz.func256,Tryz.ntmps256
  all_goals go_wp2_with(first|refine zbx hS ?_;clear hS;intro b w hS|refine zl1 hS ?_)
  all_goals go_ret
  all_goals exact⟨by simp[K5],hS.drop.drop⟩
 ·have ht2:(t != t')=true:=by simpa using ht
  have ht3:(t==t')=false:=by simpa using ht
  go_enter Tryz.func256,Tryz.ntmps256;go_wp2_with(first|refine zbx hS ?_;clear hS;intro b w hS|refine zl1 hS ?_)
  all_goals go_ret
  all_goals exact⟨by simp[K5,ht],hS.drop.drop⟩
theorem Dw7{o s:Ord}{r:Bool}(h:K5 o s=r)(W w:World)(L:List HP)(hS:St W L w):
  Calls Tryz.prog 256 #[.agg o.cells.toArray,.agg s.cells.toArray] w fun e w'=>e=.returned (.bool r)/\St W L w':=h▸MQ7 o s W w L hS
def kI:Option Nat->Int
 | none => -1
 | some k=>k
def gf4(W:World)(Lr:List HP)(o:Ord)(L:List Ord)(v5 v6:Value)(w:World):Prop:=
 ∃i:Nat,v5=.I (kI (B8 o L i))/\v6=.I i/\i<=L.length/\St W Lr w
theorem Op7{o:Ord}{L:List Ord}{i:Nat}(h:K5 o (at' L i)=false):B8 o L (i+1)=B8 o L i:=by rw[B8,h];rfl
theorem Fc7{o:Ord}{L:List Ord}{i:Nat}(h:K5 o (at' L i)=true)(hg:do4 o L i (B8 o L i)=true):B8 o L (i+1)=some i:=by rw[B8,h,hg];rfl
theorem Hx7{o:Ord}{L:List Ord}{i:Nat}(hg:do4 o L i (B8 o L i)=false):B8 o L (i+1)=B8 o L i:=by rw[B8,hg];simp
abbrev tB6a:List Nat:=[0,0,2,6,14,0,62,126,255,511]
abbrev tB6b:List Nat:=[0,1,3,7,15,31,63,127,255,511,63,2047,4095,8191,63,16447,49215,114751,63,507967,1032255,2080831,4194303,8388607,16777215,33554431,67108863,134217727,268435455,536870911,1073741823,2147483647,4294967295,8589934591,1073741823,34359738367,68719476735,137438953471,1073741823,275951648767,825707462655,1925219090431,1073741823,8522288857087,17318381879295,34910567923711,70368744177663,140737488355327,281474976710655]
theorem HZ7(o:Ord)(L:List Ord)(xb:Nat)(last:Int)(v:Value)(hlen:L.length<=32)(W w:World)(Lr:List HP)(hS:St W (blk xb [v,.I last] 244::j8 v L::Lr) w):
  Calls Tryz.prog 227 #[.P xb,.agg o.cells.toArray] w fun e w'=>e=.returned (.I (kI (B8 o L L.length)))/\St W (blk xb [v,.I last] 244::j8 v L::Lr) w':=by
 obtain⟨a,cap,rfl⟩:=hS.drop.rowVal;obtain⟨i,u,y,t,c,p⟩:=o;simp only[Ord.cells];go_enter Tryz.func227,Tryz.ntmps227;go_wp2_with(first|refine zbx hS ?_;clear hS;intro b w hS)
 go_loopw [5,6] (fun v5 v6 wr=>gf4 W (blk b [.I i,.string u,.bool y,.I t,.I c,.I p] 166::blk xb [.slice a L.length cap,.I last] 244::j8 (.slice a L.length cap) L::Lr) ⟨i,u,y,t,c,p⟩ L v5 v6 wr) (fun _ v _=>L.length-(intOf v).toNat)
 case atStart=>exact⟨0,rfl,rfl,by omega,hS⟩
 case round=>
  clear hS;obtain⟨j,rfl,rfl,hj,hS⟩:=hrel;by_cases hjn:j=L.length
  ·subst hjn;go_wp2_with(first|refine zl1 hS ?_);go_ret;exact⟨rfl,hS.drop⟩
  ·have hil:j<L.length:=by omega
   clear hjn hj;obtain⟨⟨g,rfl⟩,_,_⟩:=St.rowAddr hS.drop.drop (by omega);have f5:(Ord.cells L[j])[5]? = some (.I L[j].price):=rfl
   cases hm:K5 ⟨i,u,y,t,c,p⟩ L[j]
   ·have hb:=Op7 (i:=j) (by rw[w5 hil];exact hm);go_wp2_with(first|refine zl1 hS ?_);refine rf3 tB6a (fun _=>false) (fun i=>if i==8 then some (.bool false)else none) [] [none,none,none] hS ?_;intro nd;refine zcN ?_;refine cR ?_;refine zcn ?_;refine cR ?_;refine zc1 ?_
    iterate 2 (refine cR ?_)
    (refine zcN ?_ (hc:=by(intro F;exact i8.there (i8.there (i8.rowE Ord.len hil)))));refine zcv ?_ (hs:=by(intro F w hS;(try clear hS0);exact Dw7 hm W w _ hS));refine cR ?_;refine Ad7 ?_;clear hS;intro w hS;have hS2:St W [blk b _ _,blk xb _ _,j8 _ _,sats _] w:=hS;clear hS;have hS:=hS2.unpack [_,_,_];clear hS2;simp only[jK,jN]at hS;go_wp2_with(fail);go_roundw
    case rel=>exact⟨j+1,by rw[hb],rfl,hil,hS⟩
    case measure=>simp[intOf];omega
   ·have hm':K5 ⟨i,u,y,t,c,p⟩ (at' L j)=true:=by rw[w5 hil];exact hm
    cases hbt:B8 ⟨i,u,y,t,c,p⟩ L j with
    | none=>
     have hb:=Fc7 hm' (by rw[hbt];rfl);have hk1:kI (none:Option Nat) = -1:=rfl;go_wp2_with(first|refine zl1 hS ?_);refine rf3 tB6a (fun _=>false) (fun i=>if i==8 then some (.bool true)else none) [] [none,none,none] hS ?_;intro nd;refine zcN ?_;refine cR ?_;refine zcn ?_;refine cR ?_;refine zc1 ?_
     iterate 2 (refine cR ?_)
     (refine zcN ?_ (hc:=by(intro F;exact i8.there (i8.there (i8.rowE Ord.len hil)))));refine zcv ?_ (hs:=by(intro F w hS;(try clear hS0);exact Dw7 hm W w _ hS));refine cR ?_;refine Ad7 ?_;clear hS;intro w hS;have hS2:St W [blk b _ _,blk xb _ _,j8 _ _,sats _] w:=hS;clear hS;have hS:=hS2.unpack [_,_,_];clear hS2;simp only[jK,jN]at hS;go_wp2_with(fail);refine rf2 tB6b (fun _=>false) [] [none,none,none] hS ?_;intro nd
     iterate 3 (refine cR ?_)
     iterate 21 (refine BL7 (by kernel_rfl) rfl ?_;refine frS ?_)
     iterate 2 (refine cR ?_)
     iterate 22 (refine BL7 (by kernel_rfl) rfl ?_;refine frS ?_)
     (refine cR ?_);refine Ad7 ?_;clear hS;intro w hS;have hS2:St W [blk b _ _,blk xb _ _,j8 _ _,sats _] w:=hS;clear hS;have hS:=hS2.unpack [_,_,_];clear hS2;simp only[jK,jN]at hS;go_wp2_with(fail);go_roundw
     case rel=>exact⟨j+1,by rw[hb];rfl,rfl,hil,hS⟩
     case measure=>simp[intOf];omega
    | some k=>
     have hkj:=(AK7 hbt).1;have hkl:k<L.length:=by omega
     have hk1:kI (some k)=(k:Int):=rfl;have g5:(Ord.cells L[k])[5]? = some (.I L[k].price):=rfl;have hgd:do4 ⟨i,u,y,t,c,p⟩ L j (some k)=at4 ⟨i,u,y,t,c,p⟩ L[j] L[k]:=by show at4 _ (at' L j) (at' L k)=_;rw[w5 hil,w5 hkl]
     unfold at4 at hgd;generalize L[j].price=pj at f5 hgd;generalize L[k].price=pk at g5 hgd
     cases y
     ·simp only[Bool.false_eq_true,if_false]at hgd;by_cases hlt:pk<pj
      ·have hb:=Fc7 hm' (by rw[hbt,hgd];simpa using hlt);have hd:decide (pk<pj)=true:=by simpa using hlt
       go_wp2_with(first|refine zl1 hS ?_);refine rf3 tB6a (fun _=>false) (fun i=>if i==8 then some (.bool true)else none) [] [none,none,none] hS ?_;intro nd;refine zcN ?_;refine cR ?_;refine zcn ?_;refine cR ?_;refine zc1 ?_
       iterate 2 (refine cR ?_)
       (refine zcN ?_ (hc:=by(intro F;exact i8.there (i8.there (i8.rowE Ord.len hil)))));refine zcv ?_ (hs:=by(intro F w hS;(try clear hS0);exact Dw7 hm W w _ hS));refine cR ?_;refine Ad7 ?_;clear hS;intro w hS;have hS2:St W [blk b _ _,blk xb _ _,j8 _ _,sats _] w:=hS;clear hS;have hS:=hS2.unpack [_,_,_];clear hS2;simp only[jK,jN]at hS;go_wp2_with(fail);refine rf2 tB6b (fun _=>false) [] [none,none,none] hS ?_;intro nd
       iterate 3 (refine cR ?_)
       (refine cR ?_);refine zc1 ?_;refine cR ?_
       iterate 17 (refine BL7 (by kernel_rfl) rfl ?_;refine frS ?_)
       iterate 4 (refine cR ?_)
       (refine zc1 ?_)
       iterate 2 (refine cR ?_)
       iterate 1 (refine cR ?_)
       (refine zcn ?_);refine cR ?_;refine zc1 ?_
       iterate 3 (refine cR ?_)
       (refine zc1 ?_ (hc:=by(intro F;exact i9.there (i9.there (i9.rowE Ord.len hil f5)))));refine cR ?_;refine zcn ?_;refine cR ?_;refine zc1 ?_
       iterate 3 (refine cR ?_)
       (refine zc1 ?_ (hc:=by(intro F;exact i9.there (i9.there (i9.rowE Ord.len hkl g5)))));refine cR ?_
       iterate 2 (refine cR ?_)
       refine Ad7 ?_;clear hS;intro w hS;have hS2:St W [blk b _ _,blk xb _ _,j8 _ _,sats _] w:=hS;clear hS;have hS:=hS2.unpack [_,_,_];clear hS2;simp only[jK,jN]at hS;go_wp2_with(fail);go_roundw
       case rel=>exact⟨j+1,by rw[hb];rfl,rfl,hil,hS⟩
       case measure=>simp[intOf];omega
      ·have hb:=Hx7 (i:=j) (o:=⟨i,u,false,t,c,p⟩) (L:=L) (by rw[hbt,hgd];simpa using hlt);have hd:decide (pk<pj)=false:=by simpa using hlt
       go_wp2_with(first|refine zl1 hS ?_);refine rf3 tB6a (fun _=>false) (fun i=>if i==8 then some (.bool true)else none) [] [none,none,none] hS ?_;intro nd;refine zcN ?_;refine cR ?_;refine zcn ?_;refine cR ?_;refine zc1 ?_
       iterate 2 (refine cR ?_)
       (refine zcN ?_ (hc:=by(intro F;exact i8.there (i8.there (i8.rowE Ord.len hil)))));refine zcv ?_ (hs:=by(intro F w hS;(try clear hS0);exact Dw7 hm W w _ hS));refine cR ?_;refine Ad7 ?_;clear hS;intro w hS;have hS2:St W [blk b _ _,blk xb _ _,j8 _ _,sats _] w:=hS;clear hS;have hS:=hS2.unpack [_,_,_];clear hS2;simp only[jK,jN]at hS;go_wp2_with(fail);refine rf2 tB6b (fun _=>false) [] [none,none,none] hS ?_;intro nd
       iterate 3 (refine cR ?_)
       (refine cR ?_);refine zc1 ?_;refine cR ?_
       iterate 17 (refine BL7 (by kernel_rfl) rfl ?_;refine frS ?_)
       iterate 4 (refine cR ?_)
       (refine zc1 ?_)
       iterate 2 (refine cR ?_)
       iterate 1 (refine cR ?_)
       (refine zcn ?_);refine cR ?_;refine zc1 ?_
       iterate 3 (refine cR ?_)
       (refine zc1 ?_ (hc:=by(intro F;exact i9.there (i9.there (i9.rowE Ord.len hil f5)))));refine cR ?_;refine zcn ?_;refine cR ?_;refine zc1 ?_
       iterate 3 (refine cR ?_)
       (refine zc1 ?_ (hc:=by(intro F;exact i9.there (i9.there (i9.rowE Ord.len hkl g5)))));refine cR ?_
       iterate 2 (refine cR ?_)
       refine Ad7 ?_;clear hS;intro w hS;have hS2:St W [blk b _ _,blk xb _ _,j8 _ _,sats _] w:=hS;clear hS;have hS:=hS2.unpack [_,_,_];clear hS2;simp only[jK,jN]at hS;go_wp2_with(fail);go_roundw
       case rel=>exact⟨j+1,by rw[hb,hbt];rfl,rfl,hil,hS⟩
       case measure=>simp[intOf];omega
     ·simp only[if_true]at hgd;by_cases hlt:pj<pk
      ·have hb:=Fc7 hm' (by rw[hbt,hgd];simpa using hlt);have hd:decide (pj<pk)=true:=by simpa using hlt
       go_wp2_with(first|refine zl1 hS ?_);refine rf3 tB6a (fun _=>false) (fun i=>if i==8 then some (.bool true)else none) [] [none,none,none] hS ?_;intro nd;refine zcN ?_;refine cR ?_;refine zcn ?_;refine cR ?_;refine zc1 ?_
       iterate 2 (refine cR ?_)
       (refine zcN ?_ (hc:=by(intro F;exact i8.there (i8.there (i8.rowE Ord.len hil)))));refine zcv ?_ (hs:=by(intro F w hS;(try clear hS0);exact Dw7 hm W w _ hS));refine cR ?_;refine Ad7 ?_;clear hS;intro w hS;have hS2:St W [blk b _ _,blk xb _ _,j8 _ _,sats _] w:=hS;clear hS;have hS:=hS2.unpack [_,_,_];clear hS2;simp only[jK,jN]at hS;go_wp2_with(fail);refine rf2 tB6b (fun _=>false) [] [none,none,none] hS ?_;intro nd
       iterate 3 (refine cR ?_)
       (refine cR ?_);refine zc1 ?_;refine cR ?_
       iterate 1 (refine cR ?_)
       (refine zcn ?_);refine cR ?_;refine zc1 ?_
       iterate 3 (refine cR ?_)
       (refine zc1 ?_ (hc:=by(intro F;exact i9.there (i9.there (i9.rowE Ord.len hil f5)))));refine cR ?_;refine zcn ?_;refine cR ?_;refine zc1 ?_
       iterate 3 (refine cR ?_)
       (refine zc1 ?_ (hc:=by(intro F;exact i9.there (i9.there (i9.rowE Ord.len hkl g5)))));refine cR ?_
       iterate 3 (refine cR ?_)
       iterate 22 (refine BL7 (by kernel_rfl) rfl ?_;refine frS ?_)
       (refine cR ?_);refine Ad7 ?_;clear hS;intro w hS;have hS2:St W [blk b _ _,blk xb _ _,j8 _ _,sats _] w:=hS;clear hS;have hS:=hS2.unpack [_,_,_];clear hS2;simp only[jK,jN]at hS;go_wp2_with(fail);go_roundw
       case rel=>exact⟨j+1,by rw[hb];rfl,rfl,hil,hS⟩
       case measure=>simp[intOf];omega
      ·have hb:=Hx7 (i:=j) (o:=⟨i,u,true,t,c,p⟩) (L:=L) (by rw[hbt,hgd];simpa using hlt);have hd:decide (pj<pk)=false:=by simpa using hlt
       go_wp2_with(first|refine zl1 hS ?_);refine rf3 tB6a (fun _=>false) (fun i=>if i==8 then some (.bool true)else none) [] [none,none,none] hS ?_;intro nd;refine zcN ?_;refine cR ?_;refine zcn ?_;refine cR ?_;refine zc1 ?_
       iterate 2 (refine cR ?_)
       (refine zcN ?_ (hc:=by(intro F;exact i8.there (i8.there (i8.rowE Ord.len hil)))));refine zcv ?_ (hs:=by(intro F w hS;(try clear hS0);exact Dw7 hm W w _ hS));refine cR ?_;refine Ad7 ?_;clear hS;intro w hS;have hS2:St W [blk b _ _,blk xb _ _,j8 _ _,sats _] w:=hS;clear hS;have hS:=hS2.unpack [_,_,_];clear hS2;simp only[jK,jN]at hS;go_wp2_with(fail);refine rf2 tB6b (fun _=>false) [] [none,none,none] hS ?_;intro nd
       iterate 3 (refine cR ?_)
       (refine cR ?_);refine zc1 ?_;refine cR ?_
       iterate 1 (refine cR ?_)
       (refine zcn ?_);refine cR ?_;refine zc1 ?_
       iterate 3 (refine cR ?_)
       (refine zc1 ?_ (hc:=by(intro F;exact i9.there (i9.there (i9.rowE Ord.len hil f5)))));refine cR ?_;refine zcn ?_;refine cR ?_;refine zc1 ?_
       iterate 3 (refine cR ?_)
       (refine zc1 ?_ (hc:=by(intro F;exact i9.there (i9.there (i9.rowE Ord.len hkl g5)))));refine cR ?_
       iterate 4 (refine cR ?_)
       (refine zc1 ?_)
       iterate 2 (refine cR ?_)
       iterate 17 (refine BL7 (by kernel_rfl) rfl ?_;refine frS ?_)
       iterate 2 (refine cR ?_)
       refine Ad7 ?_;clear hS;intro w hS;have hS2:St W [blk b _ _,blk xb _ _,j8 _ _,sats _] w:=hS;clear hS;have hS:=hS2.unpack [_,_,_];clear hS2;simp only[jK,jN]at hS;go_wp2_with(fail);go_roundw
       case rel=>exact⟨j+1,by rw[hb,hbt];rfl,rfl,hil,hS⟩
       case measure=>simp[intOf];omega
end Go.Proofs.YtlmhakmoioogaaaGreat
end
