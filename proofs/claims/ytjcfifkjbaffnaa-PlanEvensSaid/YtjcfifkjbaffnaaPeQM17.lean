/-
  slices.SortFunc on an owned row of zones, by their IDs.
-/
import Derived.Test.YtjcfifkjbaffnaaPeQM5
import Derived.Test.YtjcfifkjbaffnaaPeQM16
import Derived.Shelf.SlSortCmp.WholeK
set_option maxHeartbeats 16000000
set_option maxRecDepth 100000
set_option linter.unusedSimpArgs false
set_option linter.unusedVariables false
section
namespace Go.Proofs.Ytjcfifkjbaffnaa
open Go.Shelf Go.RowKit Go.Lib Go.Sort Go.Sl
abbrev ZoK:={z:Zo // 1<=z.id/\z.id<=1099511627776}
def zkC(x:ZoK):List Value:=x.val.cells
theorem zkL(x:ZoK):(zkC x).length=9:=rfl
instance : Inhabited ZoK := ⟨⟨⟨1,⟨#[]⟩,⟨#[]⟩,0,0,0,0,⟨#[]⟩,0⟩,by decide,by decide⟩⟩
def aB4(x y:ZoK):Int:=x.val.id-y.val.id
theorem ltZ(x y:ZoK):ltOf aB4 x y=decide (x.val.id<y.val.id):=by unfold ltOf aB4;rw[decide_eq_decide];omega
theorem bZ4:SWO (ltOf aB4) where
 irrefl x:=by rw[ltZ];simp
 trans x y z h1 h2:=by rw[ltZ]at *;simp at *;omega
 ntrans x y z h1 h2:=by rw[ltZ]at *;simp at *;omega
theorem aZ4(x y:ZoK)(W:World):Calls Try.prog 39 #[.agg (zkC x).toArray,.agg (zkC y).toArray] W fun e w'=>e=.returned (.I (aB4 x y))/\∃q os',w'=grow (W.drewN q) os':=by unfold aB4 zkC;obtain⟨⟨x0,x1,x2,x3,x4,x5,x6,x7,x8⟩,hx1,hx2⟩:=x;obtain⟨⟨y0,y1,y2,y3,y4,y5,y6,y7,y8⟩,hy1,hy2⟩:=y;simp only[Zo.cells]at hx1 hx2 hy1 hy2 ⊢;go_enter Try.func39,Try.ntmps39;go_wp2_with fail;go_ret;exact⟨rfl,0,_,by rw[alloc_eq_grow,alloc_eq_grow,grow_grow];rfl⟩
theorem ba4(blk off size:Nat)(w:World):CmpLays Try.prog 39 #[] zkC 9 aB4 blk off size w:=fun _ _ _ _ x y=>aZ4 x y _
theorem St.grow{W w:World}{L:List HP}(h:St W L w)(os:Array Obj):St W L (Sort.grow w os):=by
 refine⟨h.os,h.tape,h.output,AJ7 (S:=fun b=>decide (w.heap.size<=b)) ?_⟩
 have e:d7 (fun b=>decide (w.heap.size<=b)) (fun b=>(Sort.grow w os).heap[b]?)=fun b=>w.heap[b]? := by
  funext b
  show cond (decide (w.heap.size<=b)) none ((w.heap++os)[b]?)=w.heap[b]?
  by_cases hb:w.heap.size<=b
  ·rw[decide_eq_true hb,Array.getElem?_eq_none hb];rfl
  ·rw[decide_eq_false hb,Array.getElem?_append_left (by omega)];rfl
 rw[e];exact h.sat
theorem Ce7(l:List ZoK)(junk:List Value)(j:Nat)(hj:j<l.length*9):(l.flatMap zkC++junk)[j]? = some ((flatK zkC 9 l.toArray)[j]!):=by
 rw[get_flatK _ _ _ _ (by simpa using hj)];have hq:j / 9<l.length:=by omega
 have h1:=AL7 zkL l junk (j / 9) hq (j%9) (by omega);rw[show j / 9*9+j%9=j by omega]at h1;rw[h1];have h2:l.toArray[j / 9]! = l[j / 9]:=by simp[hq]
 rw[h2,jG (by rw[zkL];omega)];rw[getElem!_pos _ _ (by rw[zkL];omega)]
theorem Gx7(l:List ZoK)(g cap:Nat)(junk:List Value)(h62:l.length<4611686018427387904)(W w:World)(L:List HP)(hS:St W (blk g (l.flatMap zkC++junk) 32::L) w):
  Calls Try.prog 38 #[.S g l.length cap,.func (.func 39) #[] #[]] w fun e w'=> e=.returned (.tuple #[])/\∃l':List ZoK,l'.Perm l/\l'.Pairwise (fun x y=>x.val.id<=y.val.id)/\St W (blk g (l'.flatMap zkC++junk) 32::L) w':=by
 have eg:∀args w,(callFunc 39 args).run Try.prog w=.ok (.enter 39 args) w:=enters_of Try.func39 (by kernel_rfl) rfl;have hgt:=hS.get (b:=g) .head;have hblk:g<w.heap.size:=(Array.getElem?_eq_some_iff.1 hgt).1;have hH:HoldsK zkC 9 w g 0 l.toArray:=by intro j hj;rw[size_flatK]at hj;refine⟨hS.cell .head ?_,hS.free .head⟩;rw[Nat.zero_add];exact Ce7 l junk j (by simpa using hj)
 have hcon:=AnyQ.slices_SortFunc Try.sortZ 9 Try.isAgg32 Try.sizeOf32 zkC zkL (fun x v hv=>List.all_eq_true.1 (Zo.one x.val) v hv) aB4 bZ4 39 #[] g 0 cap l.toArray w eg (ba4 g 0 l.toArray.size w) hH hblk (by simpa using h62);change Calls Try.prog 38 _ _ _ at hcon;simp only[List.size_toArray]at hcon;refine hcon.mono ?_;rintro e w' ⟨rfl,d',n,os,⟨hp1,_,hp3⟩,hs,rfl⟩;refine⟨rfl,d'.toList,?_,?_,?_⟩
 ·have e1:d'.extract 0 l.length=d':=by
   have:l.length=d'.size:=by rw[hp1];simp
   rw[this,Array.extract_size]
  have e2:l.toArray.extract 0 l.length=l.toArray:=by
   have:l.length=l.toArray.size:=by simp
   rw[this,Array.extract_size]
  rw[e1,e2]at hp3;exact hp3
 ·rw[List.pairwise_iff_getElem];intro i j hi hj hij;have:=hs i j (Nat.zero_le _) hij (by simp at hj;rw[hp1]at hj;simpa using hj);rw[ltZ]at this;simp only[decide_eq_false_iff_not]at this;have hi':i<d'.size:=by simpa using hi
  have hj':j<d'.size:=by simpa using hj
  rw[getElem!_pos d' i hi',getElem!_pos d' j hj']at this;simp only[Array.getElem_toList];omega
 ·unfold sortWorldK;refine St.grow ?_ os;have hSd:St W (blk g (l.flatMap zkC++junk) 32::L) (Sort.ahead w n):=⟨hS.os,hS.tape,hS.output,hS.sat⟩
  refine hSd.putO (w':=putRowK zkC 9 (Sort.ahead w n) g 0 d') (o':=.cells (d'.toList.flatMap zkC++junk).toArray 32 (0,0)) .head rfl rfl rfl fun k=>?_
  show((Sort.ahead w n).heap.modify g _)[k]? = _
  rw[Array.getElem?_modify];by_cases hk:k=g
  ·subst hk;rw[if_pos rfl,if_pos rfl];have hgt':(Sort.ahead w n).heap[k]? = some (.cells (l.flatMap zkC++junk).toArray 32 (0,0)):=hgt;rw[hgt'];simp only[Option.map_some,Sort.onCells]
   congr 2
   have hdl:d'.toList.length=l.length:=by rw[Array.length_toList,hp1];simp
   have hf1:=Ai7 zkL l;have hf2:=Ai7 zkL d'.toList;apply Array.ext_getElem?;intro t;unfold Sort.putCells;simp only[Array.getElem?_mapIdx,List.getElem?_toArray,size_flatK,Nat.zero_le,true_and,Nat.zero_add,Nat.sub_zero,id];have hds:d'.size=l.length:=by rw[hp1];simp
   by_cases ht:t<l.length*9
   ·have h1:=Ce7 d'.toList junk t (by rw[hdl];exact ht);rw[h1,Ce7 l junk t ht];simp[hds,ht]
   ·have h2:(l.flatMap zkC++junk)[t]? = (d'.toList.flatMap zkC++junk)[t]? := by
     rw[List.getElem?_append_right (by omega),List.getElem?_append_right (by omega),hf1,hf2,hdl]
    rw[<-h2];simp[hds,ht]
  ·rw[if_neg (fun h=>hk h.symm),if_neg hk]
theorem Hy7{zs:List Zo}(hz:∀z∈zs,1<=z.id/\z.id<=1099511627776)(h0:0<zs.length)(hl:zs.length<=1000)(v:Value)(W w:World)(R:List HP)(hS:St W (zoR v zs::R) w):
  Calls Try.prog 38 #[v,.func (.func 39) #[] #[]] w fun e w'=> e=.returned (.tuple #[])/\∃Z:List Zo,Z.Perm zs/\Z.Pairwise (fun x y=>x.id<=y.id)/\St W (zoR v Z::R) w':=by
 obtain⟨l,rfl⟩:∃l:List ZoK,zs=l.map (·.val):=⟨zs.pmap Subtype.mk hz,by rw[List.map_pmap];simp⟩
 rw[jM]at h0 hl
 rcases hS.rowOpen with ⟨rfl,h9,_⟩|⟨g,cap,junk,rfl,hn1,hm1,hj1,hl1,hS1⟩
 ·rw[jM]at h9;omega
 have e1:(l.map (·.val)).flatMap Zo.cells=l.flatMap zkC:=by rw[List.flatMap_map];rfl
 rw[e1]at hS1;have hcon:=Gx7 l g cap junk (by omega) W w R hS1;rw[jM];refine hcon.mono ?_;rintro e w' ⟨rfl,Z,hp,hs,h2⟩;refine⟨rfl,Z.map (·.val),hp.map _,?_,?_⟩
 ·rw[List.pairwise_map];exact hs
 ·have e2:(Z.map (·.val)).flatMap Zo.cells=Z.flatMap zkC:=by rw[List.flatMap_map];rfl
  have hlz:Z.length=l.length:=hp.length_eq;unfold zoR;rw[e2,jM,hlz];rw[jM]at hn1;refine St.rowShut h2 hn1 hm1 ?_ ?_
  ·rw[e1,jA,Ai7 zkL]at hj1;rw[jA,Ai7 zkL,hlz];exact hj1
  ·rw[Ai7 zkL,hlz]
end Go.Proofs.Ytjcfifkjbaffnaa
end
section
namespace Go.Sl
open Go.RowKit
section
variable{κ ν:Type}[DecidableEq κ]{P:Program}{t K E:TypeId}{ek:κ->Value}{ev:ν->Value}{W w:World}{L:List HP}{b:Nat}{l:List (κ×ν)}{ops:Array Oper}{a:Act}{rest:List Oper}{o:Oper}
theorem Al7{Q:Act->Prop}{x y:Operand}{k:κ}{z v:Value}{ok:Bool}(ho:o.op=.lookup t x y ok)(hg:Region.wanted o (yielded ops a.tmps)=true)(hx:a.eval x=.map (some b))(hy:a.eval y=ek k)(hu:∀w,St W L w->∃R,St W (f7 ek ev b l::R) w)
  (ht:x9 P t=some (K,E)) (hK:KeyOk P K ek) (hz:s6 P E=some z) (hv:F7 ok z ((l6 l k).map ev)=v) (h:wpQuiet P ops (St W L) Q rest (a.put o.dst v)):wpQuiet P ops (St W L) Q (o::rest) a:=
 BO7 hg (fun w hS=>by obtain⟨R,h2⟩:=hu w hS;unfold execOp;simp[ho,hx,hy,BR7 h2 ht hK hz,hv]) h
end
end Go.Sl
namespace Go.Proofs.Ytjcfifkjbaffnaa
open Go.RowKit Go.Sl
section
variable{E:Pe}{rl:List (Int×Ro)}{s:Pn}{W w:World}{L R R':List HP}
theorem M8:b8 (plP E rl s::L) E.pb 2 E.zv:=fun W w hS=>by obtain⟨nl,ov,_,h⟩:=q9 hS;exact h.cell .head rfl
theorem j7{v:Value}(h:E.zv=v):b8 (plP E rl s::L) E.pb 2 v:=h▸M8
theorem O8:b8 (plP E rl s::L) E.pb 3 (.map (some E.m1)):=fun W w hS=>by obtain⟨nl,ov,_,h⟩:=q9 hS;exact h.cell .head rfl
theorem ca4:b8 (plP E rl s::L) E.pb 4 E.hv:=fun W w hS=>by obtain⟨nl,ov,_,h⟩:=q9 hS;exact h.cell .head rfl
theorem br4{v:Value}(h:E.hv=v):b8 (plP E rl s::L) E.pb 4 v:=h▸ca4
theorem ax4:b8 (plP E rl s::L) E.pb 6 (.map (some E.m3)):=fun W w hS=>by obtain⟨nl,ov,_,h⟩:=q9 hS;exact h.cell .head rfl
theorem O9:b8 (plP E rl s::L) E.pb 7 (.I E.hot):=fun W w hS=>by obtain⟨nl,ov,_,h⟩:=q9 hS;exact h.cell .head rfl
theorem aa4:b8 (plP E rl s::L) E.pb 8 (.I E.cold):=fun W w hS=>by obtain⟨nl,ov,_,h⟩:=q9 hS;exact h.cell .head rfl
theorem ab4(ht:Take L (plP E rl s) R')(w:World)(hS:St W L w):∃R,St W (f7 kI kRo E.m1 rl::R) w:=by obtain⟨nl,ov,_,h⟩:=q9 (hS.take ht);exact⟨_,h.drop⟩
theorem C7(ht:Take L (plP E rl s) R')(w:World)(hS:St W L w):∃R,St W (f7 kI kI E.m3 s.mv::R) w:=by obtain⟨nl,ov,_,h⟩:=q9 (hS.take ht);exact⟨_,h.drop.drop.drop⟩
end
theorem ER7(l:List Ro)(hot:Int)(s:Pn×Int)(z:Zo):(M5 l hot s z).1.out.length<=s.1.out.length+1/\(-100<=s.2/\s.2<=100 -> -100<=(M5 l hot s z).2/\(M5 l hot s z).2<=100):=by
 unfold M5;split
 ·rename_i h
  unfold aM4 at h;simp only[jB,decide_eq_true_eq]at h;refine⟨by simp,fun h2=>?_⟩;show -100<=s.2-1/\s.2-1<=100
  omega
 ·exact⟨by omega,fun h=>h⟩
def SpR(W:World)(E:Pe)(rl:List (Int×Ro))(l:List Ro)(R:List HP)(zs Z:List Zo)(s0:Pn×Int)(v3 v26:Value)(w:World):Prop:=
 ∃(i:Nat) (s:Pn×Int),v26=.I i/\v3=.I s.2/\i<=zs.length/\G6 l E.hot (Z.take i) s0=s /\ -100<=s.2/\s.2<=100/\s.1.out.length<=100+i/\St W (plP E rl s.1::R) w
theorem Gy7{E:Pe}{rl:List (Int×Ro)}{s:Pn}{zs:List Zo}{V:World}{l:List Ro}(hv:c9 Zo.cells 9 V E.zv zs)(hid:∀z∈zs,1<=z.id/\z.id<=1099511627776)(hnd:(zs.map (·.id)).Nodup)(h0:1<=zs.length)(hl:zs.length<=16)(hrl:∀n,(l6 rl n).getD ro0=D5 l n)(ho:s.out.length<=100)(W w:World)(R:List HP)(hS:St W (plP E rl s::Old V::R) w):
  Calls Try.prog 17 #[.pointer (some ⟨E.pb,0,none⟩)] w fun e w'=>e=.returned (.tuple #[])/\∃Z:List Zo,Z.Perm zs/\as4 Z/\St W (plP E rl (G6 l E.hot Z (s,16-zs.length-l9 zs 1)).1::Old V::R) w':=by
 have Hv:=jH hv;have Hid2:=jH hid;have Hnd:=jH hnd;have Hrl:=jH hrl;have hpn:l9 zs 1<=16:=Nat.le_trans (CU7 _ _) hl;clear hv hid hnd hrl;go_enter Try.func17,Try.ntmps17;go_wp2_with(first|go_big_skip|refine zl1 hS ?_ (hc:=by(focus((repeat(first|exact M8|exact O8|exact O9|apply b8.there));done)))|go_at_call 37;refine(Gs7 Hv.out (by omega) (by omega) W _ _ (hS.s (Old V::plP E rl s::R))).mono ?_;clear hS;rintro e w ⟨u,rfl,hS⟩;(have hv:=hS.rowVal;obtain⟨ua,uc,rfl⟩:=hv)|go_at_call 38;refine(Hy7 Hid2.out (by omega) (by omega) _ W _ _ hS).mono ?_;clear hS;rintro e w ⟨rfl,Z,hZp,hZs,hS⟩;have HZp:=jH hZp;have HZs:=jH hZs;clear hZp hZs);have hlz:=HZp.out.length_eq
 obtain⟨g,rfl⟩:∃g,ua=some ⟨g,0,none⟩:=by
  have h1:St W (row (.slice ua Z.length uc) 9 32 Z.length (Z.flatMap Zo.cells)::Old V::plP E rl s::R) w:=by rw[<-hlz]at hS;exact hS
  exact(St.rowAddr h1 (by omega)).1
 have hasc:as4 Z:=by
  refine List.pairwise_iff_getElem.2 fun i j hi hj hij=>?_
  have h1:=List.pairwise_iff_getElem.1 HZs.out i j hi hj hij;have h2:(Z.map (·.id)).Nodup:=(HZp.out.map _).nodup_iff.2 Hnd.out;have h3:=List.pairwise_iff_getElem.1 h2 i j (by rw[jM];exact hi) (by rw[jM];exact hj) hij;simp only[List.getElem_map]at h3;omega
 have Hasc:=jH hasc;have Hlz:=jH hlz;clear hasc hlz;go_wp2_with(first|go_big_skip|go_at_call 40;refine(CB7 Hv.out (by omega) 1 W _ _ (hS.s (plP E rl s::Old V::zoR _ Z::R))).mono ?_;clear hS;rintro e w ⟨rfl,hS⟩);have hS1:=hS.s (plP E rl s::zoR (.S g zs.length uc) Z::Old V::R);clear hS
 go_loopw [3,26] (fun v3 v26 wr=>SpR W E rl l (zoR (.S g zs.length uc) Z::Old V::R) zs Z (s,16-zs.length-l9 zs 1) v3 v26 wr) (fun _ v26 _=>zs.length-(intOf v26).toNat)
 case atStart=>exact⟨0,(s,16-zs.length-l9 zs 1),rfl,rfl,Nat.zero_le _,rfl,by show(-100:Int)<=16-zs.length-l9 zs 1;omega,by show 16-(zs.length:Int)-l9 zs 1<=100;omega,by show s.out.length<=_;omega,hS1⟩
 case round=>
  clear hS1;obtain⟨i,q,rfl,rfl,hi,hst,r1,r2,hob,hS⟩:=hrel;by_cases hil:i<zs.length
  ·have d1:decide (i<zs.length)=true:=decide_eq_true hil;have hilZ:i<Z.length:=by rw[Hlz.out];exact hil
   have hnx:=HW7 l E.hot hilZ (s,16-zs.length-l9 zs 1);rw[hst]at hnx
   have hcx:∀{K K':List HP},Take K (zoR (.S g zs.length uc) Z) K'->a7 K g (i*9) (Zo.cells Z[i]):=fun{K K'} hu=>by
    have h1:Take K (row (.S g Z.length uc) 9 32 Z.length (Z.flatMap Zo.cells)) K':=by rw[<-Hlz.out]at hu;exact hu
    exact a7.elemM (enc:=Zo.cells) Zo.len h1 hilZ
   have hfo:=ER7 l E.hot q Z[i];generalize Z[i]=z at hnx hcx hfo;obtain⟨z0,z1,z2,z3,z4,z5,z6,z7,z8⟩:=z;simp only[Zo.cells]at hcx;obtain⟨p,room⟩:=q;simp only at r1 r2 hob hS hnx hfo;have hq:=Hrl.out z0;have hqq:F7 false (.agg #[.I 0,.I 0,.string ⟨#[]⟩]) ((l6 rl z0).map kRo)=kRo ((l6 rl z0).getD ro0):=by cases l6 rl z0 <;> rfl
   rw[hq]at hqq;obtain⟨x,hx⟩:∃x,D5 l z0=x:=⟨_,rfl⟩
   have hh:i6 l ⟨z0,z1,z2,z3,z4,z5,z6,z7,z8⟩=x.hits:=by unfold i6;rw[hx]
   have hhr:=Av7 l ⟨z0,z1,z2,z3,z4,z5,z6,z7,z8⟩;have hsc:aM4 l E.hot (p,room) ⟨z0,z1,z2,z3,z4,z5,z6,z7,z8⟩=(decide (0<room)&&(an4 z1 z2 x.mid&&(B9 p ⟨z0,z1,z2,z3,z4,z5,z6,z7,z8⟩&&decide (E.hot<x.hits)))):=by unfold aM4;rw[hh];simp only;rw[hx]
   have hsf:M5 l E.hot (p,room) ⟨z0,z1,z2,z3,z4,z5,z6,z7,z8⟩=if aM4 l E.hot (p,room) ⟨z0,z1,z2,z3,z4,z5,z6,z7,z8⟩=true then(⟨z0::p.nm,p.mv,p.out++[⟨1,z0,0,0,x.mid⟩]⟩,room-1)else(p,room):=by unfold M5;simp only;rw[hx]
   rw[hx]at hqq;rw[hh]at hhr;rw[hsf,hsc]at hnx;obtain⟨x0,x1,x2⟩:=x;simp only at hh hhr hnx hqq;have Hq:=jH hqq;have Hh:=jH hh;have Hst:=jH hst;obtain⟨h1,h2⟩:=hhr;clear hq hqq hh hsc hsf hx hst hi hfo;by_cases c1:0<room
   case neg=>
    have e1:decide (0<room)=false:=decide_eq_false c1;rw[e1]at hnx;have Hno:=jH (show G6 l E.hot (Z.take (i+1)) (s,16-zs.length-l9 zs 1)=(p,room)from hnx);obtain⟨c,hc⟩:∃c,an4 z1 z2 x2=c:=⟨_,rfl⟩
    have Hc:=jH hc;clear hnx hc c1;go_wp2_with(first|go_big_skip|refine zlN hS ?_ (vs:=[.I z0,.string z1,.string z2,.I z3,.I z4,.I z5,.I z6,.string z7,.I z8]) (hc:=by exact hcx (by exact c7))|(fail_if_success (have:=mA5));(refine zal hS ?_;clear hS;have mA5:Nat:=0;intro b5 w hS)|refine zsN hS ?_;clear hS;intro w hS);refine Aa7 (by kernel_rfl) (by kernel_rfl) hS ?_
    repeat(first|go_big_quiet_skip|refine zq1 ?_|refine zq1 ?_ (hc:=by(focus((repeat(first|exact M8|exact O8|exact O9|apply b8.there));done)))|refine zqn ?_|(apply Al7 (ek:=kI) (ev:=kRo) (k:=z0) (v:=.agg #[.I x0,.I x1,.string x2]));rfl;rfl;rfl;rfl;exact ab4 (by(focus((repeat(first|exact .head|apply Take.tail));done)));exact tIR;exact mI;exact zR0;exact Hq.out;refine frS ?_|(apply AB7);rfl;rfl;rfl;exact aY4 _ _ _;refine frS ?_|refine qR ?_)
    clear hS;intro w hS;go_wp2_with(first|go_big_skip|refine zlN hS ?_ (vs:=[.string z1,.string z2]) (hc:=by first|exact a7.here rfl|exact a7.there (a7.here rfl))|go_at_call 41;refine(AX7 Hc.out W _ _ hS).mono ?_;clear hS;rintro e w ⟨f1,t1,f2,t2,rfl,hS⟩|(have:=mA5);(fail_if_success (have:=mA6));(refine zal hS ?_;clear hS;have mA6:Nat:=0;intro bA w hS)|(have:=mA6);refine zal hS ?_;clear hS;intro bB w hS|refine zsN hS ?_;clear hS;intro w hS);refine Aa7 (by kernel_rfl) (by kernel_rfl) hS ?_
    repeat(first|go_big_quiet_skip|refine zqN ?_|apply Ac7;rfl;intro w;apply Ab7;rfl;decide +kernel;(focus(simp only[fD,fI,fJ,Act.eval,fE,fF,fG,fH,fK];try rfl));intro w hS;exact Ak7 Hf.out (by(focus((repeat(first|exact .head|apply Take.tail));done))) hS;refine frS ?_|apply Ac7;rfl;intro w;apply Ab7;rfl;decide +kernel;(focus(simp only[fD,fI,fJ,Act.eval,fE,fF,fG,fH,fK];try rfl));intro w hS;exact Af7 Hrl.out Hh.out (by(focus((repeat(first|exact .head|apply Take.tail));done))) hS;refine frS ?_|refine zq1 ?_ (hc:=by(focus((repeat(first|exact M8|exact O8|exact O9|apply b8.there));done)))|refine zqn ?_|refine qR ?_)
    clear hS;intro w hS;go_wp2_with(first|go_big_skip);go_roundw
    case rel=>exact⟨i+1,(p,room),rfl,rfl,hil,Hno.out,r1,r2,by show p.out.length<=_;omega,hS.s _⟩
    case measure=>simp[intOf];omega
   have e1:decide (0<room)=true:=decide_eq_true c1;rw[e1]at hnx
   cases hc:an4 z1 z2 x2 with
   | false=>
    rw[hc]at hnx;have Hno:=jH (show G6 l E.hot (Z.take (i+1)) (s,16-zs.length-l9 zs 1)=(p,room)from hnx);have Hc:=jH hc;clear hnx hc c1;go_wp2_with(first|go_big_skip|refine zlN hS ?_ (vs:=[.I z0,.string z1,.string z2,.I z3,.I z4,.I z5,.I z6,.string z7,.I z8]) (hc:=by exact hcx (by exact c7))|(fail_if_success (have:=mA5));(refine zal hS ?_;clear hS;have mA5:Nat:=0;intro b5 w hS)|refine zsN hS ?_;clear hS;intro w hS);refine Aa7 (by kernel_rfl) (by kernel_rfl) hS ?_
    repeat(first|go_big_quiet_skip|refine zq1 ?_|refine zq1 ?_ (hc:=by(focus((repeat(first|exact M8|exact O8|exact O9|apply b8.there));done)))|refine zqn ?_|(apply Al7 (ek:=kI) (ev:=kRo) (k:=z0) (v:=.agg #[.I x0,.I x1,.string x2]));rfl;rfl;rfl;rfl;exact ab4 (by(focus((repeat(first|exact .head|apply Take.tail));done)));exact tIR;exact mI;exact zR0;exact Hq.out;refine frS ?_|(apply AB7);rfl;rfl;rfl;exact aY4 _ _ _;refine frS ?_|refine qR ?_)
    clear hS;intro w hS;go_wp2_with(first|go_big_skip|refine zlN hS ?_ (vs:=[.string z1,.string z2]) (hc:=by first|exact a7.here rfl|exact a7.there (a7.here rfl))|go_at_call 41;refine(AX7 Hc.out W _ _ hS).mono ?_;clear hS;rintro e w ⟨f1,t1,f2,t2,rfl,hS⟩|(have:=mA5);(fail_if_success (have:=mA6));(refine zal hS ?_;clear hS;have mA6:Nat:=0;intro bA w hS)|(have:=mA6);refine zal hS ?_;clear hS;intro bB w hS|refine zsN hS ?_;clear hS;intro w hS);refine Aa7 (by kernel_rfl) (by kernel_rfl) hS ?_
    repeat(first|go_big_quiet_skip|refine zqN ?_|apply Ac7;rfl;intro w;apply Ab7;rfl;decide +kernel;(focus(simp only[fD,fI,fJ,Act.eval,fE,fF,fG,fH,fK];try rfl));intro w hS;exact Ak7 Hf.out (by(focus((repeat(first|exact .head|apply Take.tail));done))) hS;refine frS ?_|apply Ac7;rfl;intro w;apply Ab7;rfl;decide +kernel;(focus(simp only[fD,fI,fJ,Act.eval,fE,fF,fG,fH,fK];try rfl));intro w hS;exact Af7 Hrl.out Hh.out (by(focus((repeat(first|exact .head|apply Take.tail));done))) hS;refine frS ?_|refine zq1 ?_ (hc:=by(focus((repeat(first|exact M8|exact O8|exact O9|apply b8.there));done)))|refine zqn ?_|refine qR ?_)
    clear hS;intro w hS;go_wp2_with(first|go_big_skip);go_roundw
    case rel=>exact⟨i+1,(p,room),rfl,rfl,hil,Hno.out,r1,r2,by show p.out.length<=_;omega,hS.s _⟩
    case measure=>simp[intOf];omega
   | true=>
    rw[hc]at hnx;have Hc:=jH hc;clear hc
    cases hf:B9 p ⟨z0,z1,z2,z3,z4,z5,z6,z7,z8⟩with
    | false=>
     rw[hf]at hnx;have Hno:=jH (show G6 l E.hot (Z.take (i+1)) (s,16-zs.length-l9 zs 1)=(p,room)from hnx);have Hf:=jH hf;clear hnx hf c1;go_wp2_with(first|go_big_skip|refine zlN hS ?_ (vs:=[.I z0,.string z1,.string z2,.I z3,.I z4,.I z5,.I z6,.string z7,.I z8]) (hc:=by exact hcx (by exact c7))|(fail_if_success (have:=mA5));(refine zal hS ?_;clear hS;have mA5:Nat:=0;intro b5 w hS)|refine zsN hS ?_;clear hS;intro w hS);refine Aa7 (by kernel_rfl) (by kernel_rfl) hS ?_
     repeat(first|go_big_quiet_skip|refine zq1 ?_|refine zq1 ?_ (hc:=by(focus((repeat(first|exact M8|exact O8|exact O9|apply b8.there));done)))|refine zqn ?_|(apply Al7 (ek:=kI) (ev:=kRo) (k:=z0) (v:=.agg #[.I x0,.I x1,.string x2]));rfl;rfl;rfl;rfl;exact ab4 (by(focus((repeat(first|exact .head|apply Take.tail));done)));exact tIR;exact mI;exact zR0;exact Hq.out;refine frS ?_|(apply AB7);rfl;rfl;rfl;exact aY4 _ _ _;refine frS ?_|refine qR ?_)
     clear hS;intro w hS;go_wp2_with(first|go_big_skip|refine zlN hS ?_ (vs:=[.string z1,.string z2]) (hc:=by first|exact a7.here rfl|exact a7.there (a7.here rfl))|go_at_call 41;refine(AX7 Hc.out W _ _ hS).mono ?_;clear hS;rintro e w ⟨f1,t1,f2,t2,rfl,hS⟩|(have:=mA5);(fail_if_success (have:=mA6));(refine zal hS ?_;clear hS;have mA6:Nat:=0;intro bA w hS)|(have:=mA6);refine zal hS ?_;clear hS;intro bB w hS|refine zsN hS ?_;clear hS;intro w hS);refine Aa7 (by kernel_rfl) (by kernel_rfl) hS ?_
     repeat(first|go_big_quiet_skip|refine zqN ?_|apply Ac7;rfl;intro w;apply Ab7;rfl;decide +kernel;(focus(simp only[fD,fI,fJ,Act.eval,fE,fF,fG,fH,fK];try rfl));intro w hS;exact Ak7 Hf.out (by(focus((repeat(first|exact .head|apply Take.tail));done))) hS;refine frS ?_|apply Ac7;rfl;intro w;apply Ab7;rfl;decide +kernel;(focus(simp only[fD,fI,fJ,Act.eval,fE,fF,fG,fH,fK];try rfl));intro w hS;exact Af7 Hrl.out Hh.out (by(focus((repeat(first|exact .head|apply Take.tail));done))) hS;refine frS ?_|refine zq1 ?_ (hc:=by(focus((repeat(first|exact M8|exact O8|exact O9|apply b8.there));done)))|refine zqn ?_|refine qR ?_)
     clear hS;intro w hS;go_wp2_with(first|go_big_skip);go_roundw
     case rel=>exact⟨i+1,(p,room),rfl,rfl,hil,Hno.out,r1,r2,by show p.out.length<=_;omega,hS.s _⟩
     case measure=>simp[intOf];omega
    | true=>
     rw[hf]at hnx;have Hf:=jH hf;clear hf;by_cases c4:E.hot<x1
     case neg=>
      have e4:decide (E.hot<x1)=false:=decide_eq_false c4;rw[e4]at hnx;have Hno:=jH (show G6 l E.hot (Z.take (i+1)) (s,16-zs.length-l9 zs 1)=(p,room)from hnx);clear hnx c1 c4;go_wp2_with(first|go_big_skip|refine zlN hS ?_ (vs:=[.I z0,.string z1,.string z2,.I z3,.I z4,.I z5,.I z6,.string z7,.I z8]) (hc:=by exact hcx (by exact c7))|(fail_if_success (have:=mA5));(refine zal hS ?_;clear hS;have mA5:Nat:=0;intro b5 w hS)|refine zsN hS ?_;clear hS;intro w hS);refine Aa7 (by kernel_rfl) (by kernel_rfl) hS ?_
      repeat(first|go_big_quiet_skip|refine zq1 ?_|refine zq1 ?_ (hc:=by(focus((repeat(first|exact M8|exact O8|exact O9|apply b8.there));done)))|refine zqn ?_|(apply Al7 (ek:=kI) (ev:=kRo) (k:=z0) (v:=.agg #[.I x0,.I x1,.string x2]));rfl;rfl;rfl;rfl;exact ab4 (by(focus((repeat(first|exact .head|apply Take.tail));done)));exact tIR;exact mI;exact zR0;exact Hq.out;refine frS ?_|(apply AB7);rfl;rfl;rfl;exact aY4 _ _ _;refine frS ?_|refine qR ?_)
      clear hS;intro w hS;go_wp2_with(first|go_big_skip|refine zlN hS ?_ (vs:=[.string z1,.string z2]) (hc:=by first|exact a7.here rfl|exact a7.there (a7.here rfl))|go_at_call 41;refine(AX7 Hc.out W _ _ hS).mono ?_;clear hS;rintro e w ⟨f1,t1,f2,t2,rfl,hS⟩|(have:=mA5);(fail_if_success (have:=mA6));(refine zal hS ?_;clear hS;have mA6:Nat:=0;intro bA w hS)|(have:=mA6);refine zal hS ?_;clear hS;intro bB w hS|refine zsN hS ?_;clear hS;intro w hS);refine Aa7 (by kernel_rfl) (by kernel_rfl) hS ?_
      repeat(first|go_big_quiet_skip|refine zqN ?_|apply Ac7;rfl;intro w;apply Ab7;rfl;decide +kernel;(focus(simp only[fD,fI,fJ,Act.eval,fE,fF,fG,fH,fK];try rfl));intro w hS;exact Ak7 Hf.out (by(focus((repeat(first|exact .head|apply Take.tail));done))) hS;refine frS ?_|apply Ac7;rfl;intro w;apply Ab7;rfl;decide +kernel;(focus(simp only[fD,fI,fJ,Act.eval,fE,fF,fG,fH,fK];try rfl));intro w hS;exact Af7 Hrl.out Hh.out (by(focus((repeat(first|exact .head|apply Take.tail));done))) hS;refine frS ?_|refine zq1 ?_ (hc:=by(focus((repeat(first|exact M8|exact O8|exact O9|apply b8.there));done)))|refine zqn ?_|refine qR ?_)
      clear hS;intro w hS;go_wp2_with(first|go_big_skip);go_roundw
      case rel=>exact⟨i+1,(p,room),rfl,rfl,hil,Hno.out,r1,r2,by show p.out.length<=_;omega,hS.s _⟩
      case measure=>simp[intOf];omega
     have e4:decide (E.hot<x1)=true:=decide_eq_true c4;rw[e4]at hnx;have Hyes:=jH (show G6 l E.hot (Z.take (i+1)) (s,16-zs.length-l9 zs 1)=(⟨z0::p.nm,p.mv,p.out++[⟨1,z0,0,0,x2⟩]⟩,room-1)from hnx);clear hnx c4;go_wp2_with(first|go_big_skip|refine zlN hS ?_ (vs:=[.I z0,.string z1,.string z2,.I z3,.I z4,.I z5,.I z6,.string z7,.I z8]) (hc:=by exact hcx (by exact c7))|(fail_if_success (have:=mA5));(refine zal hS ?_;clear hS;have mA5:Nat:=0;intro b5 w hS)|refine zsN hS ?_;clear hS;intro w hS);refine Aa7 (by kernel_rfl) (by kernel_rfl) hS ?_
     repeat(first|go_big_quiet_skip|refine zq1 ?_|refine zq1 ?_ (hc:=by(focus((repeat(first|exact M8|exact O8|exact O9|apply b8.there));done)))|refine zqn ?_|(apply Al7 (ek:=kI) (ev:=kRo) (k:=z0) (v:=.agg #[.I x0,.I x1,.string x2]));rfl;rfl;rfl;rfl;exact ab4 (by(focus((repeat(first|exact .head|apply Take.tail));done)));exact tIR;exact mI;exact zR0;exact Hq.out;refine frS ?_|(apply AB7);rfl;rfl;rfl;exact aY4 _ _ _;refine frS ?_|refine qR ?_)
     clear hS;intro w hS;go_wp2_with(first|go_big_skip|refine zlN hS ?_ (vs:=[.string z1,.string z2]) (hc:=by first|exact a7.here rfl|exact a7.there (a7.here rfl))|go_at_call 41;refine(AX7 Hc.out W _ _ hS).mono ?_;clear hS;rintro e w ⟨f1,t1,f2,t2,rfl,hS⟩|(have:=mA5);(fail_if_success (have:=mA6));(refine zal hS ?_;clear hS;have mA6:Nat:=0;intro bA w hS)|(have:=mA6);refine zal hS ?_;clear hS;intro bB w hS|refine zsN hS ?_;clear hS;intro w hS);refine Aa7 (by kernel_rfl) (by kernel_rfl) hS ?_
     repeat(first|go_big_quiet_skip|refine zqN ?_|apply Ac7;rfl;intro w;apply Ab7;rfl;decide +kernel;(focus(simp only[fD,fI,fJ,Act.eval,fE,fF,fG,fH,fK];try rfl));intro w hS;exact Ak7 Hf.out (by(focus((repeat(first|exact .head|apply Take.tail));done))) hS;refine frS ?_|apply Ac7;rfl;intro w;apply Ab7;rfl;decide +kernel;(focus(simp only[fD,fI,fJ,Act.eval,fE,fF,fG,fH,fK];try rfl));intro w hS;exact Af7 Hrl.out Hh.out (by(focus((repeat(first|exact .head|apply Take.tail));done))) hS;refine frS ?_|refine zq1 ?_ (hc:=by(focus((repeat(first|exact M8|exact O8|exact O9|apply b8.there));done)))|refine zqn ?_|refine qR ?_)
     clear hS;intro w hS;go_wp2_with(first|go_big_skip|refine zl1 hS ?_|refine zbs hS ?_;clear hS;intro bS w hS|(have hS2:St W (blk bS [.I z0] 3::_) _:=hS);clear hS;have hS:=hS2;clear hS2;go_at_call 44;refine(CV7 1 z0 0 0 x2 [z0] bS 1 (by simp) (by omega) W _ _ (hS.s (plP E rl p::blk bS [.I z0] 3::zoR _ Z::Old V::R))).mono ?_;clear hS;rintro e w ⟨rfl,hS⟩);have hS9:St W (plP E rl ⟨z0::p.nm,p.mv,p.out++[⟨1,z0,0,0,x2⟩]⟩::_) _:=hS;go_roundw
     case rel=>exact⟨i+1,(⟨z0::p.nm,p.mv,p.out++[⟨1,z0,0,0,x2⟩]⟩,room-1),rfl,rfl,hil,Hyes.out,by show -100<=room-1;omega,by show room-1<=100;omega,by show(p.out++[_]).length<=_;rw[jA,List.length_singleton];omega,hS9.s _⟩
     case measure=>simp[intOf];omega
  ·have d1:decide (i<zs.length)=false:=decide_eq_false hil;have hie:i=Z.length:=by rw[Hlz.out];omega
   rw[hie,List.take_length]at hst;have Hst:=jH hst;clear hst hie hi;go_wp2_with(first|go_big_skip);go_end0;refine⟨rfl,Z,HZp.out,Hasc.out,?_⟩;rw[Hst.out];exact hS.s _
end Go.Proofs.Ytjcfifkjbaffnaa
end
