/-
  The vault's Order where there is no room.
-/
import Derived.Test.YtienbkdjkjbelaaGreatJuTM5
import Derived.Test.YtienbkdjkjbelaaGreatJuTM6
import Derived.Test.YtienbkdjkjbelaaGreatJuTM7
import Derived.Test.YtienbkdjkjbelaaGreatJuTM8
import Derived.Test.YtienbkdjkjbelaaGreatJuTM19
import Derived.Shelf.SlIter.Nil
import Derived.Shelf.SlIterI.Nil
import Derived.Test.YtienbkdjkjbelaaGreatProg
import Derived.Shelf.SortM.Plain
import Derived.Shelf.SortM.SortNone
import Derived.Ground.GgzProg
import Derived.Ground.SlgmProg
import Derived.Sort.Walk0
set_option maxHeartbeats 16000000
set_option maxRecDepth 100000
set_option linter.unusedSimpArgs false
set_option linter.unusedVariables false
section
namespace Go.Proofs.YtienbkdjkjbelaaGreat
open Go.RowKit Go.Sl
section
variable(vb mb bb:Nat)(p:Ps)(L:List Ord)(n:Int)(o:Ord)(W w:World)(R:List HP)
theorem Ky7(h:aU4 o=true)(hf:32<=L.length\/1099511627776<n)(hS:St W (w5 vb mb bb p L n R) w):
  Calls Tryz.prog 113 #[.P vb,.agg o.cells.toArray] w fun e w'=>e=.returned (.tuple #[.I 0,.I 6])/\St W (w5 vb mb bb p L n R) w':=by
 obtain⟨i,u,y,t,c,pr⟩:=o;have hm:J7 ⟨1,u,y,t,c,pr⟩=true:=h;clear h;simp only[Ord.cells];by_cases hl:32<=L.length
 ·have d1:(32:Int)<=(L.length:Int):=by omega
  clear hf;go_enter Tryz.func113,Tryz.ntmps113;go_wp2_with(first|(with_reducible apply Be7 (n:=1) (l:=[(⟨1,u,y,t,c,pr⟩:Ord)].flatMap Ord.cells) hS);rfl;rfl;(focus(simp only[fD,fI,fJ,Act.eval,fE,fF,fG,fH,fK];try rfl));exact esS;exact rsS;rfl;rfl;rfl;rfl;rfl;decide;clear hS;intro bv w hS;refine frS ?_|go_at_call 148;refine(Dt7 ⟨1,u,y,t,c,pr⟩ rfl _ W _ _ hS).mono ?_;clear hS;rw[hm];rintro e w ⟨vu,rfl,hS⟩|go_at_call 149;refine(Ds7 (hS.s (x9 bb L n::_::blk vb _ _::d9 eS eP mb p::R))).mono ?_;clear hS;rintro e w ⟨rfl,hS⟩|refine zl1 hS ?_|refine zlN hS ?_|refine zs1 hS ?_;clear hS;intro w hS|refine zbx hS ?_;clear hS;intro b w hS);go_ret2;exact⟨rfl,hS.s _⟩
 ·have d1:decide ((32:Int)<=(L.length:Int))=false:=by simp;omega
  have d2:1099511627776<n:=hf.resolve_left hl;clear hf hl;go_enter Tryz.func113,Tryz.ntmps113;go_wp2_with(first|(with_reducible apply Be7 (n:=1) (l:=[(⟨1,u,y,t,c,pr⟩:Ord)].flatMap Ord.cells) hS);rfl;rfl;(focus(simp only[fD,fI,fJ,Act.eval,fE,fF,fG,fH,fK];try rfl));exact esS;exact rsS;rfl;rfl;rfl;rfl;rfl;decide;clear hS;intro bv w hS;refine frS ?_|go_at_call 148;refine(Dt7 ⟨1,u,y,t,c,pr⟩ rfl _ W _ _ hS).mono ?_;clear hS;rw[hm];rintro e w ⟨vu,rfl,hS⟩|go_at_call 149;refine(Ds7 (hS.s (x9 bb L n::_::blk vb _ _::d9 eS eP mb p::R))).mono ?_;clear hS;rintro e w ⟨rfl,hS⟩|refine zl1 hS ?_|refine zlN hS ?_|refine zs1 hS ?_;clear hS;intro w hS|refine zbx hS ?_;clear hS;intro b w hS);go_ret2;exact⟨rfl,hS.s _⟩
end
structure Vs where
 ps:Ps
 L:List Ord
 n:Int
def x8(V:Vs)(o:Ord):Int×Int×Vs:=
 if aU4 o=false then(0,1,V)
 else if 32<=V.L.length\/1099511627776<V.n then(0,6,V)
 else if p9 V.ps o.who (j5 o)=0 then(V.n,0,⟨(aM4 V.L { o with id:=V.n }).foldl ay4 (r8 V.ps o.who (j5 o)),bP4 V.L { o with id:=V.n },V.n+1⟩)
 else(0,14,V)
theorem Cg7{o:Ord}(h:aU4 o=true):C6 o.who=true/\s6 (j5 o)=true:=by
 have hm:=Ao7.1 h;have w0:1<=o.who.size:=hm.who0;have w1:o.who.size<=16:=hm.who1;have c0:1<=o.cnt:=hm.cnt0;have c1:o.cnt<=1048576:=hm.cnt1;have p0:1<=o.price:=hm.price0;have p1:o.price<=1024:=hm.price1;have m:=BN7 (show 0<=o.cnt by omega) c1 (show 0<=o.price by omega) p1;refine⟨by unfold C6;simp;omega,?_⟩;have z:(0:Int)<=0/\(0:Int)<=1152921504606846976:=⟨by decide,by decide⟩
 unfold j5;split
 ·exact Ag7.2 ⟨⟨m.1,show o.cnt*o.price<=1152921504606846976 by omega⟩,z,z,z⟩
 ·exact Gv7 rfl _ ⟨by omega,by omega⟩
theorem LY7(vb mb bb:Nat)(V:Vs)(o:Ord)(hp:L7 V.ps)(hn:1<=V.n)(W w:World)(R:List HP)(hS:St W (w5 vb mb bb V.ps V.L V.n R) w):
  Calls Tryz.prog 113 #[.P vb,.agg o.cells.toArray] w fun e w'=>e=.returned (.tuple #[.I (x8 V o).1,.I (x8 V o).2.1]) /\
   St W (w5 vb mb bb (x8 V o).2.2.ps (x8 V o).2.2.L (x8 V o).2.2.n R) w':=by
 unfold x8;by_cases h1:aU4 o=false
 ·rw[if_pos h1];exact LX7 vb mb bb V.ps V.L V.n o W w R h1 hS
 ·rw[if_neg h1];have h1':aU4 o=true:=by simpa using h1
  by_cases h2:32<=V.L.length\/1099511627776<V.n
  ·rw[if_pos h2];exact Ky7 vb mb bb V.ps V.L V.n o W w R h1' h2 hS
  ·rw[if_neg h2];by_cases h3:p9 V.ps o.who (j5 o)=0
   ·rw[if_pos h3];exact Ob7 vb mb bb V.ps V.L V.n o W w R hp h1' hn (by omega) (by omega) h3 hS
   ·rw[if_neg h3]
    have h14:p9 V.ps o.who (j5 o)=14:=by
     have hh:=Cg7 h1';unfold p9 at h3 ⊢;rw[if_pos hh]at h3 ⊢;split
     ·rename_i hs;rw[if_pos hs]at h3;exact absurd rfl h3
     ·rfl
    exact IA7 vb mb bb V.ps V.L V.n o W w R h1' (by omega) (by omega) h14 hS
def B8(V:Vs)(who:ByteArray)(id:Int):Int×Vs:=
 if V.L.any (an4 id who)=true then(0,⟨bY4 V.ps who (j5 (m9 V.L id).o),(m9 V.L id).L,V.n⟩)else(7,V)
theorem CJ7{L:List Ord}{who:ByteArray}{id:Int}(h:L.any (an4 id who)=true):(m9 L id).errno=0/\(m9 L id).o∈L:=by
 obtain⟨x,hx,hh⟩:=List.any_eq_true.1 h;have hid:(x.id==id)=true:=by unfold an4 at hh;exact(jB _ _▸hh).1
 unfold m9
 cases hf:L.findIdx? (fun o=>o.id==id)with
 | none=>
  have:=List.findIdx?_eq_none_iff.1 hf x hx;rw[hid]at this
  cases this
 | some i=>
  obtain⟨hi,_⟩:=List.findIdx?_eq_some_iff_getElem.1 hf;exact⟨rfl,H8 hi⟩
theorem LZ7(vb mb bb:Nat)(V:Vs)(who:ByteArray)(id:Int)(hp:L7 V.ps)(W w:World)(R:List HP)(hS:St W (w5 vb mb bb V.ps V.L V.n R) w):
  Calls Tryz.prog 114 #[.P vb,.string who,.I id] w fun e w'=>e=.returned (.I (B8 V who id).1) /\
   St W (w5 vb mb bb (B8 V who id).2.ps (B8 V who id).2.L (B8 V who id).2.n R) w':=by
 unfold B8;by_cases h:V.L.any (an4 id who)=true
 ·rw[if_pos h];obtain⟨h1,h2⟩:=CJ7 h;exact ID7 vb mb bb V.ps V.L V.n who id W w R hp (m9 V.L id).o (m9 V.L id).L (Ca7 hS.drop.drop _ h2).1 h rfl h1 rfl hS
 ·rw[if_neg h];exact Kx7 vb mb bb V.ps V.L V.n who id W w R (by simpa using h) hS
theorem Ma7{p:Ps}(h:L7 p)(who:ByteArray){i:It}(hi:s6 i=true):L7 (bY4 p who i):=by obtain⟨a0,a1,a2,a3⟩:=Ag7.1 hi;exact Ak7 (Ak7 (Ak7 (Ak7 h _ _ a0.1) _ _ a1.1) _ _ a2.1) _ _ a3.1
theorem Mb7{V:Vs}{o:Ord}(hp:L7 V.ps)(hn:1<=V.n)(hL:∀x∈V.L,MayP x):L7 (x8 V o).2.2.ps/\1<=(x8 V o).2.2.n:=by
 unfold x8;split
 ·exact⟨hp,hn⟩
 ·rename_i h1
  have hm:=Ao7.1 (show J7 { o with id:=1 }=true by simpa[aU4]using h1);split
  ·exact⟨hp,hn⟩
  ·split
   ·refine⟨Du7 _ (BF7 hp _ _) ?_,by show 1<=V.n+1;omega⟩;have c0:1<=o.cnt:=hm.cnt0;have c1:o.cnt<=1048576:=hm.cnt1;exact Cw7 _ _ _ _ hL ⟨show 0<=o.cnt by omega,c1,hm.item0,hm.item1,hm.price1⟩ fun t ht=>(by cases ht)
   ·exact⟨hp,hn⟩
theorem Mc7{V:Vs}{who:ByteArray}{id:Int}(hp:L7 V.ps)(hn:1<=V.n)(hL:∀x∈V.L,MayP x):L7 (B8 V who id).2.ps/\1<=(B8 V who id).2.n:=by
 unfold B8;split
 ·rename_i h
  have hx:=hL _ (CJ7 h).2;have h1:aU4 (m9 V.L id).o=true:=Ao7.2 ⟨show(1:Int)<=1 by decide,show(1:Int)<=1099511627776 by decide,hx.who0,hx.who1,hx.item0,hx.item1,hx.cnt0,hx.cnt1,hx.price0,hx.price1⟩;exact⟨Ma7 hp who (Cg7 h1).2,hn⟩
 ·exact⟨hp,hn⟩
end Go.Proofs.YtienbkdjkjbelaaGreat
end
section
namespace Go.Sl
open Go.RowKit
section
variable{P:Program}{W w w':World}{L:List HP}
theorem St.called{v:Value}{k n:Nat}{T:TypeId}{cs:List Value}(h:St W L w)(hb:Below w.heap.size w w')(hr:w'.ownsRow w.heap.size T k v n cs):St W (row v k T n cs::L) w':=by
 refine⟨hb.os.trans h.os,hb.tape.trans h.tape,hb.output.trans h.output,fun b=>decide (w.heap.size<=b),?_,?_⟩
 ·obtain⟨hl,h1⟩:=hr;refine⟨hl,?_⟩
  rcases h1 with ⟨hv,hn⟩|⟨g,cap,cur,hv,hg,hh,h3,h4,h5,h6⟩
  ·exact .inl ⟨hv,hn⟩
  ·have e:cs++cur.toList.drop (n*k)=cur.toList:=by rw[<-h6,List.take_append_drop]
   refine .inr ⟨g,cap,cur.toList.drop (n*k),hv,h3,h4,?_,?_⟩
   ·rw[e];simpa using h5
   ·show cond (decide (w.heap.size<=g)) (w'.heap[g]?) none=_
    rw[decide_eq_true hg,e];show w'.heap[g]? = _
    rw[hh]
 ·have e:l8 (fun b=>decide (w.heap.size<=b)) (fun b=>w'.heap[b]?)=fun b=>w.heap[b]? := by
   funext b
   show cond (decide (w.heap.size<=b)) none (w'.heap[b]?)=w.heap[b]?
   by_cases hb':w.heap.size<=b
   ·rw[decide_eq_true hb',Array.getElem?_eq_none hb'];rfl
   ·rw[decide_eq_false hb',hb.block b (by omega)];rfl
  rw[e];exact h.sat
def R1:Value->Option (DataW Unit×List MemPlace):=fun _=>some (.lit (.bool true),[])
theorem Hu7{α β:Type}(f:α->β)(hf:∀x y,f x=f y->x=y):∀l:List α,l.Nodup->(l.map f).Nodup
 | [],_=>List.nodup_nil
 | x::l,h=>by rw[List.nodup_cons]at h;rw[List.map_cons,List.nodup_cons];refine⟨fun hx=>?_,Hu7 f hf l h.2⟩;obtain⟨y,hy,e⟩:=List.mem_map.1 hx;exact h.1 (hf y x e▸hy)
section
variable{ι:Type}{enc:ι->MapEntry}{K:TypeId}{b c:Nat}{l:List ι}
theorem dz4(hst:bp4 (l.map enc))(hc:∀x∈l,(enc x).born<c)(hk:(l.map fun x=>(enc x).key).Nodup):MapKept.Stamped (l.map enc).toArray c:=by
 refine⟨fun x hx=>?_,?_,?_⟩
 ·have hx':x∈l.map enc:=by simpa using hx
  obtain⟨y,hy,rfl⟩:=List.mem_map.1 hx';exact hc y hy
 ·simpa[bp4]using hst
 ·have:((l.map enc).toArray.toList.map (·.key))=l.map fun x=>(enc x).key:=by simp
  rw[this];exact hk
theorem fq4{kf:ι->ByteArray}(h:St W (aZ4 b (l.map enc) c::L) w)(hK:P.underlying K=some .string)(hkf:∀x,(enc x).key=.string (kf x))(hwf:∀x∈l,(kf x).size<=maxLen)
  (hst:bp4 (l.map enc)) (hc:∀x∈l,(enc x).born<c) (hn:(l.map kf).Nodup) (hl:l.length<=maxLen):
  ∃D:DataW Unit,w.ownsMap P K R1 b l.length D/\Maps.size D=l.length/\(strKeys D).Perm (l.map fun x=>(kf x).data.toList):=by
 have hrd:∀x∈l,WideElems.rd P K R1 (enc x)=some (.string (kf x).data.toList,.lit (.bool true)):=fun x hx=>by
  have h1:keyOf P K (.string (kf x))=some (.string (kf x).data.toList):=by unfold keyOf mapKey;simp[hK,hwf x hx]
  unfold WideElems.rd;rw[hkf x,h1];rfl
 have hrg:(l.map enc).map (WideElems.rg P K R1)=l.map fun x=>((.string (kf x).data.toList,.lit (.bool true)):Lit×DataW Unit):=by
  rw[List.map_map];refine List.map_congr_left fun x hx=>?_
  show(WideElems.rd P K R1 (enc x)).getD _=_
  rw[hrd x hx];rfl
 have hp:=WideShapes.sorted_perm (l.map fun x=>((.string (kf x).data.toList,.lit (.bool true)):Lit×DataW Unit));refine⟨.map (((l.map enc).map (WideElems.rg P K R1)).foldr DataW.insert []),⟨_,c,h.get (b:=b) .head,⟨by simpa using hl,dz4 hst hc ?_,fun x hx=>?_⟩,by simp,by simp⟩,?_,?_⟩
 ·have e:(l.map fun x=>(enc x).key)=(l.map kf).map Value.string:=by
   rw[List.map_map];exact List.map_congr_left fun x _=>hkf x
  rw[e];exact Hu7 _ (fun x y h=>by simpa using h) _ hn
 ·have hx':x∈l.map enc:=by simpa using hx
  obtain⟨y,hy,rfl⟩:=List.mem_map.1 hx';exact⟨_,hrd y hy⟩
 ·rw[Maps.size_eq,hrg,hp.length_eq,jM]
 ·rw[hrg];refine(hp.map fun p=>strOf p.1).trans ?_;rw[List.map_map];exact .refl _
end
end
end Go.Sl
end
section
namespace Go.Proofs.YtienbkdjkjbelaaGreat
open Go.Shelf
def Tryz.keysS_ren:Go.Shelf.Ren:=⟨fun|7=>123|10=>158|n=>n,fun|23=>212|26=>9|3=>34|28=>158|0=>0|27=>157|33=>191|4=>4|n=>n,fun|n=>n⟩
theorem Tryz.keysS:Go.Proofs.SlLaysZ.n7 Tryz.prog Tryz.keysS_ren:={
 mixed:=by kernel_rfl
 f7:=⟨Tryz.f123.name,by decide,Tryz.func123.trans (congrArg some (by kernel_rfl))⟩
 f10:=⟨Tryz.f158.name,by decide,Tryz.func158.trans (congrArg some (by kernel_rfl))⟩
 t0:=Tryz.underlying0
 a0:=Tryz.isAgg0
 z0:=Tryz.sizeOf0
 v0:=Tryz.zeroValue0
 t4:=Tryz.underlying4
 a4:=Tryz.isAgg4
 z4:=Tryz.sizeOf4
 v4:=Tryz.zeroValue4
 t23:=Tryz.underlying212
 a23:=Tryz.isAgg212
 z23:=Tryz.sizeOf212
 v23:=Tryz.zeroValue212
 t26:=Tryz.underlying9
 a26:=Tryz.isAgg9
 z26:=Tryz.sizeOf9
 v26:=Tryz.zeroValue9
 t27:=Tryz.underlying157
 a27:=Tryz.isAgg157
 z27:=Tryz.sizeOf157
 v27:=Tryz.zeroValue157
 t28:=Tryz.underlying158
 a28:=Tryz.isAgg158
 z28:=Tryz.sizeOf158
 v28:=Tryz.zeroValue158
 t33:=Tryz.underlying191
 a33:=Tryz.isAgg191
 z33:=Tryz.sizeOf191
 v33:=Tryz.zeroValue191 }
def Tryz.sortedS_ren:Go.Shelf.Ren:=⟨fun|6=>78|8=>120|9=>121|11=>156|13=>127|12=>157|23=>171|24=>172|14=>197|15=>198|16=>199|17=>200|18=>201|19=>202|20=>203|21=>204|22=>205|25=>218|26=>208|27=>209|28=>219|29=>220|30=>221|31=>232|n=>n,fun|26=>9|28=>158|24=>101|0=>0|3=>3|37=>163|48=>265|50=>162|4=>4|40=>259|39=>258|45=>188|5=>5|9=>9|51=>296|55=>300|57=>317|58=>196|33=>191|n=>n,fun|n=>n⟩
theorem Tryz.sortedS:Go.Proofs.SlLaysZ.n6 Tryz.prog Tryz.sortedS_ren:={
 mixed:=by kernel_rfl
 f6:=⟨Tryz.f78.name,by decide,Tryz.func78.trans (congrArg some (by kernel_rfl))⟩
 f8:=⟨Tryz.f120.name,by decide,Tryz.func120.trans (congrArg some (by kernel_rfl))⟩
 f11:=⟨Tryz.f156.name,by decide,Tryz.func156.trans (congrArg some (by kernel_rfl))⟩
 t0:=Tryz.underlying0
 a0:=Tryz.isAgg0
 z0:=Tryz.sizeOf0
 v0:=Tryz.zeroValue0
 t24:=Tryz.underlying101
 a24:=Tryz.isAgg101
 z24:=Tryz.sizeOf101
 v24:=Tryz.zeroValue101
 t26:=Tryz.underlying9
 a26:=Tryz.isAgg9
 z26:=Tryz.sizeOf9
 v26:=Tryz.zeroValue9
 t28:=Tryz.underlying158
 a28:=Tryz.isAgg158
 z28:=Tryz.sizeOf158
 v28:=Tryz.zeroValue158
 i26:=by kernel_rfl }
def Tryz.sortS_ren:Go.Shelf.Ren:=⟨fun|6=>121|8=>127|9=>157|19=>171|20=>172|21=>197|22=>198|23=>199|24=>200|25=>201|26=>202|27=>203|28=>204|29=>205|36=>218|31=>208|32=>209|37=>219|38=>220|39=>221|41=>232|n=>n,fun|27=>101|29=>9|3=>3|32=>163|26=>101|0=>0|44=>265|46=>162|4=>4|36=>259|35=>258|41=>188|5=>5|9=>9|53=>296|57=>300|63=>317|64=>196|n=>n,fun|n=>n⟩
theorem Tryz.sortS:Go.Proofs.SlLaysM.n6 Tryz.prog Tryz.sortS_ren:={
 mixed:=by kernel_rfl
 f6:=⟨Tryz.f121.name,by decide,Tryz.func121.trans (congrArg some (by kernel_rfl))⟩
 f8:=Tryz.func127.trans (congrArg some (by kernel_rfl))
 f9:=⟨Tryz.f157.name,by decide,Tryz.func157.trans (congrArg some (by kernel_rfl))⟩
 f19:=Tryz.func171.trans (congrArg some (by kernel_rfl))
 f20:=Tryz.func172.trans (congrArg some (by kernel_rfl))
 f21:=⟨Tryz.f197.name,by decide,Tryz.func197.trans (congrArg some (by kernel_rfl))⟩
 f22:=⟨Tryz.f198.name,by decide,Tryz.func198.trans (congrArg some (by kernel_rfl))⟩
 f23:=⟨Tryz.f199.name,by decide,Tryz.func199.trans (congrArg some (by kernel_rfl))⟩
 f24:=⟨Tryz.f200.name,by decide,Tryz.func200.trans (congrArg some (by kernel_rfl))⟩
 f25:=⟨Tryz.f201.name,by decide,Tryz.func201.trans (congrArg some (by kernel_rfl))⟩
 f26:=⟨Tryz.f202.name,by decide,Tryz.func202.trans (congrArg some (by kernel_rfl))⟩
 f27:=⟨Tryz.f203.name,by decide,Tryz.func203.trans (congrArg some (by kernel_rfl))⟩
 f28:=⟨Tryz.f204.name,by decide,Tryz.func204.trans (congrArg some (by kernel_rfl))⟩
 f29:=⟨Tryz.f205.name,by decide,Tryz.func205.trans (congrArg some (by kernel_rfl))⟩
 f31:=Tryz.func208.trans (congrArg some (by kernel_rfl))
 f32:=Tryz.func209.trans (congrArg some (by kernel_rfl))
 f36:=⟨Tryz.f218.name,by decide,Tryz.func218.trans (congrArg some (by kernel_rfl))⟩
 f37:=⟨Tryz.f219.name,by decide,Tryz.func219.trans (congrArg some (by kernel_rfl))⟩
 f38:=⟨Tryz.f220.name,by decide,Tryz.func220.trans (congrArg some (by kernel_rfl))⟩
 f39:=⟨Tryz.f221.name,by decide,Tryz.func221.trans (congrArg some (by kernel_rfl))⟩
 f41:=⟨Tryz.f232.name,by decide,Tryz.func232.trans (congrArg some (by kernel_rfl))⟩
 t0:=Tryz.underlying0
 a0:=Tryz.isAgg0
 z0:=Tryz.sizeOf0
 v0:=Tryz.zeroValue0
 t3:=Tryz.underlying3
 a3:=Tryz.isAgg3
 z3:=Tryz.sizeOf3
 v3:=Tryz.zeroValue3
 t4:=Tryz.underlying4
 a4:=Tryz.isAgg4
 z4:=Tryz.sizeOf4
 v4:=Tryz.zeroValue4
 t5:=Tryz.underlying5
 a5:=Tryz.isAgg5
 z5:=Tryz.sizeOf5
 v5:=Tryz.zeroValue5
 t9:=Tryz.underlying9
 a9:=Tryz.isAgg9
 z9:=Tryz.sizeOf9
 v9:=Tryz.zeroValue9
 t26:=Tryz.underlying101
 a26:=Tryz.isAgg101
 z26:=Tryz.sizeOf101
 v26:=Tryz.zeroValue101
 t27:=Tryz.underlying101
 a27:=Tryz.isAgg101
 z27:=Tryz.sizeOf101
 v27:=Tryz.zeroValue101
 t29:=Tryz.underlying9
 a29:=Tryz.isAgg9
 z29:=Tryz.sizeOf9
 v29:=Tryz.zeroValue9
 t32:=Tryz.underlying163
 a32:=Tryz.isAgg163
 z32:=Tryz.sizeOf163
 v32:=Tryz.zeroValue163
 t35:=Tryz.underlying258
 a35:=Tryz.isAgg258
 z35:=Tryz.sizeOf258
 v35:=Tryz.zeroValue258
 t36:=Tryz.underlying259
 a36:=Tryz.isAgg259
 z36:=Tryz.sizeOf259
 v36:=Tryz.zeroValue259
 t41:=Tryz.underlying188
 a41:=Tryz.isAgg188
 z41:=Tryz.sizeOf188
 v41:=Tryz.zeroValue188
 t44:=Tryz.underlying265
 a44:=Tryz.isAgg265
 z44:=Tryz.sizeOf265
 v44:=Tryz.zeroValue265
 t46:=Tryz.underlying162
 a46:=Tryz.isAgg162
 z46:=Tryz.sizeOf162
 v46:=Tryz.zeroValue162
 t53:=Tryz.underlying296
 a53:=Tryz.isAgg296
 z53:=Tryz.sizeOf296
 v53:=Tryz.zeroValue296
 t57:=Tryz.underlying300
 a57:=Tryz.isAgg300
 z57:=Tryz.sizeOf300
 v57:=Tryz.zeroValue300
 t63:=Tryz.underlying317
 a63:=Tryz.isAgg317
 z63:=Tryz.sizeOf317
 v63:=Tryz.zeroValue317
 t64:=Tryz.underlying196
 a64:=Tryz.isAgg196
 z64:=Tryz.sizeOf196
 v64:=Tryz.zeroValue196 }
end Go.Proofs.YtienbkdjkjbelaaGreat
end
section
namespace Go.Proofs.YtienbkdjkjbelaaGreat
open Go.RowKit Go.Maps Go.Sort Go.Shelf Go.Sl
def leB(x y:ByteArray):Bool:=decide (x.data.toList<=y.data.toList)
def aO4(l:List ByteArray):List ByteArray:=l.mergeSort leB
theorem Ax7(l:List ByteArray):(aO4 l).Perm l:=List.mergeSort_perm _ _
theorem dO4 (m : Nat) : AnyZ.SortsIn Tryz.prog Tryz.sortedS_ren Fence.wide m :=
  ⟨fun blk off cap ss W hH hblk hsz => callsIn_wide.2 (AnyM.slices_Sort_string Tryz.sortS blk off cap ss W hH hblk hsz),
   fun p cap W => callsIn_wide.2 (AnyM.slices_Sort_string_none Tryz.sortS p cap W)⟩
theorem Kz7(mb:Option Nat)(W w:World)(L:List HP)(hS:St W L w):
  Calls Tryz.prog 123 #[.map mb] w fun e w'=>∃g,e=.returned (.func (.func 158) #[] #[.P g])/\St W (blk g [.map mb] 212::L) w':=by
 have cK:CallsIn Fence.wide 5 Tryz.prog 123 #[.map mb] w fun e w'=>e=.returned (.func (.func 158) #[] #[.pointer (some ⟨w.heap.size,0,none⟩)])/\w'=w.alloc (.cells #[.map mb] 212):=AnyZ.keys_in Tryz.keysS Fence.wide 5 trivial rfl mb w
 refine((callsIn_wide (n:=5)).1 cK).mono ?_;rintro e w' ⟨rfl,rfl⟩;exact⟨_,rfl,hS.alloc _⟩
section
variable{ν:Type}{ev:ν->Value}{W w:World}{L:List HP}{b g:Nat}
theorem dP4{l:List (ByteArray×ν)}(h:St W (d9 eS ev b l::L) w)(hwf:∀x∈l,x.1.size<=maxLen)(hl:l.length<=maxLen):
  ∃D:DataW Unit,w.ownsMap Tryz.prog 9 R1 b l.length D/\Maps.size D=l.length/\(strKeys D).Perm (l.map fun x=>x.1.data.toList):=by
 obtain⟨ps,c,h1,h2,h3⟩:=aw4 h;have hll:(ps.map (evs ev)).length=l.length:=by have:=h1.length_eq;rwa [jM]at this ⊢
 have hk:(ps.map (evs ev)).map (·.1)=(ps.map prj).map (·.1):=by rw[Dj7,Jq7]
 have hp:((ps.map (evs ev)).map (·.1)).Perm (l.map (·.1)):=by rw[hk];exact h1.map _
 obtain⟨D,hD1,hD2,hD3⟩:=fq4 (P:=Tryz.prog) (K:=9) (kf:=fun x:ByteArray×Value×Nat=>x.1) h3 Tryz.underlying9 (fun x=>rfl) (fun x hx=>by have hx1:x.1∈l.map (·.1):=hp.mem_iff.1 (List.mem_map_of_mem hx);obtain⟨y,hy,hxy⟩:=List.mem_map.1 hx1;rw[<-hxy];exact hwf y hy) (by unfold bp4;rw[List.map_map,List.map_map];exact h2.st) (fun x hx=>by obtain⟨y,hy,rfl⟩:=List.mem_map.1 hx;exact h2.old y hy) (by rw[Dj7];exact h2.ks) (by omega);rw[hll]at hD1 hD2;have e1:(ps.map (evs ev)).map (fun x=>x.1.data.toList)=((ps.map (evs ev)).map (·.1)).map (fun k=>k.data.toList):=by simp only[List.map_map];rfl
 have e2:l.map (fun x=>x.1.data.toList)=(l.map (·.1)).map (fun k=>k.data.toList):=by rw[List.map_map];rfl
 refine⟨D,hD1,hD2,hD3.trans ?_⟩;rw[e1,e2];exact hp.map _
theorem Md7(a b c:ByteArray)(h1:leB a b=true)(h2:leB b c=true):leB a c=true:=by unfold leB at *;simp only[decide_eq_true_eq]at *;exact List.le_trans h1 h2
theorem Me7(a b:ByteArray):(leB a b||leB b a)=true:=by unfold leB;simp only[Bool.or_eq_true,decide_eq_true_eq];exact List.le_total _ _
theorem EJ7{a b:ByteArray}(h1:leB a b=true)(h2:leB b a=true):a=b:=by unfold leB at *;simp only[decide_eq_true_eq]at *;have h:=List.le_antisymm h1 h2;obtain⟨⟨a⟩⟩:=a;obtain⟨⟨b⟩⟩:=b;simp at h;rw[h]
theorem AB7(l:List ByteArray):(aO4 l).Pairwise fun x y=>leB x y=true:=List.pairwise_mergeSort Md7 Me7 l
theorem JH7{l:List ByteArray}{ss:List (List UInt8)}(h:ss.Perm (l.map fun k=>k.data.toList)):(ss.mergeSort (fun x y=>decide (x<=y))).map encStr=(aO4 l).map eS:=by
 have e:ss.mergeSort (fun x y=>decide (x<=y))=(aO4 l).map fun k=>k.data.toList:=by
  refine List.Perm.eq_of_pairwise (le:=fun a b=>decide (a<=b)=true) (fun a b _ _ h1 h2=>?_) (List.pairwise_mergeSort ?_ ?_ _) ?_ (((List.mergeSort_perm _ _).trans h).trans ((Ax7 l).map _).symm)
  ·simp only[decide_eq_true_eq]at h1 h2;exact List.le_antisymm h1 h2
  ·intro a b c h1 h2;simp only[decide_eq_true_eq]at *;exact List.le_trans h1 h2
  ·intro a b;simp only[Bool.or_eq_true,decide_eq_true_eq];exact List.le_total _ _
  ·exact List.pairwise_map.2 (AB7 l)
 rw[e,List.map_map];refine List.map_congr_left fun k _=>?_
 show Value.string ⟨k.data.toList.toArray⟩=Value.string k
 rfl
theorem Hv7{l:List (ByteArray×ν)}(hwf:∀x∈l,x.1.size<=maxLen)(hl:l.length<=1000000000)(hS:St W (blk g [.map (some b)] 212::d9 eS ev b l::L) w):
  Calls Tryz.prog 78 #[.func (.func 158) #[] #[.P g]] w fun e w'=>∃v,e=.returned v/\St W (row v 1 9 l.length ((aO4 (l.map (·.1))).map eS)::d9 eS ev b l::L) w':=by
 obtain⟨D,hD1,hD2,hD3⟩:=dP4 hS.drop hwf (by unfold maxLen;omega)
 have hseq:SeqGives Fence.wide 2 Tryz.prog 158 #[.P g] encStr (fun ss=>ss.Perm (strKeys D)) (Maps.size D) w:=
  AnyZ.keys_gives (ρ:=Tryz.keysS_ren) { Tryz.keysS with } Fence.wide _ trivial rfl (by omega) g b l.length D _ (Array.getElem?_eq_some_iff.1 (hS.get (b:=g) .head)).1 (hS.cell (b:=g) (off:=0) .head rfl) hD1
 have cS:=AnyZ.sorted_in Tryz.sortedS Fence.wide 5 trivial trivial trivial trivial rfl (by omega) (dO4 _) (enters_of Tryz.func121 (by kernel_rfl) rfl) 158 #[.P g] trivial (enters_of Tryz.func158 (by kernel_rfl) rfl) _ _ (by rw[hD2];unfold maxLen;omega) (by rw[hD2];omega) _ hseq;change CallsIn _ _ Tryz.prog 78 _ _ _ at cS;refine((callsIn_wide (n:=5)).1 cS).mono ?_;rintro e w' ⟨v,ss,rfl,hP,hrow,hnil,hb⟩;refine⟨v,rfl,?_⟩;have hp:=hP.trans hD3;have e:=JH7 (l:=l.map (·.1)) (ss:=ss) (by rw[List.map_map];exact hp);rw[e,show ss.length=l.length by rw[hp.length_eq,jM]]at hrow;exact(hS.drop).called hb hrow
end
end Go.Proofs.YtienbkdjkjbelaaGreat
end
section
namespace Go.Proofs.YtienbkdjkjbelaaGreat
open Go.RowKit Go.Sl
structure PsW(p:Ps)(N:Nat):Prop where
 nd:(p.map (·.1)).Nodup
 nz:∀x∈p,isZ x.2=false
 who:∀x∈p,C6 x.1=true
 len:p.length<=N
theorem Mf7(N:Nat):PsW [] N:=⟨List.nodup_nil,fun _ h=>(by cases h),fun _ h=>(by cases h),Nat.zero_le _⟩
theorem Al7{p:Ps}{N M:Nat}(h:PsW p N)(hm:N<=M):PsW p M:=⟨h.nd,h.nz,h.who,Nat.le_trans h.len hm⟩
theorem CK7{p:Ps}{k:ByteArray}{x:ByteArray×It}(hx:x∈i9 p k):x∈p/\x.1≠k:=by have h:=List.mem_filter.1 hx;exact⟨h.1,by simpa using h.2⟩
theorem Eh7{p:Ps}(h:(p.map (·.1)).Nodup)(k:ByteArray):((i9 p k).map (·.1)).Nodup:=h.sublist (List.filter_sublist.map _)
theorem IE7{p:Ps}{N:Nat}(h:PsW p N){k:ByteArray}(hk:C6 k=true)(i:It):PsW (G9 p k i) (N+1):=by
 have hnd:=Eh7 h.nd k;have hl:(i9 p k).length<=N:=Nat.le_trans (List.length_filter_le _ _) h.len;unfold G9;split
 ·exact⟨hnd,fun x hx=>h.nz x (CK7 hx).1,fun x hx=>h.who x (CK7 hx).1,by omega⟩
 ·rename_i hz
  refine⟨?_,?_,?_,by simpa using hl⟩
  ·rw[List.map_cons,List.nodup_cons];refine⟨fun hm=>?_,hnd⟩;obtain⟨x,hx,e⟩:=List.mem_map.1 hm;exact(CK7 hx).2 e
  ·intro x hx
   rcases List.mem_cons.1 hx with rfl|hx
   ·simpa using hz
   ·exact h.nz x (CK7 hx).1
  ·intro x hx
   rcases List.mem_cons.1 hx with rfl|hx
   ·exact hk
   ·exact h.who x (CK7 hx).1
theorem Ei7{o:Ord}(h:MayP o):C6 o.who=true:=by unfold C6;simp;exact⟨h.who0,h.who1⟩
theorem Mg7{k:ByteArray}(h:C6 k=true):k.size<=16:=by unfold C6 at h;simp at h;omega
section
variable{p:Ps}{N:Nat}
theorem AD7(h:PsW p N){who:ByteArray}(hk:C6 who=true)(k n:Int):PsW (l5 p who k n) (N+1):=IE7 h hk _
theorem Gx7(h:PsW p N)(k:ByteArray)(i:It):PsW (F8 p k i) (N+1):=by
 unfold F8;split
 ·rename_i hc
  split
  ·exact IE7 h hc.1 _
  ·exact Al7 h (by omega)
 ·exact Al7 h (by omega)
theorem Dv7(h:PsW p N)(k:ByteArray)(i:It):PsW (r8 p k i) (N+1):=by
 unfold r8;split
 ·rename_i hc
  split
  ·exact IE7 h hc.1 _
  ·exact Al7 h (by omega)
 ·exact Al7 h (by omega)
theorem Oe7(h:PsW p N){who:ByteArray}(hk:C6 who=true)(i:It):PsW (bY4 p who i) (N+4):=
 AD7 (AD7 (AD7 (AD7 h hk _ _) hk _ _) hk _ _) hk _ _
theorem PY7(h:PsW p N){t:Trd}(ht:C6 t.buyer=true/\C6 t.seller=true):PsW (ay4 p t) (N+3):=
 AD7 (AD7 (AD7 h ht.1 _ _) ht.1 _ _) ht.2 _ _
end
theorem Gy7:∀(ts:List Trd) {p:Ps} {N:Nat},PsW p N->(∀t∈ts,C6 t.buyer=true/\C6 t.seller=true)->PsW (ts.foldl ay4 p) (N+3*ts.length)
 | [],_,_,h,_=>h
 | t::ts,_,_,h,ht=>Al7 (Gy7 ts (PY7 h (ht t (List.mem_cons_self ..))) fun x hx=>ht x (List.mem_cons_of_mem _ hx)) (by rw[jC];omega)
theorem Ej7:∀(f:Nat) (o:Ord) (L:List Ord) (ts:List Trd),(m7 f o L ts).2.2.length<=ts.length+f
 | 0,o,L,ts=>by rw[m7];exact Nat.le_refl _
 | f+1,o,L,ts=>by
  rw[m7];split
  ·split
   ·show ts.length<=_;omega
   ·refine Nat.le_trans (Ej7 f _ _ _) ?_;rw[jA,List.length_singleton];omega
  ·show ts.length<=_;omega
theorem Of7{L:List Ord}{k:Nat}{c:Int}(hk:k<L.length)(h:∀x∈L,C6 x.who=true):∀x∈aT4 L k c,C6 x.who=true:=by
 unfold aT4;split
 ·exact fun x hx=>h x (List.mem_of_mem_eraseIdx hx)
 ·intro x hxm
  rcases List.mem_or_eq_of_mem_set hxm with hx'|rfl
  ·exact h x hx'
  ·exact h (at' L k) (H8 hk)
theorem Ek7:∀(f:Nat) (o:Ord) (L:List Ord) (ts:List Trd),(∀x∈L,C6 x.who=true)->C6 o.who=true->(∀t∈ts,C6 t.buyer=true/\C6 t.seller=true)->∀t∈(m7 f o L ts).2.2,C6 t.buyer=true/\C6 t.seller=true
 | 0,o,L,ts,_,_,h=>h
 | f+1,o,L,ts,hL,ho,h=>by
  rw[m7];by_cases h0:0<o.cnt
  ·rw[if_pos h0]
   cases hb:s9 o L L.length with
   | none=>exact h
   | some k=>
    obtain⟨hk,hm,_⟩:=AG7 hb;have hx:=hL _ (H8 hk);refine Ek7 f _ _ _ (Of7 hk hL) ho ?_;intro t ht
    rcases List.mem_append.1 ht with ht|ht
    ·exact h t ht
    ·rw[List.mem_singleton.1 ht];unfold F5;split
     ·exact⟨ho,hx⟩
     ·exact⟨hx,ho⟩
  ·rw[if_neg h0];exact h
theorem Mh7{V:Vs}{o:Ord}{N:Nat}(h:PsW V.ps N)(hL:∀x∈V.L,MayP x)(hl:V.L.length<=32):PsW (x8 V o).2.2.ps (N+100):=by
 unfold x8;split
 ·exact Al7 h (by omega)
 ·rename_i h1
  have hm:=Ao7.1 (show J7 { o with id:=1 }=true by simpa[aU4]using h1);split
  ·exact Al7 h (by omega)
  ·split
   ·have hlen:=Ej7 (V.L.length+1) { o with id:=V.n } V.L [];refine Al7 (Gy7 _ (Dv7 h _ _) (Ek7 _ _ _ _ (fun x hx=>Ei7 (hL x hx)) (by have h9:=Ei7 hm;exact h9) fun t ht=>(by cases ht))) ?_;unfold aM4;rw[List.length_nil]at hlen;omega
   ·exact Al7 h (by omega)
theorem Dw7{a b:ByteArray}(h:a.data.toList=b.data.toList):a=b:=by obtain⟨⟨a⟩⟩:=a;obtain⟨⟨b⟩⟩:=b;simp at h;rw[h]
theorem Mi7{V:Vs}{who:ByteArray}{id:Int}{N:Nat}(h:PsW V.ps N)(hL:∀x∈V.L,MayP x):PsW (B8 V who id).2.ps (N+100):=by
 unfold B8;split
 ·rename_i hh
  obtain⟨x,hx,hx2⟩:=List.any_eq_true.1 hh;unfold an4 at hx2;have e:x.who=who:=by have e1:=(jB _ _▸hx2).2;rw[Lib.toList_data,Lib.toList_data]at e1;exact Dw7 (by simpa using e1)
  exact Al7 (Oe7 h (e▸Ei7 (hL x hx)) _) (by omega)
 ·exact Al7 h (by omega)
structure Hd where
 who:ByteArray
 has:It
def Hd.cells(h:Hd):List Value:=.string h.who::h.has.cells
theorem Hd.len(h:Hd):h.cells.length=5:=rfl
def kL(p:Ps):List ByteArray:=aO4 (p.map (·.1))
def hdL(p:Ps):List Hd:=(kL p).map fun k=>⟨k,j8 p k⟩
theorem Pq7(p:Ps):(kL p).length=p.length:=by unfold kL;rw[(Ax7 _).length_eq,jM]
theorem CV7(p:Ps):(hdL p).length=p.length:=by unfold hdL;rw[jM,Pq7]
theorem Rb7{p:Ps}{k:ByteArray}(h:k∈kL p):∃x∈p,x.1=k:=List.mem_map.1 ((Ax7 _).mem_iff.1 h)
section
variable{p:Ps}{N:Nat}
theorem fr4(hw:PsW p N){k:ByteArray}(h:k∈kL p):isZ (j8 p k)=false:=by obtain⟨x,hx,rfl⟩:=Rb7 h;have:=Cr7 (v:=x.2) hw.nd hx;unfold j8;rw[this];exact hw.nz x hx
theorem Hw7{x y:ByteArray}(h:leB x y=true)(hne:x≠y):Op.bytesLess x.toList y.toList=true:=by
 rw[bytesLess_eq,Lib.toList_data,Lib.toList_data,decide_eq_true_eq];refine(List.le_iff_lt_or_eq.1 (by simpa[leB]using h)).resolve_right fun e=>hne ?_
 obtain⟨⟨a⟩⟩:=x;obtain⟨⟨b⟩⟩:=y;simp at e;rw[e]
theorem fs4(hw:PsW p N){i j:Nat}(hij:i<j)(hj:j<(kL p).length):Op.bytesLess ((kL p)[i]'(Nat.lt_trans hij hj)).toList (kL p)[j].toList=true:=by
 have hnd:(kL p).Nodup:=(Ax7 _).nodup_iff.2 hw.nd;refine Hw7 (List.pairwise_iff_getElem.1 (AB7 _) i j (Nat.lt_trans hij hj) hj hij) fun e=>?_
 have:=(List.getElem_inj hnd).1 e;omega
theorem Rc7(hw:PsW p N){j:Nat}(hj:j<(hdL p).length):(hdL p)[j].has=j8 p (hdL p)[j].who/\isZ (hdL p)[j].has=false/\∀i, ∀hi:i<j,Op.bytesLess ((hdL p)[i]'(Nat.lt_trans hi hj)).who.toList (hdL p)[j].who.toList=true:=by
 have hj2:j<(kL p).length:=by unfold hdL at hj;rwa [jM]at hj
 have e:(hdL p)[j]=⟨(kL p)[j],j8 p (kL p)[j]⟩:=by simp[hdL]
 refine⟨by rw[e],by rw[e];exact fr4 hw (jW hj2),fun i hi=>?_⟩;have e2:(hdL p)[i]'(Nat.lt_trans hi hj)=⟨(kL p)[i]'(Nat.lt_trans hi hj2),j8 p ((kL p)[i]'(Nat.lt_trans hi hj2))⟩:=by simp[hdL]
 rw[e,e2];exact fs4 hw hi hj2
end
def HvR(W:World)(L:List HP)(n:Nat)(v:Value)(w:World):Prop:=∃i:Nat,v=.I i/\i<=n/\i<=100/\St W L w
abbrev hdR(v:Value)(l:List Hd):HP:=row v 5 171 l.length (l.flatMap Hd.cells)
def LhR(W:World)(F:List HP)(p:Ps)(v5 v17:Value)(w:World):Prop:=
 ∃k:Nat,v17=.I k/\k<=p.length/\St W (row v5 5 171 k (((hdL p).take k).flatMap Hd.cells)::F) w
def liR(bb:Nat)(L:List Ord)(n:Int)(v:Value):HP:=fun f=>∃(a:Option Addr) (c:Nat),v=.slice a L.length c/\sats [x9 bb L n,j7 (.slice a L.length c) L] f
section
variable{W w:World}{bb:Nat}{L:List Ord}{n:Int}{v:Value}{R:List HP}
theorem eU4(h:St W (liR bb L n v::R) w):∃a c,v=.slice a L.length c/\St W (x9 bb L n::j7 (.slice a L.length c) L::R) w:=by obtain⟨a,h⟩:=St.ex h;obtain⟨c,h⟩:=St.ex h;obtain⟨h1,h⟩:=St.and h;exact⟨a,c,h1,(St.split (St.split h).swap).swap.drop.swap⟩
theorem eV4{a:Option Addr}{c:Nat}(hv:v=.slice a L.length c)(h:St W (x9 bb L n::j7 (.slice a L.length c) L::R) w):St W (liR bb L n v::R) w:=by refine St.mkEx a (St.mkEx c (St.mkAnd hv ?_));refine St.join ?_;refine St.swap (St.imp h.swap ?_);intro f hf;exact⟨fun _=>true,hf,trivial⟩
theorem ft4(hS:St W (x9 bb L n::R) w):
  Calls Tryz.prog 124 #[.P bb] w fun e w'=>∃v,e=.returned v/\St W (liR bb L n v::R) w':=by
 refine(Eg7 hS).mono ?_;rintro e w' ⟨a,c,rfl,hS⟩;exact⟨_,rfl,eV4 rfl hS⟩
end
theorem El7(vb mb bb:Nat)(p:Ps)(L:List Ord)(n:Int){N:Nat}(hw:PsW p N)(hN:N<=1000000000)(W w:World)(R:List HP)(hS:St W (w5 vb mb bb p L n R) w):
  Calls Tryz.prog 83 #[.P vb] w fun e w'=>∃a c a2 c2,e=.returned (.tuple #[.slice a (hdL p).length c,.slice a2 L.length c2,.I n]) /\
   St W (w5 vb mb bb p L n (hdR (.slice a (hdL p).length c) (hdL p)::j7 (.slice a2 L.length c2) L::R)) w':=by
 have hlen:=hw.len;have Hw:=jH hw;clear hw;go_enter Tryz.func83,Tryz.ntmps83;go_wp2_with(first|go_at_call 123;refine(Kz7 (some mb) W _ _ (hS.s (d9 eS eP mb p::blk vb _ _::x9 bb L n::R))).mono ?_;clear hS;rintro e w ⟨g,rfl,hS⟩|go_at_call 78;refine(Hv7 (fun x hx=>by have:=Mg7 (Hw.out.who x hx);unfold maxLen;omega) (by omega) hS).mono ?_;clear hS;rintro e w ⟨v,rfl,hS⟩;(have hv:=hS.rowVal;obtain⟨sa,sc,rfl⟩:=hv)|refine zl1 hS ?_);have hS1:=hS.rowNil (k:=5) (T:=171);clear hS;have hS:=hS1;clear hS1
 go_loopw [5,17] (fun v5 v17 wr=>LhR W (row (.slice sa p.length sc) 1 9 p.length ((aO4 (p.map (·.1))).map eS)::d9 eS eP mb p::blk vb [.map (some mb),.P bb,.I n] 215::x9 bb L n::R) p v5 v17 wr) (fun _ v17 _=>p.length-(intOf v17).toNat)
 case atStart=>exact⟨0,rfl,Nat.zero_le _,hS⟩
 case round=>
  clear hS;obtain⟨k,rfl,hkl,hS⟩:=hrel;have hlk:=Pq7 p;have hlh:=CV7 p;by_cases hkn:k=p.length
  ·have e1:(hdL p).take k=hdL p:=List.take_of_length_le (by omega);rw[e1]at hS;have e2:k=(hdL p).length:=by omega
   have hd1:decide (k<p.length)=false:=by simp;omega
   clear e1 hkl hlk;clear hkn hlh;subst e2;go_wp2_with(fail);have hS:=hS.s (x9 bb L n::blk vb _ _::d9 eS eP mb p::row u5 5 _ _ _::R);refine rf3 [0,0,2,6,14,30,0,64,192,448,63,1087,4095] (fun i=>i==5) (fun _=>none) [⟨some 5,none,fun nd=>liR bb L n (nd 5)⟩] [some 5,none,none,none] hS ?_;intro nd
   iterate 2 (refine cR ?_)
   (refine zcn ?_);refine cR ?_;refine zc1 ?_;apply Bb7;rfl;rfl;rfl;decide +kernel;(focus(simp only[fD,fI,fJ,Act.eval,fE,fF,fG,fH,fK];try rfl));(intro _;rfl);(intro F w hS;exact ft4 hS);(refine frS ?_);refine cR ?_;refine zcn ?_;refine cR ?_;refine zc1 ?_
   iterate 3 (refine cR ?_)
   refine Ad7 ?_;clear hS;intro w hS;have hS2:St W [liR bb L n (nd 5),blk vb _ _,d9 eS eP mb p,row u5 5 _ _ _,sats R] w:=hS;clear hS;have hS:=hS2.unpack [_,_,_,_];clear hS2;simp only[jK,jN]at hS;generalize nd 5=v5 at *;obtain⟨a2,c2,rfl,hS5⟩:=eU4 hS;clear hS;have hv:=hS5.drop.drop.drop.drop.rowVal;obtain⟨a,c,rfl⟩:=hv;clear hS;have hS:=hS5;clear hS5;go_wp2_with fail;go_ret3;exact⟨a,c,a2,c2,rfl,hS.s _⟩
  ·have hk1:k<p.length:=by omega
   have hks:k<(hdL p).length:=by omega
   have hkk:k<(kL p).length:=by omega
   have hx1:((aO4 (p.map (·.1))).map eS)[k]? = some (.string (kL p)[k]):=by
    rw[List.getElem?_map];show((kL p)[k]?).map eS=_
    rw[jG hkk];rfl
   have htk:((hdL p).take (k+1)).flatMap Hd.cells=((hdL p).take k).flatMap Hd.cells++(Hd.mk (kL p)[k] (j8 p (kL p)[k])).cells:=by rw[List.take_succ_eq_append_getElem hks,List.flatMap_append];simp[hdL]
   obtain⟨⟨g2,rfl⟩,_,_⟩:=St.rowAddr hS.drop (by omega);obtain⟨x,hx⟩:∃x,j8 p (kL p)[k]=x:=⟨_,rfl⟩
   rw[hx]at htk;generalize (kL p)[k]=key at hx htk hx1;obtain⟨x0,x1,x2,x3⟩:=x;have Hx:=jH hx;have Htk:=jH htk;have HX:=jH hx1;clear hx htk hx1 hkn hkl hlk hlh hks hkk;go_wp2_with(first|refine zl1 hS ?_ (hc:=by exact i6.there (i6.row (by omega) HX.out))|(with_reducible apply Hf7 (ek:=eS) (ev:=eP) (k:=key) it0 ⟨x0,x1,x2,x3⟩ hS);rfl;rfl;rfl;rfl;exact i7;exact mP;exact kS;exact zP;rfl;exact Hx.out;simp only[Act.put,fA,fB,fC,Nat.reduceAdd,eP,It.cells]|refine zbs hS ?_;clear hS;intro bS w hS|refine zap hS ?_ (h63:=by unfold maxLen;omega) (hb:=by omega);clear hS;intro v w hS|refine zl1 hS ?_);go_roundw
   case rel=>
    refine⟨k+1,rfl,hk1,?_⟩;rw[Htk.out];have h0:St W (row v 5 171 (k+1) (((hdL p).take k).flatMap Hd.cells++(Hd.mk key ⟨x0,x1,x2,x3⟩).cells)::_) w:=hS;exact h0.s _
   case measure=>simp[intOf];omega
end Go.Proofs.YtienbkdjkjbelaaGreat
end
