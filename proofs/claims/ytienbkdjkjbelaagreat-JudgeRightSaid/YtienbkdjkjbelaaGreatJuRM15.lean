/-
  Cancel on a book.
-/
import Derived.Test.YtienbkdjkjbelaaGreatJuRM1
import Derived.Test.YtienbkdjkjbelaaGreatJuRM2
import Derived.Test.YtienbkdjkjbelaaGreatJuRM5
import Derived.Test.YtienbkdjkjbelaaGreatJuRM14
import Derived.Test.YtienbkdjkjbelaaGreatProg
import Derived.Shelf.SlSortCmp.WholeK
import Derived.Shelf.SlicesG.Cmp
import Derived.Shelf.Small.Bits
import Derived.Ground.SlsfProg
import Derived.Ground.SlgcProg
import Derived.Ground.NamesProg
import Derived.Test.YtienbkdjkjbelaaGreatRows
import Derived.Lib.SmallJoins
import Derived.ChangeArms
import Derived.ProofKit
set_option maxHeartbeats 16000000
set_option maxRecDepth 100000
set_option linter.unusedSimpArgs false
set_option linter.unusedVariables false
section
namespace Go.Proofs.YtienbkdjkjbelaaGreat
open Go.RowKit Go.Sl
section
variable{A B C D E F G H X:HP}{L:List HP}
theorem _root_.Go.Sl.Take.t1:Take (A::X::L) X (A::L):=.tail .head
theorem _root_.Go.Sl.Take.t2:Take (A::B::X::L) X (A::B::L):=.tail .t1
theorem _root_.Go.Sl.Take.t3:Take (A::B::C::X::L) X (A::B::C::L):=.tail .t2
theorem _root_.Go.Sl.Take.t4:Take (A::B::C::D::X::L) X (A::B::C::D::L):=.tail .t3
theorem _root_.Go.Sl.Take.t5:Take (A::B::C::D::E::X::L) X (A::B::C::D::E::L):=.tail .t4
end
theorem LM7(xs:List Ord)(i:Nat)(hi:i<xs.length)(l:List Value)(T:TypeId)(bb off:Nat)(v:Value)(h63:xs.length<=4294967296)(hl:l[off]? = some v)(W w:World)(L:List HP)
  (hS:St W (blk bb l T::j6 v xs::L) w):
  Calls Tryz.prog 196 #[.iface 253 (.pointer (some ⟨bb,off,none⟩)),.I i] w fun e w'=>∃v',e=.returned (.iface 173 (.agg xs[i].cells.toArray))/\St W (blk bb (l.set off v') T::j6 v' (bh4 xs i)::L) w':=by
 rcases hS.swap.rowOpen with ⟨_,h0,_⟩|⟨g,cap,junk,rfl,hn1,hm1,hj1,hl1,hS1⟩
 ·omega
 ·obtain⟨n,hn⟩:∃n,xs.length=n+1:=⟨xs.length-1,by omega⟩
  have hpt:bh4 xs i=(aD4 xs i n hn (by omega)).take n:=by unfold bh4;rw[dif_pos hi];simp only[hn,Nat.add_sub_cancel]
  have hlast:(aD4 xs i n hn (by omega))[n]? = some xs[i]:=by rw[Gy7,jG hi]
  have hrl:=Ep7 xs i hi;rw[hn]at hn1 hl1 hl;refine(JI7 xs _ xs[i] junk l T bb off g i n cap hn (by omega) rfl hlast hn1 hm1 (by omega) hl W w L hS1.swap).mono ?_;rintro e w' ⟨rfl,hS⟩;refine⟨.S g n cap,rfl,?_⟩;unfold j6;rw[hrl,hn,hpt];have e:(aD4 xs i n hn (by omega)).flatMap Ord.cells++junk=((aD4 xs i n hn (by omega)).take n).flatMap Ord.cells++(((aD4 xs i n hn (by omega)).drop n).flatMap Ord.cells++junk):=by rw[<-jS,<-List.flatMap_append,List.take_append_drop]
  rw[e]at hS;refine(St.rowShut hS.swap (by omega) hm1 ?_ ?_).swap
  ·rw[<-e,jA,Ab7 Ord.len,Br7];rw[jA,Ab7 Ord.len,hn]at hj1;exact hj1
  ·rw[Ab7 Ord.len,jT,Br7];simp
theorem Es7{ps:List (List Ord)}{id:Int}{k:Nat}{ks:List Nat}(h:aR4 id (ps.getD k [])<0):O8 ps id (k::ks)=O8 ps id ks:=by
 rw[O8];unfold aR4 at h;split
 ·rename_i i hi;rw[hi]at h;simp at h;omega
 ·rfl
theorem Et7{ps:List (List Ord)}{id:Int}{k:Nat}{ks:List Nat}{i:Nat}(h:aR4 id (ps.getD k [])=i):O8 ps id (k::ks)=some (k,i)/\i<(ps.getD k []).length/\((ps.getD k []).getD i o0).id=id:=by
 rw[O8];unfold aR4 at h;split
 ·rename_i j hj
  rw[hj]at h;simp only at h;obtain rfl:j=i:=by omega
  obtain⟨h1,h2,_⟩:=List.findIdx?_eq_some_iff_getElem.1 hj;refine⟨rfl,h1,?_⟩;rw[List.getD_eq_getElem?_getD,jG h1];simpa using h2
 ·rename_i hj;rw[hj]at h;simp only at h;omega
def dQ4(W:World)(L:List HP)(bb:Nat)(b:Bk)(id:Int)(v15:Value)(w:World):Prop:=
 ∃k:Nat,v15=.I k/\k<=8/\O8 b.ps id aP4=O8 b.ps id (aP4.drop k)/\St W (s9 bb b::L) w
theorem Ii7(bb:Nat)(junk:List Value)(k:Nat)(h:k<8):∃o,o<8/\aP4.drop k=o::aP4.drop (k+1)/\(bM4 bb++junk)[k]? = some (.pointer (some ⟨bb,o,none⟩)):=by
 obtain h|h|h|h|h|h|h|h:k=0\/k=1\/k=2\/k=3\/k=4\/k=5\/k=6\/k=7:=by omega
 all_goals subst h
 all_goals exact⟨_,by decide,rfl,rfl⟩
theorem Ij7(b:Bk)(o:Nat)(h:o<8)(hb:b.len<=32):(b.ps.getD o []).length<=32:=Nat.le_trans (Dz7 b o h) hb
theorem Hs7(bb:Nat)(b1:Bk)(id:Int)(hok:b1.len<=32)(W w:World)(L:List HP)(hS:St W (s9 bb b1::L) w):
  Calls Tryz.prog 154 #[.P bb,.I id] w fun e w'=>e=.returned (.tuple #[.agg (M6 b1 id).o.cells.toArray,.I (M6 b1 id).errno])/\St W (s9 bb (M6 b1 id).book::L) w':=by
 have hmf:∀(fn:Fn) (first cap:Array Value) (w:World),(Instr.makeFunc fn first cap).run Tryz.prog w=.ok (.func fn first cap) w:=fun _ _ _ _=>rfl
 have hta:=MO7;go_enter Tryz.func154,Tryz.ntmps154;go_wp2_with(first|(go_at_call 159;refine(Dx7 bb W _ _ hS).mono ?_;clear hS;rintro e w ⟨v,rfl,hS⟩;rcases hS.rowOpen with ⟨_,h0,_⟩|⟨g,cap,junk,rfl,hn1,hm1,hj1,hl1,hS'⟩;exfalso;omega;clear hS;have hS:=hS';clear hS';unfold maxLen at hm1)|(with_reducible apply Au7 hS);rfl;rfl;rfl;rfl;clear hS;intro bB w hS;refine frS ?_|refine zl1 hS ?_|refine zlN hS ?_|refine zs1 hS ?_;clear hS;intro w hS|refine zsN hS ?_;clear hS;intro w hS|refine zbx hS ?_;clear hS;intro b w hS|refine zal hS ?_;clear hS;intro b w hS);have hS1:=((hS.perm (List.perm_middle (l₁:=[_,_,_]))).take .t3).swap;clear hS;have hS:=hS1;clear hS1
 go_loopw [15] (fun v wr=>dQ4 W (blk bB [.I id] 3::blk g (bM4 bb++junk) 253::blk b [.I 0,.string ⟨#[]⟩,.bool false,.I 0,.I 0,.I 0] 173::L) bb b1 id v wr) (fun v _=>8-(intOf v).toNat)
 case atStart=>exact⟨0,rfl,by omega,rfl,hS⟩
 case round=>
  clear hS;obtain⟨k,rfl,hk,hf,hS⟩:=hrel;by_cases h8:k=8
  ·subst h8;have e1:M6 b1 id=⟨o0,7,b1⟩:=by unfold M6;rw[hf];rfl
   have E1:=jH e1;clear hf e1;go_wp2_with(first|refine zl1 hS ?_|refine zlN hS ?_|refine zs1 hS ?_;clear hS;intro w hS|refine zsN hS ?_;clear hS;intro w hS|refine zbx hS ?_;clear hS;intro b w hS|refine zal hS ?_;clear hS;intro b w hS);apply Ac7;rfl;rfl;rfl;rfl;exact hS;decide +kernel;(exact m8);kernel_rfl;rw[E1.out];exact⟨rfl,hS.swap.drop.swap.drop.swap.drop⟩
  ·have hk8:k<8:=by omega
   clear h8 hk;obtain⟨o,ho,hdr,hpt⟩:=Ii7 bb junk k hk8;rw[hdr]at hf;obtain⟨vs,h1,h2,hS0⟩:=N6 hS;clear hS;have ho1:o<vs.length:=by omega
   have ho2:o<b1.ps.length:=by omega
   have hpk:b1.ps[o]=b1.pile o:=by unfold Bk.pile;simp[List.getD_eq_getElem?_getD,jG ho2]
   have hS1:=ay4 o ho1 ho2 hS0.swap;clear hS0;rw[hpk]at hS1;have hl:(vs++[Value.int .i64 b1.last])[o]? = some vs[o]:=by rw[List.getElem?_append_left ho1,jG ho1]
   generalize hvv:vs[o]=v at hl hS1;have hp32:=Ij7 b1 o ho hok;have hgd:b1.ps.getD o []=b1.pile o:=rfl;rw[hgd]at hp32;have Hvv:=jH hvv;clear hvv;have hS:=hS1.take .t3;clear hS1
   cases hfi:(b1.pile o).findIdx? (fun x=>x.id==id)with
   | none=>
    have hx:aR4 id (b1.pile o) = -1:=by unfold aR4;rw[hfi]
    rw[Es7 (by rw[hgd,hx];omega)]at hf;have Hf:=jH hf;clear hf hfi hdr;go_wp2_with(first|refine zl1 hS ?_ (hc:=by exact i6.there (i6.there (i6.there (i6.there (i6.here hpt)))))|refine zl1 hS ?_ (hc:=by exact i6.there (i6.there (i6.there (i6.here hl))))|go_at_call 194;refine(Eq7 (b1.pile o) v bB id (by omega) W _ _ hS).mono ?_;clear hS;rw[hx];rintro e w ⟨rfl,hS⟩);have hS3:=(hS.take .t2).take .t2;clear hS;have hS4:=az4 o ho1 ho2 hS3;clear hS3;rw[<-Hvv.out,<-hpk,List.set_getElem_self,List.set_getElem_self]at hS4;have hS5:=I6 h1 h2 (hS4.take .t2);clear hS4;go_roundw
    case rel=>exact⟨k+1,rfl,hk8,Hf.out,hS5⟩
    case measure=>simp[intOf];omega
   | some i=>
    have hx:aR4 id (b1.pile o)=i:=by unfold aR4;rw[hfi]
    obtain⟨hf1,hil,_⟩:=Et7 (ks:=aP4.drop (k+1)) (hgd.symm▸hx);rw[hgd]at hil;rw[hf1]at hf;have e1:M6 b1 id=⟨(b1.pile o)[i],0,⟨b1.ps.set o (bh4 (b1.pile o) i),b1.last⟩⟩:=by unfold M6;rw[hf];simp[List.getD_eq_getElem?_getD,jG hil]
    have E1:=jH e1;clear e1 hf hf1 hfi hdr;generalize hxx:(b1.pile o)[i]=x at E1;have Hxx:=jH hxx;clear hxx;obtain⟨xi,xu,xy,xt,xc,xp⟩:=x;go_wp2_with(first|refine zl1 hS ?_ (hc:=by exact i6.there (i6.there (i6.there (i6.there (i6.here hpt)))))|refine zl1 hS ?_ (hc:=by exact i6.there (i6.there (i6.there (i6.here hl))))|go_at_call 194;refine(Eq7 (b1.pile o) v bB id (by omega) W _ _ hS).mono ?_;clear hS;rw[hx];rintro e w ⟨rfl,hS⟩|go_at_call 196;refine(LM7 (b1.pile o) i hil _ _ bb o v (by omega) hl W _ _ (((hS.take .t3).take .t2).swap)).mono ?_;clear hS;rw[Hxx.out];simp only[Ord.cells];rintro e w ⟨v',rfl,hS⟩|refine zl1 hS ?_|refine zlN hS ?_|refine zs1 hS ?_;clear hS;intro w hS|refine zsN hS ?_;clear hS;intro w hS|refine zbx hS ?_;clear hS;intro b w hS|refine zal hS ?_;clear hS;intro b w hS);apply Ac7;rfl;rfl;rfl;rfl;exact hS;decide +kernel;(exact m8);kernel_rfl;rw[E1.out];refine⟨rfl,?_⟩;have hS3:=(hS.take .t3).take .t2;rw[List.set_append_left _ _ ho1]at hS3;have hS4:=I6 (vs:=vs.set o v') (b:=⟨b1.ps.set o (bh4 (b1.pile o) i),b1.last⟩) (by simpa using h1) (by simpa using h2) (az4 o ho1 ho2 hS3).swap;exact hS4.swap.drop.swap.drop.swap.drop
end Go.Proofs.YtienbkdjkjbelaaGreat
end
section
namespace Go.Proofs.YtienbkdjkjbelaaGreat
open Go.Shelf
def Tryz.sortOrd_ren:Go.Shelf.Ren:=⟨fun|6=>160|15=>127|14=>206|28=>171|29=>172|20=>222|21=>223|22=>224|23=>225|24=>226|25=>227|26=>228|27=>229|46=>233|47=>208|48=>209|49=>234|50=>235|57=>236|n=>n,fun|22=>167|24=>173|25=>256|3=>3|39=>163|0=>0|53=>265|55=>162|4=>4|46=>259|45=>258|50=>188|5=>5|9=>9|66=>296|70=>300|76=>317|77=>196|n=>n,fun|n=>n⟩
theorem Tryz.sortOrd:Go.Proofs.SlLaysF0.n6 Tryz.prog Tryz.sortOrd_ren:={
 mixed:=by kernel_rfl
 f6:=⟨Tryz.f160.name,by decide,Tryz.func160.trans (congrArg some (by kernel_rfl))⟩
 f14:=⟨Tryz.f206.name,by decide,Tryz.func206.trans (congrArg some (by kernel_rfl))⟩
 f15:=Tryz.func127.trans (congrArg some (by kernel_rfl))
 f20:=⟨Tryz.f222.name,by decide,Tryz.func222.trans (congrArg some (by kernel_rfl))⟩
 f21:=⟨Tryz.f223.name,by decide,Tryz.func223.trans (congrArg some (by kernel_rfl))⟩
 f22:=⟨Tryz.f224.name,by decide,Tryz.func224.trans (congrArg some (by kernel_rfl))⟩
 f23:=⟨Tryz.f225.name,by decide,Tryz.func225.trans (congrArg some (by kernel_rfl))⟩
 f24:=⟨Tryz.f226.name,by decide,Tryz.func226.trans (congrArg some (by kernel_rfl))⟩
 f25:=⟨Tryz.f227.name,by decide,Tryz.func227.trans (congrArg some (by kernel_rfl))⟩
 f26:=⟨Tryz.f228.name,by decide,Tryz.func228.trans (congrArg some (by kernel_rfl))⟩
 f27:=⟨Tryz.f229.name,by decide,Tryz.func229.trans (congrArg some (by kernel_rfl))⟩
 f28:=Tryz.func171.trans (congrArg some (by kernel_rfl))
 f29:=Tryz.func172.trans (congrArg some (by kernel_rfl))
 f46:=⟨Tryz.f233.name,by decide,Tryz.func233.trans (congrArg some (by kernel_rfl))⟩
 f47:=Tryz.func208.trans (congrArg some (by kernel_rfl))
 f48:=Tryz.func209.trans (congrArg some (by kernel_rfl))
 f49:=⟨Tryz.f234.name,by decide,Tryz.func234.trans (congrArg some (by kernel_rfl))⟩
 f50:=⟨Tryz.f235.name,by decide,Tryz.func235.trans (congrArg some (by kernel_rfl))⟩
 f57:=⟨Tryz.f236.name,by decide,Tryz.func236.trans (congrArg some (by kernel_rfl))⟩
 t0:=Tryz.underlying0
 a0:=Tryz.isAgg0
 z0:=Tryz.sizeOf0
 v0:=Tryz.zeroValue0
 t3:=Tryz.underlying3
 a3:=Tryz.isAgg3
 z3:=Tryz.sizeOf3
 v3:=Tryz.zeroValue3
 t4:=Tryz.underlying4
 a4:=Tryz.isAgg4
 z4:=Tryz.sizeOf4
 v4:=Tryz.zeroValue4
 t5:=Tryz.underlying5
 a5:=Tryz.isAgg5
 z5:=Tryz.sizeOf5
 v5:=Tryz.zeroValue5
 t9:=Tryz.underlying9
 a9:=Tryz.isAgg9
 z9:=Tryz.sizeOf9
 v9:=Tryz.zeroValue9
 t22:=Tryz.underlying167
 a22:=Tryz.isAgg167
 z22:=Tryz.sizeOf167
 v22:=Tryz.zeroValue167
 t25:=Tryz.underlying256
 a25:=Tryz.isAgg256
 z25:=Tryz.sizeOf256
 v25:=Tryz.zeroValue256
 t39:=Tryz.underlying163
 a39:=Tryz.isAgg163
 z39:=Tryz.sizeOf163
 v39:=Tryz.zeroValue163
 t45:=Tryz.underlying258
 a45:=Tryz.isAgg258
 z45:=Tryz.sizeOf258
 v45:=Tryz.zeroValue258
 t46:=Tryz.underlying259
 a46:=Tryz.isAgg259
 z46:=Tryz.sizeOf259
 v46:=Tryz.zeroValue259
 t50:=Tryz.underlying188
 a50:=Tryz.isAgg188
 z50:=Tryz.sizeOf188
 v50:=Tryz.zeroValue188
 t53:=Tryz.underlying265
 a53:=Tryz.isAgg265
 z53:=Tryz.sizeOf265
 v53:=Tryz.zeroValue265
 t55:=Tryz.underlying162
 a55:=Tryz.isAgg162
 z55:=Tryz.sizeOf162
 v55:=Tryz.zeroValue162
 t66:=Tryz.underlying296
 a66:=Tryz.isAgg296
 z66:=Tryz.sizeOf296
 v66:=Tryz.zeroValue296
 t70:=Tryz.underlying300
 a70:=Tryz.isAgg300
 z70:=Tryz.sizeOf300
 v70:=Tryz.zeroValue300
 t76:=Tryz.underlying317
 a76:=Tryz.isAgg317
 z76:=Tryz.sizeOf317
 v76:=Tryz.zeroValue317
 t77:=Tryz.underlying196
 a77:=Tryz.isAgg196
 z77:=Tryz.sizeOf196
 v77:=Tryz.zeroValue196 }
def Tryz.cmpInt_ren:Go.Shelf.Ren:=⟨fun|5=>92|7=>130|n=>n,fun|22=>3|3=>3|4=>4|n=>n,fun|n=>n⟩
theorem Tryz.cmpInt:Go.Proofs.SlLaysC2.n5 Tryz.prog Tryz.cmpInt_ren:={
 mixed:=by kernel_rfl
 f5:=⟨Tryz.f92.name,by decide,Tryz.func92.trans (congrArg some (by kernel_rfl))⟩
 f7:=⟨Tryz.f130.name,by decide,Tryz.func130.trans (congrArg some (by kernel_rfl))⟩
 t3:=Tryz.underlying3
 a3:=Tryz.isAgg3
 z3:=Tryz.sizeOf3
 v3:=Tryz.zeroValue3
 t4:=Tryz.underlying4
 a4:=Tryz.isAgg4
 z4:=Tryz.sizeOf4
 v4:=Tryz.zeroValue4
 t22:=Tryz.underlying3
 a22:=Tryz.isAgg3
 z22:=Tryz.sizeOf3
 v22:=Tryz.zeroValue3 }
def Tryz.bitsLen_ren:Go.Shelf.Ren:=⟨fun|125=>127|128=>171|129=>172|n=>n,fun|46=>163|3=>3|51=>265|53=>162|4=>4|5=>5|9=>9|n=>n,fun|n=>n⟩
theorem Tryz.bitsLen:Go.Proofs.Lays.n125 Tryz.prog Tryz.bitsLen_ren:={
 mixed:=by kernel_rfl
 f125:=Tryz.func127.trans (congrArg some (by kernel_rfl))
 f128:=Tryz.func171.trans (congrArg some (by kernel_rfl))
 f129:=Tryz.func172.trans (congrArg some (by kernel_rfl))
 t3:=Tryz.underlying3
 a3:=Tryz.isAgg3
 z3:=Tryz.sizeOf3
 v3:=Tryz.zeroValue3
 t4:=Tryz.underlying4
 a4:=Tryz.isAgg4
 z4:=Tryz.sizeOf4
 v4:=Tryz.zeroValue4
 t5:=Tryz.underlying5
 a5:=Tryz.isAgg5
 z5:=Tryz.sizeOf5
 v5:=Tryz.zeroValue5
 t9:=Tryz.underlying9
 a9:=Tryz.isAgg9
 z9:=Tryz.sizeOf9
 v9:=Tryz.zeroValue9
 t46:=Tryz.underlying163
 a46:=Tryz.isAgg163
 z46:=Tryz.sizeOf163
 v46:=Tryz.zeroValue163
 t51:=Tryz.underlying265
 a51:=Tryz.isAgg265
 z51:=Tryz.sizeOf265
 v51:=Tryz.zeroValue265
 t53:=Tryz.underlying162
 a53:=Tryz.isAgg162
 z53:=Tryz.sizeOf162
 v53:=Tryz.zeroValue162 }
end Go.Proofs.YtienbkdjkjbelaaGreat
end
section
namespace Go.Proofs.YtienbkdjkjbelaaGreat
open Go.Shelf Go.RowKit Go.Lib Go.Sort Go.Sl
instance : Inhabited Ord := ⟨o0⟩
def cz4(x y:Ord):Int:=Lib.compareInt x.id y.id
theorem ltO(x y:Ord):ltOf cz4 x y=decide (x.id<y.id):=by
 unfold ltOf cz4 Lib.compareInt;by_cases h1:x.id<y.id
 ·simp[h1]
 ·by_cases h2:y.id<x.id <;> simp[h1,h2]
theorem fp4:SWO (ltOf cz4) where
 irrefl x:=by rw[ltO];simp
 trans x y z h1 h2:=by rw[ltO]at *;simp at *;omega
 ntrans x y z h1 h2:=by rw[ltO]at *;simp at *;omega
theorem cV4(x y:Ord)(W:World):Calls Tryz.prog 161 #[.agg x.cells.toArray,.agg y.cells.toArray] W fun e w'=>e=.returned (.I (cz4 x y))/\∃q os',w'=grow (W.drewN q) os':=by
 have hcon:=fun W'=>AnyG.cmp_Compare_int Tryz.cmpInt x.id y.id W'
 change ∀W',Calls Tryz.prog 92 _ _ _ at hcon;unfold cz4;obtain⟨i,u,b,t,c,p⟩:=x;obtain⟨i',u',b',t',c',p'⟩:=y;simp only[Ord.cells]at hcon ⊢;generalize Lib.compareInt i i'=r at hcon ⊢;go_enter Tryz.func161,Tryz.ntmps161;go_wp2_with(go_at_call 92;refine(hcon _).mono ?_;rintro e w' ⟨rfl,rfl⟩);go_ret;exact⟨rfl,0,_,by rw[alloc_eq_grow,alloc_eq_grow,grow_grow];rfl⟩
theorem cW4(blk off size:Nat)(w:World):CmpLays Tryz.prog 161 #[] Ord.cells 6 cz4 blk off size w:=fun _ _ _ _ x y=>cV4 x y _
theorem St.grow{W w:World}{L:List HP}(h:St W L w)(os:Array Obj):St W L (Sort.grow w os):=by
 refine⟨h.os,h.tape,h.output,By7 (S:=fun b=>decide (w.heap.size<=b)) ?_⟩
 have e:l6 (fun b=>decide (w.heap.size<=b)) (fun b=>(Sort.grow w os).heap[b]?)=fun b=>w.heap[b]? := by
  funext b
  show cond (decide (w.heap.size<=b)) none ((w.heap++os)[b]?)=w.heap[b]?
  by_cases hb:w.heap.size<=b
  ·rw[decide_eq_true hb,Array.getElem?_eq_none hb];rfl
  ·rw[decide_eq_false hb,Array.getElem?_append_left (by omega)];rfl
 rw[e];exact h.sat
theorem Eu7(l:List Ord)(junk:List Value)(j:Nat)(hj:j<l.length*6):(l.flatMap Ord.cells++junk)[j]? = some ((flatK Ord.cells 6 l.toArray)[j]!):=by
 rw[get_flatK _ _ _ _ (by simpa using hj)];have hq:j / 6<l.length:=by omega
 have h1:=AY7 Ord.len l junk (j / 6) hq (j%6) (by omega);rw[show j / 6*6+j%6=j by omega]at h1;rw[h1];have h2:l.toArray[j / 6]! = l[j / 6]:=by simp[hq]
 rw[h2,jG (by rw[Ord.len];omega)];rw[getElem!_pos _ _ (by rw[Ord.len];omega)]
theorem LN7(l:List Ord)(g cap:Nat)(junk:List Value)(h62:l.length<4611686018427387904)(W w:World)(L:List HP)(hS:St W (blk g (l.flatMap Ord.cells++junk) 173::L) w):
  Calls Tryz.prog 160 #[.S g l.length cap,.func (.func 161) #[] #[]] w fun e w'=> e=.returned (.tuple #[])/\∃l':List Ord,l'.Perm l/\l'.Pairwise (fun x y=>x.id<=y.id)/\St W (blk g (l'.flatMap Ord.cells++junk) 173::L) w':=by
 have eg:∀args w,(callFunc 161 args).run Tryz.prog w=.ok (.enter 161 args) w:=enters_of Tryz.func161 (by kernel_rfl) rfl;have hgt:=hS.get (b:=g) .head;have hblk:g<w.heap.size:=(Array.getElem?_eq_some_iff.1 hgt).1;have hH:HoldsK Ord.cells 6 w g 0 l.toArray:=by intro j hj;rw[size_flatK]at hj;refine⟨hS.cell .head ?_,hS.free .head⟩;rw[Nat.zero_add];exact Eu7 l junk j (by simpa using hj)
 have hcon:=AnyQ.slices_SortFunc Tryz.sortOrd 6 Tryz.isAgg173 Tryz.sizeOf173 Ord.cells Ord.len (fun x v hv=>by simp[Ord.cells]at hv;rcases hv with rfl|rfl|rfl|rfl|rfl|rfl <;> rfl) cz4 fp4 161 #[] g 0 cap l.toArray w eg (cW4 g 0 l.toArray.size w) hH hblk (by simpa using h62);change Calls Tryz.prog 160 _ _ _ at hcon;simp only[List.size_toArray]at hcon;refine hcon.mono ?_;rintro e w' ⟨rfl,d',n,os,⟨hp1,_,hp3⟩,hs,rfl⟩;refine⟨rfl,d'.toList,?_,?_,?_⟩
 ·have e1:d'.extract 0 l.length=d':=by
   have:l.length=d'.size:=by rw[hp1];simp
   rw[this,Array.extract_size]
  have e2:l.toArray.extract 0 l.length=l.toArray:=by
   have:l.length=l.toArray.size:=by simp
   rw[this,Array.extract_size]
  rw[e1,e2]at hp3;exact hp3
 ·rw[List.pairwise_iff_getElem];intro i j hi hj hij;have:=hs i j (Nat.zero_le _) hij (by simp at hj;rw[hp1]at hj;simpa using hj);rw[ltO]at this;simp only[decide_eq_false_iff_not]at this;have hi':i<d'.size:=by simpa using hi
  have hj':j<d'.size:=by simpa using hj
  rw[getElem!_pos d' i hi',getElem!_pos d' j hj']at this;simp only[Array.getElem_toList];omega
 ·unfold sortWorldK;refine St.grow ?_ os;have hSd:St W (blk g (l.flatMap Ord.cells++junk) 173::L) (Sort.ahead w n):=⟨hS.os,hS.tape,hS.output,hS.sat⟩
  refine hSd.putO (w':=putRowK Ord.cells 6 (Sort.ahead w n) g 0 d') (o':=.cells (d'.toList.flatMap Ord.cells++junk).toArray 173 (0,0)) .head rfl rfl rfl fun k=>?_
  show((Sort.ahead w n).heap.modify g _)[k]? = _
  rw[Array.getElem?_modify];by_cases hk:k=g
  ·subst hk;rw[if_pos rfl,if_pos rfl];have hgt':(Sort.ahead w n).heap[k]? = some (.cells (l.flatMap Ord.cells++junk).toArray 173 (0,0)):=hgt;rw[hgt'];simp only[Option.map_some,Sort.onCells]
   congr 2
   have hdl:d'.toList.length=l.length:=by rw[Array.length_toList,hp1];simp
   have hf1:=Ab7 Ord.len l;have hf2:=Ab7 Ord.len d'.toList;apply Array.ext_getElem?;intro t;unfold Sort.putCells;simp only[Array.getElem?_mapIdx,List.getElem?_toArray,size_flatK,Nat.zero_le,true_and,Nat.zero_add,Nat.sub_zero,id];have hds:d'.size=l.length:=by rw[hp1];simp
   by_cases ht:t<l.length*6
   ·have h1:=Eu7 d'.toList junk t (by rw[hdl];exact ht);rw[h1,Eu7 l junk t ht];simp[hds,ht]
   ·have h2:(l.flatMap Ord.cells++junk)[t]? = (d'.toList.flatMap Ord.cells++junk)[t]? := by
     rw[List.getElem?_append_right (by omega),List.getElem?_append_right (by omega),hf1,hf2,hdl]
    rw[<-h2];simp[hds,ht]
  ·rw[if_neg (fun h=>hk h.symm),if_neg hk]
theorem IP7(f:Value)(W w:World)(L:List HP)(hS:St W L w):
  Calls Tryz.prog 222 #[.slice none 0 0,.I 0,.I 0,f] w fun e w'=>e=.returned (.tuple #[])/\St W L w':=by
 go_enter Tryz.func222,Tryz.ntmps222;go_wp2_with fail
 go_loopw [8] (fun v wr=>v=.I 1/\St W L wr) (fun _ _=>0)
 case atStart=>exact⟨rfl,hS⟩
 case round=>
  clear hS;obtain⟨rfl,hS⟩:=hrel;go_wp2_with fail;go_end0;exact⟨rfl,hS⟩
theorem No7(n:Int)(f:Value)(W w:World)(L:List HP)(hS:St W L w):
  Calls Tryz.prog 206 #[.slice none 0 0,.I 0,.I 0,.I n,f] w fun e w'=>e=.returned (.tuple #[])/\St W L w':=by
 go_enter Tryz.func206,Tryz.ntmps206;go_wp2_with fail
 go_loopw [1,2] (fun v1 v2 wr=>v1=.I 0/\v2=.I 0/\St W L wr) (fun _ _ _=>0)
 case atStart=>exact⟨rfl,rfl,hS⟩
 case round=>
  clear hS;obtain⟨rfl,rfl,hS⟩:=hrel;go_wp2_with(first|go_at_call 222;refine(IP7 _ W _ _ hS).mono ?_;clear hS;rintro e w ⟨rfl,hS⟩);refine bodyPost_ret (results_none rfl _ _ _) rfl ?_;exact⟨rfl,hS⟩
theorem LO7(f:Value)(W w:World)(L:List HP)(hS:St W L w):
  Calls Tryz.prog 160 #[.slice none 0 0,f] w fun e w'=>e=.returned (.tuple #[])/\St W L w':=by
 have hl:∀w:World,Calls Tryz.prog 127 #[.int .u64 0] w fun e w'=>(∃l:Int,e=.returned (.I l))/\w'=w:=fun w=>
  (Any.bits_Len Tryz.bitsLen 0 w (by omega) (by omega)).mono fun _ _ ⟨he,hw⟩=>⟨⟨_,he⟩,hw⟩
 go_enter Tryz.func160,Tryz.ntmps160;go_wp2_with(first|go_at_call 127;refine(hl _).mono ?_;rintro e w ⟨⟨l,rfl⟩,rfl⟩|go_at_call 206;refine(No7 _ _ W _ _ hS).mono ?_;clear hS;rintro e w ⟨rfl,hS⟩);go_end0;exact⟨rfl,hS⟩
end Go.Proofs.YtienbkdjkjbelaaGreat
end
section
namespace Go.Proofs.YtienbkdjkjbelaaGreat
open Go.RowKit Go.Sl
theorem Trd.len(o:Trd):o.cells.length=8:=rfl
def so(zs:List Int)(k:Nat):Ord:=⟨(k:Int)+1,⟨#[115]⟩,false,2,1,1+(zs.getD k 0)%8⟩
def bB(q:List Ord)(k:Nat):Bk:=⟨[[],[],[],[],[],[],q,[]],k⟩
def bo(want:Int):Ord:=⟨100,⟨#[98]⟩,true,2,want,1024⟩
def bt(x:Ord):Trd:=⟨⟨#[98]⟩,x.who,100,x.id,2,1,x.price,1024⟩
structure BestL(zs:List Int)(ts:List Trd):Prop where
 one:∀i (h:i<ts.length),ts[i].cnt=1/\∃k,k<zs.length/\ts[i].sell=(k:Int)+1/\ts[i].price=1+(zs.getD k 0)%8
 two:∀i (h:i+1<ts.length),ts[i].price<ts[i+1].price\/(ts[i].price=ts[i+1].price/\ts[i].sell<=ts[i+1].sell)
def sg(zs:List Int)(k:Nat):Ord:=⟨(k:Int)+1,⟨#[115]⟩,false,1,2,1+(zs.getD k 0)%8⟩
def bG(q:List Ord)(k:Nat):Bk:=⟨[[],[],[],[],[],q,[],[]],k⟩
structure GoneQ(n:Nat)(q:List Ord):Prop where
 nodup:(q.map Ord.id).Nodup
 each:∀x∈q,x.cnt=2/\x.id<=n
end Go.Proofs.YtienbkdjkjbelaaGreat
end
section
namespace Go.Proofs.YtienbkdjkjbelaaGreat
open Go.Joins Go.ChangeShapes Go.WideShapes Go.RowKit Go.Deep Go.Sl
def ga4(w:World)(v:Value)(zs:List Int):Prop:=
 (zs=[]/\∃a cap,v=.slice a 0 cap) \/
 ∃b off cap,v=.slice (some ⟨b,off,none⟩) zs.length cap/\0<zs.length/\zs.length<=9223372036854775807/\∀i,i<zs.length->w.cell? ⟨b,off+i,none⟩=some (.I (zs.getD i 0))
end Go.Proofs.YtienbkdjkjbelaaGreat
end
section
namespace Go.Proofs.YtienbkdjkjbelaaGreat
open Go.RowKit Go.Sl
def ep4(v:Value)(ks:List Int):HP:=row v 1 3 ks.length (ks.map (Value.int .i64))
def gb4(W:World)(L:List HP)(zs:List Int)(bb:Nat)(v8:Value)(w:World):Prop:=
 ∃(k:Nat) (q:List Ord),v8=.I k/\k<=zs.length/\q.length=k/\GoneQ k q/\St W (s9 bb (bG q k)::L) w
def gc4(W:World)(L:List HP)(n m:Nat)(bb:Nat)(v9 v10:Value)(w:World):Prop:=
 ∃(k:Nat) (q:List Ord) (gone:List Int),v10=.I k/\k<=m/\q.length<=20/\GoneQ n q/\gone.length=k/\(∀x∈q,x.id∉gone)/\(∀x∈gone,x<=32)/\St W (s9 bb (bG q n)::ep4 v9 gone::L) w
def gd4(W:World)(L:List HP)(n:Nat)(v:Value)(w:World):Prop:=∃i:Nat,v=.I i/\i<=n/\St W L w
end Go.Proofs.YtienbkdjkjbelaaGreat
end
section
namespace Go.Sl
open Go.RowKit
section
variable{P:Program}{ops:Array Oper}{Q:Exit->Act->World->Prop}{a:Act}{w:World}{W:World}{L L' R:List HP}{rest:List Oper}{o:Oper}
theorem GA7{t t2 e e2:TypeId}(ht:P.underlying t=some (.slice e))(h2:P.underlying t2=some (.slice e2))(ty:TypeId)(s x:Value)(w:World):(Builtin.append_ #[t,t2] ty #[s,x]).run P w=(Builtin.append_ #[t,t] ty #[s,x]).run P w:=by
 unfold Builtin.append_;simp only[List.getElem?_toArray,List.getElem?_cons_zero,List.getElem?_cons_succ,Sem.run_bind,run_underlying ht,run_underlying h2,Result.andThen_ok]
 cases s <;> simp[run_underlying ht,run_underlying h2]
theorem IQ7{s x:Operand}{t t2 e e2:TypeId}{z:Value}{k bytes:Nat}{v xv:Value}{n m:Nat}{cs news:List Value}(hS:St W L w)(ho:o.op=.call { callee:=.builtin .append,args:=#[s,x],argTypes:=#[t,t2] })
  (hg:Region.wanted o (yielded ops a.tmps)=true) (hs:a.eval s=v) (hx:a.eval x=xv) (ht:t7 P t=some e) (ht2:t7 P t2=some e2) (hi:B8 P e=some (some z,k,bytes)) (hz:z.cells.size=k) (hk:0<k) (hu:Take L (row v k e n cs) R)
  (hsrc:Src L xv m news) (hl:news.length=m*k) (h1:news.all (·.oneCell')=true) (h63:n+m<=maxLen) (hb:(n+m)*bytes<=140737488355328)
  (h:∀v' w',St W (row v' k e (n+m) (cs++news)::R) w'->wpList P ops Q rest (a.put o.dst v') w'):wpList P ops Q (o::rest) a w:=by
 obtain⟨v',w',hr,hS'⟩:=Dt7 (P:=P) (ty:=o.type) ht hi hz hk rfl hS hu (hsrc.at hS) hl h1 h63 hb;refine Ar7 hg (v:=v') (w':=w') ?_ (h v' w' hS');unfold execOp;simp only[ho,resolve,invoke,builtin,Sem.run_bind,Sem.run_pure,Result.andThen_ok,List.map_toArray,List.map_cons,List.map_nil,hs,hx,GA7 (Bo7 ht) (Bo7 ht2),hr]
end
end Go.Sl
end
section
namespace Go.Proofs.YtienbkdjkjbelaaGreat
open Go.RowKit Go.Sl
def ae4(ps:List (List Ord))(k:Nat):List Ord:=(aP4.take k).flatMap fun o=>ps.getD o []
theorem GB7(ps:List (List Ord))(k:Nat)(hk:k<=8):(ae4 ps k).length=s6 ps k:=by
 obtain h|h|h|h|h|h|h|h|h:k=0\/k=1\/k=2\/k=3\/k=4\/k=5\/k=6\/k=7\/k=8:=by omega
 all_goals subst h
 all_goals simp[ae4,s6,aP4]
 all_goals omega
theorem IR7(ps:List (List Ord)){k o:Nat}(h:aP4.drop k=o::aP4.drop (k+1)):ae4 ps (k+1)=ae4 ps k++ps.getD o []:=by
 have h1:aP4[k]? = some o:=by have:=congrArg List.head? h;simpa[List.head?_drop]using this
 unfold ae4;rw[List.take_add_one,h1];simp
theorem St.src{W w:World}{L:List HP}{v:Value}{k n:Nat}{T:TypeId}{cs:List Value}(hk:0<k)(h:St W (row v k T n cs::L) w):Src (row v k T n cs::L) v n cs:=by
 rcases h.rowOpen with ⟨rfl,rfl,rfl,_⟩|⟨g,cap,junk,rfl,hn1,hm1,hj1,hl1,_⟩
 ·exact .inl ⟨rfl,rfl,rfl⟩
 ·refine .inr ⟨g,0,cap,rfl,fun j u hj=>?_⟩;rw[Nat.zero_add];have hjl:=(List.getElem?_eq_some_iff.1 hj).1;refine i6.row ?_ hj
  rcases Nat.eq_zero_or_pos n with h0|h0
  ·rw[hl1,h0,Nat.zero_mul]at hjl;omega
  ·exact h0
def do4(W:World)(L:List HP)(bb:Nat)(b:Bk)(v3 v11:Value)(w:World):Prop:=
 ∃k:Nat,v11=.I k/\k<=8/\St W (j6 v3 (ae4 b.ps k)::s9 bb b::L) w
theorem Ea7(l:List Ord):(l.flatMap Ord.cells).all (·.oneCell')=true:=by
 rw[List.all_eq_true];intro v hv;obtain⟨x,_,hx⟩:=List.mem_flatMap.1 hv;simp[Ord.cells]at hx
 rcases hx with rfl|rfl|rfl|rfl|rfl|rfl <;> rfl
theorem JQ7(bb:Nat)(b1:Bk)(hok:b1.len<=32)(W w:World)(L:List HP)(hS:St W (s9 bb b1::L) w):
  Calls Tryz.prog 124 #[.P bb] w fun e w'=>∃v l,e=.returned v/\l.Perm (ae4 b1.ps 8)/\l.Pairwise (fun x y:Ord=>x.id<=y.id)/\St W (s9 bb b1::j6 v l::L) w':=by
 go_enter Tryz.func124,Tryz.ntmps124;go_wp2_with(first|(go_at_call 159;refine(Dx7 bb W _ _ hS).mono ?_;clear hS;rintro e w ⟨v,rfl,hS⟩;rcases hS.rowOpen with ⟨_,h0,_⟩|⟨g,cap,junk,rfl,hn1,hm1,hj1,hl1,hS'⟩;exfalso;omega;clear hS;have hS:=hS';clear hS';unfold maxLen at hm1)|refine zl1 hS ?_|refine zlN hS ?_|refine zs1 hS ?_;clear hS;intro w hS|refine zsN hS ?_;clear hS;intro w hS|refine zbx hS ?_;clear hS;intro b w hS|refine zal hS ?_;clear hS;intro b w hS);have hS1:=(hS.swap.rowNil (k:=6) (T:=173))
 clear hS;have hS:=hS1;clear hS1
 go_loopw [3,11] (fun v3 v wr=>do4 W (blk g (bM4 bb++junk) 253::L) bb b1 v3 v wr) (fun _ v _=>8-(intOf v).toNat)
 case atStart=>exact⟨0,rfl,by omega,hS⟩
 case round=>
  clear hS;obtain⟨k,rfl,hk,hS⟩:=hrel;by_cases h8:k=8
  ·subst h8;have hcl:(ae4 b1.ps 8).length<=32:=by rw[GB7 _ _ (Nat.le_refl _)];exact hok
   rcases hS.rowOpen with ⟨rfl,h0,_,hS'⟩|⟨g2,cap2,junk2,rfl,hn2,hm2,hj2,hl2,hS'⟩
   ·have hc0:ae4 b1.ps 8=[]:=List.eq_nil_of_length_eq_zero h0;go_wp2_with(first|go_at_call 160;refine(LO7 _ W _ _ hS).mono ?_;clear hS;rintro e w ⟨rfl,hS⟩);go_ret;refine⟨_,ae4 b1.ps 8,rfl,.refl _,by rw[hc0];exact .nil,?_⟩;exact(hS.take .t2).drop.swap
   ·clear hS;have hS:=hS';clear hS';go_wp2_with(first|go_at_call 160;refine(LN7 (ae4 b1.ps 8) g2 cap2 junk2 (by omega) W _ _ hS).mono ?_;clear hS;rintro e w ⟨rfl,l,hl,hsd,hS⟩);go_ret;refine⟨_,l,rfl,hl,hsd,?_⟩;have hll:=hl.length_eq;have hf1:=Ab7 Ord.len l;have hf2:=Ab7 Ord.len (ae4 b1.ps 8);rw[<-hll]at hn2;have h1:St W (j6 (.S g2 l.length cap2) l::s9 bb b1::blk g (bM4 bb++junk) 253::L) w:=St.rowShut hS hn2 hm2 (by rw[jA]at hj2 ⊢;rw[hf1,hll,<-hf2];exact hj2) (by rw[hf1]);rw[hll]at h1;exact(h1.take .t2).drop.swap
  ·have hk8:k<8:=by omega
   clear h8 hk;obtain⟨o,ho,hdr,hpt⟩:=Ii7 bb junk k hk8;have hcs:=IR7 b1.ps hdr;obtain⟨vs,h1,h2,hS0⟩:=N6 hS.swap;clear hS;have ho1:o<vs.length:=by omega
   have ho2:o<b1.ps.length:=by omega
   have hpk:b1.ps[o]=b1.pile o:=by unfold Bk.pile;simp[List.getD_eq_getElem?_getD,jG ho2]
   have hS1:=ay4 o ho1 ho2 hS0.swap;clear hS0;rw[hpk]at hS1;have hl:(vs++[Value.int .i64 b1.last])[o]? = some vs[o]:=by rw[List.getElem?_append_left ho1,jG ho1]
   generalize hvv:vs[o]=v at hl hS1;have hp32:=Ij7 b1 o ho hok;have hgd:b1.ps.getD o []=b1.pile o:=rfl;rw[hgd]at hp32 hcs;have Hvv:=jH hvv;clear hvv;have hS:=hS1.take .t3;clear hS1;have hcl:(ae4 b1.ps k).length<=32:=by rw[GB7 _ _ (by omega)];exact Nat.le_trans (Ao7 _ (by omega)) hok
   have hsrc:Src (j6 u3 (ae4 b1.ps k)::j6 v (b1.pile o)::sats ((A5 vs b1.ps).eraseIdx o)::blk bb (vs++[Value.int .i64 b1.last]) 279::blk g (bM4 bb++junk) 253::L) v (b1.pile o).length ((b1.pile o).flatMap Ord.cells):=(St.src (by decide) hS.drop).there;have Hcs:=jH hcs;clear hcs hdr;go_wp2_with(first|refine zl1 hS ?_ (hc:=by exact i6.there (i6.there (i6.there (i6.there (i6.here hpt)))))|refine zl1 hS ?_ (hc:=by exact i6.there (i6.there (i6.there (i6.here hl))))|(with_reducible apply IQ7 (e2:=173) hS);rfl;rfl;rfl;rfl;exact esS;kernel_rfl;exact rsS;rfl;decide;exact i7;exact hsrc;(focus(rw[Ab7 Ord.len]));(focus(exact Ea7 _));(focus(unfold maxLen;omega));(focus(omega));clear hS;intro v3 w hS;refine frS ?_);have hS3:=((hS.take .t1).take .t2).swap;clear hS;have hS4:=az4 o ho1 ho2 hS3;clear hS3;rw[<-Hvv.out,<-hpk,List.set_getElem_self,List.set_getElem_self]at hS4;have hS5:=(I6 h1 h2 (hS4.take .t2)).swap;clear hS4;go_roundw
   case rel=>
    refine⟨k+1,rfl,hk8,?_⟩;rw[Hcs.out];unfold j6;rw[jA,List.flatMap_append,<-hpk];exact hS5
   case measure=>simp[intOf];omega
end Go.Proofs.YtienbkdjkjbelaaGreat
end
