/-
  Numbers as bytes.
-/
import Derived.Test.YtlmhakmoioogaaaGreatEconDcM4
import Derived.Test.YtlmhakmoioogaaaGreatEconDcM21
import Derived.Laws.Bits64b
import Derived.Laws.IdiomStrings
import Derived.Lib.SliceRun
set_option maxHeartbeats 16000000
set_option maxRecDepth 100000
set_option linter.unusedSimpArgs false
set_option linter.unusedVariables false
section
namespace Go.Proofs.YtlmhakmoioogaaaGreat
open Go.RowKit Go.Sl
def aH4:Nat->Nat->List Int
 | 0,u=>[(u:Int)]
 | f+1,u=>if 128<=u then((u%128+128:Nat):Int)::aH4 f (u / 128)else[(u:Int)]
def bh4(n:Int):Nat:=if 4611686018427387904<n then 4611686018427387904 else if 0<n then n.toNat else 0
def j9(n:Int):List Int:=aH4 8 (bh4 n)
theorem CS7{f u:Nat}(h:u<128):aH4 f u=[(u:Int)]:=by
 cases f with
 | zero=>rfl
 | succ f=>rw[aH4,if_neg (by omega)]
theorem LU7:∀f u,(aH4 f u).length<=f+1
 | 0,u=>Nat.le_refl _
 | f+1,u=>by
  rw[aH4];split
  ·have:=LU7 f (u / 128);rw[jC];omega
  ·simp
theorem Iu7(n:Int):bh4 n<=4611686018427387904:=by
 unfold bh4
 repeat' split
 all_goals omega
theorem Ap7(n:Int):(j9 n).length<=9:=LU7 _ _
theorem Tu7:∀v:Fin 256,bits .or .u8 ((v.val:Nat):Int) 128=((v.val%128+128:Nat):Int):=by decide +kernel
theorem Oz7(u:Nat):bits .or .u8 ((u:Int)%256) 128=((u%128+128:Nat):Int):=by
 have h:=Tu7 ⟨u%256,Nat.mod_lt _ (by decide)⟩;have e:((u:Int)%256)=((u%256:Nat):Int):=by omega
 rw[e,h];have:u%256%128=u%128:=Nat.mod_mod_of_dvd _ (by decide);simp only[this]
theorem Iv7{u:Nat}(hu:u<=4611686018427387904):bits .or .u8 (bits .and .u64 (u:Int) 127%256) 128=((u%128+128:Nat):Int):=by
 have h:=bits_and_u64_nat u 127 (by omega) (by decide);have e:u &&& 127=u%128:=Nat.and_two_pow_sub_one_eq_mod u 7;have h2:bits .and .u64 (u:Int) 127=((u%128:Nat):Int):=by rw[<-e];exact h
 rw[h2,Oz7,Nat.mod_mod]
theorem Fr7{u:Nat}(h:u<=4611686018427387904):u<128^(8+1):=by
 have:(128:Nat)^(8+1)=9223372036854775808:=by decide
 omega
abbrev u8s(l:List Int):List Value:=l.map (Value.int .u8)
abbrev byR(v:Value)(l:List Int):HP:=row v 1 5 l.length (u8s l)
def NmR(W:World)(L:List HP)(t:List Int)(v3 v4:Value)(w:World):Prop:=
 ∃(f u:Nat) (d:List Int),v3=.int .u64 u/\u<128^(f+1)/\u<=4611686018427387904/\f<=8/\d.length<=8-f/\d++aH4 f u=t/\St W (byR v4 d::L) w
theorem CB7(d:List Int)(x:Int):u8s (d++[x])=u8s d++[Value.int .u8 x]:=by unfold u8s;rw[List.map_append];rfl
theorem AR7{v:Value}{n:Nat}{l:List Int}{L:List HP}{W w:World}(hl:l.length=n)(h:St W (row v 1 5 n (u8s l)::L) w):St W (byR v l::L) w:=by unfold byR;rw[hl];exact h
theorem cm4(n:Int)(hn : -9223372036854775808<=n/\n<=9223372036854775807)(W w:World)(R:List HP)(hS:St W R w):
  Calls Tryz.prog 140 #[.I n] w fun e w'=>∃v,e=.returned v/\St W (byR v (j9 n)::R) w':=by
 obtain⟨u0,hu0⟩:∃u,bh4 n=u:=⟨_,rfl⟩
 have hul:u0<=4611686018427387904:=by rw[<-hu0];exact Iu7 n
 unfold j9;rw[hu0];by_cases h1:4611686018427387904<n
 ·have e:bh4 n=4611686018427387904:=by unfold bh4;rw[if_pos h1]
  have eu:u0=4611686018427387904:=hu0.symm.trans e;have Eu:=jH eu;clear hu0 e eu;go_enter Tryz.func140,Tryz.ntmps140;go_wp2_with(first|go_big_skip);have hS1:=hS.rowNil (k:=1) (T:=5);clear hS;have hS:=hS1;clear hS1
  go_loopw [3,4] (fun v3 v4 wr=>NmR W R (aH4 8 u0) v3 v4 wr) (fun v3 _ _=>(intOf v3).toNat)
  case atStart=>exact⟨8,u0,[],by rw[Eu.out];rfl,Fr7 hul,hul,by omega,by simp,rfl,hS⟩
  case round=>
   clear hS;obtain⟨f,u,d,rfl,hu,hu2,hf,hd,hE,hS⟩:=hrel;by_cases h128:128<=u
   ·obtain⟨f,rfl⟩:∃f',f=f'+1:=by
     cases f with
     | zero=>simp at hu;omega
     | succ f=>exact⟨f,rfl⟩
    have hu3:u / 128<128^(f+1):=Nat.div_lt_of_lt_mul (by rw[Nat.pow_succ]at hu;omega);rw[aH4,if_pos h128]at hE;have Hu3:=jH hu3;have HE:=jH hE;clear hE hu hu3;go_wp2_with(first|go_big_skip|refine zbs hS ?_;clear hS;intro bS w hS|refine zap hS ?_ (h63:=by unfold maxLen;omega) (hb:=by omega);clear hS;intro v w hS);have hb:=Iv7 hu2;have h0:St W (row v 1 5 (d.length+1) (u8s d++[Value.int .u8 (bits .or .u8 (bits .and .u64 (u:Int) 127%256) 128)])::_) w:=hS;rw[hb,<-CB7]at h0;have h2:=AR7 (by rw[jA,List.length_singleton]) h0;go_roundw
    case rel=>exact⟨f,u / 128,d++[((u%128+128:Nat):Int)],by rw[Int.natCast_ediv];rfl,Hu3.out,by omega,by omega,by rw[jA,List.length_singleton];omega,by rw[jS];exact HE.out,h2.s _⟩
    case measure=>simp[intOf];omega
   ·have hu4:u<128:=by omega
    rw[CS7 hu4]at hE;have HE:=jH hE;clear hE hu h128;go_wp2_with(first|go_big_skip|refine zbs hS ?_;clear hS;intro bS w hS|refine zap hS ?_ (h63:=by unfold maxLen;omega) (hb:=by omega);clear hS;intro v w hS);go_ret;refine⟨v,rfl,?_⟩;have h0:St W (row v 1 5 (d.length+1) (u8s d++[Value.int .u8 (u:Int)])::_) w:=hS;rw[<-CB7,HE.out]at h0;have h2:=AR7 (by rw[<-HE.out,jA,List.length_singleton]) h0;exact h2.s _
 ·have d1:decide (4611686018427387904<n)=false:=by simpa using h1
  by_cases h2:0<n
  ·have e:bh4 n=n.toNat:=by unfold bh4;rw[if_neg h1,if_pos h2]
   obtain⟨m,rfl⟩:∃m:Nat,n=m:=⟨n.toNat,by omega⟩
   have eu:u0=m:=hu0.symm.trans (by rw[e];simp);subst eu;clear hu0 e;go_enter Tryz.func140,Tryz.ntmps140;go_wp2_with(first|go_big_skip);have hS1:=hS.rowNil (k:=1) (T:=5);clear hS;have hS:=hS1;clear hS1
   go_loopw [3,4] (fun v3 v4 wr=>NmR W R (aH4 8 u0) v3 v4 wr) (fun v3 _ _=>(intOf v3).toNat)
   case atStart=>exact⟨8,u0,[],rfl,Fr7 hul,hul,by omega,by simp,rfl,hS⟩
   case round=>
    clear hS;obtain⟨f,u,d,rfl,hu,hu2,hf,hd,hE,hS⟩:=hrel;by_cases h128:128<=u
    ·obtain⟨f,rfl⟩:∃f',f=f'+1:=by
      cases f with
      | zero=>simp at hu;omega
      | succ f=>exact⟨f,rfl⟩
     have hu3:u / 128<128^(f+1):=Nat.div_lt_of_lt_mul (by rw[Nat.pow_succ]at hu;omega);rw[aH4,if_pos h128]at hE;have Hu3:=jH hu3;have HE:=jH hE;clear hE hu hu3;go_wp2_with(first|go_big_skip|refine zbs hS ?_;clear hS;intro bS w hS|refine zap hS ?_ (h63:=by unfold maxLen;omega) (hb:=by omega);clear hS;intro v w hS);have hb:=Iv7 hu2;have h0:St W (row v 1 5 (d.length+1) (u8s d++[Value.int .u8 (bits .or .u8 (bits .and .u64 (u:Int) 127%256) 128)])::_) w:=hS;rw[hb,<-CB7]at h0;have h2:=AR7 (by rw[jA,List.length_singleton]) h0;go_roundw
     case rel=>exact⟨f,u / 128,d++[((u%128+128:Nat):Int)],by rw[Int.natCast_ediv];rfl,Hu3.out,by omega,by omega,by rw[jA,List.length_singleton];omega,by rw[jS];exact HE.out,h2.s _⟩
     case measure=>simp[intOf];omega
    ·have hu4:u<128:=by omega
     rw[CS7 hu4]at hE;have HE:=jH hE;clear hE hu h128;go_wp2_with(first|go_big_skip|refine zbs hS ?_;clear hS;intro bS w hS|refine zap hS ?_ (h63:=by unfold maxLen;omega) (hb:=by omega);clear hS;intro v w hS);go_ret;refine⟨v,rfl,?_⟩;have h0:St W (row v 1 5 (d.length+1) (u8s d++[Value.int .u8 (u:Int)])::_) w:=hS;rw[<-CB7,HE.out]at h0;have h2:=AR7 (by rw[<-HE.out,jA,List.length_singleton]) h0;exact h2.s _
  ·have d2:decide (0<n)=false:=by simpa using h2
   have e:bh4 n=0:=by unfold bh4;rw[if_neg h1,if_neg h2]
   have eu:u0=0:=hu0.symm.trans e;have Eu:=jH eu;clear hu0 e eu;go_enter Tryz.func140,Tryz.ntmps140;go_wp2_with(first|go_big_skip);have hS1:=hS.rowNil (k:=1) (T:=5);clear hS;have hS:=hS1;clear hS1
   go_loopw [3,4] (fun v3 v4 wr=>NmR W R (aH4 8 u0) v3 v4 wr) (fun v3 _ _=>(intOf v3).toNat)
   case atStart=>exact⟨8,u0,[],by rw[Eu.out];rfl,Fr7 hul,hul,by omega,by simp,rfl,hS⟩
   case round=>
    clear hS;obtain⟨f,u,d,rfl,hu,hu2,hf,hd,hE,hS⟩:=hrel;by_cases h128:128<=u
    ·obtain⟨f,rfl⟩:∃f',f=f'+1:=by
      cases f with
      | zero=>simp at hu;omega
      | succ f=>exact⟨f,rfl⟩
     have hu3:u / 128<128^(f+1):=Nat.div_lt_of_lt_mul (by rw[Nat.pow_succ]at hu;omega);rw[aH4,if_pos h128]at hE;have Hu3:=jH hu3;have HE:=jH hE;clear hE hu hu3;go_wp2_with(first|go_big_skip|refine zbs hS ?_;clear hS;intro bS w hS|refine zap hS ?_ (h63:=by unfold maxLen;omega) (hb:=by omega);clear hS;intro v w hS);have hb:=Iv7 hu2;have h0:St W (row v 1 5 (d.length+1) (u8s d++[Value.int .u8 (bits .or .u8 (bits .and .u64 (u:Int) 127%256) 128)])::_) w:=hS;rw[hb,<-CB7]at h0;have h2:=AR7 (by rw[jA,List.length_singleton]) h0;go_roundw
     case rel=>exact⟨f,u / 128,d++[((u%128+128:Nat):Int)],by rw[Int.natCast_ediv];rfl,Hu3.out,by omega,by omega,by rw[jA,List.length_singleton];omega,by rw[jS];exact HE.out,h2.s _⟩
     case measure=>simp[intOf];omega
    ·have hu4:u<128:=by omega
     rw[CS7 hu4]at hE;have HE:=jH hE;clear hE hu h128;go_wp2_with(first|go_big_skip|refine zbs hS ?_;clear hS;intro bS w hS|refine zap hS ?_ (h63:=by unfold maxLen;omega) (hb:=by omega);clear hS;intro v w hS);go_ret;refine⟨v,rfl,?_⟩;have h0:St W (row v 1 5 (d.length+1) (u8s d++[Value.int .u8 (u:Int)])::_) w:=hS;rw[<-CB7,HE.out]at h0;have h2:=AR7 (by rw[<-HE.out,jA,List.length_singleton]) h0;exact h2.s _
end Go.Proofs.YtlmhakmoioogaaaGreat
end
section
namespace Go.Sl
open Go.RowKit
def y7(s:ByteArray):List Int:=s.data.toList.map fun b=>(b.toNat:Int)
theorem AF7(s:ByteArray):(y7 s).length=s.size:=by unfold y7;rw[jM];rfl
def sbR(g:Nat)(s:ByteArray):HP:=fun f=>∃o:Obj,(∀w:World,w.heap[g]? = some o->∀(j:Nat) (u:Value),((y7 s).map (Value.int .u8))[j]? = some u->w.cell? ⟨g,j,none⟩=some u)/\ae4 g o f
section
variable{P:Program}{ops:Array Oper}{Q:Exit->Act->World->Prop}{a:Act}{w:World}{W:World}{L:List HP}{rest:List Oper}{o:Oper}
theorem d7.sb{g:Nat}{s:ByteArray}:d7 (sbR g s::L) g 0 ((y7 s).map (Value.int .u8)):=fun j v hj W w hS=>by obtain⟨o,hS⟩:=St.ex hS;obtain⟨h1,hS⟩:=St.and hS;rw[Nat.zero_add];exact h1 w (hS.get .head) j v hj
theorem AB7{src dst e:TypeId}{x:Operand}{s:ByteArray}(hS:St W L w)(ho:o.op=.convert src dst x)(hg:Region.wanted o (yielded ops a.tmps)=true)(hx:a.eval x=.string s)
  (hs:P.underlying src=some .string) (hd:P.underlying dst=some (.slice e)) (he:P.underlying e=some (.int .u8))
  (h:∀g c w',St W (sbR g s::L) w'->wpList P ops Q rest (a.put o.dst (.S g s.size c)) w'):wpList P ops Q (o::rest) a w:=by
 have h1:=run_bytes_of_string (P:=P) w src dst e s hs hd he;refine Ak7 hg (v:=.slice (some ⟨w.heap.size,0,none⟩) s.size (grownCap w s.size 0 e)) (w':=w.drew.alloc (.cells (bytesRow s (grownCap w s.size 0 e)) e ((bytesRow s (grownCap w s.size 0 e)).size,(bytesRow s (grownCap w s.size 0 e)).size+1))) ?_ (h _ _ _ ?_)
 ·unfold execOp;simp[ho,hx,h1]
 ·have h2:=(hS.drawn (w.drawn+1)).alloc (.cells (bytesRow s (grownCap w s.size 0 e)) e ((bytesRow s (grownCap w s.size 0 e)).size,(bytesRow s (grownCap w s.size 0 e)).size+1));refine St.mkEx _ (St.mkAnd ?_ h2);intro w' hw j u hj;rw[List.getElem?_map]at hj;unfold y7 at hj;rw[List.getElem?_map]at hj;have hw2:w'.heap[w.heap.size]? = some (.cells (bytesRow s (grownCap w s.size 0 e)) e ((bytesRow s (grownCap w s.size 0 e)).size,(bytesRow s (grownCap w s.size 0 e)).size+1)):=hw
  cases hb:s.data.toList[j]? with
  | none=>rw[hb]at hj;cases hj
  | some b=>
   rw[hb]at hj;simp only[Option.map_some,Option.some.injEq]at hj;have hb2:s.data[j]? = some b:=by rw[<-hb];simp
   have hjl:j<s.data.size:=(Array.getElem?_eq_some_iff.1 hb2).1;have h3:(bytesRow s (grownCap w s.size 0 e))[j]? = some u:=by unfold bytesRow;rw[Array.getElem?_append_left (by simpa using hjl),Array.getElem?_map,hb2,<-hj];rfl
   show w'.cell? ⟨w.heap.size,j,none⟩=some u
   simp[World.cell?,hw2,h3]
end
end Go.Sl
namespace Go.Proofs.YtlmhakmoioogaaaGreat
open Go.RowKit Go.Sl
theorem Be7(l:List Int):(u8s l).all (·.oneCell')=true:=by rw[List.all_eq_true];intro v hv;obtain⟨x,_,rfl⟩:=List.mem_map.1 hv;rfl
theorem AC7(a b:List Int):u8s (a++b)=u8s a++u8s b:=List.map_append
theorem AS7(a:List Int):(u8s a).length=a.length:=jM ..
theorem fl4(g c:Nat)(s:ByteArray)(hs:s.size<=1000000)(W w:World)(R:List HP)(hS:St W (sbR g s::R) w):
  Calls Tryz.prog 141 #[.S g s.size c] w fun e w'=>∃v,e=.returned v/\St W (byR v (j9 s.size++y7 s)::R) w':=by
 have hln:=Ap7 s.size;go_enter Tryz.func141,Tryz.ntmps141;go_wp2_with(first|go_big_skip|go_at_call 140;refine(cm4 _ ⟨by omega,by omega⟩ W _ _ hS).mono ?_;clear hS;rintro e w ⟨vn,rfl,hS⟩;(have hv:=hS.rowVal;obtain⟨na,nc,rfl⟩:=hv)|(with_reducible apply Aj7 hS);rfl;rfl;rfl;rfl;exact esS;exact rsS;rfl;decide;exact g8;exact Src.mk (d7.there d7.sb);(focus(rw[jM,AF7,Nat.mul_one]));exact Be7 _;(focus(unfold maxLen;omega));(focus(omega));clear hS;intro v w hS;refine frS ?_);go_ret;refine⟨v,rfl,?_⟩;have h0:St W (row v 1 5 ((j9 s.size).length+s.size) (u8s (j9 s.size)++u8s (y7 s))::_) w:=hS;rw[<-AC7]at h0;have h2:=AR7 (by rw[jA,AF7]) h0;exact h2.s _
def NsR(W:World)(L:List HP)(ns:List Int)(v3 v4:Value)(w:World):Prop:=
 ∃i:Nat,v4=.I i/\i<=ns.length/\St W (byR v3 ((ns.take i).flatMap j9)::L) w
theorem KK7(ns:List Int):(ns.flatMap j9).length<=9*ns.length:=by
 induction ns with
 | nil=>simp
 | cons n ns ih=>
  have:=Ap7 n;rw[List.flatMap_cons,jA,jC];omega
theorem fP4(ns:List Int)(b c:Nat)(hl:ns.length<=100)(hn:∀x∈ns, -9223372036854775808<=x/\x<=9223372036854775807)(W w:World)(R:List HP)(hS:St W (blk b (ns.map (Value.int .i64)) 3::R) w):
  Calls Tryz.prog 144 #[.S b ns.length c] w fun e w'=>∃v,e=.returned v/\St W (byR v (ns.flatMap j9)::R) w':=by
 have Hn:=jH hn;clear hn;go_enter Tryz.func144,Tryz.ntmps144;go_wp2_with(first|go_big_skip);have hS1:=hS.rowNil (k:=1) (T:=5);clear hS;have hS:=hS1;clear hS1
 go_loopw [3,4] (fun v3 v4 wr=>NsR W (blk b (ns.map (Value.int .i64)) 3::R) ns v3 v4 wr) (fun _ v4 _=>ns.length-(intOf v4).toNat)
 case atStart=>exact⟨0,rfl,Nat.zero_le _,hS⟩
 case round=>
  clear hS;obtain⟨i,rfl,hil,hS⟩:=hrel;by_cases hin:i=ns.length
  ·subst hin;rw[List.take_length]at hS;go_wp2_with(first|go_big_skip);go_ret;exact⟨u3,rfl,hS.s _⟩
  ·have hi1:i<ns.length:=by omega
   have hx:(ns.map (Value.int .i64))[i]? = some (.I ns[i]):=by rw[List.getElem?_map,jG hi1];rfl
   have hr:=Hn.out _ (jW hi1);have hst:(ns.take (i+1)).flatMap j9=(ns.take i).flatMap j9++j9 ns[i]:=by rw[List.take_succ_eq_append_getElem hi1,List.flatMap_append];simp
   have hle:=KK7 (ns.take i);rw[jT]at hle;generalize ns[i]=x at hx hr hst;obtain⟨r1,r2⟩:=hr;have hlx:=Ap7 x;have Hst:=jH hst;clear hst hin hil;generalize (ns.take i).flatMap j9=d at hS Hst hle;go_wp2_with(first|go_big_skip|refine zl1 hS ?_ (hc:=by exact e8.there (e8.here hx))|refine zl1 hS ?_ (hc:=by exact e8.here hx)|go_at_call 140;refine(cm4 _ ⟨by omega,by omega⟩ W _ _ hS).mono ?_;clear hS;rintro e w ⟨vn,rfl,hS⟩;(have hv:=hS.rowVal;obtain⟨na,nc,rfl⟩:=hv)|(with_reducible apply Aj7 hS);rfl;rfl;rfl;rfl;exact esS;exact rsS;rfl;decide;exact g8;exact St.src (by decide) hS;(focus(rw[AS7,Nat.mul_one]));exact Be7 _;(focus(unfold maxLen;omega));(focus(omega));clear hS;intro v w hS;refine frS ?_);go_roundw
   case rel=>
    refine⟨i+1,rfl,hi1,?_⟩;rw[Hst.out];have h0:St W (row v 1 5 (d.length+(j9 x).length) (u8s d++u8s (j9 x))::_) w:=hS;rw[<-AC7]at h0;have h2:=AR7 (by rw[jA]) h0;exact h2.s _
   case measure=>simp[intOf];omega
def y8(s:ByteArray):List Int:=j9 s.size++y7 s
theorem Cc7(s:ByteArray)(h:s.size<=16):(y8 s).length<=25:=by have h1:=Ap7 s.size;unfold y8;rw[jA,AF7];omega
theorem bR4(g c:Nat)(s:ByteArray)(hs:s.size<=1000000)(W w:World)(R:List HP)(hS:St W (sbR g s::R) w):
  Calls Tryz.prog 141 #[.S g s.size c] w fun e w'=>∃v,e=.returned v/\St W (byR v (y8 s)::R) w':=fl4 g c s hs W w R hS
def l9(ns:List Int):List Int:=ns.flatMap j9
theorem Dw7(a b c d:Int):(l9 [a,b,c,d]).length<=36:=by have h:=KK7 [a,b,c,d];simp only[jC,List.length_nil]at h;exact h
theorem ca4(ns:List Int)(b c:Nat)(hl:ns.length<=100)(hn:∀x∈ns, -9223372036854775808<=x/\x<=9223372036854775807)(W w:World)(R:List HP)(hS:St W (blk b (ns.map (Value.int .i64)) 3::R) w):
  Calls Tryz.prog 144 #[.S b ns.length c] w fun e w'=>∃v,e=.returned v/\St W (byR v (l9 ns)::R) w':=fP4 ns b c hl hn W w R hS
def af4(h:Hd):List Int:=y8 h.who++l9 [h.has.x0,h.has.x1,h.has.x2,h.has.x3]
def bp4(b:Bool):Int:=if b=true then 1 else 0
def P5(o:Ord):List Int:=j9 o.id++y8 o.who++l9 [bp4 o.buy,o.item,o.cnt,o.price]
def I9(p:Ps)(L:List Ord)(n:Int):List Int:=j9 (hdL p).length++(hdL p).flatMap af4++j9 L.length++L.flatMap P5++j9 n
theorem EI7(h:Hd)(hw:h.who.size<=16):(af4 h).length<=70:=by have h1:=Cc7 h.who hw;have h2:=Dw7 h.has.x0 h.has.x1 h.has.x2 h.has.x3;unfold af4;rw[jA];omega
theorem EJ7(o:Ord)(hw:o.who.size<=16):(P5 o).length<=70:=by have h1:=Cc7 o.who hw;have h3:=Ap7 o.id;have h2:=Dw7 (bp4 o.buy) o.item o.cnt o.price;unfold P5;rw[jA,jA];omega
theorem BY7{α:Type}(f:α->List Int)(xs:List α)(h:∀x∈xs,(f x).length<=70):(xs.flatMap f).length<=70*xs.length:=by
 induction xs with
 | nil=>simp
 | cons x xs ih=>
  have h1:=h x (List.mem_cons_self ..);have h2:=ih fun y hy=>h y (List.mem_cons_of_mem x hy)
  rw[List.flatMap_cons,jA,jC];omega
def CtR{α:Type}(W:World)(F:List HP)(f:α->List Int)(base:List Int)(xs:List α)(v3 v4:Value)(w:World):Prop:=
 ∃k:Nat,v4=.I k/\k<=xs.length/\St W (byR v3 (base++(xs.take k).flatMap f)::F) w
theorem Bq7{α:Type}(f:α->List Int)(base:List Int)(xs:List α){k:Nat}(h:k<xs.length):base++(xs.take (k+1)).flatMap f=base++(xs.take k).flatMap f++f xs[k]:=by rw[List.take_succ_eq_append_getElem h,List.flatMap_append,jS];simp
theorem fQ4(i:It)(hi:w8 i=true)(W w:World)(R:List HP)(hS:St W R w):
  Calls Tryz.prog 192 #[.agg i.cells.toArray] w fun e w'=>∃v,e=.returned v/\St W (byR v (l9 [i.x0,i.x1,i.x2,i.x3])::R) w':=by
 obtain⟨x0,x1,x2,x3⟩:=i;obtain⟨a0,a1,a2,a3⟩:=Ai7.1 hi;simp only at a0 a1 a2 a3
 have hn:∀x∈[x0,x1,x2,x3], -9223372036854775808<=x/\x<=9223372036854775807:=by
  intro x hx;simp only[List.mem_cons,List.not_mem_nil,or_false]at hx
  rcases hx with rfl|rfl|rfl|rfl
  all_goals exact⟨by omega,by omega⟩
 have Hn:=jH hn;clear hn hi;simp only[It.cells];go_enter Tryz.func192,Tryz.ntmps192;go_wp2_with(first|refine zbx hS ?_;clear hS;intro b w hS|refine zl1 hS ?_|refine zbs hS ?_;clear hS;intro bS w hS|go_at_call 144;refine(ca4 [x0,x1,x2,x3] bS 4 (by simp) Hn.out W _ _ hS).mono ?_;clear hS;rintro e w ⟨vn,rfl,hS⟩);go_ret;exact⟨vn,rfl,hS.s _⟩
theorem OA7(xb xB:Nat)(ha la:Option Addr)(hc lc:Nat)(last:Int)(p:Ps)(L:List Ord)(n:Int){N:Nat}(hp:P8 p)(hw:PsW p N)(hN:N<=1000000)(hmay:∀x∈L,MayP x)(hl32:L.length<=32)(hn0:1<=n)(hn1:n<=1099511627777)(W w:World)(R:List HP)(hS:St W (blk xB [.slice la L.length lc,.I last] 244::i9 (.slice la L.length lc) L::blk xb [.slice ha (hdL p).length hc,.P xB,.I n] 246::hdR (.slice ha (hdL p).length hc) (hdL p)::R) w):
  Calls Tryz.prog 142 #[.P xb] w fun e w'=>∃v,e=.returned v/\St W (byR v (I9 p L n)::blk xB [.slice la L.length lc,.I last] 244::i9 (.slice la L.length lc) L::blk xb [.slice ha (hdL p).length hc,.P xB,.I n] 246::hdR (.slice ha (hdL p).length hc) (hdL p)::R) w':=by
 have hlh:(hdL p).length<=1000000:=by rw[BW7];exact Nat.le_trans hw.len hN
 have hhw:∀x∈hdL p,x.who.size<=16/\w8 x.has=true:=fun x hx=>by refine⟨?_,by rw[Du7 hx];exact hp _⟩;have hk:x.who∈(hdL p).map Hd.who:=List.mem_map_of_mem hx;rw[GT7]at hk;obtain⟨y,hy,e⟩:=Ju7 hk;rw[<-e];exact Ds7 (hw.who y hy)
 have Hmay:=jH hmay;have Hhw:=jH hhw;clear hmay hw hp hhw;unfold I9;go_enter Tryz.func142,Tryz.ntmps142;go_wp2_with(first|refine zl1 hS ?_|go_at_call 140;refine(cm4 _ ⟨by omega,by omega⟩ W _ _ hS).mono ?_;clear hS;rintro e w ⟨vn,rfl,hS⟩;(have hv:=hS.rowVal;obtain⟨na,nc,rfl⟩:=hv));generalize hhs:hdL p=hs at hS hlh Hhw;have Hhs:=jH hhs;clear hhs
 go_loopw [3,4] (fun v3 v4 wr=>CtR W (blk xB [.slice la L.length lc,.I last] 244::i9 (.slice la L.length lc) L::blk xb [.slice ha hs.length hc,.P xB,.I n] 246::hdR (.slice ha hs.length hc) hs::R) af4 (j9 hs.length) hs v3 v4 wr) (fun _ v4 _=>hs.length-(intOf v4).toNat)
 case atStart=>exact⟨0,rfl,Nat.zero_le _,by simpa using hS⟩
 case round=>
  clear hS;obtain⟨k,rfl,hkl,hS⟩:=hrel;by_cases hkn:k=hs.length
  ·rw[hkn,List.take_length]at hS;have hd1:decide (k<hs.length)=false:=by simp;omega
   clear hkl hkn;generalize hacc:j9 hs.length++hs.flatMap af4=acc at hS
   have hal:acc.length<=70000100:=by
    have h1:=BY7 af4 hs fun x hx=>EI7 x (Hhw.out x hx).1
    have h2:=Ap7 hs.length;rw[<-hacc,jA];omega
   have Hacc:=jH hacc;clear hacc;have hln:=Ap7 L.length;go_wp2_with(first|refine zl1 hS ?_|go_at_call 140;refine(cm4 _ ⟨by omega,by omega⟩ W _ _ hS).mono ?_;clear hS;rintro e w ⟨vn,rfl,hS⟩;(have hv:=hS.rowVal;obtain⟨na,nc,rfl⟩:=hv)|(with_reducible apply Aj7 hS);rfl;rfl;rfl;rfl;exact esS;exact rsS;rfl;decide;exact g8;exact St.src (by decide) hS;(focus(rw[AS7,Nat.mul_one]));exact Be7 _;(focus(unfold maxLen;omega));(focus(omega));clear hS;intro v w hS;refine frS ?_);have h0:St W (row v 1 5 (acc.length+(j9 L.length).length) (u8s acc++u8s (j9 L.length))::_) w:=hS;rw[<-AC7]at h0;have hS:=(AR7 (by rw[jA]) h0).s (byR v (acc++j9 L.length)::blk xB _ _::i9 _ L::blk xb _ _::hdR _ hs::R);clear h0
   go_loopw [3,5] (fun v3 v5 wr=>CtR W (blk xB [.slice la L.length lc,.I last] 244::i9 (.slice la L.length lc) L::blk xb [.slice ha hs.length hc,.P xB,.I n] 246::hdR (.slice ha hs.length hc) hs::R) P5 (acc++j9 L.length) L v3 v5 wr) (fun _ v5 _=>L.length-(intOf v5).toNat)
   case atStart=>exact⟨0,rfl,Nat.zero_le _,by simpa using hS⟩
   case round=>
    clear hS;obtain⟨j,rfl,hjl,hS⟩:=hrel;by_cases hjn:j=L.length
    ·rw[hjn,List.take_length]at hS;have hd2:decide (j<L.length)=false:=by simp;omega
     clear hjl hjn;have hlo:=BY7 P5 L fun x hx=>EJ7 x (Hmay.out x hx).who1
     generalize hd:acc++j9 L.length++L.flatMap P5=d at hS;have hdl:d.length<=70010000:=by rw[<-hd,jA,jA];omega
     have Hd2:=jH hd;have hlq:=Ap7 n;clear hd;go_wp2_with(first|refine zl1 hS ?_|go_at_call 140;refine(cm4 _ ⟨by omega,by omega⟩ W _ _ hS).mono ?_;clear hS;rintro e w ⟨vn,rfl,hS⟩;(have hv:=hS.rowVal;obtain⟨na,nc,rfl⟩:=hv)|(with_reducible apply Aj7 hS);rfl;rfl;rfl;rfl;exact esS;exact rsS;rfl;decide;exact g8;exact St.src (by decide) hS;(focus(rw[AS7,Nat.mul_one]));exact Be7 _;(focus(unfold maxLen;omega));(focus(omega));clear hS;intro v w hS;refine frS ?_);go_ret;refine⟨v,rfl,?_⟩;rw[Hhs.out,Hacc.out,Hd2.out];have h0:St W (row v 1 5 (d.length+(j9 n).length) (u8s d++u8s (j9 n))::_) w:=hS;rw[<-AC7]at h0;have h2:=AR7 (by rw[jA]) h0;exact h2.s _
    ·have hj1:j<L.length:=by omega
     obtain⟨⟨g,rfl⟩,_,_⟩:=St.rowAddr hS.drop.drop (by omega);have hcells:∀{K K':List HP},Take K (i9 (.S g L.length lc) L) K'->d7 K g (j*6) (Ord.cells L[j]):=fun hu=>d7.elemM (enc:=Ord.cells) Ord.len hu hj1
     have hst:=Bq7 P5 (acc++j9 L.length) L hj1;have hmx:=Hmay.out _ (jW hj1);have hlt:=BY7 P5 (L.take j) fun x hx=>EJ7 x (Hmay.out x (List.mem_of_mem_take hx)).who1
     rw[jT]at hlt;generalize hd:acc++j9 L.length++(L.take j).flatMap P5=d at hS hst;have hdl:d.length<=70010000:=by rw[<-hd,jA,jA];omega
     generalize L[j]=x at hcells hst hmx;obtain⟨oi,ou,oy,ot,oc,op⟩:=x;have i0:1<=oi:=hmx.id0;have i1:oi<=1099511627776:=hmx.id1;have w1:ou.size<=16:=hmx.who1;have t0:1<=ot:=hmx.item0;have t1:ot<=3:=hmx.item1;have c0:1<=oc:=hmx.cnt0;have c1:oc<=1048576:=hmx.cnt1;have p0:1<=op:=hmx.price0;have p1:op<=1024:=hmx.price1;have l1:=Ap7 oi;have l4:=Cc7 ou w1;have Hst:=jH hst;clear hst hmx hd hlt hjn hjl;simp only[Ord.cells]at hcells
     cases oy with
     | false=>
      have hn:∀x∈[(0:Int),ot,oc,op], -9223372036854775808<=x/\x<=9223372036854775807:=by
       intro x hx;simp only[List.mem_cons,List.not_mem_nil,or_false]at hx
       rcases hx with rfl|rfl|rfl|rfl
       all_goals exact⟨by omega,by omega⟩
      have l5:=Dw7 0 ot oc op;have Hn:=jH hn;clear hn;go_wp2_with(first|refine zl1 hS ?_|refine zlN hS ?_ (hc:=by exact hcells (by exact g8))|(with_reducible apply Ao7 hS);rfl;rfl;exact zsS;clear hS;intro b6 w hS;refine frS ?_|refine zsN hS ?_;clear hS;intro w hS|go_at_call 140;refine(cm4 _ ⟨by omega,by omega⟩ W _ _ hS).mono ?_;clear hS;rintro e w ⟨vn,rfl,hS⟩;(have hv:=hS.rowVal;obtain⟨na,nc,rfl⟩:=hv)|(with_reducible apply AB7 hS);rfl;rfl;rfl;exact Tryz.underlying9;exact Tryz.underlying63;exact Tryz.underlying5;clear hS;intro g9 c9 w hS;refine frS ?_|go_at_call 141;refine(bR4 g9 c9 ou (by omega) W _ _ hS).mono ?_;clear hS;rintro e w ⟨vn,rfl,hS⟩;(have hv:=hS.rowVal;obtain⟨na,nc,rfl⟩:=hv)|refine zbs hS ?_;clear hS;intro bS w hS|go_at_call 144;refine(ca4 [0,ot,oc,op] bS 4 (by simp) Hn.out W _ _ hS).mono ?_;clear hS;rintro e w ⟨vn,rfl,hS⟩;(have hv:=hS.rowVal;obtain⟨na,nc,rfl⟩:=hv)|(with_reducible apply Aj7 hS);rfl;rfl;rfl;rfl;exact esS;exact rsS;rfl;decide;exact g8;exact St.src (by decide) hS;(focus(rw[AS7,Nat.mul_one]));exact Be7 _;(focus(unfold maxLen;omega));(focus(omega));clear hS;intro v w hS;refine frS ?_);go_roundw
      case rel=>
       refine⟨j+1,rfl,hj1,?_⟩;rw[Hst.out];unfold P5;simp only[bp4,Bool.false_eq_true,if_true,if_false];have h0:St W (row v 1 5 (d.length+(j9 oi).length+(y8 ou).length+(l9 [0,ot,oc,op]).length) (u8s d++u8s (j9 oi)++u8s (y8 ou)++u8s (l9 [0,ot,oc,op]))::_) w:=hS;rw[<-AC7,<-AC7,<-AC7,jS d,jS d]at h0;have h2:=AR7 (by simp only[jA];omega) h0;exact h2.s _
      case measure=>simp[intOf];omega
     | true=>
      have hn:∀x∈[(1:Int),ot,oc,op], -9223372036854775808<=x/\x<=9223372036854775807:=by
       intro x hx;simp only[List.mem_cons,List.not_mem_nil,or_false]at hx
       rcases hx with rfl|rfl|rfl|rfl
       all_goals exact⟨by omega,by omega⟩
      have l5:=Dw7 1 ot oc op;have Hn:=jH hn;clear hn;go_wp2_with(first|refine zl1 hS ?_|refine zlN hS ?_ (hc:=by exact hcells (by exact g8))|(with_reducible apply Ao7 hS);rfl;rfl;exact zsS;clear hS;intro b6 w hS;refine frS ?_|refine zsN hS ?_;clear hS;intro w hS|go_at_call 140;refine(cm4 _ ⟨by omega,by omega⟩ W _ _ hS).mono ?_;clear hS;rintro e w ⟨vn,rfl,hS⟩;(have hv:=hS.rowVal;obtain⟨na,nc,rfl⟩:=hv)|(with_reducible apply AB7 hS);rfl;rfl;rfl;exact Tryz.underlying9;exact Tryz.underlying63;exact Tryz.underlying5;clear hS;intro g9 c9 w hS;refine frS ?_|go_at_call 141;refine(bR4 g9 c9 ou (by omega) W _ _ hS).mono ?_;clear hS;rintro e w ⟨vn,rfl,hS⟩;(have hv:=hS.rowVal;obtain⟨na,nc,rfl⟩:=hv)|refine zbs hS ?_;clear hS;intro bS w hS|go_at_call 144;refine(ca4 [1,ot,oc,op] bS 4 (by simp) Hn.out W _ _ hS).mono ?_;clear hS;rintro e w ⟨vn,rfl,hS⟩;(have hv:=hS.rowVal;obtain⟨na,nc,rfl⟩:=hv)|(with_reducible apply Aj7 hS);rfl;rfl;rfl;rfl;exact esS;exact rsS;rfl;decide;exact g8;exact St.src (by decide) hS;(focus(rw[AS7,Nat.mul_one]));exact Be7 _;(focus(unfold maxLen;omega));(focus(omega));clear hS;intro v w hS;refine frS ?_);go_roundw
      case rel=>
       refine⟨j+1,rfl,hj1,?_⟩;rw[Hst.out];unfold P5;simp only[bp4,Bool.false_eq_true,if_true,if_false];have h0:St W (row v 1 5 (d.length+(j9 oi).length+(y8 ou).length+(l9 [1,ot,oc,op]).length) (u8s d++u8s (j9 oi)++u8s (y8 ou)++u8s (l9 [1,ot,oc,op]))::_) w:=hS;rw[<-AC7,<-AC7,<-AC7,jS d,jS d]at h0;have h2:=AR7 (by simp only[jA];omega) h0;exact h2.s _
      case measure=>simp[intOf];omega
  ·have hk1:k<hs.length:=by omega
   obtain⟨⟨g,rfl⟩,_,_⟩:=St.rowAddr hS.drop.drop.drop.drop (by omega);have hname:∀{K K':List HP},Take K (hdR (.S g hs.length hc) hs) K'->e8 K g (k*5) (.string hs[k].who):=fun hu=>d7.elemM (enc:=Hd.cells) Hd.len hu hk1 0 _ rfl
   have hitems:∀{K K':List HP},Take K (hdR (.S g hs.length hc) hs) K'->d7 K g (k*5+1) (hs[k].has.cells):=fun hu j v hj=>by have h1:=d7.elemM (enc:=Hd.cells) Hd.len hu hk1 (1+j) v (by rw[Nat.add_comm];exact hj);rwa [<-Nat.add_assoc]at h1
   have hst:=Bq7 af4 (j9 hs.length) hs hk1;have hmx:=Hhw.out _ (jW hk1);have hlt:=BY7 af4 (hs.take k) fun x hx=>EI7 x (Hhw.out x (List.mem_of_mem_take hx)).1
   rw[jT]at hlt;have hlk:=Ap7 hs.length;generalize hd:j9 hs.length++(hs.take k).flatMap af4=d at hS hst;have hdl:d.length<=70000100:=by rw[<-hd,jA];omega
   generalize hs[k]=x at hname hitems hst hmx;obtain⟨xw,⟨x0,x1,x2,x3⟩⟩:=x;obtain⟨w1,hit⟩:=hmx;simp only at w1 hname;have l4:=Cc7 xw w1;have l5:=Dw7 x0 x1 x2 x3;have Hst:=jH hst;have Hit:=jH hit;clear hst hit hd hlt hkn hkl;simp only[It.cells]at hitems;go_wp2_with(first|refine zl1 hS ?_ (hc:=by exact hname (by exact g8))|refine zlN hS ?_ (hc:=by exact hitems (by exact g8))|refine zl1 hS ?_|(with_reducible apply AB7 hS);rfl;rfl;rfl;exact Tryz.underlying9;exact Tryz.underlying63;exact Tryz.underlying5;clear hS;intro g9 c9 w hS;refine frS ?_|go_at_call 141;refine(bR4 g9 c9 xw (by omega) W _ _ hS).mono ?_;clear hS;rintro e w ⟨vn,rfl,hS⟩;(have hv:=hS.rowVal;obtain⟨na,nc,rfl⟩:=hv)|go_at_call 192;refine(fQ4 ⟨x0,x1,x2,x3⟩ Hit.out W _ _ hS).mono ?_;clear hS;rintro e w ⟨vn,rfl,hS⟩;(have hv:=hS.rowVal;obtain⟨na,nc,rfl⟩:=hv)|(with_reducible apply Aj7 hS);rfl;rfl;rfl;rfl;exact esS;exact rsS;rfl;decide;exact g8;exact St.src (by decide) hS;(focus(rw[AS7,Nat.mul_one]));exact Be7 _;(focus(unfold maxLen;omega));(focus(omega));clear hS;intro v w hS;refine frS ?_);go_roundw
   case rel=>
    refine⟨k+1,rfl,hk1,?_⟩;rw[Hst.out];unfold af4;have h0:St W (row v 1 5 (d.length+(y8 xw).length+(l9 [x0,x1,x2,x3]).length) (u8s d++u8s (y8 xw)++u8s (l9 [x0,x1,x2,x3]))::_) w:=hS;rw[<-AC7,<-AC7,jS d]at h0;have h2:=AR7 (by simp only[jA];omega) h0;exact h2.s _
   case measure=>simp[intOf];omega
def wrR(wb:Nat)(d:List Int):HP:=fun f=>∃v:Value,sats [blk wb [v] 119,byR v d] f
section
variable{W w:World}{wb:Nat}{d:List Int}{R:List HP}
theorem cV4(h:St W (wrR wb d::R) w):∃a c,St W (blk wb [.slice a d.length c] 119::byR (.slice a d.length c) d::R) w:=by obtain⟨v,h⟩:=St.ex h;have hS:=(St.split (St.split h).swap).swap.drop.swap;obtain⟨a,c,rfl⟩:=hS.drop.rowVal;exact⟨a,c,hS⟩
theorem cb4{v:Value}(h:St W (blk wb [v] 119::byR v d::R) w):St W (wrR wb d::R) w:=by refine St.mkEx v ?_;refine St.join ?_;refine St.swap (St.imp h.swap ?_);intro f hf;exact⟨fun _=>true,hf,trivial⟩
end
def WnR(W:World)(L:List HP)(wb:Nat)(d:List Int)(ns:List Int)(v:Value)(w:World):Prop:=
 ∃i:Nat,v=.I i/\i<=ns.length/\St W (wrR wb (d++(ns.take i).flatMap j9)::L) w
def WuR(W:World)(L:List HP)(wb:Nat)(t:List Int)(v:Value)(w:World):Prop:=
 ∃(f u:Nat) (d:List Int),v=.int .u64 u/\u<128^(f+1)/\u<=4611686018427387904/\d.length<=100000000+(8-f)/\f<=8/\d++aH4 f u=t/\St W (wrR wb d::L) w
theorem Rs7(wb:Nat)(d:List Int)(ns:List Int)(g off c:Nat)(hd:d.length<=90000000)(hl:ns.length<=100)(hn:∀x∈ns, -9223372036854775808<=x/\x<=9223372036854775807)(W w:World)(R:List HP)(hcell:∀i, ∀hi:i<ns.length,e8 R g (off+i) (.I ns[i]))(hS:St W (wrR wb d::R) w):
  Calls Tryz.prog 65 #[.P wb,.slice (some ⟨g,off,none⟩) ns.length c] w fun e w'=>e=.returned (.tuple #[])/\St W (wrR wb (d++ns.flatMap j9)::R) w':=by
 have Hcell:=jH hcell;clear hcell;have Hn:=jH hn;clear hn;go_enter Tryz.func65,Tryz.ntmps65;go_wp2_with(first|go_big_skip)
 go_loopw [11] (fun v wr=>WnR W R wb d ns v wr) (fun v _=>ns.length-(intOf v).toNat)
 case atStart=>exact⟨0,rfl,Nat.zero_le _,by simpa using hS⟩
 case round=>
  clear hS;obtain⟨i,rfl,hil,hS⟩:=hrel;by_cases hin:i=ns.length
  ·subst hin;rw[List.take_length]at hS;go_wp2_with(first|go_big_skip);go_end0;exact⟨rfl,hS⟩
  ·have hi1:i<ns.length:=by omega
   have hx:=Hcell.out i hi1;have hr:=Hn.out _ (jW hi1);have hst:d++(ns.take (i+1)).flatMap j9=d++(ns.take i).flatMap j9++j9 ns[i]:=by rw[List.take_succ_eq_append_getElem hi1,List.flatMap_append,jS];simp
   have hle:=KK7 (ns.take i);rw[jT]at hle;generalize hdd:d++(ns.take i).flatMap j9=dd at hS hst;have hdl:dd.length<=90000900:=by rw[<-hdd,jA];omega
   generalize ns[i]=x at hx hr hst;obtain⟨r1,r2⟩:=hr;have Hst:=jH hst;clear hst hin hil hdd hle;go_wp2_with(first|go_big_skip|refine zl1 hS ?_ (hc:=by exact e8.there hx))
   have eu:max 0 (min x 4611686018427387904)=((bh4 x:Nat):Int):=by
    unfold bh4
    repeat' split
    all_goals omega
   have hul:=Iu7 x;have hnb:j9 x=aH4 8 (bh4 x):=rfl;rw[hnb]at Hst;have Eu:=jH eu;clear eu hnb;generalize bh4 x=u0 at Eu hul Hst
   go_loopw [6] (fun v wr=>WuR W R wb (dd++aH4 8 u0) v wr) (fun v _=>(intOf v).toNat)
   case atStart=>exact⟨8,u0,dd,by rw[Eu.out],Fr7 hul,hul,by omega,by omega,rfl,hS⟩
   case round=>
    clear hS;obtain⟨f,u,d2,rfl,hu,hu2,hd2,hf,hE,hS⟩:=hrel;obtain⟨wa,wc,hS1⟩:=cV4 hS;clear hS;have hS:=hS1;clear hS1;by_cases h128:128<=u
    ·obtain⟨f,rfl⟩:∃f',f=f'+1:=by
      cases f with
      | zero=>simp at hu;omega
      | succ f=>exact⟨f,rfl⟩
     have hu3:u / 128<128^(f+1):=Nat.div_lt_of_lt_mul (by rw[Nat.pow_succ]at hu;omega);rw[aH4,if_pos h128]at hE;have Hu3:=jH hu3;have HE:=jH hE;clear hE hu hu3;go_wp2_with(first|go_big_skip|refine zl1 hS ?_|refine zbs hS ?_;clear hS;intro bS w hS|(with_reducible apply Aj7 hS);rfl;rfl;rfl;rfl;exact esS;exact rsS;rfl;decide;exact g8;exact Src.mk d7.whole;(focus(try rfl));rfl;(focus(unfold maxLen;omega));(focus(omega));clear hS;intro v w hS;(have hv:=hS.rowVal;obtain⟨va,vc,rfl⟩:=hv);refine frS ?_|refine zs1 hS ?_;clear hS;intro w hS);have hS1:=hS.s (row (.slice va (d2.length+1) vc) 1 _ _ _::blk wb _ _::R);have hb:=Oz7 u;have h0:St W (row (.slice va (d2.length+1) vc) 1 5 (d2.length+1) (u8s d2++[Value.int .u8 (bits .or .u8 ((u:Int)%256) 128)])::_) w:=hS1;rw[hb,<-CB7]at h0;have h2:=cb4 (AR7 (by rw[jA,List.length_singleton]) h0).swap;go_roundw
     case rel=>exact⟨f,u / 128,d2++[((u%128+128:Nat):Int)],by rw[Int.natCast_ediv];rfl,Hu3.out,by omega,by rw[jA,List.length_singleton];omega,by omega,by rw[jS];exact HE.out,h2⟩
     case measure=>simp[intOf];omega
    ·have hu4:u<128:=by omega
     rw[CS7 hu4]at hE;have HE:=jH hE;clear hE hu h128;go_wp2_with(first|go_big_skip|refine zl1 hS ?_|refine zbs hS ?_;clear hS;intro bS w hS|(with_reducible apply Aj7 hS);rfl;rfl;rfl;rfl;exact esS;exact rsS;rfl;decide;exact g8;exact Src.mk d7.whole;(focus(try rfl));rfl;(focus(unfold maxLen;omega));(focus(omega));clear hS;intro v w hS;(have hv:=hS.rowVal;obtain⟨va,vc,rfl⟩:=hv);refine frS ?_|refine zs1 hS ?_;clear hS;intro w hS);have hS1:=hS.s (row (.slice va (d2.length+1) vc) 1 _ _ _::blk wb _ _::R);have h0:St W (row (.slice va (d2.length+1) vc) 1 5 (d2.length+1) (u8s d2++[Value.int .u8 (u:Int)])::_) w:=hS1;rw[<-CB7]at h0;have h2:=cb4 (AR7 (by rw[jA,List.length_singleton]) h0).swap;rw[HE.out,<-Hst.out]at h2;go_roundw
     case rel=>exact⟨i+1,rfl,hi1,h2⟩
     case measure=>simp[intOf];omega
theorem OB7(wb:Nat)(d:List Int)(ns:List Int)(b c:Nat)(hd:d.length<=90000000)(hl:ns.length<=100)(hn:∀x∈ns, -9223372036854775808<=x/\x<=9223372036854775807)(W w:World)(R:List HP)(hS:St W (wrR wb d::blk b (ns.map (Value.int .i64)) 3::R) w):
  Calls Tryz.prog 65 #[.P wb,.S b ns.length c] w fun e w'=>e=.returned (.tuple #[])/\St W (wrR wb (d++ns.flatMap j9)::blk b (ns.map (Value.int .i64)) 3::R) w':=
 Rs7 wb d ns b 0 c hd hl hn W w _ (fun i hi=>e8.here (by rw[Nat.zero_add,List.getElem?_map,jG hi];rfl)) hS
end Go.Proofs.YtlmhakmoioogaaaGreat
end
section
namespace Go.Sl
open Go.RowKit
section
variable{P:Program}{ops:Array Oper}{Q:Exit->Act->World->Prop}{a:Act}{w:World}{rest:List Oper}{o:Oper}
theorem Sm7{t t2 e:TypeId}{x y:Operand}{a0:Addr}{n c:Nat}(ho:o.op=.binOp .eql t x y t2)(hg:Region.wanted o (yielded ops a.tmps)=true)(hx:a.eval x=.slice (some a0) n c)(hy:a.eval y=.slice none 0 0)(ht:P.underlying t=some (.slice e))
  (h:wpList P ops Q rest (a.put o.dst (.bool false)) w):wpList P ops Q (o::rest) a w:=by
 refine Ak7 hg (v:=.bool false) (w':=w) ?_ h;have h1:(binOp .eql t (.slice (some a0) n c) (.slice none 0 0)).run P w=.ok (.bool false) w:=Lib.run_eql_slice_nil w t e (some a0) n c 0 0 ht;unfold execOp;simp[ho,hx,hy,eqGuard,h1]
end
end Go.Sl
namespace Go.Proofs.YtlmhakmoioogaaaGreat
open Go.RowKit Go.Sl
theorem fR4(wb:Nat)(d:List Int)(s:ByteArray)(g c:Nat)(hd:d.length<=90001000)(hs:s.size<=1000000)(W w:World)(R:List HP)(hS:St W (wrR wb d::sbR g s::R) w):
  Calls Tryz.prog 132 #[.P wb,.S g s.size c] w fun e w'=>e=.returned (.tuple #[])/\St W (wrR wb (d++y7 s)::sbR g s::R) w':=by
 obtain⟨wa,wc,hS1⟩:=cV4 hS;clear hS;have hS:=hS1;clear hS1;go_enter Tryz.func132,Tryz.ntmps132;go_wp2_with(first|refine zl1 hS ?_|(with_reducible apply Aj7 hS);rfl;rfl;rfl;rfl;exact esS;exact rsS;rfl;decide;exact g8;exact Src.mk (d7.there (d7.there d7.sb));(focus(rw[jM,AF7,Nat.mul_one]));exact Be7 _;(focus(unfold maxLen;omega));(focus(omega));clear hS;intro v w hS;(have hv:=hS.rowVal;obtain⟨va,vc,rfl⟩:=hv);refine frS ?_|refine zs1 hS ?_;clear hS;intro w hS);go_end0;have hS1:=hS.s (row (.slice va (d.length+s.size) vc) 1 _ _ _::blk wb _ _::sbR g s::R);have h0:St W (row (.slice va (d.length+s.size) vc) 1 5 (d.length+s.size) (u8s d++u8s (y7 s))::_) w:=hS1;rw[<-AC7]at h0;exact⟨rfl,cb4 (AR7 (by rw[jA,AF7]) h0).swap⟩
def WbR(W:World)(F:List Int->List HP)(d:List Int)(s:ByteArray)(v:Value)(w:World):Prop:=
 (v=.I 0/\St W (F d) w)\/(v=.I 1/\St W (F (d++y8 s)) w)
theorem KL7(wb:Nat)(d:List Int)(s:ByteArray)(b g c c1:Nat)(hd:d.length<=90000000)(hs:s.size<=1000000)(W w:World)(R:List HP)(hS:St W (wrR wb d::blk b [.S g s.size c] 63::sbR g s::R) w):
  Calls Tryz.prog 66 #[.P wb,.S b 1 c1] w fun e w'=>e=.returned (.tuple #[])/\St W (wrR wb (d++y8 s)::blk b [.S g s.size c] 63::sbR g s::R) w':=by
 have hln:=Ap7 s.size;go_enter Tryz.func66,Tryz.ntmps66;go_wp2_with(fail)
 go_loopw [8] (fun v wr=>WbR W (fun q=>wrR wb q::blk b [.S g s.size c] 63::sbR g s::R) d s v wr) (fun v _=>1-(intOf v).toNat)
 case atStart=>exact .inl ⟨rfl,hS⟩
 case round=>
  clear hS
  rcases hrel with ⟨rfl,hS⟩|⟨rfl,hS⟩
  ·have hn:∀x∈[(s.size:Int)], -9223372036854775808<=x/\x<=9223372036854775807:=by
    intro x hx;rw[List.mem_singleton.1 hx];exact⟨by omega,by omega⟩
   have Hn:=jH hn;clear hn;have hdl:(d++[(s.size:Int)].flatMap j9).length<=90001000:=by rw[jA];simp;omega
   have e:d++[(s.size:Int)].flatMap j9++y7 s=d++y8 s:=by unfold y8;rw[jS];simp
   have Hdl:=jH hdl;have E:=jH e;clear hdl e;go_wp2_with(first|refine zl1 hS ?_|refine zbs hS ?_;clear hS;intro bS w hS|go_at_call 65;refine(OB7 wb d [(s.size:Int)] bS 1 hd (by simp) Hn.out W _ _ (hS.s (wrR wb d::blk bS _ _::blk b _ _::sbR g s::R))).mono ?_;clear hS;rintro e w ⟨rfl,hS⟩|go_at_call 132;refine(fR4 wb _ s g c Hdl.out hs W _ _ (hS.s (wrR wb _::sbR g s::blk b _ _::R))).mono ?_;clear hS;rw[E.out];rintro e w ⟨rfl,hS⟩);go_roundw
   case rel=>exact .inr ⟨rfl,hS.s _⟩
   case measure=>simp[intOf]
  ·go_wp2_with(fail);go_end0;exact⟨rfl,hS⟩
theorem Sn7(d:List Int)(g c:Nat)(hd:d.length<=100000000)(W w:World)(R:List HP)(hS:St W (byR (.S g d.length c) d::R) w):
  Calls Tryz.prog 138 #[.S g d.length c] w fun e w'=>∃v,e=.returned v/\St W (byR v d::byR (.S g d.length c) d::R) w':=by
 go_enter Tryz.func138,Tryz.ntmps138;go_wp2_with(first|(with_reducible apply Sm7);rfl;rfl;rfl;rfl;exact Tryz.underlying63;refine frS ?_|(with_reducible apply Ct7 (n:=0) hS);rfl;rfl;(focus(simp only[fD,fI,fJ,Act.eval,fE,fF,fG,fH,fK];try rfl));exact esS;exact rsS;rfl;rfl;rfl;rfl;rfl;decide;clear hS;intro bv w hS;refine frS ?_|(with_reducible apply Aj7 hS);rfl;rfl;rfl;rfl;exact esS;exact rsS;rfl;decide;exact g8;exact(St.src (by decide) hS.drop).there;(focus(rw[AS7,Nat.mul_one]));exact Be7 _;(focus(unfold maxLen;omega));(focus(omega));clear hS;intro v w hS;(have hv:=hS.rowVal;obtain⟨va,vc,rfl⟩:=hv);refine frS ?_);go_ret;refine⟨_,rfl,?_⟩;have h0:St W (row (.slice va (0+d.length) vc) 1 5 (0+d.length) (u8s ([]++d))::_) w:=hS;have h2:=AR7 (by rw[jN,Nat.zero_add]) h0;rw[jN]at h2;exact h2
theorem en4(wb:Nat)(d:List Int)(hd:d.length<=100000000)(h0:0<d.length)(W w:World)(R:List HP)(hS:St W (wrR wb d::R) w):
  Calls Tryz.prog 72 #[.P wb] w fun e w'=>∃v,e=.returned v/\St W (byR v d::wrR wb d::R) w':=by
 obtain⟨wa,wc,hS1⟩:=cV4 hS;clear hS;have hS:=hS1;clear hS1;obtain⟨⟨g,rfl⟩,_,_⟩:=St.rowAddr hS.drop (by omega);go_enter Tryz.func72,Tryz.ntmps72;go_wp2_with(first|refine zl1 hS ?_|go_at_call 138;refine(Sn7 d g wc hd W _ _ hS.swap).mono ?_;clear hS;rintro e w ⟨v,rfl,hS⟩);go_ret;have hS1:=hS.s (blk wb _ _::byR (.S g d.length wc) d::byR v d::R);exact⟨v,rfl,(cb4 hS1).swap⟩
end Go.Proofs.YtlmhakmoioogaaaGreat
end
