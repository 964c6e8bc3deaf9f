/-
  The program's Total of an economy.
-/
import Derived.Test.YtienbkdjkjbelaaGreatJuTM5
import Derived.Test.YtienbkdjkjbelaaGreatJuTM23
import Derived.Test.YtienbkdjkjbelaaGreatJuTM28
import Derived.Test.YtienbkdjkjbelaaGreatJuTM29
import Derived.Test.YtienbkdjkjbelaaGreatJuTM34
import Derived.Test.YtienbkdjkjbelaaGreatJuTM35
import Derived.Test.YtienbkdjkjbelaaGreatJuTM40
import Derived.Test.YtienbkdjkjbelaaGreatJuTM41
import Derived.Test.YtienbkdjkjbelaaGreatProg
import Derived.Shelf.Sort.Plain
import Derived.Ground.NamesProg
import Derived.Laws.Bits64b
import Derived.Laws.IdiomStrings
import Derived.Lib.SliceRun
import Derived.Shelf.SlIter.Nil
import Derived.Shelf.SlIterI.Nil
import Derived.Shelf.SortM.Plain
import Derived.Shelf.SortM.SortNone
import Derived.Ground.GgzProg
import Derived.Ground.SlgmProg
set_option maxHeartbeats 16000000
set_option maxRecDepth 100000
set_option linter.unusedSimpArgs false
set_option linter.unusedVariables false
section
namespace Go.Proofs.YtienbkdjkjbelaaGreat
open Go.RowKit Go.Sl
def TeR(W:World)(R:List HP)(E:Ev)(m1 r:Nat)(v4:Value)(w:World):Prop:=
 ∃done todo:List (ByteArray×Nat),(done++todo).Perm (j9 E)/\St W (L5 v4 (done.map fun y=>ai4 (vAt E y.1))::itR eS eN r m1 (j9 E) todo::l9 E::R) w
theorem OJ7{eb:Nat}{e:Ec}{i:Nat}(hE:EOk e i)(hi:i<=1000000)(hl:e.vs.length<=1000000)(hv:∀x∈e.vs,B5 (bQ4 x.2) it0=some (ai4 x.2)){t0 t1 t2 t3:Int}(ht:∀l:List It,l.Perm (e.vs.map fun x=>ai4 x.2)->B5 l it0=some ⟨t0,t1,t2,t3⟩)(W w:World)(R:List HP)(hS:St W (ecP eb e::R) w):
  Calls Tryz.prog 28 #[.P eb] w fun x w'=>x=.returned (.tuple #[.agg #[.I t0,.I t1,.I t2,.I t3],.bool true])/\St W (ecP eb e::R) w':=by
 obtain⟨m1,m2,m3,m4,E,hp,hn,hS0⟩:=ca4 hS;have hS1:=G8 hS0;clear hS hS0;have hEl:(j9 E).length<=1000000:=by have h1:=hp.length_eq;unfold k9 at h1;unfold j9;rw[jM]at h1 ⊢;omega
 have hm:∀(y:ByteArray×Nat) (todo':List (ByteArray×Nat)) {done todo:List (ByteArray×Nat)},(done++todo).Perm (j9 E)->todo.Perm (y::todo')->∃V,E.Perm ((y.1,(y.2,V))::i9 E y.1)/\vAt E y.1=V/\PsW V.ps (100*i)/\B5 (bQ4 ⟨V.ps,V.L,V.n⟩) it0=some ⟨F6 V 0,F6 V 1,F6 V 2,F6 V 3⟩:=by intro y todo' done todo h1 h2;have h3:y∈j9 E:=h1.mem_iff.1 (List.mem_append_right _ (h2.mem_iff.2 (List.mem_cons_self ..)));obtain⟨x,hx,rfl⟩:=List.mem_map.1 h3;have h4:j6 E x.1=some x.2:=Cr7 hn hx;have h5:(x.1,x.2.2)∈e.vs:=hp.mem_iff.1 (List.mem_map.2 ⟨x,hx,rfl⟩);refine⟨x.2.2,Bq7 hn h4,?_,(hE _ h5).w,hv _ h5⟩;unfold vAt;rw[h4];rfl
 have hend:∀done:List (ByteArray×Nat),done.Perm (j9 E)->B5 (done.map fun y=>ai4 (vAt E y.1)) it0=some ⟨t0,t1,t2,t3⟩:=by
  intro done h1;refine ht _ ((h1.map _).trans ?_);refine List.Perm.trans ?_ (hp.map _);unfold j9 k9;rw[List.map_map,List.map_map];refine List.Perm.of_eq (List.map_congr_left fun x hx=>?_);show ai4 (vAt E x.1)=ai4 x.2.2
  unfold vAt;rw[Cr7 (v:=x.2) hn hx];rfl
 have Hend:=jH hend;have Hp:=jH hp;clear hend hp hv ht hE;have hS:=hS1;clear hS1;go_enter Tryz.func28,Tryz.ntmps28;go_wp2_with(first|(fail_if_success (have:=gA));(refine zal hS ?_;clear hS;have gA:Nat:=0;intro b0 w hS)|refine zl1 hS ?_|(with_reducible apply Lx7 (ek:=eS) (ev:=eN) hS);rfl;rfl;rfl;exact mV;exact i7;clear hS;intro r w hS;refine frS ?_);have hS1:=hS.rowNil (k:=4) (T:=34);clear hS;have hS:=hS1;clear hS1
 go_loopw [4] (fun v4 wr=>TeR W (blk eb [.map (some m1),.map (some m2),.map (some m3),.map (some m4)] 112::blk b0 [.I 0,.I 0,.I 0,.I 0] 34::d9 eI eSs m2 e.ss::d9 eW eTn m3 e.ts::d9 eW eU m4 e.ar::R) E m1 r v4 wr) (fun _ wr=>cL4 r m1 wr)
 case atStart=>
  refine⟨[],j9 E,List.Perm.refl _,?_⟩;have h0:St W (L5 (.slice none 0 0) ([]:List It)::_) _:=hS;show St W (L5 (.slice none 0 0) ([]:List It)::_) _
  exact h0.s _
 case round=>
  clear hS;obtain⟨done,todo,hdt,hS⟩:=hrel;have hm1:=Dk7 hS.drop;have hdl:done.length<=1000000:=by have:=hdt.length_eq;rw[jA]at this;omega
  by_cases ht:todo=[]
  ·have hall:=Hend.out done (by rw[ht,List.append_nil]at hdt;exact hdt);have Hall:=jH hall;clear hall hdt hm1 hm;generalize (done.map fun y=>ai4 (vAt E y.1))=acc at hS Hall;go_wp2_with(first|(with_reducible apply Lz7 (ek:=eS) (ev:=eN) hS);rfl;rfl;rfl;exact i7;exact ht;refine frS ?_|go_at_call 32;refine(Go7 Hall.out _ W _ _ hS).mono ?_;clear hS;rintro ex w ⟨rfl,hS⟩|refine zsN hS ?_;clear hS;intro w hS);apply Ac7;rfl;rfl;rfl;rfl;exact hS;decide +kernel;(exact r6);kernel_rfl;have h1:=ez4 (hS.s (itR eS eN r m1 (j9 E) todo::l9 E::blk eb _ _::d9 eI eSs m2 e.ss::d9 eW eTn m3 e.ts::d9 eW eU m4 e.ar::R));exact⟨rfl,bu4 Hp.out (h1.s _)⟩
  ·have hm':∀(y:ByteArray×Nat) (todo':List (ByteArray×Nat)),todo.Perm (y::todo')->∃V,E.Perm ((y.1,(y.2,V))::i9 E y.1)/\vAt E y.1=V/\PsW V.ps (100*i)/\B5 (bQ4 ⟨V.ps,V.L,V.n⟩) it0=some ⟨F6 V 0,F6 V 1,F6 V 2,F6 V 3⟩:=fun y todo' h=>hm y todo' hdt h
   have hnx:∀(y:ByteArray×Nat) (todo':List (ByteArray×Nat)),todo.Perm (y::todo')->(done++[y]++todo').Perm (j9 E):=fun y todo' h=>by rw[jS];exact(List.Perm.append_left done h.symm).trans hdt
   have Hm:=jH hm';have Hnx:=jH hnx;have Hm1:=jH hm1;clear hm hm' hnx hdt hm1;obtain⟨accj,hacc⟩:∃l,(done.map fun y=>ai4 (vAt E y.1))=l:=⟨_,rfl⟩
   have hal:accj.length<=1000000:=by rw[<-hacc,jM];exact hdl
   rw[hacc]at hS;have Hacc:=jH hacc;clear hacc;go_wp2_with(first|(with_reducible apply LA7 (ek:=eS) (ev:=eN) hS);rfl;rfl;rfl;exact i7;exact ht;clear hS;intro y todo' hy1 hy2 w hS;obtain⟨yk,yb⟩:=y;have Hy:=jH hy1;clear hy1 hy2;refine frS ?_|(with_reducible apply Ly7 (ek:=eS) (ev:=eN) hS);rfl;rfl;rfl;exact i7;clear hS;intro hS;refine frS ?_|go_at_call 73;obtain⟨V,hp,hv,hw,hadd⟩:=Hm.out (yk,yb) todo' Hy.out;have h1:=cr4 (bi4 hp (hS.s (l9 E::itR eS eN r m1 (j9 E) todo'::L5 _ accj::blk eb _ _::blk b0 _ _::d9 eI eSs m2 e.ss::d9 eW eTn m3 e.ts::d9 eW eU m4 e.ar::R)));obtain⟨mb,bb,h2⟩:=bz4 h1;clear hS h1;refine(IQ7 yb mb bb V.ps V.L V.n hw (by omega) hadd W _ _ h2).mono ?_;clear h2;rintro ex w ⟨rfl,h3⟩;have hS:=bi4 hp.symm (cs4 (x:=(yk,(yb,V))) (aI4 h3));have Hv:=jH hv;clear h3 hp hv hw hadd|(have:=gA);refine zal hS ?_;clear hS;intro bt w hS|refine zsN hS ?_;clear hS;intro w hS|refine zlN hS ?_|refine zbs hS ?_;clear hS;intro bS w hS|refine zap hS ?_ (h63:=by unfold maxLen;omega) (hb:=by omega);clear hS;intro v w hS);go_roundw
   case rel=>
    refine⟨done++[(yk,yb)],todo',Hnx.out _ _ Hy.out,?_⟩;rw[List.map_append,Hacc.out];show St W (L5 _ (accj++[ai4 (vAt E yk)])::_) w
    rw[Hv.out];unfold L5;rw[CP7,jA,List.length_singleton];have h0:St W (row v 4 34 (accj.length+1) (accj.flatMap It.cells++It.cells (ai4 V))::_) w:=hS;exact h0.s _
   case measure=>
    have h3:=Dk7 (hS.take (by exact i7));have h4:=Hy.out.length_eq;rw[jC]at h4;have h5:=Hm1.out;omega
def P7(k:Int):List (ByteArray×Vs)->Int
 | []=>0
 | x::l=>F6 x.2 k+P7 k l
def K6(e:Ec)(k:Int):Int:=P7 k e.vs
theorem KS7{l l':List (ByteArray×Vs)}(h:l.Perm l')(k:Int):P7 k l=P7 k l':=by
 induction h with
 | nil=>rfl
 | cons x _ ih=>rw[P7,P7,ih]
 | swap x y l=>rw[P7,P7,P7,P7];omega
 | trans _ _ h1 h2=>rw[h1,h2]
theorem IT7(k:Int):F6 vs0 k=0:=rfl
theorem MY7{l:List (ByteArray×Vs)}(hn:(l.map (·.1)).Nodup)(u:ByteArray)(k:Int):P7 k l=F6 ((j6 l u).getD vs0) k+P7 k (i9 l u):=by
 cases hg:j6 l u with
 | none=>rw[By7 (Bz7 hg)];show _=F6 vs0 k+_;rw[IT7];omega
 | some V=>rw[KS7 (Bq7 hn hg) k];rfl
theorem OK7{e:Ec}(hn:(e.vs.map (·.1)).Nodup)(u:ByteArray)(V:Vs)(k:Int):P7 k (bf4 e u V).vs=K6 e k-F6 (atV e u) k+F6 V k:=by
 have h:=MY7 hn u k;unfold K6;rw[h];unfold atV;show P7 k (if A5 V=true then i9 e.vs u else(u,V)::i9 e.vs u)=_
 split
 ·rename_i hv
  rw[Gz7 hv,IT7];omega
 ·show F6 V k+P7 k (i9 e.vs u)=_
  omega
def bm4(e:Ec):Prop:=∀x∈e.vs,(∀o∈x.2.L,MayP o)/\x.2.L.length<=32
theorem ed4{p:Ps}{n:Int}{i:Nat}(h:VOk p n i):PsK p:=⟨h.w.nd,h.ok⟩
theorem Rq7{V:Vs}(hp:PsK V.ps)(hL:∀x∈V.L,MayP x)(k:Int):0<=F6 V k:=by have h1:=hp.pos k;have h2:=EO7 hL k;unfold F6;omega
theorem JV7{k:Int}:∀{l:List (ByteArray×Vs)},(∀x∈l,0<=F6 x.2 k)->0<=P7 k l
 | [],_=>Int.le_refl _
 | x::l,h=>by
  have h1:=h x (List.mem_cons_self ..);have h2:=JV7 fun y hy=>h y (List.mem_cons_of_mem x hy)
  rw[P7];omega
theorem ER7{k:Int}:∀{l:List (ByteArray×Vs)},(∀x∈l,0<=F6 x.2 k)->∀x∈l,F6 x.2 k<=P7 k l
 | [],_,_,hx=>by cases hx
 | y::l,h,x,hx=>by
  have h1:=h y (List.mem_cons_self ..);have h2:=JV7 fun y hy=>h y (List.mem_cons_of_mem _ hy)
  rw[P7]
  rcases List.mem_cons.1 hx with rfl|hx
  ·omega
  ·have:=ER7 (fun y hy=>h y (List.mem_cons_of_mem _ hy)) x hx;omega
theorem EOk.nn{e:Ec}{n:Nat}(h:EOk e n)(he:bm4 e)(k:Int):∀x∈e.vs,0<=F6 x.2 k:=fun x hx=>Rq7 (ed4 (h x hx)) (he x hx).1 k
def ck4(o:Opn)(r:Rpl)(b:Bool)(k:Int):Int:=
 if b=true/\r.err=0 then(if o.kind=1\/o.kind=6 then(if k=o.item then o.cnt else 0)else if o.kind=2 then -(if k=o.item then o.cnt else 0)else 0)else 0
theorem DP7{it ct k:Int}(hi:Kx it)(hk:Kx k):r7 (p8 it ct) k=if k=it then ct else 0:=by unfold p8;rw[GE7 it0 hi hk,Bs7]
section
variable{e:Ec}{o:Opn}{n:Nat}
theorem Gf7(hm:w6 o=true)(h:o.kind=1\/o.kind=2\/o.kind=6):Kx o.item/\1<=o.cnt/\o.cnt<=1048576/\C6 o.aw=true:=by
 unfold w6 G5 az4 at hm;simp only[jB]at hm;obtain⟨⟨_,_,_,_,_,hw⟩,hk⟩:=hm
 have hc:H5 o=true:=by
  unfold J6 at hk
  rcases h with h|h|h
  ·rw[if_pos h]at hk;unfold s7 at hk;simp only[jB]at hk;exact hk.1
  ·rw[if_neg (by omega),if_pos h]at hk;unfold M6 at hk;simp only[jB]at hk;exact hk.2.1
  ·rw[if_neg (by omega),if_neg (by omega),if_neg (by omega),if_neg (by omega),if_neg (by omega),if_pos h]at hk;unfold s7 at hk;simp only[jB]at hk;exact hk.1
 obtain⟨h0,h4,c0,c1⟩:=Cx7 hc;exact⟨⟨h0,by omega⟩,c0,c1,hw⟩
theorem Rr7{it ct:Int}(hi:Kx it)(h0:0<=ct)(h1:ct<=1048576):s6 (p8 it ct)=true:=IP7 fun k hk=>by rw[DP7 hi hk];split <;> omega
theorem Qz7{p:Ps}{u:ByteArray}{it ct:Int}(hp:PsK p)(hu:C6 u=true)(hi:Kx it)(h0:0<=ct)(h1:ct<=1048576)(hb:∀k,Kx k->I5 k p<=1000000000000):J8 p u (p8 it ct)=0:=by
 have h3:=Rr7 hi h0 h1;have h4:=hp.ok u
 have h2:(B5 [j8 p u,p8 it ct] it0).isSome=true:=by
  rw[EP7 [j8 p u,p8 it ct] (s:=it0) (t:=M5 (j8 p u) (p8 it ct)) (fun i hi=>by
   rcases List.mem_cons.1 hi with rfl|hi
   ·exact h4
   ·rw[List.mem_singleton.1 hi];exact h3) GF7 (fun k hk=>by
    rw[CO7,Bs7];simp[aa4]) (fun k hk=>by
    rw[CO7,DP7 hi hk];have:=hp.le u k;have:=hb k hk;split <;> omega)]
  rfl
 unfold J8;rw[if_pos ⟨hu,h3⟩,if_pos h2]
theorem QA7(hn:(e.vs.map (·.1)).Nodup)(hE:EOk e n)(he:bm4 e)(he2:bm4 (B6 e o).2.2)(hb:∀k,Kx k->K6 e k<=500000000){k:Int}(hk:Kx k):
  K6 (B6 e o).2.2 k=K6 e k+ck4 o (B6 e o).1 (B6 e o).2.1 k:=by
 cases hp:G7 e o with
 | mk r b=>
 cases b with
 | true=>
  rw[CM7 hp];unfold ck4;rw[if_neg (by simp)];show K6 e k=K6 e k+0
  omega
 | false=>
  obtain⟨rfl,hm⟩:=Br7 hp;rw[CN7 hp]at he2 ⊢;dsimp only at he2 ⊢;obtain⟨V,hV⟩:∃V,atV e o.ak=V:=⟨_,rfl⟩
  rw[hV]at he2 ⊢
  have hVf:PsK V.ps/\(∀x∈V.L,MayP x)/\∀k,Kx k->F6 V k<=500000000:=by
   rw[<-hV];unfold atV
   cases hg:j6 e.vs o.ak with
   | none=>exact⟨⟨List.nodup_nil,EG7⟩,fun x hx=>(by cases hx),fun k _=>by show F6 vs0 k<=_;rw[IT7];omega⟩
   | some U=>
    have hu:=AE7 hg;exact⟨ed4 (hE _ hu),(he _ hu).1,fun k hk=>Int.le_trans (ER7 (hE.nn he k) _ hu) (hb k hk)⟩
  obtain⟨hpk,hmay,hvb⟩:=hVf;have hset:K6 ⟨(bf4 e o.ak (doV V o).2).vs,doS e o (doV V o).1,doT e o (doV V o).1,doA e o⟩ k=K6 e k-F6 V k+F6 (doV V o).2 k:=by have:=OK7 hn o.ak (doV V o).2 k;rw[hV]at this;exact this
  rw[hset]
  have hL2:∀x∈(doV V o).2.L,MayP x:=by
   by_cases hz:A5 (doV V o).2=true
   ·rw[Gz7 hz];exact fun x hx=>(by cases hx)
   ·refine(he2 (o.ak,(doV V o).2) ?_).1;show _∈(if A5 (doV V o).2=true then i9 e.vs o.ak else(o.ak,(doV V o).2)::i9 e.vs o.ak)
    rw[if_neg hz];exact List.mem_cons_self ..
  have hwl:∀k,Kx k->I5 k V.ps<=500000000:=fun k hk=>by have h1:=hvb k hk;have h2:=EO7 hmay k;unfold F6 at h1;omega
  have hgoal:F6 (doV V o).2 k=F6 V k+ck4 o (doV V o).1 true k:=by
   by_cases h1:o.kind=1
   ·obtain⟨hi,c0,c1,hw⟩:=Gf7 hm (.inl h1);have e1:doV V o=(⟨J8 V.ps o.aw (p8 o.item o.cnt),0,it0⟩, { V with ps:=F8 V.ps o.aw (p8 o.item o.cnt) }):=by unfold doV;rw[if_pos h1]
    rw[e1];have h2:=(HQ7 (V:=V) (k:=o.aw) (i:=p8 o.item o.cnt) hpk k).1;dsimp only at h2 ⊢;rw[h2,DP7 hi hk];unfold ck4;simp[h1]
   by_cases h2:o.kind=2
   ·obtain⟨hi,c0,c1,hw⟩:=Gf7 hm (.inr (.inl h2));have e1:doV V o=(⟨p9 V.ps o.aw (p8 o.item o.cnt),0,it0⟩, { V with ps:=r8 V.ps o.aw (p8 o.item o.cnt) }):=by unfold doV;rw[if_neg h1,if_pos h2]
    rw[e1];have h3:=(KL7 (V:=V) (k:=o.aw) (i:=p8 o.item o.cnt) hpk k).1;dsimp only at h3 ⊢;rw[h3,DP7 hi hk];unfold ck4;simp[h2];split <;> omega
   by_cases h3:o.kind=3
   ·have e1:doV V o=(⟨(x8 V (P6 o)).2.1,(x8 V (P6 o)).1,it0⟩,(x8 V (P6 o)).2.2):=by unfold doV;rw[if_neg h1,if_neg h2,if_pos h3]
    rw[e1]at hL2 ⊢;have h4:=KJ7 (o:=P6 o) hpk hmay hL2 (fun k hk=>by have:=hvb k hk;omega) hk;dsimp only at h4 ⊢;rw[h4];unfold ck4;simp[h3]
   by_cases h4:o.kind=4
   ·have e1:doV V o=(⟨(B8 V o.aw o.id).1,0,it0⟩,(B8 V o.aw o.id).2):=by unfold doV;rw[if_neg h1,if_neg h2,if_neg h3,if_pos h4]
    rw[e1];have h5:=KK7 (V:=V) (who:=o.aw) (id:=o.id) hpk hmay (fun k hk=>by have:=hvb k hk;omega) hk;dsimp only at h5 ⊢;rw[h5];unfold ck4;simp[h4]
   by_cases h6:o.kind=6
   ·obtain⟨hi,c0,c1,hw⟩:=Gf7 hm (.inr (.inr h6));have e1:doV V o=(rp0, { V with ps:=F8 V.ps o.aw (p8 o.item o.cnt) }):=by unfold doV;rw[if_neg h1,if_neg h2,if_neg h3,if_neg h4,if_neg (by omega),if_pos h6]
    rw[e1];have h7:=(HQ7 (V:=V) (k:=o.aw) (i:=p8 o.item o.cnt) hpk k).1;rw[if_pos (Qz7 hpk hw hi (by omega) c1 (fun k hk=>by have:=hwl k hk;omega)),DP7 hi hk]at h7;dsimp only at h7 ⊢;rw[h7];unfold ck4;simp[h6]
   ·have e1:(doV V o).2=V:=by
     unfold doV;rw[if_neg h1,if_neg h2,if_neg h3,if_neg h4]
     repeat' split
     all_goals first|rfl|exact absurd ‹_› h6
    rw[e1];unfold ck4;rw[if_neg (show ¬(o.kind=1\/o.kind=6)by omega),if_neg h2];split <;> omega
  rw[hgoal];omega
theorem QB7(hm:w6 o=true)(r:Rpl)(b:Bool)(k:Int):ck4 o r b k<=1048576:=by
 unfold ck4;split
 ·split
  ·rename_i h
   have:=Gf7 hm (by omega);split <;> omega
  ·split
   ·rename_i h
    have:=Gf7 hm (.inr (.inl h));split <;> omega
   ·omega
 ·omega
theorem Rs7(r:Rpl)(k:Int):ck4 o r (B6 e o).2.1 k<=1048576:=by
 cases hp:G7 e o with
 | mk r2 c=>
 cases c with
 | true=>
  rw[CM7 hp];unfold ck4;rw[if_neg (by simp)];omega
 | false=>exact QB7 (Br7 hp).2 _ _ _
end
theorem Pz7{e:Ec}{n:Nat}(hE:EOk e n)(he:bm4 e)(hb:∀k,Kx k->K6 e k<=500000000):∀x∈e.vs,B5 (bQ4 x.2) it0=some (ai4 x.2):=fun x hx=>
 Qr7 (ed4 (hE x hx)) (he x hx).1 fun k hk=>by have h1:=ER7 (hE.nn he k) x hx;have h2:=hb k hk;unfold K6 at h2;omega
theorem JW7{k:Int}(hk:Kx k):∀l:List (ByteArray×Vs),aa4 k (l.map fun x=>ai4 x.2)=P7 k l
 | []=>rfl
 | x::l=>by
  have ih:=JW7 hk l;show r7 (ai4 x.2) k+aa4 k (l.map fun x=>ai4 x.2)=_
  rw[ih,EQ7 _ hk];rfl
theorem HX7(f:Int->Int){k:Int}(hk:Kx k):r7 ⟨f 0,f 1,f 2,f 3⟩ k=f k:=by
 obtain⟨h0,h3⟩:=hk;have h:k=0\/k=1\/k=2\/k=3:=by omega
 rcases h with rfl|rfl|rfl|rfl <;> rfl
theorem PA7{e:Ec}{n:Nat}(hE:EOk e n)(he:bm4 e)(hb:∀k,Kx k->K6 e k<=500000000):∀l:List It,l.Perm (e.vs.map fun x=>ai4 x.2)->B5 l it0=some ⟨K6 e 0,K6 e 1,K6 e 2,K6 e 3⟩:=fun l hl=>by
 refine EP7 l ?_ GF7 (fun k hk=>?_) (fun k hk=>?_)
 ·intro i hi;obtain⟨x,hx,rfl⟩:=List.mem_map.1 (hl.mem_iff.1 hi);refine IP7 fun k hk=>?_
  have h1:=ER7 (hE.nn he k) x hx;have h2:=hb k hk;have h3:=hE.nn he k x hx;unfold K6 at h2;rw[EQ7 _ hk];omega
 ·rw[HX7 (K6 e) hk,Bs7,HR7 hl,JW7 hk];show K6 e k=0+K6 e k
  omega
 ·rw[HX7 (K6 e) hk];have:=hb k hk;omega
theorem gH4{W w:World}{R:List HP}{xb:Nat}(h:St W (xeB xb (.slice none 0 0) (.slice none 0 0) (.slice none 0 0) (.slice none 0 0)::R) w):St W (s8 xb ec0::R) w:=by have h1:=h.rowNil (k:=2) (T:=144);have h2:=h1.rowNil (k:=8) (T:=97);have h3:=h2.rowNil (k:=8) (T:=141);have h4:St W (sats []::_) w:=St.shutS [] h3;have h5:=h4.rowNil (k:=2) (T:=137);have h6:St W (xrP (.slice none 0 0) []::A7 []::xsP (.slice none 0 0) []::xtP (.slice none 0 0) []::xmP (.slice none 0 0) []::xeB xb (.slice none 0 0) (.slice none 0 0) (.slice none 0 0) (.slice none 0 0)::R) w:=h5;exact bk4 (D:=[]) (d:=ec0) rfl (h6.s _)
abbrev gI4(b:Nat)(s0 s1 s2 s3:Int):HP:=blk b [.I s0,.I s1,.I s2,.I s3] 33
def TlR(W:World)(Lr:List HP)(eb xb sb:Nat)(xs:List Opn)(v:Value)(w:World):Prop:=
 ∃i:Nat,v=.I i/\i<=xs.length/\GOk (D6 (xs.take i) ec0) (l6 (xs.take i) ec0) i/\(∀k,Kx k->K6 (l6 (xs.take i) ec0) k<=i*1048576) /\
  St W (ecP eb (l6 (xs.take i) ec0)::s8 xb (D6 (xs.take i) ec0)::gI4 sb (K6 (l6 (xs.take i) ec0) 0) (K6 (l6 (xs.take i) ec0) 1) (K6 (l6 (xs.take i) ec0) 2) (K6 (l6 (xs.take i) ec0) 3)::Lr) w
end Go.Proofs.YtienbkdjkjbelaaGreat
end
section
namespace Go.Proofs.YtienbkdjkjbelaaGreat
open Go.Shelf
def Tryz.sortInts_ren:Go.Shelf.Ren:=⟨fun|189=>85|125=>127|257=>126|128=>171|129=>172|294=>162|295=>163|296=>164|297=>165|298=>166|299=>167|216=>168|300=>169|301=>170|328=>207|329=>208|330=>209|331=>210|332=>211|215=>130|343=>230|n=>n,fun|28=>115|3=>3|46=>163|0=>0|51=>265|53=>162|4=>4|183=>259|182=>258|131=>188|5=>5|9=>9|218=>296|222=>300|228=>317|229=>196|n=>n,fun|n=>n⟩
end Go.Proofs.YtienbkdjkjbelaaGreat
end
section
namespace Go.Proofs.YtienbkdjkjbelaaGreat
open Go.Shelf Go.RowKit Go.Lib Go.Sort Go.Sl
abbrev eZ(z:Int):Value:=.I z
def KzR{ν:Type}(W:World)(ev:ν->Value)(X:List Int->HP)(r b:Nat)(l:List (Int×ν))(L:List HP)(w:World):Prop:=
 ∃(ss:List Int) (todo:List (Int×ν)),(ss++todo.map (·.1)).Perm (l.map (·.1))/\St W (itR eZ ev r b l todo::X ss::L) w
def apZ(bB:Nat)(ss:List Int):HP:=fun f=>∃v,sep (blk bB [v] 115) (row v 1 3 ss.length (ss.map eZ)) f
def gJ4(l:List Int):List Int:=l.mergeSort fun x y=>decide (x<=y)
end Go.Proofs.YtienbkdjkjbelaaGreat
end
section
namespace Go.Proofs.YtienbkdjkjbelaaGreat
open Go.RowKit Go.Sl
def es4:Nat->Nat->List Int
 | 0,u=>[(u:Int)]
 | f+1,u=>if 128<=u then((u%128+128:Nat):Int)::es4 f (u / 128)else[(u:Int)]
def gK4(n:Int):Nat:=if 4611686018427387904<n then 4611686018427387904 else if 0<n then n.toNat else 0
def aW4(n:Int):List Int:=es4 8 (gK4 n)
abbrev u8s(l:List Int):List Value:=l.map (Value.int .u8)
abbrev byR(v:Value)(l:List Int):HP:=row v 1 5 l.length (u8s l)
def NmR(W:World)(L:List HP)(t:List Int)(v3 v4:Value)(w:World):Prop:=
 ∃(f u:Nat) (d:List Int),v3=.int .u64 u/\u<128^(f+1)/\u<=4611686018427387904/\f<=8/\d.length<=8-f/\d++es4 f u=t/\St W (byR v4 d::L) w
end Go.Proofs.YtienbkdjkjbelaaGreat
end
section
namespace Go.Sl
open Go.RowKit
def dd4(s:ByteArray):List Int:=s.data.toList.map fun b=>(b.toNat:Int)
def sbR(g:Nat)(s:ByteArray):HP:=fun f=>∃o:Obj,(∀w:World,w.heap[g]? = some o->∀(j:Nat) (u:Value),((dd4 s).map (Value.int .u8))[j]? = some u->w.cell? ⟨g,j,none⟩=some u)/\ac4 g o f
section
variable{P:Program}{ops:Array Oper}{Q:Exit->Act->World->Prop}{a:Act}{w:World}{W:World}{L:List HP}{rest:List Oper}{o:Oper}
theorem d8.sb{g:Nat}{s:ByteArray}:d8 (sbR g s::L) g 0 ((dd4 s).map (Value.int .u8)):=fun j v hj W w hS=>by obtain⟨o,hS⟩:=St.ex hS;obtain⟨h1,hS⟩:=St.and hS;rw[Nat.zero_add];exact h1 w (hS.get .head) j v hj
end
end Go.Sl
namespace Go.Proofs.YtienbkdjkjbelaaGreat
open Go.RowKit Go.Sl
def NsR(W:World)(L:List HP)(ns:List Int)(v3 v4:Value)(w:World):Prop:=
 ∃i:Nat,v4=.I i/\i<=ns.length/\St W (byR v3 ((ns.take i).flatMap aW4)::L) w
def et4(s:ByteArray):List Int:=aW4 s.size++dd4 s
def bL4(ns:List Int):List Int:=ns.flatMap aW4
def gL4(h:Hd):List Int:=et4 h.who++bL4 [h.has.x0,h.has.x1,h.has.x2,h.has.x3]
def gb4(b:Bool):Int:=if b=true then 1 else 0
def gM4(o:Ord):List Int:=aW4 o.id++et4 o.who++bL4 [gb4 o.buy,o.item,o.cnt,o.price]
def gc4(p:Ps)(L:List Ord)(n:Int):List Int:=aW4 (hdL p).length++(hdL p).flatMap gL4++aW4 L.length++L.flatMap gM4++aW4 n
def CtR{α:Type}(W:World)(F:List HP)(f:α->List Int)(base:List Int)(xs:List α)(v3 v4:Value)(w:World):Prop:=
 ∃k:Nat,v4=.I k/\k<=xs.length/\St W (byR v3 (base++(xs.take k).flatMap f)::F) w
def wrR(wb:Nat)(d:List Int):HP:=fun f=>∃v:Value,sats [blk wb [v] 105,byR v d] f
section
variable{W w:World}{wb:Nat}{d:List Int}{R:List HP}
end
def WnR(W:World)(L:List HP)(wb:Nat)(d:List Int)(ns:List Int)(v:Value)(w:World):Prop:=
 ∃i:Nat,v=.I i/\i<=ns.length/\St W (wrR wb (d++(ns.take i).flatMap aW4)::L) w
def WuR(W:World)(L:List HP)(wb:Nat)(t:List Int)(v:Value)(w:World):Prop:=
 ∃(f u:Nat) (d:List Int),v=.int .u64 u/\u<128^(f+1)/\u<=4611686018427387904/\d.length<=100000000+(8-f)/\f<=8/\d++es4 f u=t/\St W (wrR wb d::L) w
end Go.Proofs.YtienbkdjkjbelaaGreat
end
section
namespace Go.Sl
open Go.RowKit
section
variable{P:Program}{ops:Array Oper}{Q:Exit->Act->World->Prop}{a:Act}{w:World}{rest:List Oper}{o:Oper}
end
end Go.Sl
namespace Go.Proofs.YtienbkdjkjbelaaGreat
open Go.RowKit Go.Sl
def WbR(W:World)(F:List Int->List HP)(d:List Int)(s:ByteArray)(v:Value)(w:World):Prop:=
 (v=.I 0/\St W (F d) w)\/(v=.I 1/\St W (F (d++et4 s)) w)
def CwR{α:Type}(W:World)(F:List HP)(wb:Nat)(f:α->List Int)(base:List Int)(xs:List α)(v:Value)(w:World):Prop:=
 ∃k:Nat,v=.I k/\k<=xs.length/\St W (wrR wb (base++(xs.take k).flatMap f)::F) w
abbrev Rb:=Option Addr×Nat×List Int
abbrev rbV(x:Rb):Value:=.slice x.1 x.2.2.length x.2.1
def cA4(r:List Int):List Int:=aW4 r.length++r
def gd4(rs:List Rb):List Int:=rs.flatMap fun x=>cA4 x.2.2
def he4(W:World)(R:List HP)(wb:Nat)(d:List Int)(rs:List Rb)(v:Value)(w:World):Prop:=
 ∃k:Nat,v=.I k/\k<=rs.length/\St W (wrR wb (d++gd4 (rs.take k))::R) w
structure RpOk(r:Rpl):Prop where
 e0:0<=r.err
 e1:r.err<=19
 i0:0<=r.id
 i1:r.id<=1099511627776
 has:s6 r.has=true
def rpB(r:Rpl):List Int:=bL4 [r.err,r.id]++bL4 [r.has.x0,r.has.x1,r.has.x2,r.has.x3]
def de4(x:Int×Int):Prop:=(1<=x.1/\x.1<=1048576)/\1<=x.2/\x.2<=1099511627776
structure TnOk(t:Tns):Prop where
 w:de4 (t.client,t.seq)
 ak:t.ak.size<=16
 aw:t.aw.size<=16
 tk:t.tk.size<=16
 tw:t.tw.size<=16
 i0:0<=t.item
 i1:t.item<4
 c0:1<=t.cnt
 c1:t.cnt<=1048576
structure EnOk(e:Ec)(n:Nat):Prop where
 ok:EOk e n
 vk:∀x∈e.vs,x.1.size<=16
 sw:∀x∈e.ss,de4 (x.1,x.2.1)
 sr:∀x∈e.ss,RpOk x.2.2
 tw:∀x∈e.ts,TnOk x.2/\x.1=(x.2.client,x.2.seq)
 aw:∀x∈e.ar,de4 x.1
 lv:e.vs.length<=n
 ls:e.ss.length<=n
 lt:e.ts.length<=n
 la:e.ar.length<=n
theorem ge4:EnOk ec0 0:=⟨fG4 0,fun _ h=>(by cases h),fun _ h=>(by cases h),fun _ h=>(by cases h),fun _ h=>(by cases h),fun _ h=>(by cases h),Nat.le_refl _,Nat.le_refl _,Nat.le_refl _,Nat.le_refl _⟩
theorem EnOk.on{e:Ec}{n:Nat}(h:EnOk e n):EnOk e (n+1):=⟨fun x hx=>(h.ok x hx).on,h.vk,h.sw,h.sr,h.tw,h.aw,Nat.le_succ_of_le h.lv,Nat.le_succ_of_le h.ls,Nat.le_succ_of_le h.lt,Nat.le_succ_of_le h.la⟩
theorem eJ4:RpOk rp0:=⟨by decide,by decide,by decide,by decide,rfl⟩
theorem z00:(0:Int)<=0:=by decide
theorem z19:(0:Int)<=19:=by decide
theorem z40:(0:Int)<=1099511627776:=by decide
theorem Rt7{V:Vs}{o:Opn}(hp:L7 V.ps)(hn:1<=V.n):RpOk (doV V o).1:=by
 unfold doV;split
 ·have:J8 V.ps o.aw (p8 o.item o.cnt)=0\/J8 V.ps o.aw (p8 o.item o.cnt)=6\/J8 V.ps o.aw (p8 o.item o.cnt)=1:=by
   unfold J8
   repeat' split
   all_goals simp
  exact⟨by show 0<=J8 V.ps o.aw (p8 o.item o.cnt);omega,by show J8 V.ps o.aw (p8 o.item o.cnt)<=19;omega,z00,z40,rfl⟩
 split
 ·have:p9 V.ps o.aw (p8 o.item o.cnt)=0\/p9 V.ps o.aw (p8 o.item o.cnt)=14\/p9 V.ps o.aw (p8 o.item o.cnt)=1:=by
   unfold p9
   repeat' split
   all_goals simp
  exact⟨by show 0<=p9 V.ps o.aw (p8 o.item o.cnt);omega,by show p9 V.ps o.aw (p8 o.item o.cnt)<=19;omega,z00,z40,rfl⟩
 split
 ·have:((x8 V (P6 o)).2.1=0\/(x8 V (P6 o)).2.1=1\/(x8 V (P6 o)).2.1=6\/(x8 V (P6 o)).2.1=14)/\0<=(x8 V (P6 o)).1/\(x8 V (P6 o)).1<=1099511627776:=by
   unfold x8;split
   ·simp
   ·split
    ·simp
    ·rename_i h
     split
     ·refine⟨.inl rfl,by show 0<=V.n;omega,by show V.n<=1099511627776;omega⟩
     ·simp
  obtain⟨h1,h2,h3⟩:=this;exact⟨by show 0<=(x8 V (P6 o)).2.1;omega,by show(x8 V (P6 o)).2.1<=19;omega,h2,h3,rfl⟩
 split
 ·have:(B8 V o.aw o.id).1=0\/(B8 V o.aw o.id).1=7:=by
   unfold B8;split
   ·exact .inl rfl
   ·exact .inr rfl
  exact⟨by show 0<=(B8 V o.aw o.id).1;omega,by show(B8 V o.aw o.id).1<=19;omega,z00,z40,rfl⟩
 split
 ·exact⟨z00,z19,z00,z40,hp _⟩
 split
 ·exact eJ4
 ·exact eJ4
theorem JX7{u:ByteArray}(h:C6 u=true):u.size<=16:=Mg7 h
theorem HY7{o:Opn}(hm:w6 o=true):de4 (o.client,o.seq)/\o.ak.size<=16/\o.aw.size<=16:=by unfold w6 G5 az4 at hm;simp only[jB,decide_eq_true_eq]at hm;obtain⟨⟨h1,h2,h3,h4,h5,h6⟩,_⟩:=hm;exact⟨⟨⟨h1,h2⟩,h3,h4⟩,JX7 h5,JX7 h6⟩
theorem IU7{o:Opn}(hm:w6 o=true)(hk:o.kind=2):TnOk (cW4 o):=by obtain⟨h1,h2,h3⟩:=HY7 hm;have hc:=Gf7 hm (.inr (.inl hk));unfold w6 J6 at hm;rw[if_neg (by omega),if_pos hk]at hm;unfold M6 az4 at hm;simp only[jB,decide_eq_true_eq]at hm;obtain⟨_,⟨h4,h5⟩,_⟩:=hm;exact⟨h1,h2,h3,JX7 h4,JX7 h5,hc.1.1,by have:=hc.1.2;show o.item<4;omega,hc.2.1,hc.2.2.1⟩
theorem GI7{κ ν:Type}[DecidableEq κ](l:List (κ×ν))(k:κ):(i9 l k).length<=l.length:=List.length_filter_le _ _
theorem CY7{κ ν:Type}[DecidableEq κ]{l:List (κ×ν)}{k:κ}{x:κ×ν}(h:x∈i9 l k):x∈l:=(List.mem_filter.1 h).1
theorem EnOk.app{e:Ec}{n:Nat}(h:EnOk e n)(o:Opn)(hok:EOk (B6 e o).2.2 (n+1)):EnOk (B6 e o).2.2 (n+1):=by
 cases hp:G7 e o with
 | mk r b=>
 cases b with
 | true=>
  rw[CM7 hp];exact h.on
 | false=>
  obtain⟨rfl,hm⟩:=Br7 hp;rw[CN7 hp]at hok ⊢;dsimp only at hok ⊢;obtain⟨hw,hak,haw⟩:=HY7 hm
  have hV:L7 (atV e o.ak).ps/\1<=(atV e o.ak).n:=by
   unfold atV
   cases hg:j6 e.vs o.ak with
   | none=>exact⟨EG7,by decide⟩
   | some V=>exact⟨(h.ok _ (AE7 hg)).ok,(h.ok _ (AE7 hg)).n0⟩
  have hrp:=Rt7 (o:=o) hV.1 hV.2;have hlv:=h.lv;have hls:=h.ls;have hlt:=h.lt;have hla:=h.la;refine⟨hok,?_,?_,?_,?_,?_,?_,?_,?_,?_⟩
  ·intro x hx;have hx2:x∈(if A5 (doV (atV e o.ak) o).2=true then i9 e.vs o.ak else(o.ak,(doV (atV e o.ak) o).2)::i9 e.vs o.ak):=hx;split at hx2
   ·exact h.vk x (CY7 hx2)
   ·rcases List.mem_cons.1 hx2 with rfl|hx2
    ·exact hak
    ·exact h.vk x (CY7 hx2)
  ·intro x hx;have hx2:x∈doS e o (doV (atV e o.ak) o).1:=hx;unfold doS at hx2;split at hx2
   ·exact h.sw x hx2
   ·rcases List.mem_cons.1 hx2 with rfl|hx2
    ·exact hw
    ·exact h.sw x (CY7 hx2)
  ·intro x hx;have hx2:x∈doS e o (doV (atV e o.ak) o).1:=hx;unfold doS at hx2;split at hx2
   ·exact h.sr x hx2
   ·rcases List.mem_cons.1 hx2 with rfl|hx2
    ·exact hrp
    ·exact h.sr x (CY7 hx2)
  ·intro x hx;have hx2:x∈doT e o (doV (atV e o.ak) o).1:=hx;unfold doT at hx2;split at hx2
   ·rename_i h2
    rcases List.mem_cons.1 hx2 with rfl|hx2
    ·exact⟨IU7 hm h2.1,rfl⟩
    ·exact h.tw x (CY7 hx2)
   ·split at hx2
    ·exact h.tw x (CY7 hx2)
    ·exact h.tw x hx2
  ·intro x hx;have hx2:x∈doA e o:=hx;unfold doA at hx2;split at hx2
   ·rcases List.mem_cons.1 hx2 with rfl|hx2
    ·exact hw
    ·exact h.aw x (CY7 hx2)
   ·exact h.aw x hx2
  ·show(if A5 (doV (atV e o.ak) o).2=true then i9 e.vs o.ak else(o.ak,(doV (atV e o.ak) o).2)::i9 e.vs o.ak).length<=n+1
   have:=GI7 e.vs o.ak;split
   ·omega
   ·rw[jC];omega
  ·show(doS e o (doV (atV e o.ak) o).1).length<=n+1
   have:=GI7 e.ss o.client;unfold doS;split
   ·omega
   ·rw[jC];omega
  ·show(doT e o (doV (atV e o.ak) o).1).length<=n+1
   have:=GI7 e.ts (o.client,o.seq);unfold doT;split
   ·rw[jC];omega
   ·split <;> omega
  ·show(doA e o).length<=n+1
   have:=GI7 e.ar (o.client,o.seq);unfold doA;split
   ·rw[jC];omega
   ·omega
end Go.Proofs.YtienbkdjkjbelaaGreat
end
section
namespace Go.Proofs.YtienbkdjkjbelaaGreat
open Go.Shelf
def Tryz.keysV_ren:Go.Shelf.Ren:=⟨fun|7=>79|10=>122|n=>n,fun|23=>107|26=>9|3=>114|28=>158|0=>0|27=>157|33=>191|4=>4|n=>n,fun|n=>n⟩
theorem Tryz.keysV:Go.Proofs.SlLaysZ.n7 Tryz.prog Tryz.keysV_ren:={
 mixed:=by kernel_rfl
 f7:=⟨Tryz.f79.name,by decide,Tryz.func79.trans (congrArg some (by kernel_rfl))⟩
 f10:=⟨Tryz.f122.name,by decide,Tryz.func122.trans (congrArg some (by kernel_rfl))⟩
 t0:=Tryz.underlying0
 a0:=Tryz.isAgg0
 z0:=Tryz.sizeOf0
 v0:=Tryz.zeroValue0
 t4:=Tryz.underlying4
 a4:=Tryz.isAgg4
 z4:=Tryz.sizeOf4
 v4:=Tryz.zeroValue4
 t23:=Tryz.underlying107
 a23:=Tryz.isAgg107
 z23:=Tryz.sizeOf107
 v23:=Tryz.zeroValue107
 t26:=Tryz.underlying9
 a26:=Tryz.isAgg9
 z26:=Tryz.sizeOf9
 v26:=Tryz.zeroValue9
 t27:=Tryz.underlying157
 a27:=Tryz.isAgg157
 z27:=Tryz.sizeOf157
 v27:=Tryz.zeroValue157
 t28:=Tryz.underlying158
 a28:=Tryz.isAgg158
 z28:=Tryz.sizeOf158
 v28:=Tryz.zeroValue158
 t33:=Tryz.underlying191
 a33:=Tryz.isAgg191
 z33:=Tryz.sizeOf191
 v33:=Tryz.zeroValue191 }
end Go.Proofs.YtienbkdjkjbelaaGreat
end
