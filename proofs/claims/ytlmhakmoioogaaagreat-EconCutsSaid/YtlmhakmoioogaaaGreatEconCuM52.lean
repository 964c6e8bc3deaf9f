/-
  maps.Copy at the economy's three tables.
-/
import Derived.Test.YtlmhakmoioogaaaGreatEconCuM5
import Derived.Test.YtlmhakmoioogaaaGreatEconCuM37
import Derived.Test.YtlmhakmoioogaaaGreatEconCuM50
import Derived.LaidEqlPtr
set_option maxHeartbeats 16000000
set_option maxRecDepth 100000
set_option linter.unusedSimpArgs false
set_option linter.unusedVariables false
section
namespace Go.Sl
open Go.RowKit
section
variable{κ ν:Type}[DecidableEq κ]
def M8(D S:List (κ×ν)):List (κ×ν):=D.filter fun y=>decide (∀x∈S,x.1≠y.1)
theorem FG7(D:List (κ×ν)):[]++M8 D []=D:=by rw[jN];exact List.filter_eq_self.2 fun y _=>by simp
theorem FH7{D done:List (κ×ν)}{y:κ×ν}(h:∀x∈done,x.1≠y.1):(y::j6 (done++M8 D done) y.1).Perm (done++[y]++M8 D (done++[y])):=by
 have e1:j6 (done++M8 D done) y.1=done++M8 D (done++[y]):=by
  have e2:j6 (done++M8 D done) y.1=j6 done y.1++j6 (M8 D done) y.1:=by unfold j6;rw[List.filter_append]
  rw[e2,Bk7 h]
  congr 1
  unfold j6 M8;rw[List.filter_filter];refine List.filter_congr fun x _=>?_
  rw[<-Bool.decide_and];refine decide_eq_decide.2 ⟨fun⟨g1,g2⟩ z hz=>?_,fun g=>⟨fun e=>g y (by simp) e.symm,fun z hz=>g z (List.mem_append_left _ hz)⟩⟩
  rcases List.mem_append.1 hz with hz|hz
  ·exact g2 z hz
  ·obtain rfl:=List.mem_singleton.1 hz;exact fun e=>g1 e.symm
 rw[e1,jS];exact List.perm_middle.symm
theorem FI7{D S done:List (κ×ν)}(h:done.Perm S):(done++M8 D done).Perm (S++M8 D S):=by
 have e:M8 D done=M8 D S:=List.filter_congr fun x _=>decide_eq_decide.2 ⟨fun g z hz=>g z (h.mem_iff.2 hz),fun g z hz=>g z (h.mem_iff.1 hz)⟩
 rw[e];exact h.append_right _
theorem Sj7{D S:List (κ×ν)}(h:∀x∈D, ∀y∈S,y.1≠x.1):M8 D S=D:=List.filter_eq_self.2 fun x hx=>by simpa using fun a b hy=>h x hx (a,b) hy
end
end Go.Sl
namespace Go.Proofs.YtlmhakmoioogaaaGreat
open Go.RowKit Go.Sl
def CoR{κ ν:Type}[DecidableEq κ](W:World)(F:List HP)(ek:κ->Value)(ev:ν->Value)(D S:List (κ×ν))(sb db r:Nat)(w:World):Prop:=
 ∃done todo:List (κ×ν),(done++todo).Perm S/\St W (itR ek ev r sb S todo::d8 ek ev db (done++M8 D done)::F) w
theorem gQ4{db sb:Nat}{D S:List (ByteArray×Nat)}(W w:World)(R:List HP)(hS:St W (d8 eS eN db D::d8 eS eN sb S::R) w):
  Calls Tryz.prog 77 #[.map (some db),.map (some sb)] w fun e w'=>e=.returned (.tuple #[])/\St W (d8 eS eN db (S++M8 D S)::d8 eS eN sb S::R) w':=by
 have hnk:=A5 hS.drop;have Hnk:=jH hnk;clear hnk;go_enter Tryz.func77,Tryz.ntmps77;go_wp2_with(first|(with_reducible apply Bo7 (ek:=eS) (ev:=eN) hS);rfl;rfl;rfl;exact mV;exact Take.tail .head;clear hS;intro r w hS;refine frS ?_)
 go_loopw [] (fun wr=>CoR W R eS eN D S sb db r wr) (fun wr=>aq4 r sb wr)
 case atStart=>exact⟨[],S,List.Perm.refl _,by rw[FG7];exact hS.s _⟩
 case round=>
  clear hS;obtain⟨done,todo,hdt,hS⟩:=hrel;have hm1:=An7 hS;by_cases ht:todo=[]
  ·have hde:done.Perm S:=by rw[ht,List.append_nil]at hdt;exact hdt
   have Hde:=jH (FI7 (D:=D) hde);clear hdt hde hm1;go_wp2_with(first|(with_reducible apply Bq7 (ek:=eS) (ev:=eN) hS);rfl;rfl;rfl;exact i6;exact ht;refine frS ?_);go_end0;exact⟨rfl,I7 Hde.out ((bh4 hS).s _)⟩
  ·have hcut:∀(y:ByteArray×Nat) (todo':List (ByteArray×Nat)),todo.Perm (y::todo')->_:=fun y todo' h=>EW7 (p:=fun _=>true) Hnk.out hdt h
   have Hcut:=jH hcut;have Hm1:=jH hm1;clear hdt hm1 hcut;go_wp2_with(first|(with_reducible apply Br7 (ek:=eS) (ev:=eN) hS);rfl;rfl;rfl;exact i6;exact ht;clear hS;intro y todo' hy1 hy2 w hS;obtain⟨yk,yb⟩:=y;have Hy:=jH hy1;clear hy1 hy2;refine frS ?_|(with_reducible apply Bp7 (ek:=eS) (ev:=eN) hS);rfl;rfl;rfl;exact i6;clear hS;intro hS;refine frS ?_|((with_reducible apply Bg7 (ek:=eS) (ev:=eN) (k:=yk) (u:=yb) hS);rfl;rfl;rfl;rfl;exact Take.tail (by exact i6);(focus(rfl));exact mV;exact kS;clear hS;intro w hS;try(refine frS ?_)));obtain⟨c1,c2,c3,c4,c5⟩:=Hcut.out _ _ Hy.out;have hlen:todo.length=todo'.length+1:=by have:=Hy.out.length_eq;rwa [jC]at this
   have Hlen:=jH hlen;have H1:=jH c1;have H3:=jH (FH7 (D:=D) c3);clear hlen c1 c2 c3 c4 c5;go_roundw
   case rel=>
    refine⟨done++[_],todo',H1.out,?_⟩;exact(I7 H3.out (hS.s (d8 eS eN db _::itR eS eN r sb S todo'::R))).swap
   case measure=>
    have h3:=An7 (hS.take (by exact i6));have h5:=Hm1.out;have h6:=Hlen.out;omega
theorem gR4{db sb:Nat}{D S:List ((Int×Int)×Tns)}(W w:World)(R:List HP)(hS:St W (d8 eW eTn db D::d8 eW eTn sb S::R) w):
  Calls Tryz.prog 78 #[.map (some db),.map (some sb)] w fun e w'=>e=.returned (.tuple #[])/\St W (d8 eW eTn db (S++M8 D S)::d8 eW eTn sb S::R) w':=by
 have hnk:=A5 hS.drop;have Hnk:=jH hnk;clear hnk;go_enter Tryz.func78,Tryz.ntmps78;go_wp2_with(first|(with_reducible apply Bo7 (ek:=eW) (ev:=eTn) hS);rfl;rfl;rfl;exact mT;exact Take.tail .head;clear hS;intro r w hS;refine frS ?_)
 go_loopw [] (fun wr=>CoR W R eW eTn D S sb db r wr) (fun wr=>aq4 r sb wr)
 case atStart=>exact⟨[],S,List.Perm.refl _,by rw[FG7];exact hS.s _⟩
 case round=>
  clear hS;obtain⟨done,todo,hdt,hS⟩:=hrel;have hm1:=An7 hS;by_cases ht:todo=[]
  ·have hde:done.Perm S:=by rw[ht,List.append_nil]at hdt;exact hdt
   have Hde:=jH (FI7 (D:=D) hde);clear hdt hde hm1;go_wp2_with(first|(with_reducible apply Bq7 (ek:=eW) (ev:=eTn) hS);rfl;rfl;rfl;exact i6;exact ht;refine frS ?_);go_end0;exact⟨rfl,I7 Hde.out ((bh4 hS).s _)⟩
  ·have hcut:∀(y:(Int×Int)×Tns) (todo':List ((Int×Int)×Tns)),todo.Perm (y::todo')->_:=fun y todo' h=>EW7 (p:=fun _=>true) Hnk.out hdt h
   have Hcut:=jH hcut;have Hm1:=jH hm1;clear hdt hm1 hcut;go_wp2_with(first|(with_reducible apply Br7 (ek:=eW) (ev:=eTn) hS);rfl;rfl;rfl;exact i6;exact ht;clear hS;intro y todo' hy1 hy2 w hS;obtain⟨⟨kc,kq⟩,⟨t0,t1,t2,t3,t4,t5,t6,t7⟩⟩:=y;have Hy:=jH hy1;clear hy1 hy2;refine frS ?_|(with_reducible apply Bp7 (ek:=eW) (ev:=eTn) hS);rfl;rfl;rfl;exact i6;clear hS;intro hS;refine frS ?_|refine zal hS ?_;clear hS;intro b w hS|refine zsN hS ?_;clear hS;intro w hS|refine zlN hS ?_|((with_reducible apply Bg7 (ek:=eW) (ev:=eTn) (k:=(kc,kq)) (u:=(⟨t0,t1,t2,t3,t4,t5,t6,t7⟩:Tns)) hS);rfl;rfl;rfl;rfl;exact Take.tail (by exact i6);(focus(rfl));exact mT;exact kW;clear hS;intro w hS;try(refine frS ?_)));obtain⟨c1,c2,c3,c4,c5⟩:=Hcut.out _ _ Hy.out;have hlen:todo.length=todo'.length+1:=by have:=Hy.out.length_eq;rwa [jC]at this
   have Hlen:=jH hlen;have H1:=jH c1;have H3:=jH (FH7 (D:=D) c3);clear hlen c1 c2 c3 c4 c5;go_roundw
   case rel=>
    refine⟨done++[_],todo',H1.out,?_⟩;exact(I7 H3.out (hS.s (d8 eW eTn db _::itR eW eTn r sb S todo'::R))).swap
   case measure=>
    have h3:=An7 (hS.take (by exact i6));have h5:=Hm1.out;have h6:=Hlen.out;omega
theorem gS4{db sb:Nat}{D S:List ((Int×Int)×Unit)}(W w:World)(R:List HP)(hS:St W (d8 eW eU db D::d8 eW eU sb S::R) w):
  Calls Tryz.prog 79 #[.map (some db),.map (some sb)] w fun e w'=>e=.returned (.tuple #[])/\St W (d8 eW eU db (S++M8 D S)::d8 eW eU sb S::R) w':=by
 have hnk:=A5 hS.drop;have Hnk:=jH hnk;clear hnk;go_enter Tryz.func79,Tryz.ntmps79;go_wp2_with(first|(with_reducible apply Bo7 (ek:=eW) (ev:=eU) hS);rfl;rfl;rfl;exact mAr;exact Take.tail .head;clear hS;intro r w hS;refine frS ?_)
 go_loopw [] (fun wr=>CoR W R eW eU D S sb db r wr) (fun wr=>aq4 r sb wr)
 case atStart=>exact⟨[],S,List.Perm.refl _,by rw[FG7];exact hS.s _⟩
 case round=>
  clear hS;obtain⟨done,todo,hdt,hS⟩:=hrel;have hm1:=An7 hS;by_cases ht:todo=[]
  ·have hde:done.Perm S:=by rw[ht,List.append_nil]at hdt;exact hdt
   have Hde:=jH (FI7 (D:=D) hde);clear hdt hde hm1;go_wp2_with(first|(with_reducible apply Bq7 (ek:=eW) (ev:=eU) hS);rfl;rfl;rfl;exact i6;exact ht;refine frS ?_);go_end0;exact⟨rfl,I7 Hde.out ((bh4 hS).s _)⟩
  ·have hcut:∀(y:(Int×Int)×Unit) (todo':List ((Int×Int)×Unit)),todo.Perm (y::todo')->_:=fun y todo' h=>EW7 (p:=fun _=>true) Hnk.out hdt h
   have Hcut:=jH hcut;have Hm1:=jH hm1;clear hdt hm1 hcut;go_wp2_with(first|(with_reducible apply Br7 (ek:=eW) (ev:=eU) hS);rfl;rfl;rfl;exact i6;exact ht;clear hS;intro y todo' hy1 hy2 w hS;obtain⟨⟨kc,kq⟩,u⟩:=y;have Hy:=jH hy1;clear hy1 hy2;refine frS ?_|(with_reducible apply Bp7 (ek:=eW) (ev:=eU) hS);rfl;rfl;rfl;exact i6;clear hS;intro hS;refine frS ?_|refine zal hS ?_;clear hS;intro b w hS|refine zsN hS ?_;clear hS;intro w hS|refine zlN hS ?_|((with_reducible apply Bg7 (ek:=eW) (ev:=eU) (k:=(kc,kq)) (u:=u) hS);rfl;rfl;rfl;rfl;exact Take.tail (by exact i6);(focus(rfl));exact mAr;exact kW;clear hS;intro w hS;try(refine frS ?_)));obtain⟨c1,c2,c3,c4,c5⟩:=Hcut.out _ _ Hy.out;have hlen:todo.length=todo'.length+1:=by have:=Hy.out.length_eq;rwa [jC]at this
   have Hlen:=jH hlen;have H1:=jH c1;have H3:=jH (FH7 (D:=D) c3);clear hlen c1 c2 c3 c4 c5;go_roundw
   case rel=>
    refine⟨done++[_],todo',H1.out,?_⟩;exact(I7 H3.out (hS.s (d8 eW eU db _::itR eW eU r sb S todo'::R))).swap
   case measure=>
    have h3:=An7 (hS.take (by exact i6));have h5:=Hm1.out;have h6:=Hlen.out;omega
end Go.Proofs.YtlmhakmoioogaaaGreat
end
section
namespace Go.Sl
section
variable{κ ν:Type}[DecidableEq κ]
theorem CP7(A B:List (κ×ν))(k:κ):i9 (A++B) k=(i9 A k).or (i9 B k):=by
 unfold i9;rw[List.find?_append]
 cases A.find? fun x=>decide (x.1=k) <;> rfl
theorem Kw7{p:κ×ν->Bool}{l:List (κ×ν)}{k:κ}(h:∀x∈l,x.1=k->p x=true):i9 (l.filter p) k=i9 l k:=by
 unfold i9
 congr 1
 induction l with
 | nil=>rfl
 | cons y l ih=>
  have ih':=ih fun x hx=>h x (List.mem_cons_of_mem _ hx)
  rw[List.filter_cons,List.find?_cons];by_cases hy:y.1=k
  ·rw[if_pos (h y (List.mem_cons_self ..) hy),List.find?_cons];simp[hy]
  ·rw[show decide (y.1=k)=false by simpa using hy];split
   ·rw[List.find?_cons,show decide (y.1=k)=false by simpa using hy];exact ih'
   ·exact ih'
theorem FJ7{D S:List (κ×ν)}{k:κ}(h:∀x∈S,x.1≠k):i9 (S++M8 D S) k=i9 D k:=by
 rw[CP7,CJ7 h];show i9 (M8 D S) k=_
 exact Kw7 fun x _ hx=>by simpa using fun a b hs=>fun e=>h (a,b) hs (e.trans hx)
end
section
variable{P:Program}{ops:Array Oper}{Q:Act->Prop}{a:Act}{W:World}{L:List HP}{rest:List Oper}{o:Oper}
theorem LE7{t:TypeId}{x:Operand}{i:Nat}{u v:Value}(ho:o.op=.field t x i)(hg:Region.wanted o (yielded ops a.tmps)=true)(hx:a.eval x=u)(hr:∀w:World,(Instr.field t u i).run P w=.ok v w)
  (h:wpQuiet P ops (St W L) Q rest (a.put o.dst v)):wpQuiet P ops (St W L) Q (o::rest) a:=
 FM7 hg (fun w _=>by unfold execOp;simp[ho,hx,hr]) h
end
section
variable{P:Program}{ops:Array Oper}{Q:Exit->Act->World->Prop}{a:Act}{W w:World}{L R:List HP}{rest:List Oper}{o:Oper}
theorem LF7{t t2 te:TypeId}{x y:Operand}{b c:Nat}{l l':List Value}{T T':TypeId}(hS:St W L w)(h1:Mem (blk b l T) L)(h2:Mem (blk c l' T') L)(hne:b≠c)(ho:o.op=.binOp .eql t x y t2)(hg:Region.wanted o (yielded ops a.tmps)=true)(hx:a.eval x=.P b)(hy:a.eval y=.P c)
  (ht:P.underlying t=some (.pointer te)) (hz:∃j,P.info? te=some j/\j.size≠0) (h:wpList P ops Q rest (a.put o.dst (.bool false)) w):wpList P ops Q (o::rest) a w:=by
 obtain⟨j,hj,hj0⟩:=hz;refine Ak7 hg (v:=.bool false) (w':=w) ?_ h
 have h1:(binOp .eql t (.P b) (.P c)).run P w=.ok (.bool false) w:=
  run_eql_ptr_other w ht hj hj0 (fun e=>hne (by cases e;rfl)) (hS.get h1) (hS.get h2)
 unfold execOp;simp[ho,hx,hy,eqGuard,h1]
end
end Go.Sl
namespace Go.Proofs.YtlmhakmoioogaaaGreat
open Go.RowKit Go.Sl
def ah4(e o:Ec):Bool:=(o.vs.any fun x=>(i9 e.vs x.1).isSome)||(o.ts.any fun x=>(i9 e.ts x.1).isSome)
def bc4(ss:List (Int×(Int×Rpl)))(x:Int×(Int×Rpl)):Bool:=decide (((i9 ss x.1).getD (0,rp0)).1<x.2.1)
def dZ4(ss os:List (Int×(Int×Rpl))):List (Int×(Int×Rpl)):=os.filter (bc4 ss)++M8 ss (os.filter (bc4 ss))
def bx4(e o:Ec):Ec:=⟨o.vs++e.vs,dZ4 e.ss o.ss,o.ts++e.ts,o.ar++M8 e.ar o.ar⟩
def JkR{κ ν:Type}[DecidableEq κ](W:World)(F:List HP)(ek:κ->Value)(ev:ν->Value)(D S:List (κ×ν))(sb r:Nat)(w:World):Prop:=
 ∃done todo:List (κ×ν),(done++todo).Perm S/\(∀x∈done,i9 D x.1=none)/\St W (itR ek ev r sb S todo::F) w
def JsR(W:World)(F:List HP)(ss os:List (Int×(Int×Rpl)))(sb db r:Nat)(w:World):Prop:=
 ∃done todo,(done++todo).Perm os/\St W (itR eI eSs r sb os todo::d8 eI eSs db (done.filter (bc4 ss)++M8 ss (done.filter (bc4 ss)))::F) w
theorem Sk7{E O:Ev}{e o:Ec}(hp:(k8 E).Perm e.vs)(hn:(E.map (·.1)).Nodup)(hq:(k8 O).Perm o.vs){k:ByteArray}{b vb:Nat}(hx:(k,b)∈i7 O)(h:i9 (i7 E) k=some vb):ah4 e o=true:=by
 unfold ah4;rw[Bool.or_eq_true];left;rw[List.any_eq_true];obtain⟨y,hy,e1⟩:=List.mem_map.1 hx;obtain rfl:y.1=k:=by cases e1;rfl
 refine⟨(y.1,y.2.2),hq.mem_iff.1 (List.mem_map.2 ⟨y,hy,rfl⟩),?_⟩;show(i9 e.vs y.1).isSome=true
 rw[Ob7 hn hp];rw[BP7]at h
 cases hg:i9 E y.1 with
 | none=>rw[hg]at h;cases h
 | some _=>rfl
theorem Sl7{e o:Ec}{k:Int×Int}{u z:Tns}(hx:(k,u)∈o.ts)(h:i9 e.ts k=some z):ah4 e o=true:=by unfold ah4;rw[Bool.or_eq_true];right;rw[List.any_eq_true];exact⟨(k,u),hx,by rw[show i9 e.ts (k,u).1=some z from h];rfl⟩
theorem Qt7{E O:Ev}{e o:Ec}(hp:(k8 E).Perm e.vs)(hn:(E.map (·.1)).Nodup)(hq:(k8 O).Perm o.vs)(h1:∀x∈i7 O,i9 (i7 E) x.1=none)(h2:∀x∈o.ts,i9 e.ts x.1=none):ah4 e o=false:=by
 unfold ah4;rw[Bool.or_eq_false_iff];refine⟨List.any_eq_false.2 fun x hx=>?_,List.any_eq_false.2 fun x hx=>by rw[h2 x hx];simp⟩;obtain⟨y,hy,rfl⟩:=List.mem_map.1 (hq.mem_iff.2 hx);have h3:=h1 (y.1,y.2.1) (List.mem_map.2 ⟨y,hy,rfl⟩);rw[BP7]at h3;show ¬(i9 e.vs y.1).isSome=true
 rw[Ob7 hn hp]
 cases hg:i9 E y.1 with
 | none=>simp
 | some _=>rw[hg]at h3;cases h3
theorem LG7{κ ν:Type}[DecidableEq κ]{D S:List (κ×ν)}(h:∀x∈S,i9 D x.1=none):M8 D S=D:=Sj7 fun x hx y hy e=>AP7 (h y hy) x hx e.symm
theorem Qu7(O E:Ev):i7 O++i7 E=i7 (O++E):=by unfold i7;rw[List.map_append]
theorem OL7(O E:Ev):k8 (O++E)=k8 O++k8 E:=by unfold k8;rw[List.map_append]
theorem fU4:(Tryz.prog.info? 84).map (·.size)=some 4:=by kernel_rfl
theorem eM4:∃j,Tryz.prog.info? 84=some j/\j.size≠0:=by
 have h:=fU4
 cases hj:Tryz.prog.info? 84 with
 | none=>rw[hj]at h;cases h
 | some j=>
  rw[hj]at h;have h2:j.size=4:=by simpa using h
  exact⟨j,rfl,by omega⟩
theorem gT4(q f0 f1 x0 x1 x2 x3:Int)(w:World):(Instr.field 90 (.agg #[.I q,.I f0,.I f1,.I x0,.I x1,.I x2,.I x3]) 0).run Tryz.prog w=.ok (.I q) w:=by kernel_rfl
abbrev tB51a:List Nat:=[0,1,3,7,0,31,63,127,127,0,767,2047]
theorem Ju7{eb ob:Nat}{e o:Ec}(W w:World)(R:List HP)(hS:St W (ecP eb e::ecP ob o::R) w):
  Calls Tryz.prog 29 #[.P eb,.P ob] w fun x w'=> (ah4 e o=true/\x=.returned (.I 8)/\St W (ecP eb e::ecP ob o::R) w')\/(ah4 e o=false/\x=.returned (.I 0)/\St W (ecP eb (bx4 e o)::R) w'):=by
 obtain⟨m1,m2,m3,m4,E,hp,hn,hS1⟩:=N9 hS;obtain⟨n1,n2,n3,n4,O,hq,hm,hS2⟩:=N9 ((B9 hS1).s (ecP ob o::ebB eb m1 m2 m3 m4::d8 eS eN m1 (i7 E)::j8 E::d8 eI eSs m2 e.ss::d8 eW eTn m3 e.ts::d8 eW eU m4 e.ar::R));have hS3:=(B9 hS2).s (ebB eb m1 m2 m3 m4::d8 eS eN m1 (i7 E)::j8 E::d8 eI eSs m2 e.ss::d8 eW eTn m3 e.ts::d8 eW eU m4 e.ar::d8 eS eN n1 (i7 O)::d8 eW eTn n3 o.ts::ebB ob n1 n2 n3 n4::j8 O::d8 eI eSs n2 o.ss::d8 eW eU n4 o.ar::R);clear hS hS1 hS2;have hS:=hS3;clear hS3;have hne:eb≠ob:=St.ne hS (show Mem (ebB ob n1 n2 n3 n4) _ from by exact dd4);have hno:=A5 (hS.s (d8 eW eTn n3 o.ts::R));have Hp:=jH hp;have Hq:=jH hq;have Hn:=jH hn;have Hm:=jH hm;have Hno:=jH hno;clear hp hq hn hm hno;go_enter Tryz.func29,Tryz.ntmps29;go_wp2_with(first|refine zl1 hS ?_|(with_reducible apply LF7 (b:=eb) (c:=ob) (l:=[.map (some m1),.map (some m2),.map (some m3),.map (some m4)]) (l':=[.map (some n1),.map (some n2),.map (some n3),.map (some n4)]) (T:=84) (T':=84) hS);exact dd4;exact dd4;exact hne;rfl;rfl;rfl;rfl;exact Tryz.underlying23;exact eM4;refine frS ?_|(with_reducible apply Bo7 (ek:=eS) (ev:=eN) hS);rfl;rfl;rfl;exact mV;exact i6;clear hS;intro r w hS;refine frS ?_)
 go_loopw [] (fun wr=>JkR W (ebB eb m1 m2 m3 m4::d8 eS eN m1 (i7 E)::j8 E::d8 eI eSs m2 e.ss::d8 eW eTn m3 e.ts::d8 eW eU m4 e.ar::d8 eW eTn n3 o.ts::ebB ob n1 n2 n3 n4::j8 O::d8 eI eSs n2 o.ss::d8 eW eU n4 o.ar::R) eS eN (i7 E) (i7 O) n1 r wr) (fun wr=>aq4 r n1 wr)
 case atStart=>exact⟨[],i7 O,List.Perm.refl _,fun x hx=>(by cases hx),hS.s _⟩
 case round=>
  clear hS;obtain⟨done,todo,hdt,hfr,hS⟩:=hrel;have hm1:=An7 hS;by_cases ht:todo=[]
  case neg=>
   have Hdt:=jH hdt;have Hfr:=jH hfr;have Hm1:=jH hm1;clear hdt hfr hm1;go_wp2_with(first|(((with_reducible apply Br7 (ek:=eS) (ev:=eN) hS);rfl;rfl;rfl;exact i6;exact ht;clear hS;intro y todo' hy1 hy2 w hS;obtain⟨yk,yb⟩:=y;have Hy:=jH hy1;have Hy2:=jH hy2;clear hy1 hy2;refine frS ?_);rcases hg:i9 (i7 E) yk with _|vb)|(with_reducible apply Bp7 (ek:=eS) (ev:=eN) hS);rfl;rfl;rfl;exact i6;clear hS;intro hS;refine frS ?_|refine zl1 hS ?_|(with_reducible apply BW7 (ek:=eS) (ev:=eN) (k:=yk) hS);rfl;rfl;rfl;rfl;exact i6;exact mV;exact kS;exact zV;exact hg;refine frS ?_|(with_reducible apply DU7 (ek:=eS) (ev:=eN) (k:=yk) hS);rfl;rfl;rfl;rfl;exact i6;exact mV;exact kS;exact zV;exact hg;refine frS ?_)
   ·have hz:=Hy.out.length_eq;rw[jC]at hz;go_roundw
    case rel=>
     refine⟨done++[(yk,yb)],todo',?_,?_,hS.s _⟩
     ·rw[jS];exact(List.Perm.append_left done Hy.out.symm).trans Hdt.out
     ·intro x hx
      rcases List.mem_append.1 hx with hx|hx
      ·exact Hfr.out x hx
      ·obtain rfl:=List.mem_singleton.1 hx;exact hg
    case measure=>
     have h3:=An7 (hS.take (by exact i6));have h5:=Hm1.out;omega
   ·go_ret;have h1:=(bh4 hS).s (ebB eb m1 m2 m3 m4::d8 eS eN m1 (i7 E)::j8 E::d8 eI eSs m2 e.ss::d8 eW eTn m3 e.ts::d8 eW eU m4 e.ar::d8 eS eN n1 (i7 O)::d8 eW eTn n3 o.ts::ebB ob n1 n2 n3 n4::j8 O::d8 eI eSs n2 o.ss::d8 eW eU n4 o.ar::R);have h2:=K9 Hp.out (h1.s (ebB eb m1 m2 m3 m4::d8 eS eN m1 (i7 E)::j8 E::d8 eI eSs m2 e.ss::d8 eW eTn m3 e.ts::d8 eW eU m4 e.ar::d8 eS eN n1 (i7 O)::d8 eW eTn n3 o.ts::ebB ob n1 n2 n3 n4::j8 O::d8 eI eSs n2 o.ss::d8 eW eU n4 o.ar::R));have h3:=K9 Hq.out (h2.s (ebB ob n1 n2 n3 n4::d8 eS eN n1 (i7 O)::j8 O::d8 eI eSs n2 o.ss::d8 eW eTn n3 o.ts::d8 eW eU n4 o.ar::ecP eb e::R));exact .inl ⟨Sk7 Hp.out Hn.out Hq.out Hy2.out hg,rfl,h3.swap⟩
  have hde:done.Perm (i7 O):=by rw[ht,List.append_nil]at hdt;exact hdt
  have Hfr:=jH (show ∀x∈i7 O,i9 (i7 E) x.1=none from fun x hx=>hfr x (hde.mem_iff.2 hx));clear hdt hfr hm1 hde;go_wp2_with(first|refine zl1 hS ?_|(with_reducible apply Bq7 (ek:=eS) (ev:=eN) hS);rfl;rfl;rfl;exact i6;exact ht;refine frS ?_|(with_reducible apply Bo7 (ek:=eW) (ev:=eTn) hS);rfl;rfl;rfl;exact mT;exact i6;clear hS;intro r2 w hS;refine frS ?_)
  go_loopw [] (fun wr=>JkR W (ebB eb m1 m2 m3 m4::d8 eW eTn m3 e.ts::itR eS eN r n1 (i7 O) todo::d8 eS eN m1 (i7 E)::j8 E::d8 eI eSs m2 e.ss::d8 eW eU m4 e.ar::ebB ob n1 n2 n3 n4::j8 O::d8 eI eSs n2 o.ss::d8 eW eU n4 o.ar::R) eW eTn e.ts o.ts n3 r2 wr) (fun wr=>aq4 r2 n3 wr)
  case atStart=>exact⟨[],o.ts,List.Perm.refl _,fun x hx=>(by cases hx),hS.s _⟩
  case round=>
   clear hS;obtain⟨done2,todo2,hdt,hfr2,hS⟩:=hrel;have hm1:=An7 hS;by_cases ht2:todo2=[]
   case neg=>
    have Hdt:=jH hdt;have Hfr2:=jH hfr2;have Hm1:=jH hm1;clear hdt hfr2 hm1;have Ht:=jH ht;clear ht;have ht:=ht2;clear ht2;go_wp2_with(first|(with_reducible apply Br7 (ek:=eW) (ev:=eTn) hS);rfl;rfl;rfl;exact i6;exact ht;clear hS;intro y todo' hy1 hy2 w hS;obtain⟨⟨kc,kq⟩,⟨t0,t1,t2,t3,t4,t5,t6,t7⟩⟩:=y;have Hy:=jH hy1;have Hy2:=jH hy2;clear hy1 hy2;refine frS ?_|(with_reducible apply Bp7 (ek:=eW) (ev:=eTn) hS);rfl;rfl;rfl;exact i6;clear hS;intro hS;refine frS ?_|refine zal hS ?_;clear hS;intro bS w hS|refine zsN hS ?_;clear hS;intro w hS);have hz:=Hy.out.length_eq;rw[jC]at hz;have Hz:=jH hz;clear hz;have hS1:=hS.s (ebB eb m1 m2 m3 m4::d8 eW eTn m3 e.ts::blk bS _ _::itR eW eTn r2 n3 o.ts todo'::itR eS eN r n1 (i7 O) todo::d8 eS eN m1 (i7 E)::j8 E::d8 eI eSs m2 e.ss::d8 eW eU m4 e.ar::ebB ob n1 n2 n3 n4::j8 O::d8 eI eSs n2 o.ss::d8 eW eU n4 o.ar::R);clear hS
    cases hg:i9 e.ts (kc,kq)with
    | none=>
     have htt:O6 true (eTn ⟨0,0,⟨#[]⟩,⟨#[]⟩,⟨#[]⟩,⟨#[]⟩,0,0⟩) ((i9 e.ts (kc,kq)).map eTn)=.tuple #[eTn ⟨0,0,⟨#[]⟩,⟨#[]⟩,⟨#[]⟩,⟨#[]⟩,0,0⟩,.bool false]:=by rw[hg];rfl
     have Hg:=jH hg;clear hg
     refine rf3 tB51a (fun i=>i==9) (fun _=>none)
      [⟨some 9,some 10,fun nd=>j5 (nd 9) [.I 0,.I 0,.string ⟨#[]⟩,.string ⟨#[]⟩,.string ⟨#[]⟩,.string ⟨#[]⟩,.I 0,.I 0] 40⟩,⟨some 10,none,fun nd=>j5 (nd 9) [.I 0,.I 0,.string ⟨#[]⟩,.string ⟨#[]⟩,.string ⟨#[]⟩,.string ⟨#[]⟩,.I 0,.I 0] 40⟩] [none,none,none] hS1 ?_
     clear hS1;intro nd
     repeat(first|refine zc1 ?_|refine zcN ?_|refine zcn ?_|apply AB7 (ek:=eW) (ev:=eTn) (k:=(kc,kq));rfl;kernel_rfl;rfl;rfl;rfl;rfl;intro F;exact⟨_,by exact r6⟩;exact mT;exact kW;exact zT;exact htt;refine frS ?_|refine zca ?_|refine zct ?_|refine cR ?_)
     refine Ad7 ?_;intro w hS;have hS2:St W [j5 _ _ _,ebB eb m1 m2 m3 m4,d8 eW eTn m3 e.ts,blk bS _ _,sats (itR eW eTn r2 n3 o.ts todo'::itR eS eN r n1 (i7 O) todo::d8 eS eN m1 (i7 E)::j8 E::d8 eI eSs m2 e.ss::d8 eW eU m4 e.ar::ebB ob n1 n2 n3 n4::j8 O::d8 eI eSs n2 o.ss::d8 eW eU n4 o.ar::R)] w:=hS;clear hS;have hS:=hS2.unpack [_,_,_,_];clear hS2;simp only[jK,jN]at hS;generalize nd 9=v9 at *;have h1:=hS.ptr;clear hS;obtain⟨b9,rfl,hS⟩:=h1;go_wp2_with(fail);go_roundw
     case rel=>
      refine⟨done2++[((kc,kq),⟨t0,t1,t2,t3,t4,t5,t6,t7⟩)],todo',?_,?_,hS.s _⟩
      ·rw[jS];exact(List.Perm.append_left done2 Hy.out.symm).trans Hdt.out
      ·intro x hx
       rcases List.mem_append.1 hx with hx|hx
       ·exact Hfr2.out x hx
       ·obtain rfl:=List.mem_singleton.1 hx;exact Hg.out
     case measure=>
      have h6:=Hz.out;have h3:=An7 (hS.take (by exact i6));have h5:=Hm1.out;omega
    | some z=>
     obtain⟨z0,z1,z2,z3,z4,z5,z6,z7⟩:=z;have htt:O6 true (eTn ⟨0,0,⟨#[]⟩,⟨#[]⟩,⟨#[]⟩,⟨#[]⟩,0,0⟩) ((i9 e.ts (kc,kq)).map eTn)=.tuple #[eTn ⟨z0,z1,z2,z3,z4,z5,z6,z7⟩,.bool true]:=by rw[hg];rfl
     have Hg:=jH hg;clear hg
     refine rf3 tB51a (fun i=>i==9) (fun _=>none)
      [⟨some 9,some 10,fun nd=>j5 (nd 9) [.I 0,.I 0,.string ⟨#[]⟩,.string ⟨#[]⟩,.string ⟨#[]⟩,.string ⟨#[]⟩,.I 0,.I 0] 40⟩,⟨some 10,none,fun nd=>j5 (nd 9) [.I z0,.I z1,.string z2,.string z3,.string z4,.string z5,.I z6,.I z7] 40⟩] [none,none,none] hS1 ?_
     clear hS1;intro nd
     repeat(first|refine zc1 ?_|refine zcN ?_|refine zcn ?_|apply AB7 (ek:=eW) (ev:=eTn) (k:=(kc,kq));rfl;kernel_rfl;rfl;rfl;rfl;rfl;intro F;exact⟨_,by exact r6⟩;exact mT;exact kW;exact zT;exact htt;refine frS ?_|refine zca ?_|refine zct ?_|refine cR ?_)
     refine Ad7 ?_;intro w hS;have hS2:St W [j5 _ _ _,ebB eb m1 m2 m3 m4,d8 eW eTn m3 e.ts,blk bS _ _,sats (itR eW eTn r2 n3 o.ts todo'::itR eS eN r n1 (i7 O) todo::d8 eS eN m1 (i7 E)::j8 E::d8 eI eSs m2 e.ss::d8 eW eU m4 e.ar::ebB ob n1 n2 n3 n4::j8 O::d8 eI eSs n2 o.ss::d8 eW eU n4 o.ar::R)] w:=hS;clear hS;have hS:=hS2.unpack [_,_,_,_];clear hS2;simp only[jK,jN]at hS;generalize nd 9=v9 at *;have h1:=hS.ptr;clear hS;obtain⟨b9,rfl,hS⟩:=h1;go_wp2_with(fail);go_ret;have h1:=bh4 (hS.s (itR eW eTn r2 n3 o.ts todo'::itR eS eN r n1 (i7 O) todo::ebB eb m1 m2 m3 m4::d8 eS eN m1 (i7 E)::j8 E::d8 eI eSs m2 e.ss::d8 eW eTn m3 e.ts::d8 eW eU m4 e.ar::ebB ob n1 n2 n3 n4::j8 O::d8 eI eSs n2 o.ss::d8 eW eU n4 o.ar::R));have h2:=bh4 (h1.s (itR eS eN r n1 (i7 O) todo::ebB eb m1 m2 m3 m4::d8 eS eN m1 (i7 E)::j8 E::d8 eI eSs m2 e.ss::d8 eW eTn m3 e.ts::d8 eW eU m4 e.ar::d8 eW eTn n3 o.ts::ebB ob n1 n2 n3 n4::j8 O::d8 eI eSs n2 o.ss::d8 eW eU n4 o.ar::R));have h3:=K9 Hp.out (h2.s (ebB eb m1 m2 m3 m4::d8 eS eN m1 (i7 E)::j8 E::d8 eI eSs m2 e.ss::d8 eW eTn m3 e.ts::d8 eW eU m4 e.ar::d8 eS eN n1 (i7 O)::d8 eW eTn n3 o.ts::ebB ob n1 n2 n3 n4::j8 O::d8 eI eSs n2 o.ss::d8 eW eU n4 o.ar::R));have h4:=K9 Hq.out (h3.s (ebB ob n1 n2 n3 n4::d8 eS eN n1 (i7 O)::j8 O::d8 eI eSs n2 o.ss::d8 eW eTn n3 o.ts::d8 eW eU n4 o.ar::ecP eb e::R));exact .inl ⟨Sl7 Hy2.out Hg.out,rfl,h4.swap⟩
   have hde:done2.Perm o.ts:=by rw[ht2,List.append_nil]at hdt;exact hdt
   have hft:∀x∈o.ts,i9 e.ts x.1=none:=fun x hx=>hfr2 x (hde.mem_iff.2 hx)
   have Hcl:=jH (Qt7 Hp.out Hn.out Hq.out Hfr.out hft);have Hov:=jH (LG7 Hfr.out);have Hot:=jH (LG7 hft);clear hdt hfr2 hm1 hde hft;have Ht:=jH ht;clear ht;have ht:=ht2;clear ht2;go_wp2_with(first|(with_reducible apply Bq7 (ek:=eW) (ev:=eTn) hS);rfl;rfl;rfl;exact i6;exact ht;refine frS ?_);have h1:=bh4 hS;have h2:=bh4 (h1.s (itR eS eN r n1 (i7 O) todo::ebB eb m1 m2 m3 m4::d8 eS eN m1 (i7 E)::j8 E::d8 eI eSs m2 e.ss::d8 eW eTn m3 e.ts::d8 eW eU m4 e.ar::d8 eW eTn n3 o.ts::ebB ob n1 n2 n3 n4::j8 O::d8 eI eSs n2 o.ss::d8 eW eU n4 o.ar::R));clear hS h1;have hS:=h2.s (d8 eS eN m1 (i7 E)::d8 eS eN n1 (i7 O)::ebB eb m1 m2 m3 m4::j8 E::d8 eI eSs m2 e.ss::d8 eW eTn m3 e.ts::d8 eW eU m4 e.ar::d8 eW eTn n3 o.ts::ebB ob n1 n2 n3 n4::j8 O::d8 eI eSs n2 o.ss::d8 eW eU n4 o.ar::R);clear h2;refine rt 8 hS ?_
   repeat(first|refine zq1 ?_|refine zqn ?_|refine qR ?_)
   clear hS;intro w hS;simp only[jD,List.drop_zero];go_wp2_with fail;refine(gQ4 W _ _ hS).mono ?_;clear hS;rintro x w ⟨rfl,hS0⟩;rw[Hov.out,Qu7]at hS0;have hS:=hS0.s (d8 eW eTn m3 e.ts::d8 eW eTn n3 o.ts::ebB eb m1 m2 m3 m4::d8 eS eN m1 (i7 (O++E))::j8 E::d8 eI eSs m2 e.ss::d8 eW eU m4 e.ar::d8 eS eN n1 (i7 O)::ebB ob n1 n2 n3 n4::j8 O::d8 eI eSs n2 o.ss::d8 eW eU n4 o.ar::R);clear hS0;go_wp2_with(fail);refine rt 8 hS ?_
   repeat(first|refine zq1 ?_|refine zqn ?_|refine qR ?_)
   clear hS;intro w hS;simp only[jD,List.drop_zero];go_wp2_with fail;refine(gR4 W _ _ hS).mono ?_;clear hS;rintro x w ⟨rfl,hS0⟩;rw[Hot.out]at hS0;have hS:=hS0.s (d8 eW eU m4 e.ar::d8 eW eU n4 o.ar::ebB eb m1 m2 m3 m4::d8 eS eN m1 (i7 (O++E))::j8 E::d8 eI eSs m2 e.ss::d8 eW eTn m3 (o.ts++e.ts)::d8 eS eN n1 (i7 O)::d8 eW eTn n3 o.ts::ebB ob n1 n2 n3 n4::j8 O::d8 eI eSs n2 o.ss::R);clear hS0;go_wp2_with(fail);refine rt 8 hS ?_
   repeat(first|refine zq1 ?_|refine zqn ?_|refine qR ?_)
   clear hS;intro w hS;simp only[jD,List.drop_zero];go_wp2_with fail;refine(gS4 W _ _ hS).mono ?_;clear hS;rintro x w ⟨rfl,hS0⟩;have hS1:=fd4 (hS0.s (j8 O::j8 E::ebB eb m1 m2 m3 m4::d8 eS eN m1 (i7 (O++E))::d8 eI eSs m2 e.ss::d8 eW eTn m3 (o.ts++e.ts)::d8 eW eU m4 (o.ar++M8 e.ar o.ar)::d8 eS eN n1 (i7 O)::d8 eW eTn n3 o.ts::ebB ob n1 n2 n3 n4::d8 eI eSs n2 o.ss::d8 eW eU n4 o.ar::R));clear hS0;have hS:=hS1.s (d8 eI eSs n2 o.ss::d8 eI eSs m2 e.ss::ebB eb m1 m2 m3 m4::d8 eS eN m1 (i7 (O++E))::j8 (O++E)::d8 eW eTn m3 (o.ts++e.ts)::d8 eW eU m4 (o.ar++M8 e.ar o.ar)::ebB ob n1 n2 n3 n4::d8 eS eN n1 (i7 O)::d8 eW eTn n3 o.ts::d8 eW eU n4 o.ar::R);clear hS1;have Hns:=jH (A5 hS);go_wp2_with(first|refine zl1 hS ?_|(with_reducible apply Bo7 (ek:=eI) (ev:=eSs) hS);rfl;rfl;rfl;exact mS;exact i6;clear hS;intro r3 w hS;refine frS ?_)
   go_loopw [] (fun wr=>JsR W (ebB eb m1 m2 m3 m4::d8 eS eN m1 (i7 (O++E))::j8 (O++E)::d8 eW eTn m3 (o.ts++e.ts)::d8 eW eU m4 (o.ar++M8 e.ar o.ar)::ebB ob n1 n2 n3 n4::d8 eS eN n1 (i7 O)::d8 eW eTn n3 o.ts::d8 eW eU n4 o.ar::R) e.ss o.ss n2 m2 r3 wr) (fun wr=>aq4 r3 n2 wr)
   case atStart=>exact⟨[],o.ss,List.Perm.refl _,by rw[List.filter_nil,FG7];exact hS.s _⟩
   case round=>
    clear hS;obtain⟨done3,todo3,hdt,hS⟩:=hrel;have hm1:=An7 hS;by_cases ht3:todo3=[]
    case pos=>
     have hde:done3.Perm o.ss:=by rw[ht3,List.append_nil]at hdt;exact hdt
     have Hjs:=jH (FI7 (D:=e.ss) (hde.filter (bc4 e.ss)));clear hdt hm1 hde;have Ht2:=jH ht;clear ht;have ht:=ht3;clear ht3;go_wp2_with(first|(with_reducible apply Bq7 (ek:=eI) (ev:=eSs) hS);rfl;rfl;rfl;exact i6;exact ht;refine frS ?_);go_ret;have h1:=I7 Hjs.out (hS.s (d8 eI eSs m2 _::ebB eb m1 m2 m3 m4::d8 eS eN m1 (i7 (O++E))::j8 (O++E)::d8 eW eTn m3 (o.ts++e.ts)::d8 eW eU m4 (o.ar++M8 e.ar o.ar)::ebB ob n1 n2 n3 n4::d8 eS eN n1 (i7 O)::d8 eW eTn n3 o.ts::d8 eW eU n4 o.ar::R));have hpq:(k8 (O++E)).Perm (bx4 e o).vs:=by rw[OL7];exact Hq.out.append Hp.out
     exact .inr ⟨Hcl.out,rfl,(K9 (e:=bx4 e o) hpq (h1.s (ebB ob n1 n2 n3 n4::d8 eS eN n1 (i7 O)::d8 eW eTn n3 o.ts::d8 eW eU n4 o.ar::ebB eb m1 m2 m3 m4::d8 eS eN m1 (i7 (O++E))::j8 (O++E)::d8 eI eSs m2 _::d8 eW eTn m3 (o.ts++e.ts)::d8 eW eU m4 (o.ar++M8 e.ar o.ar)::R)).drop.drop.drop.drop)⟩
    case neg=>
     have hcut:∀(y:Int×(Int×Rpl)) (todo':List (Int×(Int×Rpl))),todo3.Perm (y::todo')->_:=fun y todo' h=>EW7 (p:=fun _=>true) Hns.out hdt h
     have Hcut:=jH hcut;have Hm1:=jH hm1;clear hdt hm1 hcut;have Ht2:=jH ht;clear ht;have ht:=ht3;clear ht3;go_wp2_with(first|(with_reducible apply Br7 (ek:=eI) (ev:=eSs) hS);rfl;rfl;rfl;exact i6;exact ht;clear hS;intro y todo' hy1 hy2 w hS;obtain⟨c1,q,e0,e1,y0,y1,y2,y3⟩:=y;have Hy:=jH hy1;have Hy2:=jH hy2;clear hy1 hy2;refine frS ?_|(with_reducible apply Bp7 (ek:=eI) (ev:=eSs) hS);rfl;rfl;rfl;exact i6;clear hS;intro hS;refine frS ?_|refine zal hS ?_;clear hS;intro bS w hS|refine zsN hS ?_;clear hS;intro w hS);obtain⟨k1,k2,k3,_,_⟩:=Hcut.out _ _ Hy.out;have hz:=Hy.out.length_eq;rw[jC]at hz;have h9:∀x∈done3.filter (bc4 e.ss),x.1≠c1:=fun x hx=>k3 x (List.mem_filter.1 hx).1
     have hgl:i9 (done3.filter (bc4 e.ss)++M8 e.ss (done3.filter (bc4 e.ss))) c1=i9 e.ss c1:=FJ7 h9;obtain⟨x,hx⟩:∃x,(i9 e.ss c1).getD (0,rp0)=x:=⟨_,rfl⟩
     obtain⟨q2,f0,f1,⟨x0,x1,x2,x3⟩⟩:=x
     have hss:O6 false (eSs (0,rp0)) ((i9 (done3.filter (bc4 e.ss)++M8 e.ss (done3.filter (bc4 e.ss))) c1).map eSs)=.agg #[.I q2,.I f0,.I f1,.I x0,.I x1,.I x2,.I x3]:=by
      rw[hgl];show _=eSs (q2,⟨f0,f1,⟨x0,x1,x2,x3⟩⟩)
      rw[<-hx]
      cases i9 e.ss c1 <;> rfl
     have Hz:=jH hz;have K1:=jH k1;have H9:=jH h9;have hnb:bc4 e.ss (c1,q,⟨e0,e1,⟨y0,y1,y2,y3⟩⟩)=decide (q2<q):=by unfold bc4;dsimp only;rw[hx]
     have Hnb:=jH hnb;clear hz k1 k2 k3 h9 hgl hx hnb;by_cases hb:q2<q
     ·have d1:decide (q2<q)=true:=decide_eq_true hb;have Hd:=jH d1;clear hb;generalize hsn:done3.filter (bc4 e.ss)=sn at *;have Hsn:=jH hsn;clear hsn;refine rt 9 hS ?_
      repeat(first|refine zq1 ?_|refine zqn ?_|(apply En7 (ek:=eI) (ev:=eSs) (k:=c1));rfl;rfl;rfl;rfl;exact i6;exact mS;exact kEi;exact zS;exact hss;refine frS ?_|(apply LE7);rfl;rfl;rfl;exact gT4 _ _ _ _ _ _ _;refine frS ?_|refine qR ?_)
      clear hS hss;intro w hS;simp only[jD,List.drop_zero];go_wp2_with(fail);refine rt 6 hS ?_
      repeat(first|refine zq1 ?_|refine zqN ?_|refine zqn ?_|refine qR ?_)
      clear hS;intro w hS;simp only[jD,List.drop_zero];go_wp2_with(first|((with_reducible apply Bg7 (ek:=eI) (ev:=eSs) (k:=c1) (u:=(q,⟨e0,e1,⟨y0,y1,y2,y3⟩⟩)) hS);rfl;rfl;rfl;rfl;exact i6;(focus(rfl));exact mS;exact kEi;clear hS;intro w hS;try(refine frS ?_)));go_roundw
      case rel=>
       refine⟨done3++[(c1,q,⟨e0,e1,⟨y0,y1,y2,y3⟩⟩)],todo',K1.out,?_⟩;have hf:(done3++[(c1,q,(⟨e0,e1,⟨y0,y1,y2,y3⟩⟩:Rpl))]).filter (bc4 e.ss)=sn++[(c1,q,⟨e0,e1,⟨y0,y1,y2,y3⟩⟩)]:=by rw[List.filter_append,Hsn.out,List.filter_cons,if_pos (by rw[Hnb.out];exact Hd.out),List.filter_nil]
       rw[hf];have h1:=I7 (FH7 (D:=e.ss) H9.out) (hS.s (d8 eI eSs m2 _::itR eI eSs r3 n2 o.ss todo'::ebB eb m1 m2 m3 m4::d8 eS eN m1 (i7 (O++E))::j8 (O++E)::d8 eW eTn m3 (o.ts++e.ts)::d8 eW eU m4 (o.ar++M8 e.ar o.ar)::ebB ob n1 n2 n3 n4::d8 eS eN n1 (i7 O)::d8 eW eTn n3 o.ts::d8 eW eU n4 o.ar::R));exact h1.swap
      case measure=>
       have h6:=Hz.out;have h3:=An7 (hS.take (by exact i6));have h5:=Hm1.out;omega
     ·have d1:decide (q2<q)=false:=decide_eq_false hb;have Hd:=jH d1;clear hb;refine rt 9 hS ?_
      repeat(first|refine zq1 ?_|refine zqn ?_|(apply En7 (ek:=eI) (ev:=eSs) (k:=c1));rfl;rfl;rfl;rfl;exact i6;exact mS;exact kEi;exact zS;exact hss;refine frS ?_|(apply LE7);rfl;rfl;rfl;exact gT4 _ _ _ _ _ _ _;refine frS ?_|refine qR ?_)
      clear hS hss;intro w hS;simp only[jD,List.drop_zero];go_wp2_with(fail);go_roundw
      case rel=>
       refine⟨done3++[(c1,q,⟨e0,e1,⟨y0,y1,y2,y3⟩⟩)],todo',K1.out,?_⟩;have hf:(done3++[(c1,q,(⟨e0,e1,⟨y0,y1,y2,y3⟩⟩:Rpl))]).filter (bc4 e.ss)=done3.filter (bc4 e.ss):=by rw[List.filter_append,List.filter_cons,if_neg (by rw[Hnb.out,Hd.out];decide),List.filter_nil,List.append_nil]
       rw[hf];exact hS.s _
      case measure=>
       have h6:=Hz.out;have h3:=An7 (hS.take (by exact i6));have h5:=Hm1.out;omega
end Go.Proofs.YtlmhakmoioogaaaGreat
end
