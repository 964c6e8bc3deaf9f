/-
  Maps as resources up to order.
-/
import Derived.Test.YtjcfifkjbaffnaaPeQM1
import Derived.Test.YtjcfifkjbaffnaaPeQM2
import Derived.Test.YtjcfifkjbaffnaaPeQM3
import Derived.Test.YtjcfifkjbaffnaaPeQM4
import Derived.Test.YtjcfifkjbaffnaaPeQM5
import Derived.Test.YtjcfifkjbaffnaaRows
import Derived.Lib.SmallJoins
import Derived.ChangeArms
import Derived.ProofKit
import Derived.OwnWalk
import Derived.Deep.Slices
import Derived.Deep.Fields
import Derived.ChangeSame
import Derived.Sort.Walk0
import Derived.Deep.LoopGhost
set_option maxHeartbeats 16000000
set_option maxRecDepth 100000
set_option linter.unusedSimpArgs false
set_option linter.unusedVariables false
section
namespace Go.Sl
open Go.RowKit
section
variable{κ ν:Type}
def evs(ev:ν->Value)(x:κ×ν×Nat):κ×Value×Nat:=(x.1,ev x.2.1,x.2.2)
def prj(x:κ×ν×Nat):κ×ν:=(x.1,x.2.1)
structure Good(ps:List (κ×ν×Nat))(c:Nat):Prop where
 st:(ps.map (·.2.2)).Nodup
 old:∀x∈ps,x.2.2<c
 ks:(ps.map (·.1)).Nodup
def aR4(ek:κ->Value)(ev:ν->Value)(b:Nat)(ps:List (κ×ν×Nat))(c:Nat):HP:=N6 b ((ps.map (evs ev)).map (A7 ek)) c
def f7(ek:κ->Value)(ev:ν->Value)(b:Nat)(l:List (κ×ν)):HP:=fun f=>∃q:List (κ×ν×Nat)×Nat,((q.1.map prj).Perm l/\Good q.1 q.2)/\aR4 ek ev b q.1 q.2 f
def bC4(l todo:List (κ×ν))(ps:List (κ×ν×Nat))(c since c0:Nat)(seen:Array Nat):Prop:=
 (ps.map prj).Perm l/\Good ps since/\since<=c0/\since<=c/\((ps.filter fun x=>decide (x.2.2∉seen)).map prj).Perm todo
structure ItQ(κ ν:Type) where
 ps:List (κ×ν×Nat)
 c:Nat
 since:Nat
 c0:Nat
 seen:Array Nat
def itR(ek:κ->Value)(ev:ν->Value)(r b:Nat)(l todo:List (κ×ν)):HP:=fun f=>∃q:ItQ κ ν,bC4 l todo q.ps q.c q.since q.c0 q.seen/\sep (bo4 r b q.since q.seen q.c0) (aR4 ek ev b q.ps q.c) f
def cr4(ek:κ->Value)(ev:ν->Value)(r b:Nat)(l todo:List (κ×ν))(x:κ×ν):HP:=fun f=>∃q:ItQ κ ν,(bC4 l todo q.ps q.c q.since q.c0 q.seen/\q.c0=q.c/\∃(s:Nat) (seen':Array Nat),q.seen=seen'.push s/\(x.1,x.2,s)∈q.ps)/\sep (bo4 r b q.since q.seen q.c0) (aR4 ek ev b q.ps q.c) f
theorem GP7(ps:List (κ×ν×Nat)):(ps.map prj).map (·.1)=ps.map (·.1):=by rw[List.map_map];rfl
theorem Ev7(ev:ν->Value)(ps:List (κ×ν×Nat)):(ps.map (evs ev)).map (·.1)=ps.map (·.1):=by rw[List.map_map];rfl
theorem FE7{ev:ν->Value}{ps:List (κ×ν×Nat)}{k:κ}{v:ν}{s:Nat}(h:(k,v,s)∈ps):(k,ev v,s)∈ps.map (evs ev):=List.mem_map.2 ⟨_,h,rfl⟩
theorem FF7{ps:List (κ×ν×Nat)}{l:List (κ×ν)}{x:κ×ν}(hp:(ps.map prj).Perm l)(hx:x∈l):∃s,(x.1,x.2,s)∈ps:=by obtain⟨⟨k,v,s⟩,hy,rfl⟩:=List.mem_map.1 (hp.mem_iff.2 hx);exact⟨s,hy⟩
theorem HG7{ev:ν->Value}{ps:List (κ×ν×Nat)}{l:List (κ×ν)}{k:κ}(hp:(ps.map prj).Perm l)(hk:∀x∈l,x.1≠k):∀x∈ps.map (evs ev),x.1≠k:=by intro x hx;obtain⟨y,hy,rfl⟩:=List.mem_map.1 hx;exact hk (prj y) (hp.mem_iff.1 (List.mem_map_of_mem hy))
theorem Good.new{ps:List (κ×ν×Nat)}{c:Nat}(h:Good ps c){k:κ}{v:ν}(hk:∀x∈ps,x.1≠k):Good (ps++[(k,v,c)]) (c+1):=
 ⟨by
  rw[List.map_append,List.nodup_append];refine⟨h.st,by simp,fun a ha b hb=>?_⟩;obtain⟨x,hx,rfl⟩:=List.mem_map.1 ha;obtain rfl:b=c:=by simpa using hb
  have:=h.old x hx;omega,fun x hx=>by
  rcases List.mem_append.1 hx with h1|h1
  ·have:=h.old x h1;omega
  ·obtain rfl:=List.mem_singleton.1 h1;exact Nat.lt_succ_self c,by
  rw[List.map_append,List.nodup_append];refine⟨h.ks,by simp,fun a ha b hb=>?_⟩;obtain⟨x,hx,rfl⟩:=List.mem_map.1 ha;obtain rfl:b=k:=by simpa using hb
  exact hk x hx⟩
variable{W w:World}{L:List HP}{ek:κ->Value}{ev:ν->Value}{b r:Nat}{l l' todo:List (κ×ν)}
theorem I8(h:St W (f7 ek ev b l::L) w):∃ps c,(ps.map prj).Perm l/\Good ps c/\St W (aR4 ek ev b ps c::L) w:=by obtain⟨⟨ps,c⟩,h⟩:=St.ex h;obtain⟨⟨h1,h2⟩,h3⟩:=St.and h;exact⟨ps,c,h1,h2,h3⟩
theorem N7{ps:List (κ×ν×Nat)}{c:Nat}(hp:(ps.map prj).Perm l)(hg:Good ps c)(h:St W (aR4 ek ev b ps c::L) w):St W (f7 ek ev b l::L) w:=
 h.imp fun _ hf=>⟨(ps,c),⟨hp,hg⟩,hf⟩
theorem aS4(h:St W (f7 ek ev b l::L) w):(l.map (·.1)).Nodup:=by obtain⟨ps,c,h1,h2,h3⟩:=I8 h;have:=h2.ks;rw[<-GP7]at this;exact(h1.map (·.1)).nodup_iff.1 this
variable{P:Program}{t K E:TypeId}
theorem FG7(h:St W L w):∃b w',(Instr.makeMap t none).run P w=.ok (.map (some b)) w'/\St W (f7 ek ev b []::L) w':=by obtain⟨b,w',hr,hS⟩:=DW7 (P:=P) (t:=t) h;exact⟨b,w',hr,N7 (ps:=[]) (c:=0) (List.Perm.refl _) ⟨List.nodup_nil,fun x hx=>(by cases hx),List.nodup_nil⟩ hS⟩
end
section
variable{κ ν:Type}[DecidableEq κ]
variable{W w:World}{L:List HP}{ek:κ->Value}{ev:ν->Value}{b r:Nat}{l l' todo:List (κ×ν)}
variable{P:Program}{t K E:TypeId}
def I9(l:List (κ×ν))(k:κ)(v:ν):List (κ×ν):=l.map fun x=>if x.1=k then(x.1,v)else x
def A6(l:List (κ×ν))(k:κ):List (κ×ν):=l.filter fun x=>decide (x.1≠k)
theorem GQ7{ev:ν->Value}(ps:List (κ×ν×Nat))(k:κ)(v:ν):am4 (ps.map (evs ev)) k (ev v)=(ps.map fun x=>if x.1=k then(x.1,v,x.2.2)else x).map (evs ev):=by
 unfold am4;rw[List.map_map,List.map_map];refine List.map_congr_left fun x _=>?_
 show(if x.1=k then _ else _)=evs ev (if x.1=k then _ else _)
 by_cases h:x.1=k
 ·rw[if_pos h,if_pos h];rfl
 ·rw[if_neg h,if_neg h]
theorem HV7(ps:List (κ×ν×Nat))(k:κ)(v:ν):((ps.map fun x=>if x.1=k then(x.1,v,x.2.2)else x).map prj)=I9 (ps.map prj) k v:=by
 unfold I9;rw[List.map_map,List.map_map];refine List.map_congr_left fun x _=>?_
 show prj (if x.1=k then _ else _)=(if x.1=k then _ else _)
 by_cases h:x.1=k
 ·rw[if_pos h,if_pos h];rfl
 ·rw[if_neg h,if_neg h]
theorem FH7{l l':List (κ×ν)}(h:l.Perm l')(k:κ)(v:ν):(I9 l k v).Perm (I9 l' k v):=h.map _
theorem IO7(ps:List (κ×ν×Nat))(k:κ)(v:ν):((ps.map fun x=>if x.1=k then(x.1,v,x.2.2)else x).map (·.2.2))=ps.map (·.2.2):=by
 rw[List.map_map];refine List.map_congr_left fun x _=>?_
 show(if x.1=k then _ else _:κ×ν×Nat).2.2=x.2.2
 by_cases h:x.1=k
 ·rw[if_pos h]
 ·rw[if_neg h]
theorem IP7(ps:List (κ×ν×Nat))(k:κ)(v:ν):((ps.map fun x=>if x.1=k then(x.1,v,x.2.2)else x).map (·.1))=ps.map (·.1):=by
 rw[List.map_map];refine List.map_congr_left fun x _=>?_
 show(if x.1=k then _ else _:κ×ν×Nat).1=x.1
 by_cases h:x.1=k
 ·rw[if_pos h]
 ·rw[if_neg h]
theorem Good.set{ps:List (κ×ν×Nat)}{c:Nat}(h:Good ps c)(k:κ)(v:ν):Good (ps.map fun x=>if x.1=k then(x.1,v,x.2.2)else x) c:=
 ⟨by rw[IO7];exact h.st,fun x hx=>by
  obtain⟨y,hy,rfl⟩:=List.mem_map.1 hx;have:=h.old y hy;show(if y.1=k then _ else _:κ×ν×Nat).2.2<c
  by_cases e:y.1=k
  ·rw[if_pos e];exact this
  ·rw[if_neg e];exact this,by rw[IP7];exact h.ks⟩
theorem Ds7{x:κ×ν}{ok:Bool}(h:St W (f7 ek ev b l::L) w)(ht:x9 P t=some (K,E))(hK:KeyOk P K ek)(hx:x∈l):
  (Instr.lookup t (.map (some b)) (ek x.1) ok).run P w=.ok (if ok then .tuple #[ev x.2,.bool true]else ev x.2) w:=by
 obtain⟨ps,c,h1,h2,h3⟩:=I8 h;obtain⟨s,hs⟩:=FF7 h1 hx;exact Dq7 h3 ht hK (by rw[Ev7];exact h2.ks) (FE7 hs)
theorem Dt7{k:κ}{z:Value}{ok:Bool}(h:St W (f7 ek ev b l::L) w)(ht:x9 P t=some (K,E))(hK:KeyOk P K ek)(hz:s6 P E=some z)(hk:∀x∈l,x.1≠k):
  (Instr.lookup t (.map (some b)) (ek k) ok).run P w=.ok (if ok then .tuple #[z,.bool false]else z) w:=by
 obtain⟨ps,c,h1,h2,h3⟩:=I8 h;exact Dp7 h3 ht hK hz (HG7 h1 hk)
theorem FI7{k:κ}(hk:∀x∈l,x.1≠k):A6 l k=l:=List.filter_eq_self.2 fun x hx=>by simpa using hk x hx
theorem Ew7{k:κ}{u v:ν}:∀{l:List (κ×ν)},(l.map (·.1)).Nodup->(k,u)∈l->(I9 l k v).Perm ((k,v)::A6 l k)
 | y::l,hn,hm=>by
  rw[List.map_cons,List.nodup_cons]at hn;by_cases hk:y.1=k
  ·have h0:∀x∈l,x.1≠k:=fun x hx e=>hn.1 (List.mem_map.2 ⟨x,hx,e.trans hk.symm⟩)
   have h1:I9 l k v=l:=by unfold I9;refine(List.map_congr_left fun x hx=>?_).trans (List.map_id l);rw[if_neg (h0 x hx)];rfl
   have h2:A6 (y::l) k=l:=by have:=FI7 h0;unfold A6 at this ⊢;rw[List.filter_cons,if_neg (by simpa using hk),this]
   have h3:I9 (y::l) k v=(k,v)::l:=by have:I9 (y::l) k v=(if y.1=k then(y.1,v)else y)::I9 l k v:=rfl;rw[this,h1,if_pos hk,hk]
   rw[h2,h3]
  ·have hm':(k,u)∈l:=by
    rcases List.mem_cons.1 hm with h|h
    ·exact absurd (by rw[<-h]) hk
    ·exact h
   have h2:A6 (y::l) k=y::A6 l k:=by unfold A6;rw[List.filter_cons,if_pos (by simpa using hk)]
   have h3:I9 (y::l) k v=y::I9 l k v:=by have:I9 (y::l) k v=(if y.1=k then(y.1,v)else y)::I9 l k v:=rfl;rw[this,if_neg hk]
   rw[h2,h3];exact((Ew7 hn.2 hm').cons y).trans (List.Perm.swap _ _ _)
theorem GR7{k:κ}{v:ν}(h:St W (f7 ek ev b l::L) w)(ht:x9 P t=some (K,E))(hK:KeyOk P K ek):
  ∃w',(Instr.mapUpdate t (.map (some b)) (ek k) (ev v)).run P w=.ok () w'/\St W (f7 ek ev b ((k,v)::A6 l k)::L) w':=by
 have hkl:=aS4 h;obtain⟨ps,c,h1,h2,h3⟩:=I8 h;by_cases hk:∃u,(k,u)∈l
 ·obtain⟨u,hu⟩:=hk;obtain⟨s,hs⟩:=FF7 h1 hu;obtain⟨w',hr,hS⟩:=DX7 (v:=ev v) h3 ht hK (by rw[Ev7];exact h2.ks) (FE7 hs);rw[GQ7]at hS;refine⟨w',hr,N7 ?_ (h2.set k v) hS⟩;rw[HV7];exact(FH7 h1 k v).trans (Ew7 hkl hu)
 ·have hk':∀x∈l,x.1≠k:=fun x hx e=>hk ⟨x.2,by rw[<-e];exact hx⟩
  obtain⟨w',hr,hS⟩:=Dr7 (v:=ev v) h3 ht hK (HG7 h1 hk');have e:ps.map (evs ev)++[(k,ev v,c)]=(ps++[(k,v,c)]).map (evs ev):=by rw[List.map_append];rfl
  rw[e]at hS;refine⟨w',hr,N7 ?_ (h2.new fun x hx=>?_) hS⟩
  ·rw[FI7 hk',List.map_append];exact(List.perm_append_comm).trans (h1.cons (k,v))
  ·exact hk' (prj x) (h1.mem_iff.1 (List.mem_map_of_mem hx))
end
end Go.Sl
end
section
namespace Go.Sl
open Go.RowKit
section
variable{κ ν:Type}
end
section
variable{κ ν:Type}[DecidableEq κ]{W w:World}{L:List HP}{ek:κ->Value}{ev:ν->Value}{b r:Nat}{l todo:List (κ×ν)}{P:Program}{t K E:TypeId}
end
section
variable{κ ν:Type}{W w:World}{L:List HP}{ek:κ->Value}{ev:ν->Value}{b r:Nat}{l todo:List (κ×ν)}{P:Program}{t K E:TypeId}
end
section
variable{κ ν:Type}{W w:World}{L R:List HP}{ek:κ->Value}{ev:ν->Value}{b r:Nat}{l todo:List (κ×ν)}{P:Program}{t K E:TypeId}{ops:Array Oper}{Q:Exit->Act->World->Prop}{a:Act}{rest:List Oper}{o:Oper}
theorem BF7(ek:κ->Value)(ev:ν->Value)(hS:St W L w)(ho:o.op=.makeMap t none)(hg:Region.wanted o (yielded ops a.tmps)=true)
  (h:∀b w',St W (f7 ek ev b []::L) w'->wpList P ops Q rest (a.put o.dst (.map (some b))) w'):wpList P ops Q (o::rest) a w:=by
 obtain⟨b,w',hr,hS'⟩:=FG7 (P:=P) (t:=t) (ek:=ek) (ev:=ev) hS;refine Ag7 hg (v:=.map (some b)) (w':=w') ?_ (h b w' hS');unfold execOp;simp[ho,hr]
def bP4(r b:Nat)(w:World):Nat:=match w.heap[r]?,w.heap[b]? with
 | some (.mapIter _ _ seen _),some (.map es _)=>(es.toList.filter fun e=>decide (e.born∉seen)).length
 | _,_=>0
variable[DecidableEq κ]
def F7(ok:Bool)(z:Value):Option Value->Value
 | some v=>if ok then .tuple #[v,.bool true]else v
 | none=>if ok then .tuple #[z,.bool false]else z
def l6(l:List (κ×ν))(k:κ):Option ν:=(l.find? fun x=>decide (x.1=k)).map (·.2)
theorem FJ7{k:κ}(h:l6 l k=none):∀x∈l,x.1≠k:=by unfold l6 at h;rw[Option.map_eq_none_iff,List.find?_eq_none]at h;intro x hx;simpa using h x hx
theorem FK7{k:κ}{v:ν}(h:l6 l k=some v):(k,v)∈l:=by unfold l6 at h;obtain⟨x,hx,rfl⟩:=Option.map_eq_some_iff.1 h;have h1:=List.find?_some hx;have h2:=List.mem_of_find?_eq_some hx;simp only[decide_eq_true_eq]at h1;rw[<-h1];exact h2
theorem BR7{k:κ}{z:Value}{ok:Bool}(h:St W (f7 ek ev b l::L) w)(ht:x9 P t=some (K,E))(hK:KeyOk P K ek)(hz:s6 P E=some z):
  (Instr.lookup t (.map (some b)) (ek k) ok).run P w=.ok (F7 ok z ((l6 l k).map ev)) w:=by
 cases hg:l6 l k with
 | some v=>exact Ds7 (x:=(k,v)) h ht hK (FK7 hg)
 | none=>exact Dt7 h ht hK hz (FJ7 hg)
theorem CK7{x y v:Operand}{k:κ}{u:ν}(hS:St W L w)(ho:o.op=.mapUpdate t x y v)(hg:Region.wanted o (yielded ops a.tmps)=true)(hx:a.eval x=.map (some b))(hy:a.eval y=ek k)(hu:Take L (f7 ek ev b l) R)(hv:a.eval v=ev u)
  (ht:x9 P t=some (K,E)) (hK:KeyOk P K ek) (h:∀w',St W (f7 ek ev b ((k,u)::A6 l k)::R) w'->wpList P ops Q rest (a.put o.dst undef) w'):wpList P ops Q (o::rest) a w:=by
 obtain⟨w',hr,hS'⟩:=GR7 (P:=P) (k:=k) (v:=u) (hS.take hu) ht hK;refine AD7 hg (w':=w') ?_ (h w' hS');unfold execOp;simp[ho,hx,hy,hv,hr]
end
end Go.Sl
end
section
namespace Go.Sl
open Go.RowKit
section
variable{κ ν:Type}[DecidableEq κ]{P:Program}{t K E:TypeId}{ek:κ->Value}{ev:ν->Value}{W w:World}{L R:List HP}{b:Nat}{l:List (κ×ν)}{ops:Array Oper}{a:Act}{rest:List Oper}{o:Oper}
end
end Go.Sl
namespace Go.Sl
open Go.RowKit
section
variable{P:Program}{w:World}{ops:Array Oper}{Q:Exit->Act->World->Prop}{a:Act}{rest:List Oper}{o:Oper}
end
end Go.Sl
namespace Go.Proofs.Ytjcfifkjbaffnaa
open Go.RowKit Go.Sl
abbrev Ps:=List (ByteArray×It)
section
variable(vb mb:Nat)(p:Ps)(k:ByteArray)(u1 u2:Value)(W w:World)(R:List HP)
end
end Go.Proofs.Ytjcfifkjbaffnaa
end
section
namespace Go.Proofs.Ytjcfifkjbaffnaa
open Go.Joins Go.ChangeShapes Go.WideShapes Go.RowKit Go.Deep Go.Sl
def cp4(w:World)(v:Value)(zs:List Int):Prop:=
 (zs=[]/\∃a cap,v=.slice a 0 cap) \/
 ∃b off cap,v=.slice (some ⟨b,off,none⟩) zs.length cap/\0<zs.length/\zs.length<=9223372036854775807/\∀i,i<zs.length->w.cell? ⟨b,off+i,none⟩=some (.I (zs.getD i 0))
end Go.Proofs.Ytjcfifkjbaffnaa
end
section
namespace Go.Sl
open Go.RowKit
section
variable{P:Program}{ops:Array Oper}{Q:Exit->Act->World->Prop}{a:Act}{w:World}{W:World}{L L' R:List HP}{rest:List Oper}{o:Oper}
end
end Go.Sl
end
section
namespace Go.Proofs.Ytjcfifkjbaffnaa
open Go.RowKit Go.Sl
theorem St.src{W w:World}{L:List HP}{v:Value}{k n:Nat}{T:TypeId}{cs:List Value}(hk:0<k)(h:St W (row v k T n cs::L) w):Src (row v k T n cs::L) v n cs:=by
 rcases h.rowOpen with ⟨rfl,rfl,rfl,_⟩|⟨g,cap,junk,rfl,hn1,hm1,hj1,hl1,_⟩
 ·exact .inl ⟨rfl,rfl,rfl⟩
 ·refine .inr ⟨g,0,cap,rfl,fun j u hj=>?_⟩;rw[Nat.zero_add];have hjl:=(List.getElem?_eq_some_iff.1 hj).1;refine b8.row ?_ hj
  rcases Nat.eq_zero_or_pos n with h0|h0
  ·rw[hl1,h0,Nat.zero_mul]at hjl;omega
  ·exact h0
end Go.Proofs.Ytjcfifkjbaffnaa
end
section
namespace Go.Proofs.Ytjcfifkjbaffnaa
open Go.Joins Go.ChangeShapes Go.WideShapes Go.RowKit Go.Deep Go.Sl
section
variable{H:Type}{enc:TypeId×Value->H}{P:Program}{w:World}{base:Nat}{spare:Nat->Bool}{held:Bool}
end
def c9{α:Type}(enc:α->List Value)(k:Nat)(w:World)(v:Value)(xs:List α):Prop:=
 ∃a cap,v=.slice a xs.length cap/\xs.length<=9223372036854775807/\∀i (h:i<xs.length), ∃b off,a=some ⟨b,off,none⟩/\∀j u,(enc xs[i])[j]? = some u->w.cell? ⟨b,off+i*k+j,none⟩=some u
section
variable{H:Type}{enc:TypeId×Value->H}{P:Program}{w:World}{base:Nat}{spare:Nat->Bool}{held:Bool}
theorem DY7{α:Type}{r:Reach}{b0:Nat}{t e:TypeId}{k:Nat}{v:Value}{d:DataW H}{p:List MemPlace}(en:α->List Value)(x0:α)(hk:∀x,(en x).length=k)(h0:0<k)(ht:P.underlying t=some (.slice e))(hC:P.cellsOf e=k)
  (hE:∀(n:Nat) (cs:List Value) (y:DataW H×List MemPlace),cs.length=k->DataW.trod enc P w base spare held n e cs=some y->∃x,cs=en x)
  (hv:Value.okWide P w r b0 t v) (h:DataW.Trod enc P w base spare held t v d p):∃xs,c9 en k w v xs:=by
 obtain⟨a0,len,cap,rfl⟩:=okWide_slice ht hv;obtain⟨fuel,hf⟩:=h
 rcases open_slice ht hf with ⟨hcs,hx⟩|⟨a,len',cap',m,n,D,Pl,hcs,hb,hl,hm,hmm,hx,hi⟩
 ·simp[Value.cells]at hcs;obtain⟨rfl,rfl,rfl⟩:=hcs;exact⟨[],none,0,rfl,by simp,fun i hi=>absurd hi (Nat.not_lt_zero _)⟩
 ·simp[Value.cells]at hcs;obtain⟨rfl,rfl,rfl⟩:=hcs;have hlm:len<=m:=by rw[hmm];split <;> omega
  have hex:∀i, ∃x:α,i<len->∀j u,(en x)[j]? = some u->w.cell? ((a.add (i*k)).add j)=some u:=fun i=>by
   by_cases hil:i<len
   ·obtain⟨cs',hc,ht'⟩:=hi i (by omega);rw[hC]at hc;obtain⟨_,hcl,hat⟩:=World.cells?_some hc;obtain⟨x,rfl⟩:=hE n cs' _ hcl ht';refine⟨x,fun _ j u hj=>?_⟩;have hjk:j<k:=by have:=(List.getElem?_eq_some_iff.1 hj).1;rwa [hk]at this
    rw[hat j hjk];exact hj
   ·exact⟨x0,fun h=>absurd h hil⟩
  obtain⟨f,hf'⟩:=Classical.axiomOfChoice hex;have hll:((List.range len).map f).length=len:=by simp
  refine⟨(List.range len).map f,some a,cap,by rw[hll],by rw[hll];unfold maxLen at hm;omega,fun i hi2=>?_⟩;rw[hll]at hi2;have hspot:a.spot=none:=by have hc:=hf' 0 (by omega);have h1:(en (f 0))[0]? = some ((en (f 0))[0]'(by rw[hk];exact h0)):=jG _;have:=World.cell?_spot (hc 0 _ h1);simpa[Addr.add]using this
  obtain⟨b,off,spot⟩:=a;simp only at hspot;subst hspot;refine⟨b,off,rfl,fun j u hj=>?_⟩;have e1:((List.range len).map f)[i]=f i:=by simp
  rw[e1]at hj;have:=hf' i hi2 j u hj;rwa [Addr.add_lit,Addr.add_lit]at this
end
end Go.Proofs.Ytjcfifkjbaffnaa
end
section
namespace Go.Proofs.Ytjcfifkjbaffnaa
open Go.RowKit Go.Sl
section
variable{p:Ps}{N:Nat}
end
theorem AS7{a b:ByteArray}(h:a.data.toList=b.data.toList):a=b:=by obtain⟨⟨a⟩⟩:=a;obtain⟨⟨b⟩⟩:=b;simp at h;rw[h]
structure Hd where
 who:ByteArray
 has:It
def Hd.cells(h:Hd):List Value:=.string h.who::h.has.cells
theorem Hd.len(h:Hd):h.cells.length=5:=rfl
section
variable{p:Ps}{N:Nat}
end
structure Zo where
 id:Int
 sf:ByteArray
 st:ByteArray
 own:Int
 ep:Int
 pend:Int
 to:Int
 key:ByteArray
 new:Int
def Zo.cells(z:Zo):List Value:=[.I z.id,.string z.sf,.string z.st,.I z.own,.I z.ep,.I z.pend,.I z.to,.string z.key,.I z.new]
theorem Zo.len(z:Zo):z.cells.length=9:=rfl
structure Mp where
 ver:Int
 nxt:Int
 zs:List Zo
def w7(u:ByteArray):Bool:=decide (u.size=0)
def ltU(a b:ByteArray):Bool:=Op.bytesLess a.toList b.toList
def spB(f t:ByteArray):Bool:=decide (f.size<=16)&&(decide (t.size<=16)&&(w7 t||ltU f t))
def aL4(f t k:ByteArray):Bool:=spB f t&&(decide (1<=k.size)&&(decide (k.size<=16)&&(!ltU k f&&(w7 t||ltU k t))))
def an4(f t k:ByteArray):Bool:=aL4 f t k&&ltU f k
def ac4:List Zo->Int->Nat->Int
 | [],_,_ => -1
 | z::l,n,i=>if z.id=n then i else ac4 l n (i+1)
def n7(l:List Zo)(n:Int):Int:=ac4 l n 0
theorem Cp7(n:Int):∀(l:List Zo) (i:Nat),(ac4 l n i = -1/\∀z∈l,z.id≠n)\/∃k, ∃h:k<l.length,ac4 l n i=((i+k:Nat):Int)/\l[k].id=n/\∀j (hj:j<k),(l[j]'(by omega)).id≠n
 | [],_=>.inl ⟨rfl,fun _ h=>(by cases h)⟩
 | z::l,i=>by
  by_cases hz:z.id=n
  ·exact .inr ⟨0,by simp,by rw[ac4,if_pos hz];rfl,hz,fun j hj=>by omega⟩
  ·rw[ac4,if_neg hz];rcases Cp7 n l (i+1)with ⟨h1,h2⟩|⟨k,hk,h1,h2,h3⟩
   ·refine .inl ⟨h1,fun y hy=>?_⟩
    rcases List.mem_cons.1 hy with rfl|hy
    ·exact hz
    ·exact h2 y hy
   ·refine .inr ⟨k+1,by simp;omega,by rw[h1];congr 1;omega,by simpa using h2,fun j hj=>?_⟩
    match j,hj with
    | 0,_=>exact hz
    | j+1,hj=>simpa using h3 j (by omega)
theorem As7(l:List Zo)(n:Int):(n7 l n = -1/\∀z∈l,z.id≠n)\/∃k, ∃h:k<l.length,n7 l n=(k:Int)/\l[k].id=n/\∀j (hj:j<k),(l[j]'(by omega)).id≠n:=by have:=Cp7 n l 0;simpa[n7]using this
def G8(l:List Zo)(n:Int):Nat:=(l.filter fun z=>decide (z.new=n)).length
def aH4(l:List Zo)(nxt:Int)(z:Zo)(i:Nat):Prop:=1<=z.id/\z.id<nxt/\n7 l z.id=i/\1<=z.own/\z.own<=1048576/\1<=z.ep/\z.ep<=1099511627776
def aI4(z:Zo):Prop:=z.to=0/\z.key.size=0/\z.new=0
def aJ4(z:Zo):Prop:=1<=z.to/\z.to<=1048576/\z.to≠z.own/\z.key.size=0/\z.new=0
def bd4(nxt:Int)(l:List Zo)(z:Zo):Prop:=an4 z.sf z.st z.key=true/\z.to=0/\1<=z.new/\z.new<nxt/\n7 l z.new<0
def be4(l:List Zo)(z:Zo)(i:Nat):Prop:=z.to=0/\z.key.size=0/\∃k, ∃h:k<l.length,n7 l z.new=(k:Int)/\(k=i+1\/k+1=i)/\l[k].own=z.own/\l[k].pend=2/\l[k].new=z.id
def bp4(l:List Zo)(nxt:Int)(z:Zo)(i:Nat):Prop:=aH4 l nxt z i/\((z.pend=0/\aI4 z)\/(z.pend=1/\bd4 nxt l z/\G8 l z.new=1)\/(z.pend=2/\be4 l z i/\G8 l z.new=1)\/(z.pend=3/\aJ4 z))
def bq4(l:List Zo)(nxt:Int)(z:Zo)(i:Nat):Prop:=aH4 l nxt z i/\((z.pend=0/\aI4 z)\/(z.pend=1/\bd4 nxt l z/\∀k (h:k<l.length),k≠i->l[k].pend=1->l[k].new≠z.new)\/(z.pend=2/\be4 l z i)\/(z.pend=3/\aJ4 z))
theorem CL7{α:Type}{p:α->Bool}:∀{l:List α} {i:Nat} (hi:i<l.length),p l[i]=true->(∀k (h:k<l.length),k≠i->p l[k]=false)->(l.filter p).length=1
 | x::l,0,_,hp,hn=>by
  have hp0:p x=true:=hp;rw[List.filter_cons,if_pos hp0];have:l.filter p=[]:=List.filter_eq_nil_iff.2 fun y hy=>by obtain⟨k,hk,e⟩:=List.getElem_of_mem hy;have:=hn (k+1) (by simp;omega) (by omega);simp only[List.getElem_cons_succ,e]at this;simp[this]
  rw[this];rfl
 | x::l,i+1,hi,hp,hn=>by have h0:p x=false:=hn 0 (by simp) (by omega);rw[List.filter_cons,if_neg (by simp[h0])];exact CL7 (i:=i) (by simpa using hi) (by simpa using hp) fun k hk hne=>by have:=hn (k+1) (by simp;omega) (by omega);simpa using this
theorem GS7{α:Type}{p:α->Bool}{l:List α}(h:(l.filter p).length=1){i k:Nat}(hi:i<l.length)(hk:k<l.length)(pi:p l[i]=true)(pk:p l[k]=true):i=k:=by
 rcases Nat.lt_trichotomy i k with hlt|rfl|hlt
 ·exfalso
  have h2:(l.filter p).length=((l.take k).filter p).length+((l.drop k).filter p).length:=by
   conv=>lhs;rw[<-List.take_append_drop k l]
   rw[List.filter_append,jA]
  have h3:0<((l.take k).filter p).length:=List.length_pos_of_mem (a:=l[i]) (List.mem_filter.2 ⟨List.mem_take_iff_getElem.2 ⟨i,by omega,rfl⟩,pi⟩);have h4:0<((l.drop k).filter p).length:=List.length_pos_of_mem (a:=l[k]) (List.mem_filter.2 ⟨by rw[List.drop_eq_getElem_cons hk];exact List.mem_cons_self ..,pk⟩);omega
 ·rfl
 ·exfalso
  have h2:(l.filter p).length=((l.take i).filter p).length+((l.drop i).filter p).length:=by
   conv=>lhs;rw[<-List.take_append_drop i l]
   rw[List.filter_append,jA]
  have h3:0<((l.take i).filter p).length:=List.length_pos_of_mem (a:=l[k]) (List.mem_filter.2 ⟨List.mem_take_iff_getElem.2 ⟨k,by omega,rfl⟩,pk⟩);have h4:0<((l.drop i).filter p).length:=List.length_pos_of_mem (a:=l[i]) (List.mem_filter.2 ⟨by rw[List.drop_eq_getElem_cons hi];exact List.mem_cons_self ..,pi⟩);omega
theorem EY7(l:List Zo)(nxt:Int):(∀i (h:i<l.length),bp4 l nxt l[i] i)↔∀i (h:i<l.length),bq4 l nxt l[i] i:=by
 constructor
 ·intro H i hi;obtain⟨h1,h2|⟨h2,h3,h4⟩|⟨h2,h3,_⟩|h2⟩:=H i hi
  ·exact⟨h1,.inl h2⟩
  ·refine⟨h1,.inr (.inl ⟨h2,h3,fun k hk hne _ e=>hne ?_⟩)⟩;exact GS7 h4 hk hi (by simpa using e) (by simp)
  ·exact⟨h1,.inr (.inr (.inl ⟨h2,h3⟩))⟩
  ·exact⟨h1,.inr (.inr (.inr h2))⟩
 ·intro H i hi;obtain⟨h1,h2|⟨h2,h3,h4⟩|⟨h2,h3⟩|h2⟩:=H i hi
  ·exact⟨h1,.inl h2⟩
  ·refine⟨h1,.inr (.inl ⟨h2,h3,CL7 hi (by simp) fun k hk hne=>?_⟩)⟩;simp only[decide_eq_false_iff_not];intro e;obtain⟨_,g2|⟨g2,g3,_⟩|⟨g2,g3⟩|g2⟩:=H k hk
   ·have:=g2.2.2.2;have:=h3.2.2.1;omega
   ·exact h4 k hk hne g2 e
   ·obtain⟨_,_,j,hj,hf,_⟩:=g3;have:=h3.2.2.2.2;rw[e]at hf;omega
   ·have:=g2.2.2.2.2.2;have:=h3.2.2.1;omega
  ·refine⟨h1,.inr (.inr (.inl ⟨h2,h3,CL7 hi (by simp) fun k hk hne=>?_⟩))⟩;simp only[decide_eq_false_iff_not];intro e;obtain⟨_,_,j,hj,hf,hji,_,_,hjn⟩:=h3;obtain⟨g1,g2|⟨g2,g3,_⟩|⟨g2,g3⟩|g2⟩:=H k hk
   ·have hk0:=g2.2.2.2;have hz:=(H j hj).1.1
    rcases As7 l l[i].new with ⟨f1,_⟩|⟨a,ha,f1,f2,_⟩
    ·omega
    ·have:a=j:=by omega
     subst this;omega
   ·have:=g3.2.2.2.2;rw[e,hf]at this;omega
   ·obtain⟨_,_,j2,hj2,hf2,_,_,_,hjn2⟩:=g3;rw[e,hf]at hf2;have:j=j2:=by omega
    subst this;have e2:l[k].id=l[i].id:=by rw[<-hjn,<-hjn2]
    have a1:=g1.2.2.1;have a2:=h1.2.2.1;rw[e2,a2]at a1;omega
   ·have hk0:=g2.2.2.2.2.2;have hz:=(H j hj).1.1
    rcases As7 l l[i].new with ⟨f1,_⟩|⟨a,ha,f1,f2,_⟩
    ·omega
    ·have:a=j:=by omega
     subst this;omega
  ·exact⟨h1,.inr (.inr (.inr h2))⟩
structure Ro where
 zone:Int
 hits:Int
 mid:ByteArray
def Ro.cells(r:Ro):List Value:=[.I r.zone,.I r.hits,.string r.mid]
structure Cg where
 kind:Int
 zone:Int
 ep:Int
 to:Int
 key:ByteArray
def Cg.cells(c:Cg):List Value:=[.I c.kind,.I c.zone,.I c.ep,.I c.to,.string c.key]
def G9(n:Int):Int:=max 0 (min n 1099511627776)
def ro0:Ro:=⟨0,0,⟨#[]⟩⟩
def D5:List Ro->Int->Ro
 | [],_=>ro0
 | r::l,n=>if r.zone=n then⟨r.zone,G9 r.hits,r.mid⟩else D5 l n
def i6(l:List Ro)(z:Zo):Int:=(D5 l z.id).hits
theorem Av7(l:List Ro)(z:Zo):0<=i6 l z/\i6 l z<=1099511627776:=by
 unfold i6
 induction l with
 | nil=>exact⟨Int.le_refl _,show(0:Int)<=1099511627776 by omega⟩
 | cons r l ih=>
  rw[D5];split
  ·show 0<=G9 r.hits/\G9 r.hits<=_
   unfold G9;omega
  ·exact ih
structure Pn where
 nm:List Int
 mv:List (Int×Int)
 out:List Cg
abbrev pn0:Pn:=⟨[],[],[]⟩
def B9(s:Pn)(z:Zo):Bool:=decide (z.pend=0)&&!decide (z.id∈s.nm)
def aM4(l:List Ro)(hot:Int)(s:Pn×Int)(z:Zo):Bool:=decide (0<s.2)&&(an4 z.sf z.st (D5 l z.id).mid&&(B9 s.1 z&&decide (hot<i6 l z)))
def M5(l:List Ro)(hot:Int)(s:Pn×Int)(z:Zo):Pn×Int:=if aM4 l hot s z=true then(⟨z.id::s.1.nm,s.1.mv,s.1.out++[⟨1,z.id,0,0,(D5 l z.id).mid⟩]⟩,s.2-1)else s
def G6(l:List Ro)(hot:Int)(Z:List Zo)(s:Pn×Int):Pn×Int:=Z.foldl (M5 l hot) s
theorem HW7(l:List Ro)(hot:Int){Z:List Zo}{i:Nat}(h:i<Z.length)(s:Pn×Int):G6 l hot (Z.take (i+1)) s=M5 l hot (G6 l hot (Z.take i) s) Z[i]:=by unfold G6;rw[List.take_succ_eq_append_getElem h,List.foldl_append];rfl
def NxI(zs:List Zo)(n v:Int):Prop:=(v = -1/\∀z∈zs,z.id<=n)\/∃i:Nat,v=i/\∃h:i<zs.length,n<zs[i].id/\∀z∈zs,n<z.id->zs[i].id<=z.id
def as4(Z:List Zo):Prop:=Z.Pairwise fun a b=>a.id<b.id
def atZ(s:Pn)(z:Zo):Int:=(l6 s.mv z.id).getD (if z.pend=3 then z.to else z.own)
def d6(l:List Ro)(s:Pn)(h:Int):List Zo->Int
 | []=>0
 | z::zs=>(if atZ s z=h then i6 l z else 0)+d6 l s h zs
theorem Du7(l:List Ro)(s:Pn)(h:Int):∀a b:List Zo,d6 l s h (a++b)=d6 l s h a+d6 l s h b
 | [],b=>by rw[jN,d6];omega
 | z::a,b=>by rw[jK,d6,d6,Du7 l s h a b];omega
theorem Ex7(l:List Ro)(s:Pn)(h:Int){zs:List Zo}{i:Nat}(hi:i<zs.length):d6 l s h (zs.take (i+1))=d6 l s h (zs.take i)+(if atZ s zs[i]=h then i6 l zs[i]else 0):=by rw[List.take_succ_eq_append_getElem hi,Du7,d6,d6];omega
theorem BG7(l:List Ro)(s:Pn)(h:Int):∀zs:List Zo,0<=d6 l s h zs/\d6 l s h zs<=zs.length*1099511627776
 | []=>⟨Int.le_refl _,Int.le_refl _⟩
 | z::zs=>by have h1:=BG7 l s h zs;have h2:=Av7 l z;rw[d6,jC];split <;> omega
def J5(ld:Int->Int)(hs:List Int)(a:Int):Prop:=a∈hs/\∀h∈hs,ld h<ld a\/(ld h=ld a/\a<=h)
def F8(ld:Int->Int)(hs:List Int)(a:Int):Prop:=a∈hs/\∀h∈hs,ld a<ld h\/(ld h=ld a/\a<=h)
theorem Bt7{ld:Int->Int}{hs:List Int}{a b:Int}(ha:J5 ld hs a)(hb:J5 ld hs b):a=b:=by have h1:=ha.2 b hb.1;have h2:=hb.2 a ha.1;omega
theorem BS7{ld:Int->Int}{hs:List Int}{a b:Int}(ha:F8 ld hs a)(hb:F8 ld hs b):a=b:=by have h1:=ha.2 b hb.1;have h2:=hb.2 a ha.1;omega
def at4(l:List Ro)(s:Pn)(frm:Int)(lf lt:Int)(z:Zo):Bool:=decide (z.own=frm)&&(B9 s z&&(decide (0<i6 l z)&&decide (lt+i6 l z<lf)))
def bf4(l:List Ro)(z:Zo):Option Zo->Bool
 | none=>true
 | some y=>decide (i6 l y<i6 l z)||(decide (i6 l z=i6 l y)&&decide (z.id<y.id))
def C5(l:List Ro)(c:Zo->Bool)(zs:List Zo):Nat->Option Nat
 | 0=>none
 | i+1=>match zs[i]? with
  | none=>C5 l c zs i
  | some z=>if(c z&&bf4 l z ((C5 l c zs i).bind (zs[·]?)))=true then some i else C5 l c zs i
theorem Ey7(l:List Ro)(c:Zo->Bool){zs:List Zo}{i:Nat}(h:i<zs.length):C5 l c zs (i+1)=if(c zs[i]&&bf4 l zs[i] ((C5 l c zs i).bind (zs[·]?)))=true then some i else C5 l c zs i:=by rw[C5,jG h]
theorem Bn7(l:List Ro)(c:Zo->Bool){zs:List Zo}:∀{i:Nat},i<=zs.length->∀k,C5 l c zs i=some k->k<i/\∃h:k<zs.length,c zs[k]=true
 | 0,_,k,hk=>by cases hk
 | i+1,hi,k,hk=>by
  rw[Ey7 l c (by omega)]at hk;split at hk
  ·rename_i hc
   obtain rfl:=Option.some.inj hk;simp only[jB]at hc;exact⟨by omega,by omega,hc.1⟩
  ·obtain⟨h1,h2⟩:=Bn7 l c (by omega) k hk;exact⟨by omega,h2⟩
def I6(s:Pn)(z:Zo)(to:Int):Pn:=⟨z.id::s.nm,(z.id,to)::A6 s.mv z.id,s.out++[⟨3,z.id,0,to,⟨#[]⟩⟩]⟩
inductive MovI (l:List Ro) (zs:List Zo) (hs:List Int):Nat->Pn->Pn->Prop
 | done (s:Pn):MovI l zs hs 0 s s
 | none {n:Nat} {s:Pn} {a b:Int} (ha:J5 (fun h=>d6 l s h zs) hs a) (hb:F8 (fun h=>d6 l s h zs) hs b) (hn:C5 l (at4 l s a (d6 l s a zs) (d6 l s b zs)) zs zs.length=none):MovI l zs hs (n+1) s s
 | some {n k:Nat} {s t:Pn} {a b:Int} (ha:J5 (fun h=>d6 l s h zs) hs a) (hb:F8 (fun h=>d6 l s h zs) hs b) (hn:C5 l (at4 l s a (d6 l s a zs) (d6 l s b zs)) zs zs.length=some k) (hk:k<zs.length) (h:MovI l zs hs n (I6 s zs[k] b) t):MovI l zs hs (n+1) s t
def bg4(l:List Ro)(cold:Int)(s:Pn)(a b:Zo):Bool:=B9 s a&&(B9 s b&&(decide (a.own=b.own)&&decide (i6 l a+i6 l b<cold)))
def A8(l:List Ro)(cold:Int)(zs:List Zo)(s:Pn):Nat->Pn
 | 0=>s
 | i+1=>match zs[i]?,zs[i+1]? with
  | some a,some b=>if bg4 l cold (A8 l cold zs s i) a b=true then⟨b.id::a.id::(A8 l cold zs s i).nm,(A8 l cold zs s i).mv,(A8 l cold zs s i).out++[⟨2,a.id,0,0,⟨#[]⟩⟩]⟩else A8 l cold zs s i
  | _,_=>A8 l cold zs s i
def M6:List Zo->ByteArray->Bool->Bool
 | [],a,first=>!first&&w7 a
 | z::l,a,first=>spB z.sf z.st&&(decide (z.sf=a)&&((first||!w7 a)&&M6 l z.st false))
def t8(m:Mp):Prop:=1<=m.ver/\m.ver<=1099511627776/\1<=m.nxt/\m.nxt<=1099511627776/\m.zs.length<=16/\(∀i (h:i<m.zs.length),bq4 m.zs m.nxt m.zs[i] i)/\M6 m.zs ⟨#[]⟩ true=true
def p7(hs:List Int):Prop:=1<=hs.length/\hs.length<=6/\(∀h∈hs,8<=h/\h<14)/\hs.Pairwise fun a b=>a<b
theorem Cq7{m:Mp}(h:t8 m):(m.zs.map (·.id)).Nodup:=by
 refine List.pairwise_iff_getElem.2 fun i j hi hj hij e=>?_
 rw[jM]at hi hj;simp only[List.getElem_map]at e;have h1:=(h.2.2.2.2.2.1 i hi).1.2.2.1;have h2:=(h.2.2.2.2.2.1 j hj).1.2.2.1;rw[e,h2]at h1;omega
def l9(zs:List Zo)(k:Int):Nat:=(zs.filter fun z=>decide (z.pend=k)).length
def L6(m:Mp)(hs:List Int)(l:List Ro)(hot cold:Int)(out:List Cg):Prop:=
 (¬(t8 m/\p7 hs)/\out=[])\/((t8 m/\p7 hs)/\∃(Z:List Zo) (s:Pn),Z.Perm m.zs/\as4 Z/\MovI l m.zs hs (2-l9 m.zs 3) (G6 l hot Z (pn0,16-m.zs.length-l9 m.zs 1)).1 s/\out=(A8 l cold m.zs s (m.zs.length-1)).out)
theorem FL7{Z Z2:List Zo}(h:as4 Z)(h2:as4 Z2)(hp:Z.Perm Z2):Z=Z2:=
 List.Perm.eq_of_pairwise (fun a b _ _ h1 h2=>by omega) h h2 hp
structure NamI(zs:List Zo)(s:Pn):Prop where
 nm:∀c∈s.out,c.zone∈s.nm
 at_:∀c∈s.out, ∃z∈zs,z.id=c.zone/\z.pend=0
 nd:(s.out.map (·.zone)).Nodup
theorem EZ7{s:Pn}{z:Zo}(h:B9 s z=true):z.pend=0/\z.id∉s.nm:=by unfold B9 at h;simpa using h
end Go.Proofs.Ytjcfifkjbaffnaa
end
