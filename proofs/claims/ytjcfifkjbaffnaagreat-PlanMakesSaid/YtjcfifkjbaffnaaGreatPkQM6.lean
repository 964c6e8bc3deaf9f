/-
  Maps as resources up to order.
-/
import Derived.Test.YtjcfifkjbaffnaaGreatPkQM1
import Derived.Test.YtjcfifkjbaffnaaGreatPkQM2
import Derived.Test.YtjcfifkjbaffnaaGreatPkQM3
import Derived.Test.YtjcfifkjbaffnaaGreatPkQM4
import Derived.Test.YtjcfifkjbaffnaaGreatPkQM5
import Derived.Test.YtjcfifkjbaffnaaGreatRows
import Derived.Lib.SmallJoins
import Derived.ChangeArms
import Derived.ProofKit
import Derived.OwnWalk
import Derived.Deep.Slices
import Derived.Deep.Fields
import Derived.ChangeSame
import Derived.Sort.Walk0
import Derived.Deep.LoopGhost
set_option maxHeartbeats 16000000
set_option maxRecDepth 100000
set_option linter.unusedSimpArgs false
set_option linter.unusedVariables false
section
namespace Go.Sl
open Go.RowKit
section
variable{κ ν:Type}
def evs(ev:ν->Value)(x:κ×ν×Nat):κ×Value×Nat:=(x.1,ev x.2.1,x.2.2)
def prj(x:κ×ν×Nat):κ×ν:=(x.1,x.2.1)
structure Good(ps:List (κ×ν×Nat))(c:Nat):Prop where
 st:(ps.map (·.2.2)).Nodup
 old:∀x∈ps,x.2.2<c
 ks:(ps.map (·.1)).Nodup
def aP4(ek:κ->Value)(ev:ν->Value)(b:Nat)(ps:List (κ×ν×Nat))(c:Nat):HP:=N6 b ((ps.map (evs ev)).map (B7 ek)) c
def i5(ek:κ->Value)(ev:ν->Value)(b:Nat)(l:List (κ×ν)):HP:=fun f=>∃q:List (κ×ν×Nat)×Nat,((q.1.map prj).Perm l/\Good q.1 q.2)/\aP4 ek ev b q.1 q.2 f
def bw4(l todo:List (κ×ν))(ps:List (κ×ν×Nat))(c since c0:Nat)(seen:Array Nat):Prop:=
 (ps.map prj).Perm l/\Good ps since/\since<=c0/\since<=c/\((ps.filter fun x=>decide (x.2.2∉seen)).map prj).Perm todo
structure ItQ(κ ν:Type) where
 ps:List (κ×ν×Nat)
 c:Nat
 since:Nat
 c0:Nat
 seen:Array Nat
def itR(ek:κ->Value)(ev:ν->Value)(r b:Nat)(l todo:List (κ×ν)):HP:=fun f=>∃q:ItQ κ ν,bw4 l todo q.ps q.c q.since q.c0 q.seen/\sep (bh4 r b q.since q.seen q.c0) (aP4 ek ev b q.ps q.c) f
def cz4(ek:κ->Value)(ev:ν->Value)(r b:Nat)(l todo:List (κ×ν))(x:κ×ν):HP:=fun f=>∃q:ItQ κ ν,(bw4 l todo q.ps q.c q.since q.c0 q.seen/\q.c0=q.c/\∃(s:Nat) (seen':Array Nat),q.seen=seen'.push s/\(x.1,x.2,s)∈q.ps)/\sep (bh4 r b q.since q.seen q.c0) (aP4 ek ev b q.ps q.c) f
theorem HF7(ps:List (κ×ν×Nat)):(ps.map prj).map (·.1)=ps.map (·.1):=by rw[List.map_map];rfl
theorem EX7(ev:ν->Value)(ps:List (κ×ν×Nat)):(ps.map (evs ev)).map (·.1)=ps.map (·.1):=by rw[List.map_map];rfl
theorem Gm7{ev:ν->Value}{ps:List (κ×ν×Nat)}{k:κ}{v:ν}{s:Nat}(h:(k,v,s)∈ps):(k,ev v,s)∈ps.map (evs ev):=List.mem_map.2 ⟨_,h,rfl⟩
theorem Gn7{ps:List (κ×ν×Nat)}{l:List (κ×ν)}{x:κ×ν}(hp:(ps.map prj).Perm l)(hx:x∈l):∃s,(x.1,x.2,s)∈ps:=by obtain⟨⟨k,v,s⟩,hy,rfl⟩:=List.mem_map.1 (hp.mem_iff.2 hx);exact⟨s,hy⟩
theorem ID7{ev:ν->Value}{ps:List (κ×ν×Nat)}{l:List (κ×ν)}{k:κ}(hp:(ps.map prj).Perm l)(hk:∀x∈l,x.1≠k):∀x∈ps.map (evs ev),x.1≠k:=by intro x hx;obtain⟨y,hy,rfl⟩:=List.mem_map.1 hx;exact hk (prj y) (hp.mem_iff.1 (List.mem_map_of_mem hy))
theorem Good.new{ps:List (κ×ν×Nat)}{c:Nat}(h:Good ps c){k:κ}{v:ν}(hk:∀x∈ps,x.1≠k):Good (ps++[(k,v,c)]) (c+1):=
 ⟨by
  rw[List.map_append,List.nodup_append];refine⟨h.st,by simp,fun a ha b hb=>?_⟩;obtain⟨x,hx,rfl⟩:=List.mem_map.1 ha;obtain rfl:b=c:=by simpa using hb
  have:=h.old x hx;omega,fun x hx=>by
  rcases List.mem_append.1 hx with h1|h1
  ·have:=h.old x h1;omega
  ·obtain rfl:=List.mem_singleton.1 h1;exact Nat.lt_succ_self c,by
  rw[List.map_append,List.nodup_append];refine⟨h.ks,by simp,fun a ha b hb=>?_⟩;obtain⟨x,hx,rfl⟩:=List.mem_map.1 ha;obtain rfl:b=k:=by simpa using hb
  exact hk x hx⟩
variable{W w:World}{L:List HP}{ek:κ->Value}{ev:ν->Value}{b r:Nat}{l l' todo:List (κ×ν)}
theorem I9(h:St W (i5 ek ev b l::L) w):∃ps c,(ps.map prj).Perm l/\Good ps c/\St W (aP4 ek ev b ps c::L) w:=by obtain⟨⟨ps,c⟩,h⟩:=St.ex h;obtain⟨⟨h1,h2⟩,h3⟩:=St.and h;exact⟨ps,c,h1,h2,h3⟩
theorem N7{ps:List (κ×ν×Nat)}{c:Nat}(hp:(ps.map prj).Perm l)(hg:Good ps c)(h:St W (aP4 ek ev b ps c::L) w):St W (i5 ek ev b l::L) w:=
 h.imp fun _ hf=>⟨(ps,c),⟨hp,hg⟩,hf⟩
theorem aQ4(h:St W (i5 ek ev b l::L) w):(l.map (·.1)).Nodup:=by obtain⟨ps,c,h1,h2,h3⟩:=I9 h;have:=h2.ks;rw[<-HF7]at this;exact(h1.map (·.1)).nodup_iff.1 this
variable{P:Program}{t K E:TypeId}
theorem Go7(h:St W L w):∃b w',(Instr.makeMap t none).run P w=.ok (.map (some b)) w'/\St W (i5 ek ev b []::L) w':=by obtain⟨b,w',hr,hS⟩:=Ey7 (P:=P) (t:=t) h;exact⟨b,w',hr,N7 (ps:=[]) (c:=0) (List.Perm.refl _) ⟨List.nodup_nil,fun x hx=>(by cases hx),List.nodup_nil⟩ hS⟩
end
section
variable{κ ν:Type}[DecidableEq κ]
variable{W w:World}{L:List HP}{ek:κ->Value}{ev:ν->Value}{b r:Nat}{l l' todo:List (κ×ν)}
variable{P:Program}{t K E:TypeId}
def J5(l:List (κ×ν))(k:κ)(v:ν):List (κ×ν):=l.map fun x=>if x.1=k then(x.1,v)else x
def C7(l:List (κ×ν))(k:κ):List (κ×ν):=l.filter fun x=>decide (x.1≠k)
theorem HG7{ev:ν->Value}(ps:List (κ×ν×Nat))(k:κ)(v:ν):at4 (ps.map (evs ev)) k (ev v)=(ps.map fun x=>if x.1=k then(x.1,v,x.2.2)else x).map (evs ev):=by
 unfold at4;rw[List.map_map,List.map_map];refine List.map_congr_left fun x _=>?_
 show(if x.1=k then _ else _)=evs ev (if x.1=k then _ else _)
 by_cases h:x.1=k
 ·rw[if_pos h,if_pos h];rfl
 ·rw[if_neg h,if_neg h]
theorem IU7(ps:List (κ×ν×Nat))(k:κ)(v:ν):((ps.map fun x=>if x.1=k then(x.1,v,x.2.2)else x).map prj)=J5 (ps.map prj) k v:=by
 unfold J5;rw[List.map_map,List.map_map];refine List.map_congr_left fun x _=>?_
 show prj (if x.1=k then _ else _)=(if x.1=k then _ else _)
 by_cases h:x.1=k
 ·rw[if_pos h,if_pos h];rfl
 ·rw[if_neg h,if_neg h]
theorem Gp7{l l':List (κ×ν)}(h:l.Perm l')(k:κ)(v:ν):(J5 l k v).Perm (J5 l' k v):=h.map _
theorem JO7(ps:List (κ×ν×Nat))(k:κ)(v:ν):((ps.map fun x=>if x.1=k then(x.1,v,x.2.2)else x).map (·.2.2))=ps.map (·.2.2):=by
 rw[List.map_map];refine List.map_congr_left fun x _=>?_
 show(if x.1=k then _ else _:κ×ν×Nat).2.2=x.2.2
 by_cases h:x.1=k
 ·rw[if_pos h]
 ·rw[if_neg h]
theorem JP7(ps:List (κ×ν×Nat))(k:κ)(v:ν):((ps.map fun x=>if x.1=k then(x.1,v,x.2.2)else x).map (·.1))=ps.map (·.1):=by
 rw[List.map_map];refine List.map_congr_left fun x _=>?_
 show(if x.1=k then _ else _:κ×ν×Nat).1=x.1
 by_cases h:x.1=k
 ·rw[if_pos h]
 ·rw[if_neg h]
theorem Good.set{ps:List (κ×ν×Nat)}{c:Nat}(h:Good ps c)(k:κ)(v:ν):Good (ps.map fun x=>if x.1=k then(x.1,v,x.2.2)else x) c:=
 ⟨by rw[JO7];exact h.st,fun x hx=>by
  obtain⟨y,hy,rfl⟩:=List.mem_map.1 hx;have:=h.old y hy;show(if y.1=k then _ else _:κ×ν×Nat).2.2<c
  by_cases e:y.1=k
  ·rw[if_pos e];exact this
  ·rw[if_neg e];exact this,by rw[JP7];exact h.ks⟩
theorem DR7{x:κ×ν}{ok:Bool}(h:St W (i5 ek ev b l::L) w)(ht:A7 P t=some (K,E))(hK:KeyOk P K ek)(hx:x∈l):
  (Instr.lookup t (.map (some b)) (ek x.1) ok).run P w=.ok (if ok then .tuple #[ev x.2,.bool true]else ev x.2) w:=by
 obtain⟨ps,c,h1,h2,h3⟩:=I9 h;obtain⟨s,hs⟩:=Gn7 h1 hx;exact DP7 h3 ht hK (by rw[EX7];exact h2.ks) (Gm7 hs)
theorem DS7{k:κ}{z:Value}{ok:Bool}(h:St W (i5 ek ev b l::L) w)(ht:A7 P t=some (K,E))(hK:KeyOk P K ek)(hz:w6 P E=some z)(hk:∀x∈l,x.1≠k):
  (Instr.lookup t (.map (some b)) (ek k) ok).run P w=.ok (if ok then .tuple #[z,.bool false]else z) w:=by
 obtain⟨ps,c,h1,h2,h3⟩:=I9 h;exact DO7 h3 ht hK hz (ID7 h1 hk)
theorem Gq7{k:κ}(hk:∀x∈l,x.1≠k):C7 l k=l:=List.filter_eq_self.2 fun x hx=>by simpa using hk x hx
theorem EY7{k:κ}{u v:ν}:∀{l:List (κ×ν)},(l.map (·.1)).Nodup->(k,u)∈l->(J5 l k v).Perm ((k,v)::C7 l k)
 | y::l,hn,hm=>by
  rw[List.map_cons,List.nodup_cons]at hn;by_cases hk:y.1=k
  ·have h0:∀x∈l,x.1≠k:=fun x hx e=>hn.1 (List.mem_map.2 ⟨x,hx,e.trans hk.symm⟩)
   have h1:J5 l k v=l:=by unfold J5;refine(List.map_congr_left fun x hx=>?_).trans (List.map_id l);rw[if_neg (h0 x hx)];rfl
   have h2:C7 (y::l) k=l:=by have:=Gq7 h0;unfold C7 at this ⊢;rw[List.filter_cons,if_neg (by simpa using hk),this]
   have h3:J5 (y::l) k v=(k,v)::l:=by have:J5 (y::l) k v=(if y.1=k then(y.1,v)else y)::J5 l k v:=rfl;rw[this,h1,if_pos hk,hk]
   rw[h2,h3]
  ·have hm':(k,u)∈l:=by
    rcases List.mem_cons.1 hm with h|h
    ·exact absurd (by rw[<-h]) hk
    ·exact h
   have h2:C7 (y::l) k=y::C7 l k:=by unfold C7;rw[List.filter_cons,if_pos (by simpa using hk)]
   have h3:J5 (y::l) k v=y::J5 l k v:=by have:J5 (y::l) k v=(if y.1=k then(y.1,v)else y)::J5 l k v:=rfl;rw[this,if_neg hk]
   rw[h2,h3];exact((EY7 hn.2 hm').cons y).trans (List.Perm.swap _ _ _)
theorem HH7{k:κ}{v:ν}(h:St W (i5 ek ev b l::L) w)(ht:A7 P t=some (K,E))(hK:KeyOk P K ek):
  ∃w',(Instr.mapUpdate t (.map (some b)) (ek k) (ev v)).run P w=.ok () w'/\St W (i5 ek ev b ((k,v)::C7 l k)::L) w':=by
 have hkl:=aQ4 h;obtain⟨ps,c,h1,h2,h3⟩:=I9 h;by_cases hk:∃u,(k,u)∈l
 ·obtain⟨u,hu⟩:=hk;obtain⟨s,hs⟩:=Gn7 h1 hu;obtain⟨w',hr,hS⟩:=Ez7 (v:=ev v) h3 ht hK (by rw[EX7];exact h2.ks) (Gm7 hs);rw[HG7]at hS;refine⟨w',hr,N7 ?_ (h2.set k v) hS⟩;rw[IU7];exact(Gp7 h1 k v).trans (EY7 hkl hu)
 ·have hk':∀x∈l,x.1≠k:=fun x hx e=>hk ⟨x.2,by rw[<-e];exact hx⟩
  obtain⟨w',hr,hS⟩:=DQ7 (v:=ev v) h3 ht hK (ID7 h1 hk');have e:ps.map (evs ev)++[(k,ev v,c)]=(ps++[(k,v,c)]).map (evs ev):=by rw[List.map_append];rfl
  rw[e]at hS;refine⟨w',hr,N7 ?_ (h2.new fun x hx=>?_) hS⟩
  ·rw[Gq7 hk',List.map_append];exact(List.perm_append_comm).trans (h1.cons (k,v))
  ·exact hk' (prj x) (h1.mem_iff.1 (List.mem_map_of_mem hx))
end
end Go.Sl
end
section
namespace Go.Sl
open Go.RowKit
section
variable{κ ν:Type}
end
section
variable{κ ν:Type}[DecidableEq κ]{W w:World}{L:List HP}{ek:κ->Value}{ev:ν->Value}{b r:Nat}{l todo:List (κ×ν)}{P:Program}{t K E:TypeId}
end
section
variable{κ ν:Type}{W w:World}{L:List HP}{ek:κ->Value}{ev:ν->Value}{b r:Nat}{l todo:List (κ×ν)}{P:Program}{t K E:TypeId}
end
section
variable{κ ν:Type}{W w:World}{L R:List HP}{ek:κ->Value}{ev:ν->Value}{b r:Nat}{l todo:List (κ×ν)}{P:Program}{t K E:TypeId}{ops:Array Oper}{Q:Exit->Act->World->Prop}{a:Act}{rest:List Oper}{o:Oper}
theorem BX7(ek:κ->Value)(ev:ν->Value)(hS:St W L w)(ho:o.op=.makeMap t none)(hg:Region.wanted o (yielded ops a.tmps)=true)
  (h:∀b w',St W (i5 ek ev b []::L) w'->wpList P ops Q rest (a.put o.dst (.map (some b))) w'):wpList P ops Q (o::rest) a w:=by
 obtain⟨b,w',hr,hS'⟩:=Go7 (P:=P) (t:=t) (ek:=ek) (ev:=ev) hS;refine Al7 hg (v:=.map (some b)) (w':=w') ?_ (h b w' hS');unfold execOp;simp[ho,hr]
def bO4(r b:Nat)(w:World):Nat:=match w.heap[r]?,w.heap[b]? with
 | some (.mapIter _ _ seen _),some (.map es _)=>(es.toList.filter fun e=>decide (e.born∉seen)).length
 | _,_=>0
variable[DecidableEq κ]
def F9(ok:Bool)(z:Value):Option Value->Value
 | some v=>if ok then .tuple #[v,.bool true]else v
 | none=>if ok then .tuple #[z,.bool false]else z
def m6(l:List (κ×ν))(k:κ):Option ν:=(l.find? fun x=>decide (x.1=k)).map (·.2)
theorem Gr7{k:κ}(h:m6 l k=none):∀x∈l,x.1≠k:=by unfold m6 at h;rw[Option.map_eq_none_iff,List.find?_eq_none]at h;intro x hx;simpa using h x hx
theorem Gs7{k:κ}{v:ν}(h:m6 l k=some v):(k,v)∈l:=by unfold m6 at h;obtain⟨x,hx,rfl⟩:=Option.map_eq_some_iff.1 h;have h1:=List.find?_some hx;have h2:=List.mem_of_find?_eq_some hx;simp only[decide_eq_true_eq]at h1;rw[<-h1];exact h2
theorem Cj7{k:κ}{z:Value}{ok:Bool}(h:St W (i5 ek ev b l::L) w)(ht:A7 P t=some (K,E))(hK:KeyOk P K ek)(hz:w6 P E=some z):
  (Instr.lookup t (.map (some b)) (ek k) ok).run P w=.ok (F9 ok z ((m6 l k).map ev)) w:=by
 cases hg:m6 l k with
 | some v=>exact DR7 (x:=(k,v)) h ht hK (Gs7 hg)
 | none=>exact DS7 h ht hK hz (Gr7 hg)
theorem Dk7{x y v:Operand}{k:κ}{u:ν}(hS:St W L w)(ho:o.op=.mapUpdate t x y v)(hg:Region.wanted o (yielded ops a.tmps)=true)(hx:a.eval x=.map (some b))(hy:a.eval y=ek k)(hu:Take L (i5 ek ev b l) R)(hv:a.eval v=ev u)
  (ht:A7 P t=some (K,E)) (hK:KeyOk P K ek) (h:∀w',St W (i5 ek ev b ((k,u)::C7 l k)::R) w'->wpList P ops Q rest (a.put o.dst undef) w'):wpList P ops Q (o::rest) a w:=by
 obtain⟨w',hr,hS'⟩:=HH7 (P:=P) (k:=k) (v:=u) (hS.take hu) ht hK;refine AR7 hg (w':=w') ?_ (h w' hS');unfold execOp;simp[ho,hx,hy,hv,hr]
end
end Go.Sl
end
section
namespace Go.Sl
open Go.RowKit
section
variable{κ ν:Type}[DecidableEq κ]{P:Program}{t K E:TypeId}{ek:κ->Value}{ev:ν->Value}{W w:World}{L R:List HP}{b:Nat}{l:List (κ×ν)}{ops:Array Oper}{a:Act}{rest:List Oper}{o:Oper}
end
end Go.Sl
namespace Go.Sl
open Go.RowKit
section
variable{P:Program}{w:World}{ops:Array Oper}{Q:Exit->Act->World->Prop}{a:Act}{rest:List Oper}{o:Oper}
end
end Go.Sl
namespace Go.Proofs.YtjcfifkjbaffnaaGreat
open Go.RowKit Go.Sl
abbrev Ps:=List (ByteArray×It)
section
variable(vb mb:Nat)(p:Ps)(k:ByteArray)(u1 u2:Value)(W w:World)(R:List HP)
end
end Go.Proofs.YtjcfifkjbaffnaaGreat
end
section
namespace Go.Proofs.YtjcfifkjbaffnaaGreat
open Go.Joins Go.ChangeShapes Go.WideShapes Go.RowKit Go.Deep Go.Sl
def cx4(w:World)(v:Value)(zs:List Int):Prop:=
 (zs=[]/\∃a cap,v=.slice a 0 cap) \/
 ∃b off cap,v=.slice (some ⟨b,off,none⟩) zs.length cap/\0<zs.length/\zs.length<=9223372036854775807/\∀i,i<zs.length->w.cell? ⟨b,off+i,none⟩=some (.I (zs.getD i 0))
end Go.Proofs.YtjcfifkjbaffnaaGreat
end
section
namespace Go.Sl
open Go.RowKit
section
variable{P:Program}{ops:Array Oper}{Q:Exit->Act->World->Prop}{a:Act}{w:World}{W:World}{L L' R:List HP}{rest:List Oper}{o:Oper}
end
end Go.Sl
end
section
namespace Go.Proofs.YtjcfifkjbaffnaaGreat
open Go.RowKit Go.Sl
theorem St.src{W w:World}{L:List HP}{v:Value}{k n:Nat}{T:TypeId}{cs:List Value}(hk:0<k)(h:St W (row v k T n cs::L) w):Src (row v k T n cs::L) v n cs:=by
 rcases h.rowOpen with ⟨rfl,rfl,rfl,_⟩|⟨g,cap,junk,rfl,hn1,hm1,hj1,hl1,_⟩
 ·exact .inl ⟨rfl,rfl,rfl⟩
 ·refine .inr ⟨g,0,cap,rfl,fun j u hj=>?_⟩;rw[Nat.zero_add];have hjl:=(List.getElem?_eq_some_iff.1 hj).1;refine a8.row ?_ hj
  rcases Nat.eq_zero_or_pos n with h0|h0
  ·rw[hl1,h0,Nat.zero_mul]at hjl;omega
  ·exact h0
end Go.Proofs.YtjcfifkjbaffnaaGreat
end
section
namespace Go.Proofs.YtjcfifkjbaffnaaGreat
open Go.Joins Go.ChangeShapes Go.WideShapes Go.RowKit Go.Deep Go.Sl
section
variable{H:Type}{enc:TypeId×Value->H}{P:Program}{w:World}{base:Nat}{spare:Nat->Bool}{held:Bool}
end
def d6{α:Type}(enc:α->List Value)(k:Nat)(w:World)(v:Value)(xs:List α):Prop:=
 ∃a cap,v=.slice a xs.length cap/\xs.length<=9223372036854775807/\∀i (h:i<xs.length), ∃b off,a=some ⟨b,off,none⟩/\∀j u,(enc xs[i])[j]? = some u->w.cell? ⟨b,off+i*k+j,none⟩=some u
section
variable{H:Type}{enc:TypeId×Value->H}{P:Program}{w:World}{base:Nat}{spare:Nat->Bool}{held:Bool}
theorem Ck7{α:Type}{r:Reach}{b0:Nat}{t e:TypeId}{k:Nat}{v:Value}{d:DataW H}{p:List MemPlace}(en:α->List Value)(x0:α)(hk:∀x,(en x).length=k)(h0:0<k)(ht:P.underlying t=some (.slice e))(hC:P.cellsOf e=k)
  (hE:∀(n:Nat) (cs:List Value) (y:DataW H×List MemPlace),cs.length=k->DataW.trod enc P w base spare held n e cs=some y->∃x,cs=en x)
  (hv:Value.okWide P w r b0 t v) (h:DataW.Trod enc P w base spare held t v d p):∃xs,d6 en k w v xs:=by
 obtain⟨a0,len,cap,rfl⟩:=okWide_slice ht hv;obtain⟨fuel,hf⟩:=h
 rcases open_slice ht hf with ⟨hcs,hx⟩|⟨a,len',cap',m,n,D,Pl,hcs,hb,hl,hm,hmm,hx,hi⟩
 ·simp[Value.cells]at hcs;obtain⟨rfl,rfl,rfl⟩:=hcs;exact⟨[],none,0,rfl,by simp,fun i hi=>absurd hi (Nat.not_lt_zero _)⟩
 ·simp[Value.cells]at hcs;obtain⟨rfl,rfl,rfl⟩:=hcs;have hlm:len<=m:=by rw[hmm];split <;> omega
  have hex:∀i, ∃x:α,i<len->∀j u,(en x)[j]? = some u->w.cell? ((a.add (i*k)).add j)=some u:=fun i=>by
   by_cases hil:i<len
   ·obtain⟨cs',hc,ht'⟩:=hi i (by omega);rw[hC]at hc;obtain⟨_,hcl,hat⟩:=World.cells?_some hc;obtain⟨x,rfl⟩:=hE n cs' _ hcl ht';refine⟨x,fun _ j u hj=>?_⟩;have hjk:j<k:=by have:=(List.getElem?_eq_some_iff.1 hj).1;rwa [hk]at this
    rw[hat j hjk];exact hj
   ·exact⟨x0,fun h=>absurd h hil⟩
  obtain⟨f,hf'⟩:=Classical.axiomOfChoice hex;have hll:((List.range len).map f).length=len:=by simp
  refine⟨(List.range len).map f,some a,cap,by rw[hll],by rw[hll];unfold maxLen at hm;omega,fun i hi2=>?_⟩;rw[hll]at hi2;have hspot:a.spot=none:=by have hc:=hf' 0 (by omega);have h1:(en (f 0))[0]? = some ((en (f 0))[0]'(by rw[hk];exact h0)):=jG _;have:=World.cell?_spot (hc 0 _ h1);simpa[Addr.add]using this
  obtain⟨b,off,spot⟩:=a;simp only at hspot;subst hspot;refine⟨b,off,rfl,fun j u hj=>?_⟩;have e1:((List.range len).map f)[i]=f i:=by simp
  rw[e1]at hj;have:=hf' i hi2 j u hj;rwa [Addr.add_lit,Addr.add_lit]at this
end
end Go.Proofs.YtjcfifkjbaffnaaGreat
end
section
namespace Go.Proofs.YtjcfifkjbaffnaaGreat
open Go.RowKit Go.Sl
section
variable{p:Ps}{N:Nat}
end
theorem AU7{a b:ByteArray}(h:a.data.toList=b.data.toList):a=b:=by obtain⟨⟨a⟩⟩:=a;obtain⟨⟨b⟩⟩:=b;simp at h;rw[h]
structure Hd where
 who:ByteArray
 has:It
def Hd.cells(h:Hd):List Value:=.string h.who::h.has.cells
theorem Hd.len(h:Hd):h.cells.length=5:=rfl
section
variable{p:Ps}{N:Nat}
end
structure Zo where
 id:Int
 sf:ByteArray
 st:ByteArray
 own:Int
 ep:Int
 pend:Int
 to:Int
 key:ByteArray
 new:Int
def Zo.cells(z:Zo):List Value:=[.I z.id,.string z.sf,.string z.st,.I z.own,.I z.ep,.I z.pend,.I z.to,.string z.key,.I z.new]
theorem Zo.len(z:Zo):z.cells.length=9:=rfl
structure Mp where
 ver:Int
 nxt:Int
 zs:List Zo
def p8(u:ByteArray):Bool:=decide (u.size=0)
def ltU(a b:ByteArray):Bool:=Op.bytesLess a.toList b.toList
def spB(f t:ByteArray):Bool:=decide (f.size<=16)&&(decide (t.size<=16)&&(p8 t||ltU f t))
def aa4(f t k:ByteArray):Bool:=spB f t&&(decide (1<=k.size)&&(decide (k.size<=16)&&(!ltU k f&&(p8 t||ltU k t))))
def B5(f t k:ByteArray):Bool:=aa4 f t k&&ltU f k
def ai4:List Zo->Int->Nat->Int
 | [],_,_ => -1
 | z::l,n,i=>if z.id=n then i else ai4 l n (i+1)
def m5(l:List Zo)(n:Int):Int:=ai4 l n 0
theorem CP7(n:Int):∀(l:List Zo) (i:Nat),(ai4 l n i = -1/\∀z∈l,z.id≠n)\/∃k, ∃h:k<l.length,ai4 l n i=((i+k:Nat):Int)/\l[k].id=n/\∀j (hj:j<k),(l[j]'(by omega)).id≠n
 | [],_=>.inl ⟨rfl,fun _ h=>(by cases h)⟩
 | z::l,i=>by
  by_cases hz:z.id=n
  ·exact .inr ⟨0,by simp,by rw[ai4,if_pos hz];rfl,hz,fun j hj=>by omega⟩
  ·rw[ai4,if_neg hz];rcases CP7 n l (i+1)with ⟨h1,h2⟩|⟨k,hk,h1,h2,h3⟩
   ·refine .inl ⟨h1,fun y hy=>?_⟩
    rcases List.mem_cons.1 hy with rfl|hy
    ·exact hz
    ·exact h2 y hy
   ·refine .inr ⟨k+1,by simp;omega,by rw[h1];congr 1;omega,by simpa using h2,fun j hj=>?_⟩
    match j,hj with
    | 0,_=>exact hz
    | j+1,hj=>simpa using h3 j (by omega)
theorem Aw7(l:List Zo)(n:Int):(m5 l n = -1/\∀z∈l,z.id≠n)\/∃k, ∃h:k<l.length,m5 l n=(k:Int)/\l[k].id=n/\∀j (hj:j<k),(l[j]'(by omega)).id≠n:=by have:=CP7 n l 0;simpa[m5]using this
def H5(l:List Zo)(n:Int):Nat:=(l.filter fun z=>decide (z.new=n)).length
def al4(l:List Zo)(nxt:Int)(z:Zo)(i:Nat):Prop:=1<=z.id/\z.id<nxt/\m5 l z.id=i/\1<=z.own/\z.own<=1048576/\1<=z.ep/\z.ep<=1099511627776
def am4(z:Zo):Prop:=z.to=0/\z.key.size=0/\z.new=0
def an4(z:Zo):Prop:=1<=z.to/\z.to<=1048576/\z.to≠z.own/\z.key.size=0/\z.new=0
def aE4(nxt:Int)(l:List Zo)(z:Zo):Prop:=B5 z.sf z.st z.key=true/\z.to=0/\1<=z.new/\z.new<nxt/\m5 l z.new<0
def aF4(l:List Zo)(z:Zo)(i:Nat):Prop:=z.to=0/\z.key.size=0/\∃k, ∃h:k<l.length,m5 l z.new=(k:Int)/\(k=i+1\/k+1=i)/\l[k].own=z.own/\l[k].pend=2/\l[k].new=z.id
def bi4(l:List Zo)(nxt:Int)(z:Zo)(i:Nat):Prop:=al4 l nxt z i/\((z.pend=0/\am4 z)\/(z.pend=1/\aE4 nxt l z/\H5 l z.new=1)\/(z.pend=2/\aF4 l z i/\H5 l z.new=1)\/(z.pend=3/\an4 z))
def H6(l:List Zo)(nxt:Int)(z:Zo)(i:Nat):Prop:=al4 l nxt z i/\((z.pend=0/\am4 z)\/(z.pend=1/\aE4 nxt l z/\∀k (h:k<l.length),k≠i->l[k].pend=1->l[k].new≠z.new)\/(z.pend=2/\aF4 l z i)\/(z.pend=3/\an4 z))
theorem Dl7{α:Type}{p:α->Bool}:∀{l:List α} {i:Nat} (hi:i<l.length),p l[i]=true->(∀k (h:k<l.length),k≠i->p l[k]=false)->(l.filter p).length=1
 | x::l,0,_,hp,hn=>by
  have hp0:p x=true:=hp;rw[List.filter_cons,if_pos hp0];have:l.filter p=[]:=List.filter_eq_nil_iff.2 fun y hy=>by obtain⟨k,hk,e⟩:=List.getElem_of_mem hy;have:=hn (k+1) (by simp;omega) (by omega);simp only[List.getElem_cons_succ,e]at this;simp[this]
  rw[this];rfl
 | x::l,i+1,hi,hp,hn=>by have h0:p x=false:=hn 0 (by simp) (by omega);rw[List.filter_cons,if_neg (by simp[h0])];exact Dl7 (i:=i) (by simpa using hi) (by simpa using hp) fun k hk hne=>by have:=hn (k+1) (by simp;omega) (by omega);simpa using this
theorem HI7{α:Type}{p:α->Bool}{l:List α}(h:(l.filter p).length=1){i k:Nat}(hi:i<l.length)(hk:k<l.length)(pi:p l[i]=true)(pk:p l[k]=true):i=k:=by
 rcases Nat.lt_trichotomy i k with hlt|rfl|hlt
 ·exfalso
  have h2:(l.filter p).length=((l.take k).filter p).length+((l.drop k).filter p).length:=by
   conv=>lhs;rw[<-List.take_append_drop k l]
   rw[List.filter_append,jA]
  have h3:0<((l.take k).filter p).length:=List.length_pos_of_mem (a:=l[i]) (List.mem_filter.2 ⟨List.mem_take_iff_getElem.2 ⟨i,by omega,rfl⟩,pi⟩);have h4:0<((l.drop k).filter p).length:=List.length_pos_of_mem (a:=l[k]) (List.mem_filter.2 ⟨by rw[List.drop_eq_getElem_cons hk];exact List.mem_cons_self ..,pk⟩);omega
 ·rfl
 ·exfalso
  have h2:(l.filter p).length=((l.take i).filter p).length+((l.drop i).filter p).length:=by
   conv=>lhs;rw[<-List.take_append_drop i l]
   rw[List.filter_append,jA]
  have h3:0<((l.take i).filter p).length:=List.length_pos_of_mem (a:=l[k]) (List.mem_filter.2 ⟨List.mem_take_iff_getElem.2 ⟨k,by omega,rfl⟩,pk⟩);have h4:0<((l.drop i).filter p).length:=List.length_pos_of_mem (a:=l[i]) (List.mem_filter.2 ⟨by rw[List.drop_eq_getElem_cons hi];exact List.mem_cons_self ..,pi⟩);omega
theorem Fx7(l:List Zo)(nxt:Int):(∀i (h:i<l.length),bi4 l nxt l[i] i)↔∀i (h:i<l.length),H6 l nxt l[i] i:=by
 constructor
 ·intro H i hi;obtain⟨h1,h2|⟨h2,h3,h4⟩|⟨h2,h3,_⟩|h2⟩:=H i hi
  ·exact⟨h1,.inl h2⟩
  ·refine⟨h1,.inr (.inl ⟨h2,h3,fun k hk hne _ e=>hne ?_⟩)⟩;exact HI7 h4 hk hi (by simpa using e) (by simp)
  ·exact⟨h1,.inr (.inr (.inl ⟨h2,h3⟩))⟩
  ·exact⟨h1,.inr (.inr (.inr h2))⟩
 ·intro H i hi;obtain⟨h1,h2|⟨h2,h3,h4⟩|⟨h2,h3⟩|h2⟩:=H i hi
  ·exact⟨h1,.inl h2⟩
  ·refine⟨h1,.inr (.inl ⟨h2,h3,Dl7 hi (by simp) fun k hk hne=>?_⟩)⟩;simp only[decide_eq_false_iff_not];intro e;obtain⟨_,g2|⟨g2,g3,_⟩|⟨g2,g3⟩|g2⟩:=H k hk
   ·have:=g2.2.2.2;have:=h3.2.2.1;omega
   ·exact h4 k hk hne g2 e
   ·obtain⟨_,_,j,hj,hf,_⟩:=g3;have:=h3.2.2.2.2;rw[e]at hf;omega
   ·have:=g2.2.2.2.2.2;have:=h3.2.2.1;omega
  ·refine⟨h1,.inr (.inr (.inl ⟨h2,h3,Dl7 hi (by simp) fun k hk hne=>?_⟩))⟩;simp only[decide_eq_false_iff_not];intro e;obtain⟨_,_,j,hj,hf,hji,_,_,hjn⟩:=h3;obtain⟨g1,g2|⟨g2,g3,_⟩|⟨g2,g3⟩|g2⟩:=H k hk
   ·have hk0:=g2.2.2.2;have hz:=(H j hj).1.1
    rcases Aw7 l l[i].new with ⟨f1,_⟩|⟨a,ha,f1,f2,_⟩
    ·omega
    ·have:a=j:=by omega
     subst this;omega
   ·have:=g3.2.2.2.2;rw[e,hf]at this;omega
   ·obtain⟨_,_,j2,hj2,hf2,_,_,_,hjn2⟩:=g3;rw[e,hf]at hf2;have:j=j2:=by omega
    subst this;have e2:l[k].id=l[i].id:=by rw[<-hjn,<-hjn2]
    have a1:=g1.2.2.1;have a2:=h1.2.2.1;rw[e2,a2]at a1;omega
   ·have hk0:=g2.2.2.2.2.2;have hz:=(H j hj).1.1
    rcases Aw7 l l[i].new with ⟨f1,_⟩|⟨a,ha,f1,f2,_⟩
    ·omega
    ·have:a=j:=by omega
     subst this;omega
  ·exact⟨h1,.inr (.inr (.inr h2))⟩
structure Ro where
 zone:Int
 hits:Int
 mid:ByteArray
def Ro.cells(r:Ro):List Value:=[.I r.zone,.I r.hits,.string r.mid]
structure Cg where
 kind:Int
 zone:Int
 ep:Int
 to:Int
 key:ByteArray
def Cg.cells(c:Cg):List Value:=[.I c.kind,.I c.zone,.I c.ep,.I c.to,.string c.key]
def L7(n:Int):Int:=max 0 (min n 1099511627776)
def ro0:Ro:=⟨0,0,⟨#[]⟩⟩
def C5:List Ro->Int->Ro
 | [],_=>ro0
 | r::l,n=>if r.zone=n then⟨r.zone,L7 r.hits,r.mid⟩else C5 l n
def i9(l:List Ro)(z:Zo):Int:=(C5 l z.id).hits
theorem AA7(l:List Ro)(z:Zo):0<=i9 l z/\i9 l z<=1099511627776:=by
 unfold i9
 induction l with
 | nil=>exact⟨Int.le_refl _,show(0:Int)<=1099511627776 by omega⟩
 | cons r l ih=>
  rw[C5];split
  ·show 0<=L7 r.hits/\L7 r.hits<=_
   unfold L7;omega
  ·exact ih
structure Pn where
 nm:List Int
 mv:List (Int×Int)
 out:List Cg
abbrev pn0:Pn:=⟨[],[],[]⟩
def s7(s:Pn)(z:Zo):Bool:=decide (z.pend=0)&&!decide (z.id∈s.nm)
def az4(l:List Ro)(hot:Int)(s:Pn×Int)(z:Zo):Bool:=decide (0<s.2)&&(B5 z.sf z.st (C5 l z.id).mid&&(s7 s.1 z&&decide (hot<i9 l z)))
def G7(l:List Ro)(hot:Int)(s:Pn×Int)(z:Zo):Pn×Int:=if az4 l hot s z=true then(⟨z.id::s.1.nm,s.1.mv,s.1.out++[⟨1,z.id,0,0,(C5 l z.id).mid⟩]⟩,s.2-1)else s
def p9(l:List Ro)(hot:Int)(Z:List Zo)(s:Pn×Int):Pn×Int:=Z.foldl (G7 l hot) s
theorem Gt7(l:List Ro)(hot:Int){Z:List Zo}{i:Nat}(h:i<Z.length)(s:Pn×Int):p9 l hot (Z.take (i+1)) s=G7 l hot (p9 l hot (Z.take i) s) Z[i]:=by unfold p9;rw[List.take_succ_eq_append_getElem h,List.foldl_append];rfl
theorem DT7(l:List Ro)(hot:Int):∀(Z:List Zo) (s:Pn×Int),s.2<=0->p9 l hot Z s=s
 | [],_,_=>rfl
 | z::Z,s,h=>by
  have e:G7 l hot s z=s:=by unfold G7 az4;rw[if_neg];rw[decide_eq_false (by omega)];simp
  unfold p9;rw[List.foldl_cons,e];exact DT7 l hot Z s h
def NxI(zs:List Zo)(n v:Int):Prop:=(v = -1/\∀z∈zs,z.id<=n)\/∃i:Nat,v=i/\∃h:i<zs.length,n<zs[i].id/\∀z∈zs,n<z.id->zs[i].id<=z.id
def I5(Z:List Zo):Prop:=Z.Pairwise fun a b=>a.id<b.id
theorem Cl7{Z:List Zo}(h:I5 Z){i k:Nat}(hk:k<Z.length)(hi:i<k):(Z[i]'(by omega)).id<Z[k].id:=List.pairwise_iff_getElem.1 h i k (by omega) hk hi
theorem bj4{zs Z:List Zo}(hp:Z.Perm zs)(ha:I5 Z){n v:Int}{k:Nat}(hk:k<=Z.length)(hlo:∀i (h:i<k),(Z[i]'(by omega)).id<=n)(hhi:∀h:k<Z.length,n<Z[k].id)(hv:NxI zs n v):(k=Z.length/\v = -1)\/∃h:k<Z.length, ∃i:Nat,v=i/\∃hi:i<zs.length,zs[i]=Z[k]:=by
 rcases Nat.lt_or_ge k Z.length with hl|hl
 ·refine .inr ⟨hl,?_⟩;have hm:Z[k]∈zs:=hp.mem_iff.1 (jW hl)
  rcases hv with ⟨_,h2⟩|⟨i,h1,h2,h3,h4⟩
  ·have:=h2 _ hm;have:=hhi hl;omega
  ·refine⟨i,h1,h2,?_⟩;obtain⟨j,hj,e⟩:=List.getElem_of_mem (hp.mem_iff.2 (jW h2));have hle:=h4 _ hm (hhi hl)
   rcases Nat.lt_trichotomy j k with h|h|h
   ·have:=hlo j h;rw[e]at this;omega
   ·subst h;exact e.symm
   ·have:=Cl7 ha hj h;rw[e]at this;omega
 ·refine .inl ⟨by omega,?_⟩
  rcases hv with ⟨h1,_⟩|⟨i,h1,h2,h3,h4⟩
  ·exact h1
  ·obtain⟨j,hj,e⟩:=List.getElem_of_mem (hp.mem_iff.2 (jW h2));have:=hlo j (by omega);rw[e]at this;omega
def atZ(s:Pn)(z:Zo):Int:=(m6 s.mv z.id).getD (if z.pend=3 then z.to else z.own)
def f9(l:List Ro)(s:Pn)(h:Int):List Zo->Int
 | []=>0
 | z::zs=>(if atZ s z=h then i9 l z else 0)+f9 l s h zs
theorem DU7(l:List Ro)(s:Pn)(h:Int):∀a b:List Zo,f9 l s h (a++b)=f9 l s h a+f9 l s h b
 | [],b=>by rw[jN,f9];omega
 | z::a,b=>by rw[jK,f9,f9,DU7 l s h a b];omega
theorem EZ7(l:List Ro)(s:Pn)(h:Int){zs:List Zo}{i:Nat}(hi:i<zs.length):f9 l s h (zs.take (i+1))=f9 l s h (zs.take i)+(if atZ s zs[i]=h then i9 l zs[i]else 0):=by rw[List.take_succ_eq_append_getElem hi,DU7,f9,f9];omega
theorem Bl7(l:List Ro)(s:Pn)(h:Int):∀zs:List Zo,0<=f9 l s h zs/\f9 l s h zs<=zs.length*1099511627776
 | []=>⟨Int.le_refl _,Int.le_refl _⟩
 | z::zs=>by have h1:=Bl7 l s h zs;have h2:=AA7 l z;rw[f9,jC];split <;> omega
def B6(ld:Int->Int)(hs:List Int)(a:Int):Prop:=a∈hs/\∀h∈hs,ld h<ld a\/(ld h=ld a/\a<=h)
def s5(ld:Int->Int)(hs:List Int)(a:Int):Prop:=a∈hs/\∀h∈hs,ld a<ld h\/(ld h=ld a/\a<=h)
theorem AN7{ld:Int->Int}{hs:List Int}{a b:Int}(ha:B6 ld hs a)(hb:B6 ld hs b):a=b:=by have h1:=ha.2 b hb.1;have h2:=hb.2 a ha.1;omega
theorem AO7{ld:Int->Int}{hs:List Int}{a b:Int}(ha:s5 ld hs a)(hb:s5 ld hs b):a=b:=by have h1:=ha.2 b hb.1;have h2:=hb.2 a ha.1;omega
theorem Fy7{ld:Int->Int}{hs:List Int}{a h:Int}(ha:B6 ld hs a)(hlt:∀x∈hs,x<h):B6 ld (hs++[h]) (if ld a<ld h then h else a):=by
 obtain⟨h1,h2⟩:=ha;by_cases hc:ld a<ld h
 ·rw[if_pos hc];refine⟨by simp,fun x hx=>?_⟩
  rcases List.mem_append.1 hx with hx|hx
  ·have:=h2 x hx;omega
  ·simp only[List.mem_singleton]at hx;subst hx;omega
 ·rw[if_neg hc];refine⟨by simp[h1],fun x hx=>?_⟩
  rcases List.mem_append.1 hx with hx|hx
  ·exact h2 x hx
  ·simp only[List.mem_singleton]at hx;subst hx;have:=hlt a h1;omega
theorem EA7{ld:Int->Int}{hs:List Int}{a h:Int}(ha:s5 ld hs a)(hlt:∀x∈hs,x<h):s5 ld (hs++[h]) (if ld h<ld a then h else a):=by
 obtain⟨h1,h2⟩:=ha;by_cases hc:ld h<ld a
 ·rw[if_pos hc];refine⟨by simp,fun x hx=>?_⟩
  rcases List.mem_append.1 hx with hx|hx
  ·have:=h2 x hx;omega
  ·simp only[List.mem_singleton]at hx;subst hx;omega
 ·rw[if_neg hc];refine⟨by simp[h1],fun x hx=>?_⟩
  rcases List.mem_append.1 hx with hx|hx
  ·exact h2 x hx
  ·simp only[List.mem_singleton]at hx;subst hx;have:=hlt a h1;omega
def ab4(l:List Ro)(s:Pn)(frm:Int)(lf lt:Int)(z:Zo):Bool:=decide (z.own=frm)&&(s7 s z&&(decide (0<i9 l z)&&decide (lt+i9 l z<lf)))
def aL4(l:List Ro)(z:Zo):Option Zo->Bool
 | none=>true
 | some y=>decide (i9 l y<i9 l z)||(decide (i9 l z=i9 l y)&&decide (z.id<y.id))
def s8(l:List Ro)(c:Zo->Bool)(zs:List Zo):Nat->Option Nat
 | 0=>none
 | i+1=>match zs[i]? with
  | none=>s8 l c zs i
  | some z=>if(c z&&aL4 l z ((s8 l c zs i).bind (zs[·]?)))=true then some i else s8 l c zs i
theorem Dm7(l:List Ro)(c:Zo->Bool){zs:List Zo}{i:Nat}(h:i<zs.length):s8 l c zs (i+1)=if(c zs[i]&&aL4 l zs[i] ((s8 l c zs i).bind (zs[·]?)))=true then some i else s8 l c zs i:=by rw[s8,jG h]
theorem Bm7(l:List Ro)(c:Zo->Bool){zs:List Zo}:∀{i:Nat},i<=zs.length->∀k,s8 l c zs i=some k->k<i/\∃h:k<zs.length,c zs[k]=true
 | 0,_,k,hk=>by cases hk
 | i+1,hi,k,hk=>by
  rw[Dm7 l c (by omega)]at hk;split at hk
  ·rename_i hc
   obtain rfl:=Option.some.inj hk;simp only[jB]at hc;exact⟨by omega,by omega,hc.1⟩
  ·obtain⟨h1,h2⟩:=Bm7 l c (by omega) k hk;exact⟨by omega,h2⟩
def J6(s:Pn)(z:Zo)(to:Int):Pn:=⟨z.id::s.nm,(z.id,to)::C7 s.mv z.id,s.out++[⟨3,z.id,0,to,⟨#[]⟩⟩]⟩
inductive MovI (l:List Ro) (zs:List Zo) (hs:List Int):Nat->Pn->Pn->Prop
 | done (s:Pn):MovI l zs hs 0 s s
 | none {n:Nat} {s:Pn} {a b:Int} (ha:B6 (fun h=>f9 l s h zs) hs a) (hb:s5 (fun h=>f9 l s h zs) hs b) (hn:s8 l (ab4 l s a (f9 l s a zs) (f9 l s b zs)) zs zs.length=none):MovI l zs hs (n+1) s s
 | some {n k:Nat} {s t:Pn} {a b:Int} (ha:B6 (fun h=>f9 l s h zs) hs a) (hb:s5 (fun h=>f9 l s h zs) hs b) (hn:s8 l (ab4 l s a (f9 l s a zs) (f9 l s b zs)) zs zs.length=some k) (hk:k<zs.length) (h:MovI l zs hs n (J6 s zs[k] b) t):MovI l zs hs (n+1) s t
theorem DV7{l:List Ro}{zs:List Zo}{hs:List Int}:∀{n:Nat} {s t u:Pn},MovI l zs hs n s t->MovI l zs hs n s u->t=u
 | 0,_,_,_,.done _,.done _=>rfl
 | n+1,_,_,_,.none ha hb hn,h2=>by
  cases h2 with
  | none=>rfl
  | some ha2 hb2 hn2=>
   rw[AN7 ha2 ha,AO7 hb2 hb,hn]at hn2
   cases hn2
 | n+1,_,_,_,.some ha hb hn hk h,h2=>by
  cases h2 with
  | none ha2 hb2 hn2=>
   rw[AN7 ha2 ha,AO7 hb2 hb,hn]at hn2
   cases hn2
  | some ha2 hb2 hn2 hk2 h2=>
   have eb:=AO7 hb2 hb;rw[AN7 ha2 ha,eb,hn]at hn2;obtain rfl:=Option.some.inj hn2;subst eb;exact DV7 h h2
def aZ4(l:List Ro)(cold:Int)(s:Pn)(a b:Zo):Bool:=s7 s a&&(s7 s b&&(decide (a.own=b.own)&&decide (i9 l a+i9 l b<cold)))
def w8(l:List Ro)(cold:Int)(zs:List Zo)(s:Pn):Nat->Pn
 | 0=>s
 | i+1=>match zs[i]?,zs[i+1]? with
  | some a,some b=>if aZ4 l cold (w8 l cold zs s i) a b=true then⟨b.id::a.id::(w8 l cold zs s i).nm,(w8 l cold zs s i).mv,(w8 l cold zs s i).out++[⟨2,a.id,0,0,⟨#[]⟩⟩]⟩else w8 l cold zs s i
  | _,_=>w8 l cold zs s i
end Go.Proofs.YtjcfifkjbaffnaaGreat
end
