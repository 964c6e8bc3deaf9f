/-
  Maps as resources up to order.
-/
import Derived.Test.YtienbkdjkjbelaaGreatJuRM3
import Derived.Test.YtienbkdjkjbelaaGreatJuRM4
import Derived.Test.YtienbkdjkjbelaaGreatJuRM5
import Derived.Test.YtienbkdjkjbelaaGreatJuRM7
set_option maxHeartbeats 16000000
set_option maxRecDepth 100000
set_option linter.unusedSimpArgs false
set_option linter.unusedVariables false
section
namespace Go.Sl
open Go.RowKit
section
variable{κ ν:Type}
def evs(ev:ν->Value)(x:κ×ν×Nat):κ×Value×Nat:=(x.1,ev x.2.1,x.2.2)
def prj(x:κ×ν×Nat):κ×ν:=(x.1,x.2.1)
structure Good(ps:List (κ×ν×Nat))(c:Nat):Prop where
 st:(ps.map (·.2.2)).Nodup
 old:∀x∈ps,x.2.2<c
 ks:(ps.map (·.1)).Nodup
def cS4(ek:κ->Value)(ev:ν->Value)(b:Nat)(ps:List (κ×ν×Nat))(c:Nat):HP:=bp4 b ((ps.map (evs ev)).map (I7 ek)) c
def d9(ek:κ->Value)(ev:ν->Value)(b:Nat)(l:List (κ×ν)):HP:=fun f=>∃q:List (κ×ν×Nat)×Nat,((q.1.map prj).Perm l/\Good q.1 q.2)/\cS4 ek ev b q.1 q.2 f
def em4(l todo:List (κ×ν))(ps:List (κ×ν×Nat))(c since c0:Nat)(seen:Array Nat):Prop:=
 (ps.map prj).Perm l/\Good ps since/\since<=c0/\since<=c/\((ps.filter fun x=>decide (x.2.2∉seen)).map prj).Perm todo
structure ItQ(κ ν:Type) where
 ps:List (κ×ν×Nat)
 c:Nat
 since:Nat
 c0:Nat
 seen:Array Nat
def itR(ek:κ->Value)(ev:ν->Value)(r b:Nat)(l todo:List (κ×ν)):HP:=fun f=>∃q:ItQ κ ν,em4 l todo q.ps q.c q.since q.c0 q.seen/\sep (dC4 r b q.since q.seen q.c0) (cS4 ek ev b q.ps q.c) f
def gl4(ek:κ->Value)(ev:ν->Value)(r b:Nat)(l todo:List (κ×ν))(x:κ×ν):HP:=fun f=>∃q:ItQ κ ν,(em4 l todo q.ps q.c q.since q.c0 q.seen/\q.c0=q.c/\∃(s:Nat) (seen':Array Nat),q.seen=seen'.push s/\(x.1,x.2,s)∈q.ps)/\sep (dC4 r b q.since q.seen q.c0) (cS4 ek ev b q.ps q.c) f
theorem Ib7(ps:List (κ×ν×Nat)):(ps.map prj).map (·.1)=ps.map (·.1):=by rw[List.map_map];rfl
theorem CP7(ev:ν->Value)(ps:List (κ×ν×Nat)):(ps.map (evs ev)).map (·.1)=ps.map (·.1):=by rw[List.map_map];rfl
theorem JB7{ev:ν->Value}{ps:List (κ×ν×Nat)}{k:κ}{v:ν}{s:Nat}(h:(k,v,s)∈ps):(k,ev v,s)∈ps.map (evs ev):=List.mem_map.2 ⟨_,h,rfl⟩
theorem JC7{ps:List (κ×ν×Nat)}{l:List (κ×ν)}{x:κ×ν}(hp:(ps.map prj).Perm l)(hx:x∈l):∃s,(x.1,x.2,s)∈ps:=by obtain⟨⟨k,v,s⟩,hy,rfl⟩:=List.mem_map.1 (hp.mem_iff.2 hx);exact⟨s,hy⟩
theorem MR7{ev:ν->Value}{ps:List (κ×ν×Nat)}{l:List (κ×ν)}{k:κ}(hp:(ps.map prj).Perm l)(hk:∀x∈l,x.1≠k):∀x∈ps.map (evs ev),x.1≠k:=by intro x hx;obtain⟨y,hy,rfl⟩:=List.mem_map.1 hx;exact hk (prj y) (hp.mem_iff.1 (List.mem_map_of_mem hy))
theorem BZ7{α β:Type}{f:α->β}{p:α->Bool}{l:List α}(h:(l.map f).Nodup):((l.filter p).map f).Nodup:=h.sublist (List.filter_sublist.map f)
theorem Good.new{ps:List (κ×ν×Nat)}{c:Nat}(h:Good ps c){k:κ}{v:ν}(hk:∀x∈ps,x.1≠k):Good (ps++[(k,v,c)]) (c+1):=
 ⟨by
  rw[List.map_append,List.nodup_append];refine⟨h.st,by simp,fun a ha b hb=>?_⟩;obtain⟨x,hx,rfl⟩:=List.mem_map.1 ha;obtain rfl:b=c:=by simpa using hb
  have:=h.old x hx;omega,fun x hx=>by
  rcases List.mem_append.1 hx with h1|h1
  ·have:=h.old x h1;omega
  ·obtain rfl:=List.mem_singleton.1 h1;exact Nat.lt_succ_self c,by
  rw[List.map_append,List.nodup_append];refine⟨h.ks,by simp,fun a ha b hb=>?_⟩;obtain⟨x,hx,rfl⟩:=List.mem_map.1 ha;obtain rfl:b=k:=by simpa using hb
  exact hk x hx⟩
variable{W w:World}{L:List HP}{ek:κ->Value}{ev:ν->Value}{b r:Nat}{l l' todo:List (κ×ν)}
theorem ao4(h:St W (d9 ek ev b l::L) w):∃ps c,(ps.map prj).Perm l/\Good ps c/\St W (cS4 ek ev b ps c::L) w:=by obtain⟨⟨ps,c⟩,h⟩:=St.ex h;obtain⟨⟨h1,h2⟩,h3⟩:=St.and h;exact⟨ps,c,h1,h2,h3⟩
theorem aO4{ps:List (κ×ν×Nat)}{c:Nat}(hp:(ps.map prj).Perm l)(hg:Good ps c)(h:St W (cS4 ek ev b ps c::L) w):St W (d9 ek ev b l::L) w:=
 h.imp fun _ hf=>⟨(ps,c),⟨hp,hg⟩,hf⟩
theorem cT4(hp:l.Perm l')(h:St W (d9 ek ev b l::L) w):St W (d9 ek ev b l'::L) w:=by obtain⟨ps,c,h1,h2,h3⟩:=ao4 h;exact aO4 (h1.trans hp) h2 h3
theorem H6(h:St W (d9 ek ev b l::L) w):(l.map (·.1)).Nodup:=by obtain⟨ps,c,h1,h2,h3⟩:=ao4 h;have:=h2.ks;rw[<-Ib7]at this;exact(h1.map (·.1)).nodup_iff.1 this
variable{P:Program}{t K E:TypeId}
theorem JD7(h:St W L w):∃b w',(Instr.makeMap t none).run P w=.ok (.map (some b)) w'/\St W (d9 ek ev b []::L) w':=by obtain⟨b,w',hr,hS⟩:=Hn7 (P:=P) (t:=t) h;exact⟨b,w',hr,aO4 (ps:=[]) (c:=0) (List.Perm.refl _) ⟨List.nodup_nil,fun x hx=>(by cases hx),List.nodup_nil⟩ hS⟩
end
section
variable{κ ν:Type}[DecidableEq κ]
variable{W w:World}{L:List HP}{ek:κ->Value}{ev:ν->Value}{b r:Nat}{l l' todo:List (κ×ν)}
variable{P:Program}{t K E:TypeId}
def bq4(l:List (κ×ν))(k:κ)(v:ν):List (κ×ν):=l.map fun x=>if x.1=k then(x.1,v)else x
def i9(l:List (κ×ν))(k:κ):List (κ×ν):=l.filter fun x=>decide (x.1≠k)
theorem Lz7{ev:ν->Value}(ps:List (κ×ν×Nat))(k:κ)(v:ν):cg4 (ps.map (evs ev)) k (ev v)=(ps.map fun x=>if x.1=k then(x.1,v,x.2.2)else x).map (evs ev):=by
 unfold cg4;rw[List.map_map,List.map_map];refine List.map_congr_left fun x _=>?_
 show(if x.1=k then _ else _)=evs ev (if x.1=k then _ else _)
 by_cases h:x.1=k
 ·rw[if_pos h,if_pos h];rfl
 ·rw[if_neg h,if_neg h]
theorem LA7{ev:ν->Value}(ps:List (κ×ν×Nat))(k:κ):co4 (ps.map (evs ev)) k=(ps.filter fun x=>decide (x.1≠k)).map (evs ev):=by unfold co4;rw[List.filter_map];rfl
theorem Nk7(ps:List (κ×ν×Nat))(k:κ)(v:ν):((ps.map fun x=>if x.1=k then(x.1,v,x.2.2)else x).map prj)=bq4 (ps.map prj) k v:=by
 unfold bq4;rw[List.map_map,List.map_map];refine List.map_congr_left fun x _=>?_
 show prj (if x.1=k then _ else _)=(if x.1=k then _ else _)
 by_cases h:x.1=k
 ·rw[if_pos h,if_pos h];rfl
 ·rw[if_neg h,if_neg h]
theorem Nl7(ps:List (κ×ν×Nat))(k:κ):((ps.filter fun x=>decide (x.1≠k)).map prj)=i9 (ps.map prj) k:=by unfold i9;rw[List.filter_map];rfl
theorem JE7{l l':List (κ×ν)}(h:l.Perm l')(k:κ)(v:ν):(bq4 l k v).Perm (bq4 l' k v):=h.map _
theorem Em7{l l':List (κ×ν)}(h:l.Perm l')(k:κ):(i9 l k).Perm (i9 l' k):=h.filter _
theorem Oh7(ps:List (κ×ν×Nat))(k:κ)(v:ν):((ps.map fun x=>if x.1=k then(x.1,v,x.2.2)else x).map (·.2.2))=ps.map (·.2.2):=by
 rw[List.map_map];refine List.map_congr_left fun x _=>?_
 show(if x.1=k then _ else _:κ×ν×Nat).2.2=x.2.2
 by_cases h:x.1=k
 ·rw[if_pos h]
 ·rw[if_neg h]
theorem Oi7(ps:List (κ×ν×Nat))(k:κ)(v:ν):((ps.map fun x=>if x.1=k then(x.1,v,x.2.2)else x).map (·.1))=ps.map (·.1):=by
 rw[List.map_map];refine List.map_congr_left fun x _=>?_
 show(if x.1=k then _ else _:κ×ν×Nat).1=x.1
 by_cases h:x.1=k
 ·rw[if_pos h]
 ·rw[if_neg h]
theorem Good.set{ps:List (κ×ν×Nat)}{c:Nat}(h:Good ps c)(k:κ)(v:ν):Good (ps.map fun x=>if x.1=k then(x.1,v,x.2.2)else x) c:=
 ⟨by rw[Oh7];exact h.st,fun x hx=>by
  obtain⟨y,hy,rfl⟩:=List.mem_map.1 hx;have:=h.old y hy;show(if y.1=k then _ else _:κ×ν×Nat).2.2<c
  by_cases e:y.1=k
  ·rw[if_pos e];exact this
  ·rw[if_neg e];exact this,by rw[Oi7];exact h.ks⟩
theorem Good.del{ps:List (κ×ν×Nat)}{c:Nat}(h:Good ps c)(k:κ):Good (ps.filter fun x=>decide (x.1≠k)) c:=
 ⟨BZ7 h.st,fun x hx=>h.old x (List.mem_filter.1 hx).1,BZ7 h.ks⟩
theorem Gp7{x:κ×ν}{ok:Bool}(h:St W (d9 ek ev b l::L) w)(ht:F6 P t=some (K,E))(hK:KeyOk P K ek)(hx:x∈l):
  (Instr.lookup t (.map (some b)) (ek x.1) ok).run P w=.ok (if ok then .tuple #[ev x.2,.bool true]else ev x.2) w:=by
 obtain⟨ps,c,h1,h2,h3⟩:=ao4 h;obtain⟨s,hs⟩:=JC7 h1 hx;exact Gn7 h3 ht hK (by rw[CP7];exact h2.ks) (JB7 hs)
theorem Gq7{k:κ}{z:Value}{ok:Bool}(h:St W (d9 ek ev b l::L) w)(ht:F6 P t=some (K,E))(hK:KeyOk P K ek)(hz:C7 P E=some z)(hk:∀x∈l,x.1≠k):
  (Instr.lookup t (.map (some b)) (ek k) ok).run P w=.ok (if ok then .tuple #[z,.bool false]else z) w:=by
 obtain⟨ps,c,h1,h2,h3⟩:=ao4 h;exact Gm7 h3 ht hK hz (MR7 h1 hk)
theorem BI7{k:κ}(hk:∀x∈l,x.1≠k):i9 l k=l:=List.filter_eq_self.2 fun x hx=>by simpa using hk x hx
theorem Ic7{k:κ}{u v:ν}:∀{l:List (κ×ν)},(l.map (·.1)).Nodup->(k,u)∈l->(bq4 l k v).Perm ((k,v)::i9 l k)
 | y::l,hn,hm=>by
  rw[List.map_cons,List.nodup_cons]at hn;by_cases hk:y.1=k
  ·have h0:∀x∈l,x.1≠k:=fun x hx e=>hn.1 (List.mem_map.2 ⟨x,hx,e.trans hk.symm⟩)
   have h1:bq4 l k v=l:=by unfold bq4;refine(List.map_congr_left fun x hx=>?_).trans (List.map_id l);rw[if_neg (h0 x hx)];rfl
   have h2:i9 (y::l) k=l:=by have:=BI7 h0;unfold i9 at this ⊢;rw[List.filter_cons,if_neg (by simpa using hk),this]
   have h3:bq4 (y::l) k v=(k,v)::l:=by have:bq4 (y::l) k v=(if y.1=k then(y.1,v)else y)::bq4 l k v:=rfl;rw[this,h1,if_pos hk,hk]
   rw[h2,h3]
  ·have hm':(k,u)∈l:=by
    rcases List.mem_cons.1 hm with h|h
    ·exact absurd (by rw[<-h]) hk
    ·exact h
   have h2:i9 (y::l) k=y::i9 l k:=by unfold i9;rw[List.filter_cons,if_pos (by simpa using hk)]
   have h3:bq4 (y::l) k v=y::bq4 l k v:=by have:bq4 (y::l) k v=(if y.1=k then(y.1,v)else y)::bq4 l k v:=rfl;rw[this,if_neg hk]
   rw[h2,h3];exact((Ic7 hn.2 hm').cons y).trans (List.Perm.swap _ _ _)
theorem LB7{k:κ}{v:ν}(h:St W (d9 ek ev b l::L) w)(ht:F6 P t=some (K,E))(hK:KeyOk P K ek):
  ∃w',(Instr.mapUpdate t (.map (some b)) (ek k) (ev v)).run P w=.ok () w'/\St W (d9 ek ev b ((k,v)::i9 l k)::L) w':=by
 have hkl:=H6 h;obtain⟨ps,c,h1,h2,h3⟩:=ao4 h;by_cases hk:∃u,(k,u)∈l
 ·obtain⟨u,hu⟩:=hk;obtain⟨s,hs⟩:=JC7 h1 hu;obtain⟨w',hr,hS⟩:=Ho7 (v:=ev v) h3 ht hK (by rw[CP7];exact h2.ks) (JB7 hs);rw[Lz7]at hS;refine⟨w',hr,aO4 ?_ (h2.set k v) hS⟩;rw[Nk7];exact(JE7 h1 k v).trans (Ic7 hkl hu)
 ·have hk':∀x∈l,x.1≠k:=fun x hx e=>hk ⟨x.2,by rw[<-e];exact hx⟩
  obtain⟨w',hr,hS⟩:=Go7 (v:=ev v) h3 ht hK (MR7 h1 hk');have e:ps.map (evs ev)++[(k,ev v,c)]=(ps++[(k,v,c)]).map (evs ev):=by rw[List.map_append];rfl
  rw[e]at hS;refine⟨w',hr,aO4 ?_ (h2.new fun x hx=>?_) hS⟩
  ·rw[BI7 hk',List.map_append];exact(List.perm_append_comm).trans (h1.cons (k,v))
  ·exact hk' (prj x) (h1.mem_iff.1 (List.mem_map_of_mem hx))
theorem LC7{k:κ}{k2 ty:TypeId}(h:St W (d9 ek ev b l::L) w)(ht:F6 P t=some (K,E))(hK:KeyOk P K ek):
  ∃w',(Builtin.delete_ #[t,k2] ty #[.map (some b),ek k]).run P w=.ok (.tuple #[]) w'/\St W (d9 ek ev b (i9 l k)::L) w':=by
 obtain⟨ps,c,h1,h2,h3⟩:=ao4 h;obtain⟨w',hr,hS⟩:=Ly7 (k:=k) (k2:=k2) (ty:=ty) h3 ht hK (by rw[CP7];exact h2.ks);rw[LA7]at hS;refine⟨w',hr,aO4 ?_ (h2.del k) hS⟩;rw[Nl7];exact Em7 h1 k
end
end Go.Sl
end
section
namespace Go.Sl
open Go.RowKit
section
variable{κ ν:Type}
end
section
variable{κ ν:Type}[DecidableEq κ]{W w:World}{L:List HP}{ek:κ->Value}{ev:ν->Value}{b r:Nat}{l todo:List (κ×ν)}{P:Program}{t K E:TypeId}
end
section
variable{κ ν:Type}{W w:World}{L:List HP}{ek:κ->Value}{ev:ν->Value}{b r:Nat}{l todo:List (κ×ν)}{P:Program}{t K E:TypeId}
end
section
variable{κ ν:Type}{W w:World}{L R:List HP}{ek:κ->Value}{ev:ν->Value}{b r:Nat}{l todo:List (κ×ν)}{P:Program}{t K E:TypeId}{ops:Array Oper}{Q:Exit->Act->World->Prop}{a:Act}{rest:List Oper}{o:Oper}
theorem Cm7(ek:κ->Value)(ev:ν->Value)(hS:St W L w)(ho:o.op=.makeMap t none)(hg:Region.wanted o (yielded ops a.tmps)=true)
  (h:∀b w',St W (d9 ek ev b []::L) w'->wpList P ops Q rest (a.put o.dst (.map (some b))) w'):wpList P ops Q (o::rest) a w:=by
 obtain⟨b,w',hr,hS'⟩:=JD7 (P:=P) (t:=t) (ek:=ek) (ev:=ev) hS;refine Ar7 hg (v:=.map (some b)) (w':=w') ?_ (h b w' hS');unfold execOp;simp[ho,hr]
def fo4(r b:Nat)(w:World):Nat:=match w.heap[r]?,w.heap[b]? with
 | some (.mapIter _ _ seen _),some (.map es _)=>(es.toList.filter fun e=>decide (e.born∉seen)).length
 | _,_=>0
variable[DecidableEq κ]
def O6(ok:Bool)(z:Value):Option Value->Value
 | some v=>if ok then .tuple #[v,.bool true]else v
 | none=>if ok then .tuple #[z,.bool false]else z
def j5(l:List (κ×ν))(k:κ):Option ν:=(l.find? fun x=>decide (x.1=k)).map (·.2)
theorem BO7{k:κ}(h:j5 l k=none):∀x∈l,x.1≠k:=by unfold j5 at h;rw[Option.map_eq_none_iff,List.find?_eq_none]at h;intro x hx;simpa using h x hx
theorem Az7{k:κ}{v:ν}(h:j5 l k=some v):(k,v)∈l:=by unfold j5 at h;obtain⟨x,hx,rfl⟩:=Option.map_eq_some_iff.1 h;have h1:=List.find?_some hx;have h2:=List.mem_of_find?_eq_some hx;simp only[decide_eq_true_eq]at h1;rw[<-h1];exact h2
theorem Fx7{k:κ}(h:∀x∈l,x.1≠k):j5 l k=none:=by unfold j5;rw[Option.map_eq_none_iff,List.find?_eq_none];intro x hx;simpa using h x hx
theorem Fy7{k:κ}{v:ν}(hn:(l.map (·.1)).Nodup)(h:(k,v)∈l):j5 l k=some v:=by
 induction l with
 | nil=>cases h
 | cons x l ih=>
  rw[List.map_cons,List.nodup_cons]at hn;unfold j5 at ih ⊢
  rcases List.mem_cons.1 h with h1|h1
  ·subst h1;simp
  ·have hx:x.1≠k:=fun e=>hn.1 (List.mem_map.2 ⟨_,h1,e.symm⟩)
   rw[List.find?_cons_of_neg (by simpa using hx)];exact ih hn.2 h1
theorem AA7{l l':List (κ×ν)}(hn:(l.map (·.1)).Nodup)(hp:l.Perm l')(k:κ):j5 l k=j5 l' k:=by
 cases h:j5 l k with
 | some v=>exact(Fy7 ((hp.map (·.1)).nodup_iff.1 hn) (hp.mem_iff.1 (Az7 h))).symm
 | none=>exact(Fx7 fun x hx=>BO7 h x (hp.mem_iff.2 hx)).symm
theorem CQ7{k:κ}{z:Value}{ok:Bool}(h:St W (d9 ek ev b l::L) w)(ht:F6 P t=some (K,E))(hK:KeyOk P K ek)(hz:C7 P E=some z):
  (Instr.lookup t (.map (some b)) (ek k) ok).run P w=.ok (O6 ok z ((j5 l k).map ev)) w:=by
 cases hg:j5 l k with
 | some v=>exact Gp7 (x:=(k,v)) h ht hK (Az7 hg)
 | none=>exact Gq7 h ht hK hz (BO7 hg)
theorem CR7{x y:Operand}{k:κ}{z:Value}{ok:Bool}(hS:St W L w)(ho:o.op=.lookup t x y ok)(hg:Region.wanted o (yielded ops a.tmps)=true)(hx:a.eval x=.map (some b))(hy:a.eval y=ek k)(hu:Take L (d9 ek ev b l) R)
  (ht:F6 P t=some (K,E)) (hK:KeyOk P K ek) (hz:C7 P E=some z) (h:wpList P ops Q rest (a.put o.dst (O6 ok z ((j5 l k).map ev))) w):wpList P ops Q (o::rest) a w:=by
 refine Ar7 hg (w':=w) ?_ h;unfold execOp;simp[ho,hx,hy,CQ7 (hS.take hu) ht hK hz]
theorem En7{x y:Operand}{k:κ}{u:ν}{z:Value}(hS:St W L w)(ho:o.op=.lookup t x y false)(hg:Region.wanted o (yielded ops a.tmps)=true)(hx:a.eval x=.map (some b))(hy:a.eval y=ek k)(hu:Take L (d9 ek ev b l) R)
  (ht:F6 P t=some (K,E)) (hK:KeyOk P K ek) (hz:C7 P E=some z) (hgl:j5 l k=some u) (h:wpList P ops Q rest (a.put o.dst (ev u)) w):wpList P ops Q (o::rest) a w:=
 CR7 hS ho hg hx hy hu ht hK hz (by rw[hgl];exact h)
theorem Gr7{x y:Operand}{k:κ}{z:Value}(hS:St W L w)(ho:o.op=.lookup t x y false)(hg:Region.wanted o (yielded ops a.tmps)=true)(hx:a.eval x=.map (some b))(hy:a.eval y=ek k)(hu:Take L (d9 ek ev b l) R)
  (ht:F6 P t=some (K,E)) (hK:KeyOk P K ek) (hz:C7 P E=some z) (hgl:j5 l k=none) (h:wpList P ops Q rest (a.put o.dst z) w):wpList P ops Q (o::rest) a w:=
 CR7 hS ho hg hx hy hu ht hK hz (by rw[hgl];exact h)
theorem Dw7{x y:Operand}{k:κ}{u:ν}{z:Value}(hS:St W L w)(ho:o.op=.lookup t x y true)(hg:Region.wanted o (yielded ops a.tmps)=true)(hx:a.eval x=.map (some b))(hy:a.eval y=ek k)(hu:Take L (d9 ek ev b l) R)
  (ht:F6 P t=some (K,E)) (hK:KeyOk P K ek) (hz:C7 P E=some z) (hgl:j5 l k=some u) (h:wpList P ops Q rest (a.put o.dst (.tuple #[ev u,.bool true])) w):wpList P ops Q (o::rest) a w:=
 CR7 hS ho hg hx hy hu ht hK hz (by rw[hgl];exact h)
theorem Fd7{x y:Operand}{k:κ}{z:Value}(hS:St W L w)(ho:o.op=.lookup t x y true)(hg:Region.wanted o (yielded ops a.tmps)=true)(hx:a.eval x=.map (some b))(hy:a.eval y=ek k)(hu:Take L (d9 ek ev b l) R)
  (ht:F6 P t=some (K,E)) (hK:KeyOk P K ek) (hz:C7 P E=some z) (hgl:j5 l k=none) (h:wpList P ops Q rest (a.put o.dst (.tuple #[z,.bool false])) w):wpList P ops Q (o::rest) a w:=
 CR7 hS ho hg hx hy hu ht hK hz (by rw[hgl];exact h)
theorem Bq7{x y v:Operand}{k:κ}{u:ν}(hS:St W L w)(ho:o.op=.mapUpdate t x y v)(hg:Region.wanted o (yielded ops a.tmps)=true)(hx:a.eval x=.map (some b))(hy:a.eval y=ek k)(hu:Take L (d9 ek ev b l) R)(hv:a.eval v=ev u)
  (ht:F6 P t=some (K,E)) (hK:KeyOk P K ek) (h:∀w',St W (d9 ek ev b ((k,u)::i9 l k)::R) w'->wpList P ops Q rest (a.put o.dst undef) w'):wpList P ops Q (o::rest) a w:=by
 obtain⟨w',hr,hS'⟩:=LB7 (P:=P) (k:=k) (v:=u) (hS.take hu) ht hK;refine BH7 hg (w':=w') ?_ (h w' hS');unfold execOp;simp[ho,hx,hy,hv,hr]
theorem Hp7{x y:Operand}{k:κ}{k2:TypeId}(hS:St W L w)(ho:o.op=.call { callee:=.builtin .delete,args:=#[x,y],argTypes:=#[t,k2] })(hg:Region.wanted o (yielded ops a.tmps)=true)(hx:a.eval x=.map (some b))(hy:a.eval y=ek k)(hu:Take L (d9 ek ev b l) R)
  (ht:F6 P t=some (K,E)) (hK:KeyOk P K ek) (h:∀w',St W (d9 ek ev b (i9 l k)::R) w'->wpList P ops Q rest (a.put o.dst (.tuple #[])) w'):wpList P ops Q (o::rest) a w:=by
 obtain⟨w',hr,hS'⟩:=LC7 (P:=P) (k:=k) (k2:=k2) (ty:=o.type) (hS.take hu) ht hK;refine Ar7 hg (v:=.tuple #[]) (w':=w') ?_ (h w' hS');unfold execOp;simp[ho,resolve,invoke,builtin,hx,hy,hr]
end
end Go.Sl
end
section
namespace Go.Sl
open Go.RowKit
section
variable{κ ν:Type}[DecidableEq κ]{P:Program}{t K E:TypeId}{ek:κ->Value}{ev:ν->Value}{W w:World}{L R:List HP}{b:Nat}{l:List (κ×ν)}{ops:Array Oper}{a:Act}{rest:List Oper}{o:Oper}
theorem JF7{k:κ}{z:Value}{d u:ν}(hd:z=ev d)(hu:(j5 l k).getD d=u):O6 false z ((j5 l k).map ev)=ev u:=by
 subst hu hd
 cases j5 l k <;> rfl
theorem Gs7{Q:Exit->Act->World->Prop}{x y:Operand}{k:κ}{z:Value}(d u:ν)(hS:St W L w)(ho:o.op=.lookup t x y false)(hg:Region.wanted o (yielded ops a.tmps)=true)(hx:a.eval x=.map (some b))(hy:a.eval y=ek k)(hu:Take L (d9 ek ev b l) R)
  (ht:F6 P t=some (K,E)) (hK:KeyOk P K ek) (hz:C7 P E=some z) (hd:z=ev d) (hv:(j5 l k).getD d=u) (h:wpList P ops Q rest (a.put o.dst (ev u)) w):wpList P ops Q (o::rest) a w:=
 CR7 hS ho hg hx hy hu ht hK hz (by rw[JF7 hd hv];exact h)
theorem AB7{tb:List Nat}{toks:List Tok}{fresh:Nat->Bool}{pin:Nat->Option Value}{Qf:Act->Prop}{nd:Nat->Value}{i:Nat}{x y:Operand}{k:κ}{z:Value}(d u:ν)(hf:fresh i=false)(hn:ah4 toks i=true)(ho:o.op=.lookup t x y false)(hg:Region.wanted o (yielded ops a.tmps)=true)(hx:a.eval x=.map (some b))(hy:a.eval y=ek k)
  (hu:∀F, ∃R,Take (kpL toks tb i nd++F) (d9 ek ev b l) R) (ht:F6 P t=some (K,E)) (hK:KeyOk P K ek) (hz:C7 P E=some z) (hd:z=ev d) (hv:(j5 l k).getD d=u)
  (h:k8 P W ops tb toks fresh pin Qf nd (i+1) rest (a.put o.dst (ev u))):k8 P W ops tb toks fresh pin Qf nd i (o::rest) a:=
 Fa7 hf hn hg (fun F w hS=>by obtain⟨R,hu⟩:=hu F;unfold execOp;simp[ho,hx,hy,CQ7 (hS.take hu) ht hK hz,JF7 hd hv]) h
end
end Go.Sl
namespace Go.Sl
open Go.RowKit
section
variable{P:Program}{w:World}{ops:Array Oper}{Q:Exit->Act->World->Prop}{a:Act}{rest:List Oper}{o:Oper}
theorem Ca7{t t2:TypeId}{x y:Operand}{xs ys:Array Value}{r:Bool}(ho:o.op=.binOp .eql t x y t2)(hg:Region.wanted o (yielded ops a.tmps)=true)(hx:a.eval x=.agg xs)(hy:a.eval y=.agg ys)(hm:P.eqGuardType P.depth t=false)(hr:∀w:World,(Op.equalIn 10000 t (.agg xs) (.agg ys)).run P w=.ok r w)
  (h:wpList P ops Q rest (a.put o.dst (.bool r)) w):wpList P ops Q (o::rest) a w:=by
 refine Ar7 hg (v:=.bool r) (w':=w) ?_ h;unfold execOp;simp[ho,hx,hy,run_eqGuard_agg w .eql t x y xs ys hm,run_eql_struct,hr]
theorem DP7{t t2:TypeId}{x y:Operand}{xs ys:Array Value}{r:Bool}(ho:o.op=.binOp .neq t x y t2)(hg:Region.wanted o (yielded ops a.tmps)=true)(hx:a.eval x=.agg xs)(hy:a.eval y=.agg ys)(hm:P.eqGuardType P.depth t=false)(hr:∀w:World,(Op.equalIn 10000 t (.agg xs) (.agg ys)).run P w=.ok r w)
  (h:wpList P ops Q rest (a.put o.dst (.bool (!r))) w):wpList P ops Q (o::rest) a w:=by
 refine Ar7 hg (v:=.bool (!r)) (w':=w) ?_ h;unfold execOp;simp[ho,hx,hy,run_eqGuard_agg w .neq t x y xs ys hm,run_neq_struct,hr]
end
end Go.Sl
namespace Go.Proofs.YtienbkdjkjbelaaGreat
open Go.RowKit Go.Sl
theorem eqI(x0 x1 x2 x3 y0 y1 y2 y3:Int)(w:World):(Op.equalIn 10000 34 (.agg #[.I x0,.I x1,.I x2,.I x3]) (.agg #[.I y0,.I y1,.I y2,.I y3])).run Tryz.prog w=.ok (x0==y0&&(x1==y1&&(x2==y2&&x3==y3))) w:=by
 have u3:=Tryz.underlying3;have a3:=Tryz.isAgg3;have z3:=Tryz.sizeOf3;rw[show(10000:Nat)=9999+1 from rfl,Op.equalIn];simp only[Sem.run_bind,run_underlying Tryz.underlying34,Result.andThen_ok];simp only[Std.Legacy.Range.forIn_eq_forIn_range',Std.Legacy.Range.size,Nat.sub_zero,Nat.add_sub_cancel,Nat.div_one,List.range'_succ,List.range'_zero,List.forIn_cons,List.forIn_nil]
 go_simp
 by_cases h1:x0=y0 <;> by_cases h2:x1=y1 <;> by_cases h3:x2=y2 <;> by_cases h4:x3=y3 <;> simp[h1,h2,h3,h4]
abbrev eS(k:ByteArray):Value:=.string k
abbrev eP(i:It):Value:=.agg i.cells.toArray
theorem kS:KeyOk Tryz.prog 9 eS:=KeyOk.str Tryz.underlying9
theorem mP:F6 Tryz.prog 212=some (9,34):=by kernel_rfl
theorem zP:C7 Tryz.prog 34=some (.agg #[.I 0,.I 0,.I 0,.I 0]):=by kernel_rfl
abbrev Ps:=List (ByteArray×It)
def j7(p:Ps)(k:ByteArray):It:=(j5 p k).getD it0
def isZ(i:It):Bool:=decide (i.x0=0)&&(decide (i.x1=0)&&(decide (i.x2=0)&&decide (i.x3=0)))
def E7(p:Ps)(k:ByteArray)(i:It):Ps:=if isZ i=true then i9 p k else(k,i)::i9 p k
section
variable(vb mb:Nat)(p:Ps)(k:ByteArray)(u1 u2:Value)(W w:World)(R:List HP)
theorem LD7(hS:St W (blk vb [.map (some mb),u1,u2] 215::d9 eS eP mb p::R) w):
  Calls Tryz.prog 155 #[.P vb,.string k] w fun e w'=>e=.returned (eP (j7 p k))/\St W (blk vb [.map (some mb),u1,u2] 215::d9 eS eP mb p::R) w':=by
 obtain⟨x,hx⟩:∃x,j7 p k=x:=⟨_,rfl⟩
 rw[hx];obtain⟨x0,x1,x2,x3⟩:=x;have Hx:=jH hx;clear hx;go_enter Tryz.func155,Tryz.ntmps155;go_wp2_with(first|(with_reducible apply Gs7 (ek:=eS) (ev:=eP) (k:=k) it0 ⟨x0,x1,x2,x3⟩ hS);rfl;rfl;rfl;rfl;exact i7;exact mP;exact kS;exact zP;rfl;exact Hx.out;simp only[Act.put,fA,fB,fC,Nat.reduceAdd,eP,It.cells]|refine zl1 hS ?_|refine zsN hS ?_;clear hS;intro w hS|refine zal hS ?_;clear hS;intro b w hS);apply Am7;rfl;rfl;rfl;exact hS;decide +kernel;(exact m8);kernel_rfl;exact⟨rfl,hS.drop⟩
theorem AK7(i:It)(hS:St W (blk vb [.map (some mb),u1,u2] 215::d9 eS eP mb p::R) w):
  Calls Tryz.prog 146 #[.P vb,.string k,.agg i.cells.toArray] w fun e w'=>e=.returned (.tuple #[])/\St W (blk vb [.map (some mb),u1,u2] 215::d9 eS eP mb (E7 p k i)::R) w':=by
 obtain⟨x0,x1,x2,x3⟩:=i;unfold E7
 cases hz:isZ ⟨x0,x1,x2,x3⟩with
 | true=>
  rw[if_pos rfl];simp only[isZ,jB,decide_eq_true_eq]at hz;obtain⟨rfl,rfl,rfl,rfl⟩:=hz;have h4:(((0:Int)==0)&&(((0:Int)==0)&&(((0:Int)==0)&&((0:Int)==0))))=true:=rfl;simp only[It.cells];go_enter Tryz.func146,Tryz.ntmps146;go_wp2_with(first|(with_reducible apply Ca7);rfl;rfl;rfl;rfl;kernel_rfl;exact eqI _ _ _ _ _ _ _ _;rw[h4];simp only[Act.put,fA,fB,fC,Nat.reduceAdd,eP,It.cells]|((with_reducible apply Hp7 (ek:=eS) (ev:=eP) (k:=k) hS);rfl;rfl;rfl;rfl;exact i7;exact mP;exact kS;clear hS;intro w hS;try(simp only[Act.put,fA,fB,fC,Nat.reduceAdd,eP,It.cells]))|refine zl1 hS ?_|refine zlN hS ?_|refine zbx hS ?_;clear hS;intro b w hS);refine bodyPost_ret (results_none rfl _ _ _) rfl ?_;exact⟨rfl,hS.s _⟩
 | false=>
  rw[if_neg (by simp)];have h4:(x0==0&&(x1==0&&(x2==0&&x3==0)))=false:=hz;clear hz;simp only[It.cells];go_enter Tryz.func146,Tryz.ntmps146;go_wp2_with(first|(with_reducible apply Ca7);rfl;rfl;rfl;rfl;kernel_rfl;exact eqI _ _ _ _ _ _ _ _;rw[h4];simp only[Act.put,fA,fB,fC,Nat.reduceAdd,eP,It.cells]|refine zlN hS ?_|refine zbx hS ?_;clear hS;intro b w hS);refine rt 6 hS ?_
  repeat(first|refine zq1 ?_|refine zqN ?_|refine zqn ?_|refine qR ?_)
  clear hS;intro w hS;simp only[jD,List.drop_zero];go_wp2_with(first|((with_reducible apply Bq7 (ek:=eS) (ev:=eP) (k:=k) (u:=⟨x0,x1,x2,x3⟩) hS);rfl;rfl;rfl;rfl;exact i7;(focus(rfl));exact mP;exact kS;clear hS;intro w hS;try(simp only[Act.put,fA,fB,fC,Nat.reduceAdd,eP,It.cells])));go_end0;exact⟨rfl,hS.s _⟩
end
def x9(k:ByteArray):Bool:=decide (1<=k.size)&&decide (k.size<=16)
theorem BA7(k:ByteArray)(W w:World)(R:List HP)(hS:St W R w):
  Calls Tryz.prog 145 #[.string k] w fun e w'=>e=.returned (.bool (x9 k))/\St W R w':=by
 go_enter Tryz.func145,Tryz.ntmps145;by_cases h1:k.size<1
 ·have e:x9 k=false:=by unfold x9;simp;omega
  have d1:decide ((1:Int)<=(k.size:Int))=false:=by simp;omega
  rw[e];go_wp2_with(fail);go_ret;exact⟨rfl,hS⟩
 ·have d1:(1:Int)<=(k.size:Int):=by omega
  by_cases h2:k.size<=16
  ·have e:x9 k=true:=by unfold x9;simp;omega
   have d2:(k.size:Int)<=16:=by omega
   rw[e];go_wp2_with(fail);go_ret;exact⟨rfl,hS⟩
  ·have e:x9 k=false:=by unfold x9;simp;omega
   have d2:decide ((k.size:Int)<=16)=false:=by simp;omega
   rw[e];go_wp2_with(fail);go_ret;exact⟨rfl,hS⟩
theorem LE7{l:List It}{s0 s1 s2 s3:Int}(h:J7 l it0=some ⟨s0,s1,s2,s3⟩)(v:Value)(W w:World)(R:List HP)(hS:St W (row v 4 34 l.length (l.flatMap It.cells)::R) w):
  Calls Tryz.prog 32 #[v] w fun e w'=>e=.returned (.tuple #[.agg #[.I s0,.I s1,.I s2,.I s3],.bool true])/\St W R w':=
 (MQ7 l v W w R hS).mono fun e w' ⟨he,hS⟩=>⟨by rw[he,bg4,h];rfl,hS.drop⟩
theorem LF7{l:List It}(h:J7 l it0=none)(v:Value)(W w:World)(R:List HP)(hS:St W (row v 4 34 l.length (l.flatMap It.cells)::R) w):
  Calls Tryz.prog 32 #[v] w fun e w'=>e=.returned (.tuple #[.agg #[.I 0,.I 0,.I 0,.I 0],.bool false])/\St W R w':=
 (MQ7 l v W w R hS).mono fun e w' ⟨he,hS⟩=>⟨by rw[he,bg4,h];rfl,hS.drop⟩
theorem Nm7{x0 x1 x2 x3 y0 y1 y2 y3:Int}(h:G6 ⟨x0,x1,x2,x3⟩ ⟨y0,y1,y2,y3⟩=true)(W w:World)(R:List HP)(hS:St W R w):
  Calls Tryz.prog 147 #[.agg #[.I x0,.I x1,.I x2,.I x3],.agg #[.I y0,.I y1,.I y2,.I y3]] w fun e w'=>e=.returned (.tuple #[.agg #[.I (x0-y0),.I (x1-y1),.I (x2-y2),.I (x3-y3)],.bool true])/\St W R w':=
 (MP7 ⟨x0,x1,x2,x3⟩ ⟨y0,y1,y2,y3⟩ W w R hS).mono fun e w' ⟨he,hS⟩=>⟨by rw[he,bo4,h];rfl,hS⟩
theorem Oj7{x0 x1 x2 x3 y0 y1 y2 y3:Int}(h:G6 ⟨x0,x1,x2,x3⟩ ⟨y0,y1,y2,y3⟩=false)(W w:World)(R:List HP)(hS:St W R w):
  Calls Tryz.prog 147 #[.agg #[.I x0,.I x1,.I x2,.I x3],.agg #[.I y0,.I y1,.I y2,.I y3]] w fun e w'=>e=.returned (.tuple #[.agg #[.I 0,.I 0,.I 0,.I 0],.bool false])/\St W R w':=
 (MP7 ⟨x0,x1,x2,x3⟩ ⟨y0,y1,y2,y3⟩ W w R hS).mono fun e w' ⟨he,hS⟩=>⟨by rw[he,bo4,h];rfl,hS⟩
end Go.Proofs.YtienbkdjkjbelaaGreat
end
