/-
  Maps as resources up to order.
-/
import Derived.Test.YtlmhakmoioogaaaGreatEconBkM3
set_option maxHeartbeats 16000000
set_option maxRecDepth 100000
set_option linter.unusedSimpArgs false
set_option linter.unusedVariables false
section
namespace Go.Sl
open Go.RowKit
section
variable{κ ν:Type}
def evs(ev:ν->Value)(x:κ×ν×Nat):κ×Value×Nat:=(x.1,ev x.2.1,x.2.2)
def prj(x:κ×ν×Nat):κ×ν:=(x.1,x.2.1)
structure Good(ps:List (κ×ν×Nat))(c:Nat):Prop where
 st:(ps.map (·.2.2)).Nodup
 old:∀x∈ps,x.2.2<c
 ks:(ps.map (·.1)).Nodup
def dH4(ek:κ->Value)(ev:ν->Value)(b:Nat)(ps:List (κ×ν×Nat))(c:Nat):HP:=bv4 b ((ps.map (evs ev)).map (Q7 ek)) c
def d8(ek:κ->Value)(ev:ν->Value)(b:Nat)(l:List (κ×ν)):HP:=fun f=>∃q:List (κ×ν×Nat)×Nat,((q.1.map prj).Perm l/\Good q.1 q.2)/\dH4 ek ev b q.1 q.2 f
def ew4(l todo:List (κ×ν))(ps:List (κ×ν×Nat))(c since c0:Nat)(seen:Array Nat):Prop:=
 (ps.map prj).Perm l/\Good ps since/\since<=c0/\since<=c/\((ps.filter fun x=>decide (x.2.2∉seen)).map prj).Perm todo
structure ItQ(κ ν:Type) where
 ps:List (κ×ν×Nat)
 c:Nat
 since:Nat
 c0:Nat
 seen:Array Nat
def itR(ek:κ->Value)(ev:ν->Value)(r b:Nat)(l todo:List (κ×ν)):HP:=fun f=>∃q:ItQ κ ν,ew4 l todo q.ps q.c q.since q.c0 q.seen/\sep (cg4 r b q.since q.seen q.c0) (dH4 ek ev b q.ps q.c) f
def eo4(ek:κ->Value)(ev:ν->Value)(r b:Nat)(l todo:List (κ×ν))(x:κ×ν):HP:=fun f=>∃q:ItQ κ ν,(ew4 l todo q.ps q.c q.since q.c0 q.seen/\q.c0=q.c/\∃(s:Nat) (seen':Array Nat),q.seen=seen'.push s/\(x.1,x.2,s)∈q.ps)/\sep (cg4 r b q.since q.seen q.c0) (dH4 ek ev b q.ps q.c) f
theorem Lt7(ps:List (κ×ν×Nat)):(ps.map prj).map (·.1)=ps.map (·.1):=by rw[List.map_map];rfl
theorem Ec7(ev:ν->Value)(ps:List (κ×ν×Nat)):(ps.map (evs ev)).map (·.1)=ps.map (·.1):=by rw[List.map_map];rfl
theorem NS7{ev:ν->Value}{ps:List (κ×ν×Nat)}{k:κ}{v:ν}{s:Nat}(h:(k,v,s)∈ps):(k,ev v,s)∈ps.map (evs ev):=List.mem_map.2 ⟨_,h,rfl⟩
theorem NT7{ps:List (κ×ν×Nat)}{l:List (κ×ν)}{x:κ×ν}(hp:(ps.map prj).Perm l)(hx:x∈l):∃s,(x.1,x.2,s)∈ps:=by obtain⟨⟨k,v,s⟩,hy,rfl⟩:=List.mem_map.1 (hp.mem_iff.2 hx);exact⟨s,hy⟩
theorem SE7{ev:ν->Value}{ps:List (κ×ν×Nat)}{l:List (κ×ν)}{k:κ}(hp:(ps.map prj).Perm l)(hk:∀x∈l,x.1≠k):∀x∈ps.map (evs ev),x.1≠k:=by intro x hx;obtain⟨y,hy,rfl⟩:=List.mem_map.1 hx;exact hk (prj y) (hp.mem_iff.1 (List.mem_map_of_mem hy))
theorem CX7{α β:Type}{f:α->β}{p:α->Bool}{l:List α}(h:(l.map f).Nodup):((l.filter p).map f).Nodup:=h.sublist (List.filter_sublist.map f)
theorem Good.new{ps:List (κ×ν×Nat)}{c:Nat}(h:Good ps c){k:κ}{v:ν}(hk:∀x∈ps,x.1≠k):Good (ps++[(k,v,c)]) (c+1):=
 ⟨by
  rw[List.map_append,List.nodup_append];refine⟨h.st,by simp,fun a ha b hb=>?_⟩;obtain⟨x,hx,rfl⟩:=List.mem_map.1 ha;obtain rfl:b=c:=by simpa using hb
  have:=h.old x hx;omega,fun x hx=>by
  rcases List.mem_append.1 hx with h1|h1
  ·have:=h.old x h1;omega
  ·obtain rfl:=List.mem_singleton.1 h1;exact Nat.lt_succ_self c,by
  rw[List.map_append,List.nodup_append];refine⟨h.ks,by simp,fun a ha b hb=>?_⟩;obtain⟨x,hx,rfl⟩:=List.mem_map.1 ha;obtain rfl:b=k:=by simpa using hb
  exact hk x hx⟩
variable{W w:World}{L:List HP}{ek:κ->Value}{ev:ν->Value}{b r:Nat}{l l' todo:List (κ×ν)}
theorem ao4(h:St W (d8 ek ev b l::L) w):∃ps c,(ps.map prj).Perm l/\Good ps c/\St W (dH4 ek ev b ps c::L) w:=by obtain⟨⟨ps,c⟩,h⟩:=St.ex h;obtain⟨⟨h1,h2⟩,h3⟩:=St.and h;exact⟨ps,c,h1,h2,h3⟩
theorem bw4{ps:List (κ×ν×Nat)}{c:Nat}(hp:(ps.map prj).Perm l)(hg:Good ps c)(h:St W (dH4 ek ev b ps c::L) w):St W (d8 ek ev b l::L) w:=
 h.imp fun _ hf=>⟨(ps,c),⟨hp,hg⟩,hf⟩
theorem ex4(hp:l.Perm l')(h:St W (d8 ek ev b l::L) w):St W (d8 ek ev b l'::L) w:=by obtain⟨ps,c,h1,h2,h3⟩:=ao4 h;exact bw4 (h1.trans hp) h2 h3
theorem K8(h:St W (d8 ek ev b l::L) w):(l.map (·.1)).Nodup:=by obtain⟨ps,c,h1,h2,h3⟩:=ao4 h;have:=h2.ks;rw[<-Lt7]at this;exact(h1.map (·.1)).nodup_iff.1 this
theorem dS4(h:St W (itR ek ev r b l todo::L) w):∃q:ItQ κ ν,ew4 l todo q.ps q.c q.since q.c0 q.seen/\St W (cg4 r b q.since q.seen q.c0::dH4 ek ev b q.ps q.c::L) w:=by obtain⟨q,h⟩:=St.ex h;obtain⟨h1,h2⟩:=St.and h;exact⟨q,h1,h2.split⟩
theorem fD4{q:ItQ κ ν}(hq:ew4 l todo q.ps q.c q.since q.c0 q.seen)(h:St W (cg4 r b q.since q.seen q.c0::dH4 ek ev b q.ps q.c::L) w):St W (itR ek ev r b l todo::L) w:=
 h.join.imp fun _ hf=>⟨q,hq,hf⟩
theorem ef4(h:St W (itR ek ev r b l todo::L) w):St W (d8 ek ev b l::L) w:=by obtain⟨q,⟨h1,h2,h3,h4,h5⟩,hS⟩:=dS4 h;exact bw4 h1 ⟨h2.st,fun x hx=>Nat.lt_of_lt_of_le (h2.old x hx) h4,h2.ks⟩ hS.drop
theorem fp4{x:κ×ν}(h:St W (eo4 ek ev r b l todo x::L) w):St W (itR ek ev r b l todo::L) w:=h.imp fun _ ⟨q,⟨h1,_⟩,h2⟩=>⟨q,h1,h2⟩
theorem Lu7{ps:List (κ×ν×Nat)}{e:MapEntry}(h:e∈(ps.map (evs ev)).map (Q7 ek)):∃x∈ps,e=⟨ek x.1,ev x.2.1,x.2.2⟩:=by obtain⟨y,hy,rfl⟩:=List.mem_map.1 h;obtain⟨x,hx,rfl⟩:=List.mem_map.1 hy;exact⟨x,hx,rfl⟩
theorem Lv7{ps:List (κ×ν×Nat)}{x:κ×ν×Nat}(h:x∈ps):(⟨ek x.1,ev x.2.1,x.2.2⟩:MapEntry)∈(ps.map (evs ev)).map (Q7 ek):=List.mem_map.2 ⟨_,List.mem_map.2 ⟨x,h,rfl⟩,rfl⟩
theorem Kl7{ps:List (κ×ν×Nat)}{x:κ×ν×Nat}{seen:Array Nat}(hst:(ps.map (·.2.2)).Nodup)(hx:x∈ps)(hn:x.2.2∉seen):
  (ps.filter fun y=>decide (y.2.2∉seen)).Perm (x::ps.filter fun y=>decide (y.2.2∉seen.push x.2.2)):=by
 induction ps with
 | nil=>cases hx
 | cons y ps ih=>
  rw[List.map_cons,List.nodup_cons]at hst;by_cases hxy:x=y
  ·subst hxy;have e1:List.filter (fun y=>decide (y.2.2∉seen)) (x::ps)=x::ps.filter (fun y=>decide (y.2.2∉seen)):=by rw[List.filter_cons,if_pos (by simpa using hn)]
   have e2:List.filter (fun y=>decide (y.2.2∉seen.push x.2.2)) (x::ps)=ps.filter (fun y=>decide (y.2.2∉seen)):=by
    rw[List.filter_cons,if_neg (by simp)];refine List.filter_congr fun z hz=>?_
    have:z.2.2≠x.2.2:=fun e=>hst.1 (List.mem_map.2 ⟨z,hz,e⟩)
    simp[this]
   rw[e1,e2]
  ·have hx':x∈ps:=(List.mem_cons.1 hx).resolve_left hxy;have hne:y.2.2≠x.2.2:=fun e=>hst.1 (List.mem_map.2 ⟨x,hx',e.symm⟩)
   have ih:=ih hst.2 hx';by_cases hy:y.2.2∈seen
   ·rw[List.filter_cons,if_neg (by simpa using hy),List.filter_cons,if_neg (by simp[hy])];exact ih
   ·rw[List.filter_cons,if_pos (by simpa using hy),List.filter_cons,if_pos (by simp[hy,hne])];exact(ih.cons y).trans (List.Perm.swap _ _ _)
variable{P:Program}{t K E:TypeId}
theorem NU7(h:St W L w):∃b w',(Instr.makeMap t none).run P w=.ok (.map (some b)) w'/\St W (d8 ek ev b []::L) w':=by obtain⟨b,w',hr,hS⟩:=Kj7 (P:=P) (t:=t) h;exact⟨b,w',hr,bw4 (ps:=[]) (c:=0) (List.Perm.refl _) ⟨List.nodup_nil,fun x hx=>(by cases hx),List.nodup_nil⟩ hS⟩
theorem Hq7(h:St W (d8 ek ev b l::L) w)(ht:I9 P t=some (K,E)):
  ∃r w',(Instr.range t (.map (some b))).run P w=.ok (.P r) w'/\St W (itR ek ev r b l l::L) w':=by
 obtain⟨ps,c,h1,h2,h3⟩:=ao4 h;obtain⟨r,w',hr,hS⟩:=NO7 (P:=P) h3 ht;refine⟨r,w',hr,fD4 (q:=⟨ps,c,c,c, #[]⟩) ⟨h1,h2,Nat.le_refl _,Nat.le_refl _,?_⟩ hS⟩;have:ps.filter (fun x=>decide (x.2.2∉(#[]:Array Nat)))=ps:=List.filter_eq_self.2 fun x _=>by simp
 rw[this];exact h1
theorem IP7{ty:TypeId}(h:St W (itR ek ev r b l todo::L) w):
  (todo=[]/\(Instr.next (.P r) false ty).run P w=.ok (.tuple #[.bool false]) w) \/
  ∃x todo',todo.Perm (x::todo')/\x∈l/\∃w',(Instr.next (.P r) false ty).run P w=.ok (.tuple #[.bool true,ek x.1,ev x.2]) w'/\St W (eo4 ek ev r b l todo' x::L) w':=by
 obtain⟨⟨ps,c,since,c0,seen⟩,⟨h1,h2,h3,h4,h5⟩,hS⟩:=dS4 h
 rcases QA7 (P:=P) (ty:=ty) hS (fun x hx=>by obtain⟨y,hy,rfl⟩:=Lu7 hx;exact h2.old y hy) h3 with ⟨hall,hr⟩|⟨e,he,hne,w',hr,hS'⟩
 ·left
  refine⟨?_,hr⟩;have:ps.filter (fun x=>decide (x.2.2∉seen))=[]:=List.filter_eq_nil_iff.2 fun x hx=>by have:=hall _ (Lv7 (ek:=ek) (ev:=ev) hx);simpa using this
  simp only[this,List.map_nil]at h5;exact List.nil_perm.1 h5
 ·right
  obtain⟨x,hx,rfl⟩:=Lu7 he;have hp:=Kl7 h2.st hx hne;have hp2:todo.Perm (prj x::(ps.filter fun y=>decide (y.2.2∉seen.push x.2.2)).map prj):=h5.symm.trans (hp.map prj);refine⟨prj x,(ps.filter fun y=>decide (y.2.2∉seen.push x.2.2)).map prj,hp2,h1.mem_iff.1 (List.mem_map_of_mem hx),w',hr,?_⟩;exact hS'.join.imp fun _ hf=>⟨⟨ps,c,since,c,seen.push x.2.2⟩,⟨⟨h1,h2,h4,h4,List.Perm.refl _⟩,rfl,x.2.2,seen,rfl,hx⟩,hf⟩
theorem Hr7{x:κ×ν}(h:St W (eo4 ek ev r b l todo x::L) w):(Instr.entry (.P r)).run P w=.ok (.tuple #[ek x.1,ev x.2]) w:=by
 obtain⟨⟨ps,c,since,c0,seen⟩,h⟩:=St.ex (F:=fun(q:ItQ κ ν) f=>(ew4 l todo q.ps q.c q.since q.c0 q.seen/\q.c0=q.c/\∃(s:Nat) (seen':Array Nat),q.seen=seen'.push s/\(x.1,x.2,s)∈q.ps)/\sep (cg4 r b q.since q.seen q.c0) (dH4 ek ev b q.ps q.c) f) h;obtain⟨⟨⟨h1,h2,h3,h4,h5⟩,hc,s,seen',h6,h7⟩,h8⟩:=St.and h;simp only at hc h6;subst hc h6;have h9:=h8.split;have hst:bP4 ((ps.map (evs ev)).map (Q7 ek)):=by unfold bP4;rw[List.map_map,List.map_map];exact h2.st
 exact NP7 h9 (Lv7 (ek:=ek) (ev:=ev) h7) hst
end
section
variable{κ ν:Type}[DecidableEq κ]
variable{W w:World}{L:List HP}{ek:κ->Value}{ev:ν->Value}{b r:Nat}{l l' todo:List (κ×ν)}
variable{P:Program}{t K E:TypeId}
def ct4(l:List (κ×ν))(k:κ)(v:ν):List (κ×ν):=l.map fun x=>if x.1=k then(x.1,v)else x
def j9(l:List (κ×ν))(k:κ):List (κ×ν):=l.filter fun x=>decide (x.1≠k)
theorem QC7{ev:ν->Value}(ps:List (κ×ν×Nat))(k:κ)(v:ν):dv4 (ps.map (evs ev)) k (ev v)=(ps.map fun x=>if x.1=k then(x.1,v,x.2.2)else x).map (evs ev):=by
 unfold dv4;rw[List.map_map,List.map_map];refine List.map_congr_left fun x _=>?_
 show(if x.1=k then _ else _)=evs ev (if x.1=k then _ else _)
 by_cases h:x.1=k
 ·rw[if_pos h,if_pos h];rfl
 ·rw[if_neg h,if_neg h]
theorem QD7{ev:ν->Value}(ps:List (κ×ν×Nat))(k:κ):dG4 (ps.map (evs ev)) k=(ps.filter fun x=>decide (x.1≠k)).map (evs ev):=by unfold dG4;rw[List.filter_map];rfl
theorem Th7(ps:List (κ×ν×Nat))(k:κ)(v:ν):((ps.map fun x=>if x.1=k then(x.1,v,x.2.2)else x).map prj)=ct4 (ps.map prj) k v:=by
 unfold ct4;rw[List.map_map,List.map_map];refine List.map_congr_left fun x _=>?_
 show prj (if x.1=k then _ else _)=(if x.1=k then _ else _)
 by_cases h:x.1=k
 ·rw[if_pos h,if_pos h];rfl
 ·rw[if_neg h,if_neg h]
theorem Ti7(ps:List (κ×ν×Nat))(k:κ):((ps.filter fun x=>decide (x.1≠k)).map prj)=j9 (ps.map prj) k:=by unfold j9;rw[List.filter_map];rfl
theorem NV7{l l':List (κ×ν)}(h:l.Perm l')(k:κ)(v:ν):(ct4 l k v).Perm (ct4 l' k v):=h.map _
theorem Gk7{l l':List (κ×ν)}(h:l.Perm l')(k:κ):(j9 l k).Perm (j9 l' k):=h.filter _
theorem UJ7(ps:List (κ×ν×Nat))(k:κ)(v:ν):((ps.map fun x=>if x.1=k then(x.1,v,x.2.2)else x).map (·.2.2))=ps.map (·.2.2):=by
 rw[List.map_map];refine List.map_congr_left fun x _=>?_
 show(if x.1=k then _ else _:κ×ν×Nat).2.2=x.2.2
 by_cases h:x.1=k
 ·rw[if_pos h]
 ·rw[if_neg h]
theorem UK7(ps:List (κ×ν×Nat))(k:κ)(v:ν):((ps.map fun x=>if x.1=k then(x.1,v,x.2.2)else x).map (·.1))=ps.map (·.1):=by
 rw[List.map_map];refine List.map_congr_left fun x _=>?_
 show(if x.1=k then _ else _:κ×ν×Nat).1=x.1
 by_cases h:x.1=k
 ·rw[if_pos h]
 ·rw[if_neg h]
theorem Good.set{ps:List (κ×ν×Nat)}{c:Nat}(h:Good ps c)(k:κ)(v:ν):Good (ps.map fun x=>if x.1=k then(x.1,v,x.2.2)else x) c:=
 ⟨by rw[UJ7];exact h.st,fun x hx=>by
  obtain⟨y,hy,rfl⟩:=List.mem_map.1 hx;have:=h.old y hy;show(if y.1=k then _ else _:κ×ν×Nat).2.2<c
  by_cases e:y.1=k
  ·rw[if_pos e];exact this
  ·rw[if_neg e];exact this,by rw[UK7];exact h.ks⟩
theorem Good.del{ps:List (κ×ν×Nat)}{c:Nat}(h:Good ps c)(k:κ):Good (ps.filter fun x=>decide (x.1≠k)) c:=
 ⟨CX7 h.st,fun x hx=>h.old x (List.mem_filter.1 hx).1,CX7 h.ks⟩
theorem IQ7{x:κ×ν}{ok:Bool}(h:St W (d8 ek ev b l::L) w)(ht:I9 P t=some (K,E))(hK:KeyOk P K ek)(hx:x∈l):
  (Instr.lookup t (.map (some b)) (ek x.1) ok).run P w=.ok (if ok then .tuple #[ev x.2,.bool true]else ev x.2) w:=by
 obtain⟨ps,c,h1,h2,h3⟩:=ao4 h;obtain⟨s,hs⟩:=NT7 h1 hx;exact IN7 h3 ht hK (by rw[Ec7];exact h2.ks) (NS7 hs)
theorem IR7{k:κ}{z:Value}{ok:Bool}(h:St W (d8 ek ev b l::L) w)(ht:I9 P t=some (K,E))(hK:KeyOk P K ek)(hz:N8 P E=some z)(hk:∀x∈l,x.1≠k):
  (Instr.lookup t (.map (some b)) (ek k) ok).run P w=.ok (if ok then .tuple #[z,.bool false]else z) w:=by
 obtain⟨ps,c,h1,h2,h3⟩:=ao4 h;exact IM7 h3 ht hK hz (SE7 h1 hk)
theorem BN7{k:κ}(hk:∀x∈l,x.1≠k):j9 l k=l:=List.filter_eq_self.2 fun x hx=>by simpa using hk x hx
theorem Lw7{k:κ}{u v:ν}:∀{l:List (κ×ν)},(l.map (·.1)).Nodup->(k,u)∈l->(ct4 l k v).Perm ((k,v)::j9 l k)
 | y::l,hn,hm=>by
  rw[List.map_cons,List.nodup_cons]at hn;by_cases hk:y.1=k
  ·have h0:∀x∈l,x.1≠k:=fun x hx e=>hn.1 (List.mem_map.2 ⟨x,hx,e.trans hk.symm⟩)
   have h1:ct4 l k v=l:=by unfold ct4;refine(List.map_congr_left fun x hx=>?_).trans (List.map_id l);rw[if_neg (h0 x hx)];rfl
   have h2:j9 (y::l) k=l:=by have:=BN7 h0;unfold j9 at this ⊢;rw[List.filter_cons,if_neg (by simpa using hk),this]
   have h3:ct4 (y::l) k v=(k,v)::l:=by have:ct4 (y::l) k v=(if y.1=k then(y.1,v)else y)::ct4 l k v:=rfl;rw[this,h1,if_pos hk,hk]
   rw[h2,h3]
  ·have hm':(k,u)∈l:=by
    rcases List.mem_cons.1 hm with h|h
    ·exact absurd (by rw[<-h]) hk
    ·exact h
   have h2:j9 (y::l) k=y::j9 l k:=by unfold j9;rw[List.filter_cons,if_pos (by simpa using hk)]
   have h3:ct4 (y::l) k v=y::ct4 l k v:=by have:ct4 (y::l) k v=(if y.1=k then(y.1,v)else y)::ct4 l k v:=rfl;rw[this,if_neg hk]
   rw[h2,h3];exact((Lw7 hn.2 hm').cons y).trans (List.Perm.swap _ _ _)
theorem QE7{k:κ}{v:ν}(h:St W (d8 ek ev b l::L) w)(ht:I9 P t=some (K,E))(hK:KeyOk P K ek):
  ∃w',(Instr.mapUpdate t (.map (some b)) (ek k) (ev v)).run P w=.ok () w'/\St W (d8 ek ev b ((k,v)::j9 l k)::L) w':=by
 have hkl:=K8 h;obtain⟨ps,c,h1,h2,h3⟩:=ao4 h;by_cases hk:∃u,(k,u)∈l
 ·obtain⟨u,hu⟩:=hk;obtain⟨s,hs⟩:=NT7 h1 hu;obtain⟨w',hr,hS⟩:=Kk7 (v:=ev v) h3 ht hK (by rw[Ec7];exact h2.ks) (NS7 hs);rw[QC7]at hS;refine⟨w',hr,bw4 ?_ (h2.set k v) hS⟩;rw[Th7];exact(NV7 h1 k v).trans (Lw7 hkl hu)
 ·have hk':∀x∈l,x.1≠k:=fun x hx e=>hk ⟨x.2,by rw[<-e];exact hx⟩
  obtain⟨w',hr,hS⟩:=IO7 (v:=ev v) h3 ht hK (SE7 h1 hk');have e:ps.map (evs ev)++[(k,ev v,c)]=(ps++[(k,v,c)]).map (evs ev):=by rw[List.map_append];rfl
  rw[e]at hS;refine⟨w',hr,bw4 ?_ (h2.new fun x hx=>?_) hS⟩
  ·rw[BN7 hk',List.map_append];exact(List.perm_append_comm).trans (h1.cons (k,v))
  ·exact hk' (prj x) (h1.mem_iff.1 (List.mem_map_of_mem hx))
theorem QF7{k:κ}{k2 ty:TypeId}(h:St W (d8 ek ev b l::L) w)(ht:I9 P t=some (K,E))(hK:KeyOk P K ek):
  ∃w',(Builtin.delete_ #[t,k2] ty #[.map (some b),ek k]).run P w=.ok (.tuple #[]) w'/\St W (d8 ek ev b (j9 l k)::L) w':=by
 obtain⟨ps,c,h1,h2,h3⟩:=ao4 h;obtain⟨w',hr,hS⟩:=QB7 (k:=k) (k2:=k2) (ty:=ty) h3 ht hK (by rw[Ec7];exact h2.ks);rw[QD7]at hS;refine⟨w',hr,bw4 ?_ (h2.del k) hS⟩;rw[Ti7];exact Gk7 h1 k
end
end Go.Sl
end
section
namespace Go.Sl
open Go.RowKit
section
variable{κ ν:Type}
end
section
variable{κ ν:Type}[DecidableEq κ]{W w:World}{L:List HP}{ek:κ->Value}{ev:ν->Value}{b r:Nat}{l todo:List (κ×ν)}{P:Program}{t K E:TypeId}
end
section
variable{κ ν:Type}{W w:World}{L:List HP}{ek:κ->Value}{ev:ν->Value}{b r:Nat}{l todo:List (κ×ν)}{P:Program}{t K E:TypeId}
theorem QG7{ty:TypeId}(h:St W (d8 ek ev b l::L) w)(ht:I9 P t=some (K,E)):(Builtin.len_ #[t] ty #[.map (some b)]).run P w=.ok (.I l.length) w:=by
 obtain⟨ps,c,h1,h2,h3⟩:=ao4 h;have hl:ps.length=l.length:=by have:=h1.length_eq;rwa [jM]at this
 simp[Builtin.len_,run_underlying (P:=P) (Bx7 ht),Dc7 h3,goInt,hl]
end
section
variable{κ ν:Type}{W w:World}{L R:List HP}{ek:κ->Value}{ev:ν->Value}{b r:Nat}{l todo:List (κ×ν)}{P:Program}{t K E:TypeId}{ops:Array Oper}{Q:Exit->Act->World->Prop}{a:Act}{rest:List Oper}{o:Oper}
theorem Ed7(ek:κ->Value)(ev:ν->Value)(hS:St W L w)(ho:o.op=.makeMap t none)(hg:Region.wanted o (yielded ops a.tmps)=true)
  (h:∀b w',St W (d8 ek ev b []::L) w'->wpList P ops Q rest (a.put o.dst (.map (some b))) w'):wpList P ops Q (o::rest) a w:=by
 obtain⟨b,w',hr,hS'⟩:=NU7 (P:=P) (t:=t) (ek:=ek) (ev:=ev) hS;refine Aj7 hg (v:=.map (some b)) (w':=w') ?_ (h b w' hS');unfold execOp;simp[ho,hr]
theorem HR7{x:Operand}(hS:St W L w)(ho:o.op=.call { callee:=.builtin .len,args:=#[x],argTypes:=#[t] })(hg:Region.wanted o (yielded ops a.tmps)=true)
  (hx:a.eval x=.map (some b)) (ht:I9 P t=some (K,E)) (hu:Take L (d8 ek ev b l) R) (h:wpList P ops Q rest (a.put o.dst (.I l.length)) w):wpList P ops Q (o::rest) a w:=by
 refine Aj7 hg (v:=.I l.length) (w':=w) ?_ h;unfold execOp;simp[ho,resolve,invoke,builtin,hx,QG7 (hS.take hu) ht]
theorem NW7{x:Operand}(hS:St W L w)(ho:o.op=.range t x)(hg:Region.wanted o (yielded ops a.tmps)=true)(hx:a.eval x=.map (some b))(ht:I9 P t=some (K,E))(hu:Take L (d8 ek ev b l) R)
  (h:∀r w',St W (itR ek ev r b l l::R) w'->wpList P ops Q rest (a.put o.dst (.P r)) w'):wpList P ops Q (o::rest) a w:=by
 obtain⟨r,w',hr,hS'⟩:=Hq7 (P:=P) (hS.take hu) ht;refine Aj7 hg (v:=.P r) (w':=w') ?_ (h r w' hS');unfold execOp;simp[ho,hx,hr]
theorem Lx7{x:Operand}(hS:St W L w)(ho:o.op=.next x false)(hg:Region.wanted o (yielded ops a.tmps)=true)(hx:a.eval x=.P r)(hu:Take L (itR ek ev r b l todo) R)
  (h0:todo=[]->wpList P ops Q rest (a.put o.dst (.tuple #[.bool false])) w)
  (h1:∀y todo',todo.Perm (y::todo')->y∈l->∀w',St W (eo4 ek ev r b l todo' y::R) w'->wpList P ops Q rest (a.put o.dst (.tuple #[.bool true,ek y.1,ev y.2])) w'):wpList P ops Q (o::rest) a w:=by
 rcases IP7 (P:=P) (ty:=o.type) (hS.take hu)with ⟨h2,hr⟩|⟨y,todo',hp,hy,w',hr,hS'⟩
 ·refine Aj7 hg (v:=.tuple #[.bool false]) (w':=w) ?_ (h0 h2);unfold execOp;simp[ho,hx,hr]
 ·refine Aj7 hg (v:=.tuple #[.bool true,ek y.1,ev y.2]) (w':=w') ?_ (h1 y todo' hp hy w' hS');unfold execOp;simp[ho,hx,hr]
theorem NX7{x:Operand}{y:κ×ν}(hS:St W L w)(ho:o.op=.entry x)(hg:Region.wanted o (yielded ops a.tmps)=true)(hx:a.eval x=.P r)(hu:Take L (eo4 ek ev r b l todo y) R)
  (h:St W (itR ek ev r b l todo::R) w->wpList P ops Q rest (a.put o.dst (.tuple #[ek y.1,ev y.2])) w):wpList P ops Q (o::rest) a w:=by
 refine Aj7 hg (v:=.tuple #[ek y.1,ev y.2]) (w':=w) ?_ (h (fp4 (hS.take hu)));unfold execOp;simp[ho,hx,Hr7 (hS.take hu)]
theorem NY7{x:Operand}(hS:St W L w)(ho:o.op=.next x false)(hg:Region.wanted o (yielded ops a.tmps)=true)(hx:a.eval x=.P r)(hu:Take L (itR ek ev r b l todo) R)(ht:todo=[])
  (h0:wpList P ops Q rest (a.put o.dst (.tuple #[.bool false])) w):wpList P ops Q (o::rest) a w:=
 Lx7 hS ho hg hx hu (fun _=>h0) (fun y todo' hp _ _ _=>by rw[ht]at hp;exact absurd hp.length_eq (by simp))
theorem NZ7{x:Operand}(hS:St W L w)(ho:o.op=.next x false)(hg:Region.wanted o (yielded ops a.tmps)=true)(hx:a.eval x=.P r)(hu:Take L (itR ek ev r b l todo) R)(ht:todo≠[])
  (h1:∀y todo',todo.Perm (y::todo')->y∈l->∀w',St W (eo4 ek ev r b l todo' y::R) w'->wpList P ops Q rest (a.put o.dst (.tuple #[.bool true,ek y.1,ev y.2])) w'):wpList P ops Q (o::rest) a w:=
 Lx7 hS ho hg hx hu (fun h=>absurd h ht) h1
def cH4(r b:Nat)(w:World):Nat:=match w.heap[r]?,w.heap[b]? with
 | some (.mapIter _ _ seen _),some (.map es _)=>(es.toList.filter fun e=>decide (e.born∉seen)).length
 | _,_=>0
theorem BF7(h:St W (itR ek ev r b l todo::L) w):cH4 r b w=todo.length:=by
 obtain⟨⟨ps,c,since,c0,seen⟩,⟨h1,h2,h3,h4,h5⟩,hS⟩:=dS4 h;have e1:=hS.get (b:=r) .head;have e2:=hS.get (b:=b) (.tail .head);unfold cH4;rw[e1,e2]
 have e3:(((ps.map (evs ev)).map (Q7 ek)).toArray.toList.filter fun e=>decide (e.born∉seen)).length=(ps.filter fun x=>decide (x.2.2∉seen)).length:=by
  show(((ps.map (evs ev)).map (Q7 ek)).filter _).length=_
  rw[List.map_map,List.filter_map,jM];rfl
 have e4:=h5.length_eq;rw[jM]at e4;exact e3.trans e4
variable[DecidableEq κ]
def ap4(ok:Bool)(z:Value):Option Value->Value
 | some v=>if ok then .tuple #[v,.bool true]else v
 | none=>if ok then .tuple #[z,.bool false]else z
def m7(l:List (κ×ν))(k:κ):Option ν:=(l.find? fun x=>decide (x.1=k)).map (·.2)
theorem BY7{k:κ}(h:m7 l k=none):∀x∈l,x.1≠k:=by unfold m7 at h;rw[Option.map_eq_none_iff,List.find?_eq_none]at h;intro x hx;simpa using h x hx
theorem AI7{k:κ}{v:ν}(h:m7 l k=some v):(k,v)∈l:=by unfold m7 at h;obtain⟨x,hx,rfl⟩:=Option.map_eq_some_iff.1 h;have h1:=List.find?_some hx;have h2:=List.mem_of_find?_eq_some hx;simp only[decide_eq_true_eq]at h1;rw[<-h1];exact h2
theorem HS7{k:κ}(h:∀x∈l,x.1≠k):m7 l k=none:=by unfold m7;rw[Option.map_eq_none_iff,List.find?_eq_none];intro x hx;simpa using h x hx
theorem Br7{k:κ}{v:ν}(hn:(l.map (·.1)).Nodup)(h:(k,v)∈l):m7 l k=some v:=by
 induction l with
 | nil=>cases h
 | cons x l ih=>
  rw[List.map_cons,List.nodup_cons]at hn;unfold m7 at ih ⊢
  rcases List.mem_cons.1 h with h1|h1
  ·subst h1;simp
  ·have hx:x.1≠k:=fun e=>hn.1 (List.mem_map.2 ⟨_,h1,e.symm⟩)
   rw[List.find?_cons_of_neg (by simpa using hx)];exact ih hn.2 h1
theorem AJ7{l l':List (κ×ν)}(hn:(l.map (·.1)).Nodup)(hp:l.Perm l')(k:κ):m7 l k=m7 l' k:=by
 cases h:m7 l k with
 | some v=>exact(Br7 ((hp.map (·.1)).nodup_iff.1 hn) (hp.mem_iff.1 (AI7 h))).symm
 | none=>exact(HS7 fun x hx=>BY7 h x (hp.mem_iff.2 hx)).symm
theorem Ee7{k:κ}{z:Value}{ok:Bool}(h:St W (d8 ek ev b l::L) w)(ht:I9 P t=some (K,E))(hK:KeyOk P K ek)(hz:N8 P E=some z):
  (Instr.lookup t (.map (some b)) (ek k) ok).run P w=.ok (ap4 ok z ((m7 l k).map ev)) w:=by
 cases hg:m7 l k with
 | some v=>exact IQ7 (x:=(k,v)) h ht hK (AI7 hg)
 | none=>exact IR7 h ht hK hz (BY7 hg)
theorem HT7{x y:Operand}{k:κ}{z:Value}{ok:Bool}(hS:St W L w)(ho:o.op=.lookup t x y ok)(hg:Region.wanted o (yielded ops a.tmps)=true)(hx:a.eval x=.map (some b))(hy:a.eval y=ek k)(hu:Take L (d8 ek ev b l) R)
  (ht:I9 P t=some (K,E)) (hK:KeyOk P K ek) (hz:N8 P E=some z) (h:wpList P ops Q rest (a.put o.dst (ap4 ok z ((m7 l k).map ev))) w):wpList P ops Q (o::rest) a w:=by
 refine Aj7 hg (w':=w) ?_ h;unfold execOp;simp[ho,hx,hy,Ee7 (hS.take hu) ht hK hz]
theorem CE7{x y:Operand}{k:κ}{u:ν}{z:Value}(hS:St W L w)(ho:o.op=.lookup t x y false)(hg:Region.wanted o (yielded ops a.tmps)=true)(hx:a.eval x=.map (some b))(hy:a.eval y=ek k)(hu:Take L (d8 ek ev b l) R)
  (ht:I9 P t=some (K,E)) (hK:KeyOk P K ek) (hz:N8 P E=some z) (hgl:m7 l k=some u) (h:wpList P ops Q rest (a.put o.dst (ev u)) w):wpList P ops Q (o::rest) a w:=
 HT7 hS ho hg hx hy hu ht hK hz (by rw[hgl];exact h)
theorem Gl7{x y:Operand}{k:κ}{z:Value}(hS:St W L w)(ho:o.op=.lookup t x y false)(hg:Region.wanted o (yielded ops a.tmps)=true)(hx:a.eval x=.map (some b))(hy:a.eval y=ek k)(hu:Take L (d8 ek ev b l) R)
  (ht:I9 P t=some (K,E)) (hK:KeyOk P K ek) (hz:N8 P E=some z) (hgl:m7 l k=none) (h:wpList P ops Q rest (a.put o.dst z) w):wpList P ops Q (o::rest) a w:=
 HT7 hS ho hg hx hy hu ht hK hz (by rw[hgl];exact h)
theorem Bs7{x y v:Operand}{k:κ}{u:ν}(hS:St W L w)(ho:o.op=.mapUpdate t x y v)(hg:Region.wanted o (yielded ops a.tmps)=true)(hx:a.eval x=.map (some b))(hy:a.eval y=ek k)(hu:Take L (d8 ek ev b l) R)(hv:a.eval v=ev u)
  (ht:I9 P t=some (K,E)) (hK:KeyOk P K ek) (h:∀w',St W (d8 ek ev b ((k,u)::j9 l k)::R) w'->wpList P ops Q rest (a.put o.dst undef) w'):wpList P ops Q (o::rest) a w:=by
 obtain⟨w',hr,hS'⟩:=QE7 (P:=P) (k:=k) (v:=u) (hS.take hu) ht hK;refine Cy7 hg (w':=w') ?_ (h w' hS');unfold execOp;simp[ho,hx,hy,hv,hr]
theorem Km7{x y:Operand}{k:κ}{k2:TypeId}(hS:St W L w)(ho:o.op=.call { callee:=.builtin .delete,args:=#[x,y],argTypes:=#[t,k2] })(hg:Region.wanted o (yielded ops a.tmps)=true)(hx:a.eval x=.map (some b))(hy:a.eval y=ek k)(hu:Take L (d8 ek ev b l) R)
  (ht:I9 P t=some (K,E)) (hK:KeyOk P K ek) (h:∀w',St W (d8 ek ev b (j9 l k)::R) w'->wpList P ops Q rest (a.put o.dst (.tuple #[])) w'):wpList P ops Q (o::rest) a w:=by
 obtain⟨w',hr,hS'⟩:=QF7 (P:=P) (k:=k) (k2:=k2) (ty:=o.type) (hS.take hu) ht hK;refine Aj7 hg (v:=.tuple #[]) (w':=w') ?_ (h w' hS');unfold execOp;simp[ho,resolve,invoke,builtin,hx,hy,hr]
end
end Go.Sl
end
section
namespace Go.Sl
open Go.RowKit
section
variable{κ ν:Type}[DecidableEq κ]{P:Program}{t K E:TypeId}{ek:κ->Value}{ev:ν->Value}{W w:World}{L R:List HP}{b:Nat}{l:List (κ×ν)}{ops:Array Oper}{a:Act}{rest:List Oper}{o:Oper}
theorem Oa7{k:κ}{z:Value}{d u:ν}(hd:z=ev d)(hu:(m7 l k).getD d=u):ap4 false z ((m7 l k).map ev)=ev u:=by
 subst hu hd
 cases m7 l k <;> rfl
theorem IS7{Q:Exit->Act->World->Prop}{x y:Operand}{k:κ}{z:Value}(d u:ν)(hS:St W L w)(ho:o.op=.lookup t x y false)(hg:Region.wanted o (yielded ops a.tmps)=true)(hx:a.eval x=.map (some b))(hy:a.eval y=ek k)(hu:Take L (d8 ek ev b l) R)
  (ht:I9 P t=some (K,E)) (hK:KeyOk P K ek) (hz:N8 P E=some z) (hd:z=ev d) (hv:(m7 l k).getD d=u) (h:wpList P ops Q rest (a.put o.dst (ev u)) w):wpList P ops Q (o::rest) a w:=
 HT7 hS ho hg hx hy hu ht hK hz (by rw[Oa7 hd hv];exact h)
theorem AZ7{tb:List Nat}{toks:List Tok}{fresh:Nat->Bool}{pin:Nat->Option Value}{Qf:Act->Prop}{nd:Nat->Value}{i:Nat}{x y:Operand}{k:κ}{z:Value}(d u:ν)(hf:fresh i=false)(hn:ay4 toks i=true)(ho:o.op=.lookup t x y false)(hg:Region.wanted o (yielded ops a.tmps)=true)(hx:a.eval x=.map (some b))(hy:a.eval y=ek k)
  (hu:∀F, ∃R,Take (kpL toks tb i nd++F) (d8 ek ev b l) R) (ht:I9 P t=some (K,E)) (hK:KeyOk P K ek) (hz:N8 P E=some z) (hd:z=ev d) (hv:(m7 l k).getD d=u)
  (h:t8 P W ops tb toks fresh pin Qf nd (i+1) rest (a.put o.dst (ev u))):t8 P W ops tb toks fresh pin Qf nd i (o::rest) a:=
 Ft7 hf hn hg (fun F w hS=>by obtain⟨R,hu⟩:=hu F;unfold execOp;simp[ho,hx,hy,Ee7 (hS.take hu) ht hK hz,Oa7 hd hv]) h
end
end Go.Sl
namespace Go.Sl
open Go.RowKit
section
variable{P:Program}{w:World}{ops:Array Oper}{Q:Exit->Act->World->Prop}{a:Act}{rest:List Oper}{o:Oper}
theorem Co7{t t2:TypeId}{x y:Operand}{xs ys:Array Value}{r:Bool}(ho:o.op=.binOp .eql t x y t2)(hg:Region.wanted o (yielded ops a.tmps)=true)(hx:a.eval x=.agg xs)(hy:a.eval y=.agg ys)(hm:P.eqGuardType P.depth t=false)(hr:∀w:World,(Op.equalIn 10000 t (.agg xs) (.agg ys)).run P w=.ok r w)
  (h:wpList P ops Q rest (a.put o.dst (.bool r)) w):wpList P ops Q (o::rest) a w:=by
 refine Aj7 hg (v:=.bool r) (w':=w) ?_ h;unfold execOp;simp[ho,hx,hy,run_eqGuard_agg w .eql t x y xs ys hm,run_eql_struct,hr]
theorem Hs7{t t2:TypeId}{x y:Operand}{xs ys:Array Value}{r:Bool}(ho:o.op=.binOp .neq t x y t2)(hg:Region.wanted o (yielded ops a.tmps)=true)(hx:a.eval x=.agg xs)(hy:a.eval y=.agg ys)(hm:P.eqGuardType P.depth t=false)(hr:∀w:World,(Op.equalIn 10000 t (.agg xs) (.agg ys)).run P w=.ok r w)
  (h:wpList P ops Q rest (a.put o.dst (.bool (!r))) w):wpList P ops Q (o::rest) a w:=by
 refine Aj7 hg (v:=.bool (!r)) (w':=w) ?_ h;unfold execOp;simp[ho,hx,hy,run_eqGuard_agg w .neq t x y xs ys hm,run_neq_struct,hr]
end
end Go.Sl
namespace Go.Proofs.YtlmhakmoioogaaaGreat
open Go.RowKit Go.Sl
theorem eqI(x0 x1 x2 x3 y0 y1 y2 y3:Int)(w:World):(Op.equalIn 10000 29 (.agg #[.I x0,.I x1,.I x2,.I x3]) (.agg #[.I y0,.I y1,.I y2,.I y3])).run Tryz.prog w=.ok (x0==y0&&(x1==y1&&(x2==y2&&x3==y3))) w:=by
 have u3:=Tryz.underlying3;have a3:=Tryz.isAgg3;have z3:=Tryz.sizeOf3;rw[show(10000:Nat)=9999+1 from rfl,Op.equalIn];simp only[Sem.run_bind,run_underlying Tryz.underlying29,Result.andThen_ok];simp only[Std.Legacy.Range.forIn_eq_forIn_range',Std.Legacy.Range.size,Nat.sub_zero,Nat.add_sub_cancel,Nat.div_one,List.range'_succ,List.range'_zero,List.forIn_cons,List.forIn_nil]
 go_simp
 by_cases h1:x0=y0 <;> by_cases h2:x1=y1 <;> by_cases h3:x2=y2 <;> by_cases h4:x3=y3 <;> simp[h1,h2,h3,h4]
abbrev eS(k:ByteArray):Value:=.string k
abbrev eP(i:It):Value:=.agg i.cells.toArray
theorem kS:KeyOk Tryz.prog 9 eS:=KeyOk.str Tryz.underlying9
theorem mP:I9 Tryz.prog 173=some (9,29):=by kernel_rfl
theorem zP:N8 Tryz.prog 29=some (.agg #[.I 0,.I 0,.I 0,.I 0]):=by kernel_rfl
abbrev Ps:=List (ByteArray×It)
def m5(p:Ps)(k:ByteArray):It:=(m7 p k).getD it0
def isZ(i:It):Bool:=decide (i.x0=0)&&(decide (i.x1=0)&&(decide (i.x2=0)&&decide (i.x3=0)))
def K7(p:Ps)(k:ByteArray)(i:It):Ps:=if isZ i=true then j9 p k else(k,i)::j9 p k
section
variable(vb mb:Nat)(p:Ps)(k:ByteArray)(u1 u2:Value)(W w:World)(R:List HP)
theorem QH7(hS:St W (blk vb [.map (some mb),u1,u2] 176::d8 eS eP mb p::R) w):
  Calls Tryz.prog 47 #[.P vb,.string k] w fun e w'=>e=.returned (eP (m5 p k))/\St W (blk vb [.map (some mb),u1,u2] 176::d8 eS eP mb p::R) w':=by
 obtain⟨x,hx⟩:∃x,m5 p k=x:=⟨_,rfl⟩
 rw[hx];obtain⟨x0,x1,x2,x3⟩:=x;have Hx:=jH hx;clear hx;go_enter Tryz.func47,Tryz.ntmps47;go_wp2_with(first|(with_reducible apply IS7 (ek:=eS) (ev:=eP) (k:=k) it0 ⟨x0,x1,x2,x3⟩ hS);rfl;rfl;rfl;rfl;exact j5;exact mP;exact kS;exact zP;rfl;exact Hx.out;simp only[Act.put,fA,fB,fC,Nat.reduceAdd,eP,It.cells]|refine zl1 hS ?_|refine zsN hS ?_;clear hS;intro w hS|refine zal hS ?_;clear hS;intro b w hS);apply Au7;rfl;rfl;rfl;exact hS;decide +kernel;(exact x9);kernel_rfl;exact⟨rfl,hS.drop⟩
theorem Bc7(i:It)(hS:St W (blk vb [.map (some mb),u1,u2] 176::d8 eS eP mb p::R) w):
  Calls Tryz.prog 164 #[.P vb,.string k,.agg i.cells.toArray] w fun e w'=>e=.returned (.tuple #[])/\St W (blk vb [.map (some mb),u1,u2] 176::d8 eS eP mb (K7 p k i)::R) w':=by
 obtain⟨x0,x1,x2,x3⟩:=i;unfold K7
 cases hz:isZ ⟨x0,x1,x2,x3⟩with
 | true=>
  rw[if_pos rfl];simp only[isZ,jB,decide_eq_true_eq]at hz;obtain⟨rfl,rfl,rfl,rfl⟩:=hz;have h4:(((0:Int)==0)&&(((0:Int)==0)&&(((0:Int)==0)&&((0:Int)==0))))=true:=rfl;simp only[It.cells];go_enter Tryz.func164,Tryz.ntmps164;go_wp2_with(first|(with_reducible apply Co7);rfl;rfl;rfl;rfl;kernel_rfl;exact eqI _ _ _ _ _ _ _ _;rw[h4];simp only[Act.put,fA,fB,fC,Nat.reduceAdd,eP,It.cells]|((with_reducible apply Km7 (ek:=eS) (ev:=eP) (k:=k) hS);rfl;rfl;rfl;rfl;exact j5;exact mP;exact kS;clear hS;intro w hS;try(simp only[Act.put,fA,fB,fC,Nat.reduceAdd,eP,It.cells]))|refine zl1 hS ?_|refine zlN hS ?_|refine zbx hS ?_;clear hS;intro b w hS);refine bodyPost_ret (results_none rfl _ _ _) rfl ?_;exact⟨rfl,hS.s _⟩
 | false=>
  rw[if_neg (by simp)];have h4:(x0==0&&(x1==0&&(x2==0&&x3==0)))=false:=hz;clear hz;simp only[It.cells];go_enter Tryz.func164,Tryz.ntmps164;go_wp2_with(first|(with_reducible apply Co7);rfl;rfl;rfl;rfl;kernel_rfl;exact eqI _ _ _ _ _ _ _ _;rw[h4];simp only[Act.put,fA,fB,fC,Nat.reduceAdd,eP,It.cells]|refine zlN hS ?_|refine zbx hS ?_;clear hS;intro b w hS);refine rt 6 hS ?_
  repeat(first|refine zq1 ?_|refine zqN ?_|refine zqn ?_|refine qR ?_)
  clear hS;intro w hS;simp only[jD,List.drop_zero];go_wp2_with(first|((with_reducible apply Bs7 (ek:=eS) (ev:=eP) (k:=k) (u:=⟨x0,x1,x2,x3⟩) hS);rfl;rfl;rfl;rfl;exact j5;(focus(rfl));exact mP;exact kS;clear hS;intro w hS;try(simp only[Act.put,fA,fB,fC,Nat.reduceAdd,eP,It.cells])));go_end0;exact⟨rfl,hS.s _⟩
end
def C8(k:ByteArray):Bool:=decide (1<=k.size)&&decide (k.size<=16)
theorem BQ7(k:ByteArray)(W w:World)(R:List HP)(hS:St W R w):
  Calls Tryz.prog 163 #[.string k] w fun e w'=>e=.returned (.bool (C8 k))/\St W R w':=by
 go_enter Tryz.func163,Tryz.ntmps163;by_cases h1:k.size<1
 ·have e:C8 k=false:=by unfold C8;simp;omega
  have d1:decide ((1:Int)<=(k.size:Int))=false:=by simp;omega
  rw[e];go_wp2_with(fail);go_ret;exact⟨rfl,hS⟩
 ·have d1:(1:Int)<=(k.size:Int):=by omega
  by_cases h2:k.size<=16
  ·have e:C8 k=true:=by unfold C8;simp;omega
   have d2:(k.size:Int)<=16:=by omega
   rw[e];go_wp2_with(fail);go_ret;exact⟨rfl,hS⟩
  ·have e:C8 k=false:=by unfold C8;simp;omega
   have d2:decide ((k.size:Int)<=16)=false:=by simp;omega
   rw[e];go_wp2_with(fail);go_ret;exact⟨rfl,hS⟩
theorem HU7{l:List It}{s0 s1 s2 s3:Int}(h:G5 l it0=some ⟨s0,s1,s2,s3⟩)(v:Value)(W w:World)(R:List HP)(hS:St W (row v 4 29 l.length (l.flatMap It.cells)::R) w):
  Calls Tryz.prog 58 #[v] w fun e w'=>e=.returned (.tuple #[.agg #[.I s0,.I s1,.I s2,.I s3],.bool true])/\St W R w':=
 (SD7 l v W w R hS).mono fun e w' ⟨he,hS⟩=>⟨by rw[he,bK4,h];rfl,hS.drop⟩
theorem QI7{l:List It}(h:G5 l it0=none)(v:Value)(W w:World)(R:List HP)(hS:St W (row v 4 29 l.length (l.flatMap It.cells)::R) w):
  Calls Tryz.prog 58 #[v] w fun e w'=>e=.returned (.tuple #[.agg #[.I 0,.I 0,.I 0,.I 0],.bool false])/\St W R w':=
 (SD7 l v W w R hS).mono fun e w' ⟨he,hS⟩=>⟨by rw[he,bK4,h];rfl,hS.drop⟩
theorem Tj7{x0 x1 x2 x3 y0 y1 y2 y3:Int}(h:O8 ⟨x0,x1,x2,x3⟩ ⟨y0,y1,y2,y3⟩=true)(W w:World)(R:List HP)(hS:St W R w):
  Calls Tryz.prog 166 #[.agg #[.I x0,.I x1,.I x2,.I x3],.agg #[.I y0,.I y1,.I y2,.I y3]] w fun e w'=>e=.returned (.tuple #[.agg #[.I (x0-y0),.I (x1-y1),.I (x2-y2),.I (x3-y3)],.bool true])/\St W R w':=
 (SC7 ⟨x0,x1,x2,x3⟩ ⟨y0,y1,y2,y3⟩ W w R hS).mono fun e w' ⟨he,hS⟩=>⟨by rw[he,cs4,h];rfl,hS⟩
theorem UL7{x0 x1 x2 x3 y0 y1 y2 y3:Int}(h:O8 ⟨x0,x1,x2,x3⟩ ⟨y0,y1,y2,y3⟩=false)(W w:World)(R:List HP)(hS:St W R w):
  Calls Tryz.prog 166 #[.agg #[.I x0,.I x1,.I x2,.I x3],.agg #[.I y0,.I y1,.I y2,.I y3]] w fun e w'=>e=.returned (.tuple #[.agg #[.I 0,.I 0,.I 0,.I 0],.bool false])/\St W R w':=
 (SC7 ⟨x0,x1,x2,x3⟩ ⟨y0,y1,y2,y3⟩ W w R hS).mono fun e w' ⟨he,hS⟩=>⟨by rw[he,cs4,h];rfl,hS⟩
def Q5(p:Ps)(k:ByteArray)(i:It):Int:=if C8 k=true/\x8 i=true then(if(G5 [m5 p k,i] it0).isSome=true then 0 else 6)else 1
def M5(p:Ps)(k:ByteArray)(i:It):Ps:=if C8 k=true/\x8 i=true then(match G5 [m5 p k,i] it0 with|some s=>K7 p k s|none=>p)else p
def A5(p:Ps)(k:ByteArray)(i:It):Int:=if C8 k=true/\x8 i=true then(if O8 (m5 p k) i=true then 0 else 14)else 1
def A8(p:Ps)(k:ByteArray)(i:It):Ps:=if C8 k=true/\x8 i=true then(if O8 (m5 p k) i=true then K7 p k (bH4 (m5 p k) i)else p)else p
section
variable(vb mb:Nat)(p:Ps)(k:ByteArray)(u1 u2:Value)(i:It)(W w:World)(R:List HP)
abbrev tB3b:List Nat:=[0,1,3,7,0,31,0,127,255,511,1023,1023,0,6143,16383]
theorem QJ7(hS:St W (blk vb [.map (some mb),u1,u2] 176::d8 eS eP mb p::R) w):
  Calls Tryz.prog 102 #[.P vb,.string k,.agg i.cells.toArray] w fun e w'=>e=.returned (.I (Q5 p k i))/\St W (blk vb [.map (some mb),u1,u2] 176::d8 eS eP mb (M5 p k i)::R) w':=by
 obtain⟨x0,x1,x2,x3⟩:=i
 cases hk:C8 k with
 | false=>
  have e1:Q5 p k ⟨x0,x1,x2,x3⟩=1:=by simp[Q5,hk]
  have e2:M5 p k ⟨x0,x1,x2,x3⟩=p:=by simp[M5,hk]
  rw[e1,e2];clear e1 e2;simp only[It.cells];go_enter Tryz.func102,Tryz.ntmps102;go_wp2_with(first|go_big_skip|go_at_call 163;refine(BQ7 k W _ _ hS).mono ?_;clear hS;rw[hk];rintro e w ⟨rfl,hS⟩|refine zbx hS ?_;clear hS;intro b w hS);go_ret;exact⟨rfl,hS.drop⟩
 | true=>
  cases hi:x8 ⟨x0,x1,x2,x3⟩with
  | false=>
   have e1:Q5 p k ⟨x0,x1,x2,x3⟩=1:=by simp[Q5,hk,hi]
   have e2:M5 p k ⟨x0,x1,x2,x3⟩=p:=by simp[M5,hk,hi]
   rw[e1,e2];clear e1 e2;simp only[It.cells];go_enter Tryz.func102,Tryz.ntmps102;go_wp2_with(first|go_at_call 163;refine(BQ7 k W _ _ hS).mono ?_;clear hS;rw[hk];rintro e w ⟨rfl,hS⟩|go_at_call 126;refine(bb4 _ _ _ _ W _ _ hS).mono ?_;clear hS;rw[hi];rintro e w ⟨rfl,hS⟩|refine zlN hS ?_|refine zbx hS ?_;clear hS;intro b w hS);go_ret;exact⟨rfl,hS.drop⟩
  | true=>
   obtain⟨px,hx⟩:∃x,m5 p k=x:=⟨_,rfl⟩
   obtain⟨p0,p1,p2,p3⟩:=px
   cases ha:G5 [⟨p0,p1,p2,p3⟩,⟨x0,x1,x2,x3⟩] it0 with
   | none=>
    have e1:Q5 p k ⟨x0,x1,x2,x3⟩=6:=by simp[Q5,hk,hi,hx,ha]
    have e2:M5 p k ⟨x0,x1,x2,x3⟩=p:=by simp[M5,hk,hi,hx,ha]
    rw[e1,e2];have Hx:=jH hx;have Ha:=jH ha;clear ha hx e1 e2;simp only[It.cells];go_enter Tryz.func102,Tryz.ntmps102;go_wp2_with(first|go_at_call 163;refine(BQ7 k W _ _ hS).mono ?_;clear hS;rw[hk];rintro e w ⟨rfl,hS⟩|go_at_call 126;refine(bb4 _ _ _ _ W _ _ hS).mono ?_;clear hS;rw[hi];rintro e w ⟨rfl,hS⟩|refine zlN hS ?_|refine zbx hS ?_;clear hS;intro b w hS);refine rf3 tB3b (fun i=>i==7||i==12) (fun i=>if i==8 then some (.tuple #[.agg #[.I 0,.I 0,.I 0,.I 0],.bool false])else none) [⟨some 7,some 8,fun nd=>row (nd 7) 4 29 2 ([(⟨p0,p1,p2,p3⟩:It),⟨x0,x1,x2,x3⟩].flatMap It.cells)⟩,⟨some 12,some 13,fun nd=>k8 (nd 12) [.I 0,.I 0,.I 0,.I 0] 29⟩,⟨some 13,none,fun nd=>k8 (nd 12) [.I 0,.I 0,.I 0,.I 0] 29⟩] [none,none,none] hS ?_;intro nd
    repeat(first|refine zc1 ?_|refine zcN ?_|refine zcn ?_|apply AZ7 (ek:=eS) (ev:=eP) (k:=k) it0 ⟨p0,p1,p2,p3⟩;rfl;kernel_rfl;rfl;rfl;rfl;rfl;intro F;exact⟨_,by exact D5⟩;exact mP;exact kS;exact zP;rfl;exact Hx.out;simp only[Act.put,fA,fB,fC,Nat.reduceAdd,eP,It.cells]|refine cR ?_)
    (apply BO7;rfl;rfl;rfl;(focus(simp only[fD,fI,fJ,Act.eval,fE,fF,fG,fH,fK];try rfl));exact esS;exact rsS;rfl;rfl;rfl;rfl;rfl;decide;intro _;rfl;rfl;intro _;rfl;refine frS ?_);refine zcv ?_ (hs:=by(intro F w hS;(try clear hS0);exact QI7 Ha.out _ W w _ hS))
    iterate 3 (refine cR ?_)
    (refine zca ?_);refine zct ?_;refine cR ?_;refine Ad7 ?_;clear hS;intro w hS;have hS2:St W [k8 (nd 12) _ _,blk b _ _,blk vb _ _,d8 eS eP mb p,sats R] w:=hS;clear hS;have hS:=hS2.unpack [_,_,_,_];clear hS2;simp only[jK,jN]at hS;generalize nd 12=v12 at *;have h1:=hS.ptr;clear hS;obtain⟨b2,rfl,hS⟩:=h1;go_wp2_with(fail);go_ret;exact⟨rfl,hS.s _⟩
   | some s=>
    obtain⟨s0,s1,s2,s3⟩:=s;have e1:Q5 p k ⟨x0,x1,x2,x3⟩=0:=by simp[Q5,hk,hi,hx,ha]
    have e2:M5 p k ⟨x0,x1,x2,x3⟩=K7 p k ⟨s0,s1,s2,s3⟩:=by simp[M5,hk,hi,hx,ha,bH4]
    rw[e1,e2];have Hx:=jH hx;have Ha:=jH ha;clear ha hx e1 e2;simp only[It.cells];go_enter Tryz.func102,Tryz.ntmps102;go_wp2_with(first|go_at_call 163;refine(BQ7 k W _ _ hS).mono ?_;clear hS;rw[hk];rintro e w ⟨rfl,hS⟩|go_at_call 126;refine(bb4 _ _ _ _ W _ _ hS).mono ?_;clear hS;rw[hi];rintro e w ⟨rfl,hS⟩|refine zlN hS ?_|refine zbx hS ?_;clear hS;intro b w hS);refine rf3 tB3b (fun i=>i==7||i==12) (fun i=>if i==8 then some (.tuple #[.agg #[.I s0,.I s1,.I s2,.I s3],.bool true])else none) [⟨some 7,some 8,fun nd=>row (nd 7) 4 29 2 ([(⟨p0,p1,p2,p3⟩:It),⟨x0,x1,x2,x3⟩].flatMap It.cells)⟩,⟨some 12,some 13,fun nd=>k8 (nd 12) [.I 0,.I 0,.I 0,.I 0] 29⟩,⟨some 13,none,fun nd=>k8 (nd 12) [.I s0,.I s1,.I s2,.I s3] 29⟩] [none,none,none] hS ?_;intro nd
    repeat(first|refine zc1 ?_|refine zcN ?_|refine zcn ?_|apply AZ7 (ek:=eS) (ev:=eP) (k:=k) it0 ⟨p0,p1,p2,p3⟩;rfl;kernel_rfl;rfl;rfl;rfl;rfl;intro F;exact⟨_,by exact D5⟩;exact mP;exact kS;exact zP;rfl;exact Hx.out;simp only[Act.put,fA,fB,fC,Nat.reduceAdd,eP,It.cells]|refine cR ?_)
    (apply BO7;rfl;rfl;rfl;(focus(simp only[fD,fI,fJ,Act.eval,fE,fF,fG,fH,fK];try rfl));exact esS;exact rsS;rfl;rfl;rfl;rfl;rfl;decide;intro _;rfl;rfl;intro _;rfl;refine frS ?_);refine zcv ?_ (hs:=by(intro F w hS;(try clear hS0);exact HU7 Ha.out _ W w _ hS))
    iterate 3 (refine cR ?_)
    (refine zca ?_);refine zct ?_;refine cR ?_;refine Ad7 ?_;clear hS;intro w hS;have hS2:St W [k8 (nd 12) _ _,blk b _ _,blk vb _ _,d8 eS eP mb p,sats R] w:=hS;clear hS;have hS:=hS2.unpack [_,_,_,_];clear hS2;simp only[jK,jN]at hS;generalize nd 12=v12 at *;have h1:=hS.ptr;clear hS;obtain⟨b2,rfl,hS⟩:=h1;go_wp2_with(first|go_at_call 164;refine(Bc7 vb mb p k u1 u2 W _ R ⟨s0,s1,s2,s3⟩ (hS.s _)).mono ?_;clear hS;rintro e w ⟨rfl,hS⟩|refine zlN hS ?_);go_ret;exact⟨rfl,hS⟩
abbrev tB3c:List Nat:=[0,1,3,7,0,31,0,127,255,511,511,0,3071,8191]
theorem Gm7(hS:St W (blk vb [.map (some mb),u1,u2] 176::d8 eS eP mb p::R) w):
  Calls Tryz.prog 104 #[.P vb,.string k,.agg i.cells.toArray] w fun e w'=>e=.returned (.I (A5 p k i))/\St W (blk vb [.map (some mb),u1,u2] 176::d8 eS eP mb (A8 p k i)::R) w':=by
 obtain⟨x0,x1,x2,x3⟩:=i
 cases hk:C8 k with
 | false=>
  have e1:A5 p k ⟨x0,x1,x2,x3⟩=1:=by simp[A5,hk]
  have e2:A8 p k ⟨x0,x1,x2,x3⟩=p:=by simp[A8,hk]
  rw[e1,e2];clear e1 e2;simp only[It.cells];go_enter Tryz.func104,Tryz.ntmps104;go_wp2_with(first|go_big_skip|go_at_call 163;refine(BQ7 k W _ _ hS).mono ?_;clear hS;rw[hk];rintro e w ⟨rfl,hS⟩|refine zbx hS ?_;clear hS;intro b w hS);go_ret;exact⟨rfl,hS.drop⟩
 | true=>
  cases hi:x8 ⟨x0,x1,x2,x3⟩with
  | false=>
   have e1:A5 p k ⟨x0,x1,x2,x3⟩=1:=by simp[A5,hk,hi]
   have e2:A8 p k ⟨x0,x1,x2,x3⟩=p:=by simp[A8,hk,hi]
   rw[e1,e2];clear e1 e2;simp only[It.cells];go_enter Tryz.func104,Tryz.ntmps104;go_wp2_with(first|go_at_call 163;refine(BQ7 k W _ _ hS).mono ?_;clear hS;rw[hk];rintro e w ⟨rfl,hS⟩|go_at_call 126;refine(bb4 _ _ _ _ W _ _ hS).mono ?_;clear hS;rw[hi];rintro e w ⟨rfl,hS⟩|refine zlN hS ?_|refine zbx hS ?_;clear hS;intro b w hS);go_ret;exact⟨rfl,hS.drop⟩
  | true=>
   obtain⟨px,hx⟩:∃x,m5 p k=x:=⟨_,rfl⟩
   obtain⟨p0,p1,p2,p3⟩:=px
   cases ha:O8 ⟨p0,p1,p2,p3⟩ ⟨x0,x1,x2,x3⟩with
   | false=>
    have e1:A5 p k ⟨x0,x1,x2,x3⟩=14:=by simp[A5,hk,hi,hx,ha]
    have e2:A8 p k ⟨x0,x1,x2,x3⟩=p:=by simp[A8,hk,hi,hx,ha]
    rw[e1,e2];have Hx:=jH hx;have Ha:=jH ha;clear ha hx e1 e2;simp only[It.cells];go_enter Tryz.func104,Tryz.ntmps104;go_wp2_with(first|go_at_call 163;refine(BQ7 k W _ _ hS).mono ?_;clear hS;rw[hk];rintro e w ⟨rfl,hS⟩|go_at_call 126;refine(bb4 _ _ _ _ W _ _ hS).mono ?_;clear hS;rw[hi];rintro e w ⟨rfl,hS⟩|refine zlN hS ?_|refine zbx hS ?_;clear hS;intro b w hS);refine rf3 tB3c (fun i=>i==11) (fun i=>if i==7 then some (.tuple #[.agg #[.I (0),.I (0),.I (0),.I (0)],.bool false])else none) [⟨some 11,some 12,fun nd=>k8 (nd 11) [.I 0,.I 0,.I 0,.I 0] 29⟩,⟨some 12,none,fun nd=>k8 (nd 11) [.I (0),.I (0),.I (0),.I (0)] 29⟩] [none,none,none] hS ?_;intro nd
    repeat(first|refine zc1 ?_|refine zcN ?_|refine zcn ?_|apply AZ7 (ek:=eS) (ev:=eP) (k:=k) it0 ⟨p0,p1,p2,p3⟩;rfl;kernel_rfl;rfl;rfl;rfl;rfl;intro F;exact⟨_,by exact D5⟩;exact mP;exact kS;exact zP;rfl;exact Hx.out;simp only[Act.put,fA,fB,fC,Nat.reduceAdd,eP,It.cells]|refine cR ?_)
    (refine zcv ?_ (hs:=by(intro F w hS;(try clear hS0);exact UL7 Ha.out W w _ hS)))
    iterate 3 (refine cR ?_)
    (refine zca ?_);refine zct ?_;refine cR ?_;refine Ad7 ?_;clear hS;intro w hS;have hS2:St W [k8 (nd 11) _ _,blk b _ _,blk vb _ _,d8 eS eP mb p,sats R] w:=hS;clear hS;have hS:=hS2.unpack [_,_,_,_];clear hS2;simp only[jK,jN]at hS;generalize nd 11=v12 at *;have h1:=hS.ptr;clear hS;obtain⟨b2,rfl,hS⟩:=h1;go_wp2_with(fail);go_ret;exact⟨rfl,hS.s _⟩
   | true=>
    have e1:A5 p k ⟨x0,x1,x2,x3⟩=0:=by simp[A5,hk,hi,hx,ha]
    have e2:A8 p k ⟨x0,x1,x2,x3⟩=K7 p k ⟨p0-x0,p1-x1,p2-x2,p3-x3⟩:=by simp[A8,hk,hi,hx,ha,bH4]
    rw[e1,e2];have Hx:=jH hx;have Ha:=jH ha;clear ha hx e1 e2;simp only[It.cells];go_enter Tryz.func104,Tryz.ntmps104;go_wp2_with(first|go_at_call 163;refine(BQ7 k W _ _ hS).mono ?_;clear hS;rw[hk];rintro e w ⟨rfl,hS⟩|go_at_call 126;refine(bb4 _ _ _ _ W _ _ hS).mono ?_;clear hS;rw[hi];rintro e w ⟨rfl,hS⟩|refine zlN hS ?_|refine zbx hS ?_;clear hS;intro b w hS);refine rf3 tB3c (fun i=>i==11) (fun i=>if i==7 then some (.tuple #[.agg #[.I (p0-x0),.I (p1-x1),.I (p2-x2),.I (p3-x3)],.bool true])else none) [⟨some 11,some 12,fun nd=>k8 (nd 11) [.I 0,.I 0,.I 0,.I 0] 29⟩,⟨some 12,none,fun nd=>k8 (nd 11) [.I (p0-x0),.I (p1-x1),.I (p2-x2),.I (p3-x3)] 29⟩] [none,none,none] hS ?_;intro nd
    repeat(first|refine zc1 ?_|refine zcN ?_|refine zcn ?_|apply AZ7 (ek:=eS) (ev:=eP) (k:=k) it0 ⟨p0,p1,p2,p3⟩;rfl;kernel_rfl;rfl;rfl;rfl;rfl;intro F;exact⟨_,by exact D5⟩;exact mP;exact kS;exact zP;rfl;exact Hx.out;simp only[Act.put,fA,fB,fC,Nat.reduceAdd,eP,It.cells]|refine cR ?_)
    (refine zcv ?_ (hs:=by(intro F w hS;(try clear hS0);exact Tj7 Ha.out W w _ hS)))
    iterate 3 (refine cR ?_)
    (refine zca ?_);refine zct ?_;refine cR ?_;refine Ad7 ?_;clear hS;intro w hS;have hS2:St W [k8 (nd 11) _ _,blk b _ _,blk vb _ _,d8 eS eP mb p,sats R] w:=hS;clear hS;have hS:=hS2.unpack [_,_,_,_];clear hS2;simp only[jK,jN]at hS;generalize nd 11=v12 at *;have h1:=hS.ptr;clear hS;obtain⟨b2,rfl,hS⟩:=h1;go_wp2_with(first|go_at_call 164;refine(Bc7 vb mb p k u1 u2 W _ R ⟨p0-x0,p1-x1,p2-x2,p3-x3⟩ (hS.s _)).mono ?_;clear hS;rintro e w ⟨rfl,hS⟩|refine zlN hS ?_);go_ret;exact⟨rfl,hS⟩
end
def A7(i:It)(k:Int):Int:=if k=0 then i.x0 else if k=1 then i.x1 else if k=2 then i.x2 else i.x3
def aX4(i:It)(k n:Int):It:=if k=0 then⟨n,i.x1,i.x2,i.x3⟩else if k=1 then⟨i.x0,n,i.x2,i.x3⟩else if k=2 then⟨i.x0,i.x1,n,i.x3⟩else⟨i.x0,i.x1,i.x2,n⟩
def l8(o:Ord):It:=if o.buy=true then⟨o.cnt*o.price,0,0,0⟩else aX4 it0 o.item o.cnt
theorem Cp7{a b:Int}(h1:0<=a)(h2:a<=1048576)(h3:0<=b)(h4:b<=1024):0<=a*b/\a*b<=1073741824:=by refine⟨Int.mul_nonneg h1 h3,?_⟩;have:=Int.mul_le_mul h2 h4 h3 (by omega);omega
theorem MD7(o:Ord)(hm:MayP o)(W w:World)(R:List HP)(hS:St W R w):
  Calls Tryz.prog 125 #[.agg o.cells.toArray] w fun e w'=>e=.returned (.agg (l8 o).cells.toArray)/\St W R w':=by
 have h1:=hm.item0;have h2:=hm.item1;have h3:=Cp7 (by have:=hm.cnt0;omega) hm.cnt1 (by have:=hm.price0;omega) hm.price1;obtain⟨i,u,y,t,c,pr⟩:=o;simp only at h1 h2 h3;clear hm
 cases y with
 | true=>
  have e:l8 ⟨i,u,true,t,c,pr⟩=⟨c*pr,0,0,0⟩:=rfl;rw[e];simp only[Ord.cells,It.cells];have h4:c*pr<=9223372036854775807:=by omega
  have h5 : -9223372036854775808<=c*pr:=by omega
  clear e h1 h2;go_enter Tryz.func125,Tryz.ntmps125;go_wp2_with(first|refine zl1 hS ?_|refine zlN hS ?_|refine zs1 hS ?_;clear hS;intro w hS|refine zsN hS ?_;clear hS;intro w hS|refine zbx hS ?_;clear hS;intro b w hS|refine zal hS ?_;clear hS;intro b w hS);apply Au7;rfl;rfl;rfl;exact hS;decide +kernel;(exact x9);kernel_rfl;exact⟨rfl,hS.s _⟩
 | false=>
  have ht:t=1\/t=2\/t=3:=by omega
  rcases ht with rfl|rfl|rfl
  ·have e:l8 ⟨i,u,false,1,c,pr⟩=⟨0,c,0,0⟩:=rfl;rw[e];simp only[Ord.cells,It.cells];clear e h1 h2 h3;go_enter Tryz.func125,Tryz.ntmps125;go_wp2_with(first|refine zl1 hS ?_|refine zlN hS ?_|refine zs1 hS ?_;clear hS;intro w hS|refine zsN hS ?_;clear hS;intro w hS|refine zbx hS ?_;clear hS;intro b w hS|refine zal hS ?_;clear hS;intro b w hS);apply Au7;rfl;rfl;rfl;exact hS;decide +kernel;(exact x9);kernel_rfl;exact⟨rfl,hS.s _⟩
  ·have e:l8 ⟨i,u,false,2,c,pr⟩=⟨0,0,c,0⟩:=rfl;rw[e];simp only[Ord.cells,It.cells];clear e h1 h2 h3;go_enter Tryz.func125,Tryz.ntmps125;go_wp2_with(first|refine zl1 hS ?_|refine zlN hS ?_|refine zs1 hS ?_;clear hS;intro w hS|refine zsN hS ?_;clear hS;intro w hS|refine zbx hS ?_;clear hS;intro b w hS|refine zal hS ?_;clear hS;intro b w hS);apply Au7;rfl;rfl;rfl;exact hS;decide +kernel;(exact x9);kernel_rfl;exact⟨rfl,hS.s _⟩
  ·have e:l8 ⟨i,u,false,3,c,pr⟩=⟨0,0,0,c⟩:=rfl;rw[e];simp only[Ord.cells,It.cells];clear e h1 h2 h3;go_enter Tryz.func125,Tryz.ntmps125;go_wp2_with(first|refine zl1 hS ?_|refine zlN hS ?_|refine zs1 hS ?_;clear hS;intro w hS|refine zsN hS ?_;clear hS;intro w hS|refine zbx hS ?_;clear hS;intro b w hS|refine zal hS ?_;clear hS;intro b w hS);apply Au7;rfl;rfl;rfl;exact hS;decide +kernel;(exact x9);kernel_rfl;exact⟨rfl,hS.s _⟩
def aj4(a:Int):Int:=if 1152921504606846976<a then 1152921504606846976 else a
def az4(i:It)(k n:Int):It:=aX4 i k (aj4 (A7 i k+n))
def r8(p:Ps)(who:ByteArray)(k n:Int):Ps:=K7 p who (az4 (m5 p who) k n)
abbrev tB3a:List Nat:=[0,1,3,7,15,0,32,127,0,511]
theorem Dd7(vb mb:Nat)(p:Ps)(who:ByteArray)(k n:Int)(u1 u2:Value)(hx:x8 (m5 p who)=true)(hk:0<=k/\k<=3)(hn:0<=n/\n<=1152921504606846976)(W w:World)(R:List HP)(hS:St W (blk vb [.map (some mb),u1,u2] 176::d8 eS eP mb p::R) w):
  Calls Tryz.prog 170 #[.agg #[.P vb,.string who],.I k,.I n] w fun e w'=>e=.returned (.tuple #[])/\St W (blk vb [.map (some mb),u1,u2] 176::d8 eS eP mb (r8 p who k n)::R) w':=by
 obtain⟨px,hp⟩:∃x,m5 p who=x:=⟨_,rfl⟩
 rw[hp]at hx;obtain⟨p0,p1,p2,p3⟩:=px;have Hx:=jH hp;clear hp;obtain⟨a0,a1,a2,a3⟩:=Af7.1 hx;simp only at a0 a1 a2 a3;clear hx;have hk4:k=0\/k=1\/k=2\/k=3:=by omega
 rcases hk4 with rfl|rfl|rfl|rfl
 ·by_cases hc:1152921504606846976<p0+n
  ·skip
   have e:r8 p who 0 n=K7 p who ⟨1152921504606846976,p1,p2,p3⟩:=by unfold r8 az4;rw[Hx.out];simp[aX4,A7,aj4,hc]
   rw[e];clear e;go_enter Tryz.func170,Tryz.ntmps170;go_wp2_with(first|refine zbx hS ?_;clear hS;intro b w hS);refine rf3 tB3a (fun i=>i==8) (fun _=>none) [⟨some 8,some 9,fun nd=>k8 (nd 8) [.I 0,.I 0,.I 0,.I 0] 29⟩,⟨some 9,none,fun nd=>k8 (nd 8) [.I p0,.I p1,.I p2,.I p3] 29⟩] [none,none,none] hS ?_;intro nd
   repeat(first|refine zc1 ?_|refine zcn ?_|apply AZ7 (ek:=eS) (ev:=eP) (k:=who) it0 ⟨p0,p1,p2,p3⟩;rfl;kernel_rfl;rfl;rfl;rfl;rfl;intro F;exact⟨_,by exact D5⟩;exact mP;exact kS;exact zP;rfl;exact Hx.out;simp only[Act.put,fA,fB,fC,Nat.reduceAdd,eP,It.cells]|refine cR ?_)
   (refine zca ?_);refine zct ?_;refine Ad7 ?_;clear hS;intro w hS;have hS2:St W [k8 (nd 8) _ _,blk b _ _,blk vb _ _,d8 eS eP mb p,sats R] w:=hS;clear hS;have hS:=hS2.unpack [_,_,_,_];clear hS2;simp only[jK,jN]at hS;generalize nd 8=v8 at *;have h1:=hS.ptr;clear hS;obtain⟨b2,rfl,hS⟩:=h1;go_wp2_with(first|go_at_call 164;refine(Bc7 vb mb p who u1 u2 W _ R ⟨1152921504606846976,p1,p2,p3⟩ (hS.s _)).mono ?_;clear hS;rintro e w ⟨rfl,hS⟩|refine zl1 hS ?_|refine zlN hS ?_|refine zs1 hS ?_;clear hS;intro w hS);go_end0;exact⟨rfl,hS⟩
  ·skip
   have e:r8 p who 0 n=K7 p who ⟨p0+n,p1,p2,p3⟩:=by unfold r8 az4;rw[Hx.out];simp[aX4,A7,aj4,hc]
   rw[e];clear e;go_enter Tryz.func170,Tryz.ntmps170;go_wp2_with(first|refine zbx hS ?_;clear hS;intro b w hS);refine rf3 tB3a (fun i=>i==8) (fun _=>none) [⟨some 8,some 9,fun nd=>k8 (nd 8) [.I 0,.I 0,.I 0,.I 0] 29⟩,⟨some 9,none,fun nd=>k8 (nd 8) [.I p0,.I p1,.I p2,.I p3] 29⟩] [none,none,none] hS ?_;intro nd
   repeat(first|refine zc1 ?_|refine zcn ?_|apply AZ7 (ek:=eS) (ev:=eP) (k:=who) it0 ⟨p0,p1,p2,p3⟩;rfl;kernel_rfl;rfl;rfl;rfl;rfl;intro F;exact⟨_,by exact D5⟩;exact mP;exact kS;exact zP;rfl;exact Hx.out;simp only[Act.put,fA,fB,fC,Nat.reduceAdd,eP,It.cells]|refine cR ?_)
   (refine zca ?_);refine zct ?_;refine Ad7 ?_;clear hS;intro w hS;have hS2:St W [k8 (nd 8) _ _,blk b _ _,blk vb _ _,d8 eS eP mb p,sats R] w:=hS;clear hS;have hS:=hS2.unpack [_,_,_,_];clear hS2;simp only[jK,jN]at hS;generalize nd 8=v8 at *;have h1:=hS.ptr;clear hS;obtain⟨b2,rfl,hS⟩:=h1;go_wp2_with(first|go_at_call 164;refine(Bc7 vb mb p who u1 u2 W _ R ⟨p0+n,p1,p2,p3⟩ (hS.s _)).mono ?_;clear hS;rintro e w ⟨rfl,hS⟩|refine zl1 hS ?_|refine zlN hS ?_|refine zs1 hS ?_;clear hS;intro w hS);go_end0;exact⟨rfl,hS⟩
 ·by_cases hc:1152921504606846976<p1+n
  ·skip
   have e:r8 p who 1 n=K7 p who ⟨p0,1152921504606846976,p2,p3⟩:=by unfold r8 az4;rw[Hx.out];simp[aX4,A7,aj4,hc]
   rw[e];clear e;go_enter Tryz.func170,Tryz.ntmps170;go_wp2_with(first|refine zbx hS ?_;clear hS;intro b w hS);refine rf3 tB3a (fun i=>i==8) (fun _=>none) [⟨some 8,some 9,fun nd=>k8 (nd 8) [.I 0,.I 0,.I 0,.I 0] 29⟩,⟨some 9,none,fun nd=>k8 (nd 8) [.I p0,.I p1,.I p2,.I p3] 29⟩] [none,none,none] hS ?_;intro nd
   repeat(first|refine zc1 ?_|refine zcn ?_|apply AZ7 (ek:=eS) (ev:=eP) (k:=who) it0 ⟨p0,p1,p2,p3⟩;rfl;kernel_rfl;rfl;rfl;rfl;rfl;intro F;exact⟨_,by exact D5⟩;exact mP;exact kS;exact zP;rfl;exact Hx.out;simp only[Act.put,fA,fB,fC,Nat.reduceAdd,eP,It.cells]|refine cR ?_)
   (refine zca ?_);refine zct ?_;refine Ad7 ?_;clear hS;intro w hS;have hS2:St W [k8 (nd 8) _ _,blk b _ _,blk vb _ _,d8 eS eP mb p,sats R] w:=hS;clear hS;have hS:=hS2.unpack [_,_,_,_];clear hS2;simp only[jK,jN]at hS;generalize nd 8=v8 at *;have h1:=hS.ptr;clear hS;obtain⟨b2,rfl,hS⟩:=h1;go_wp2_with(first|go_at_call 164;refine(Bc7 vb mb p who u1 u2 W _ R ⟨p0,1152921504606846976,p2,p3⟩ (hS.s _)).mono ?_;clear hS;rintro e w ⟨rfl,hS⟩|refine zl1 hS ?_|refine zlN hS ?_|refine zs1 hS ?_;clear hS;intro w hS);go_end0;exact⟨rfl,hS⟩
  ·skip
   have e:r8 p who 1 n=K7 p who ⟨p0,p1+n,p2,p3⟩:=by unfold r8 az4;rw[Hx.out];simp[aX4,A7,aj4,hc]
   rw[e];clear e;go_enter Tryz.func170,Tryz.ntmps170;go_wp2_with(first|refine zbx hS ?_;clear hS;intro b w hS);refine rf3 tB3a (fun i=>i==8) (fun _=>none) [⟨some 8,some 9,fun nd=>k8 (nd 8) [.I 0,.I 0,.I 0,.I 0] 29⟩,⟨some 9,none,fun nd=>k8 (nd 8) [.I p0,.I p1,.I p2,.I p3] 29⟩] [none,none,none] hS ?_;intro nd
   repeat(first|refine zc1 ?_|refine zcn ?_|apply AZ7 (ek:=eS) (ev:=eP) (k:=who) it0 ⟨p0,p1,p2,p3⟩;rfl;kernel_rfl;rfl;rfl;rfl;rfl;intro F;exact⟨_,by exact D5⟩;exact mP;exact kS;exact zP;rfl;exact Hx.out;simp only[Act.put,fA,fB,fC,Nat.reduceAdd,eP,It.cells]|refine cR ?_)
   (refine zca ?_);refine zct ?_;refine Ad7 ?_;clear hS;intro w hS;have hS2:St W [k8 (nd 8) _ _,blk b _ _,blk vb _ _,d8 eS eP mb p,sats R] w:=hS;clear hS;have hS:=hS2.unpack [_,_,_,_];clear hS2;simp only[jK,jN]at hS;generalize nd 8=v8 at *;have h1:=hS.ptr;clear hS;obtain⟨b2,rfl,hS⟩:=h1;go_wp2_with(first|go_at_call 164;refine(Bc7 vb mb p who u1 u2 W _ R ⟨p0,p1+n,p2,p3⟩ (hS.s _)).mono ?_;clear hS;rintro e w ⟨rfl,hS⟩|refine zl1 hS ?_|refine zlN hS ?_|refine zs1 hS ?_;clear hS;intro w hS);go_end0;exact⟨rfl,hS⟩
 ·by_cases hc:1152921504606846976<p2+n
  ·skip
   have e:r8 p who 2 n=K7 p who ⟨p0,p1,1152921504606846976,p3⟩:=by unfold r8 az4;rw[Hx.out];simp[aX4,A7,aj4,hc]
   rw[e];clear e;go_enter Tryz.func170,Tryz.ntmps170;go_wp2_with(first|refine zbx hS ?_;clear hS;intro b w hS);refine rf3 tB3a (fun i=>i==8) (fun _=>none) [⟨some 8,some 9,fun nd=>k8 (nd 8) [.I 0,.I 0,.I 0,.I 0] 29⟩,⟨some 9,none,fun nd=>k8 (nd 8) [.I p0,.I p1,.I p2,.I p3] 29⟩] [none,none,none] hS ?_;intro nd
   repeat(first|refine zc1 ?_|refine zcn ?_|apply AZ7 (ek:=eS) (ev:=eP) (k:=who) it0 ⟨p0,p1,p2,p3⟩;rfl;kernel_rfl;rfl;rfl;rfl;rfl;intro F;exact⟨_,by exact D5⟩;exact mP;exact kS;exact zP;rfl;exact Hx.out;simp only[Act.put,fA,fB,fC,Nat.reduceAdd,eP,It.cells]|refine cR ?_)
   (refine zca ?_);refine zct ?_;refine Ad7 ?_;clear hS;intro w hS;have hS2:St W [k8 (nd 8) _ _,blk b _ _,blk vb _ _,d8 eS eP mb p,sats R] w:=hS;clear hS;have hS:=hS2.unpack [_,_,_,_];clear hS2;simp only[jK,jN]at hS;generalize nd 8=v8 at *;have h1:=hS.ptr;clear hS;obtain⟨b2,rfl,hS⟩:=h1;go_wp2_with(first|go_at_call 164;refine(Bc7 vb mb p who u1 u2 W _ R ⟨p0,p1,1152921504606846976,p3⟩ (hS.s _)).mono ?_;clear hS;rintro e w ⟨rfl,hS⟩|refine zl1 hS ?_|refine zlN hS ?_|refine zs1 hS ?_;clear hS;intro w hS);go_end0;exact⟨rfl,hS⟩
  ·skip
   have e:r8 p who 2 n=K7 p who ⟨p0,p1,p2+n,p3⟩:=by unfold r8 az4;rw[Hx.out];simp[aX4,A7,aj4,hc]
   rw[e];clear e;go_enter Tryz.func170,Tryz.ntmps170;go_wp2_with(first|refine zbx hS ?_;clear hS;intro b w hS);refine rf3 tB3a (fun i=>i==8) (fun _=>none) [⟨some 8,some 9,fun nd=>k8 (nd 8) [.I 0,.I 0,.I 0,.I 0] 29⟩,⟨some 9,none,fun nd=>k8 (nd 8) [.I p0,.I p1,.I p2,.I p3] 29⟩] [none,none,none] hS ?_;intro nd
   repeat(first|refine zc1 ?_|refine zcn ?_|apply AZ7 (ek:=eS) (ev:=eP) (k:=who) it0 ⟨p0,p1,p2,p3⟩;rfl;kernel_rfl;rfl;rfl;rfl;rfl;intro F;exact⟨_,by exact D5⟩;exact mP;exact kS;exact zP;rfl;exact Hx.out;simp only[Act.put,fA,fB,fC,Nat.reduceAdd,eP,It.cells]|refine cR ?_)
   (refine zca ?_);refine zct ?_;refine Ad7 ?_;clear hS;intro w hS;have hS2:St W [k8 (nd 8) _ _,blk b _ _,blk vb _ _,d8 eS eP mb p,sats R] w:=hS;clear hS;have hS:=hS2.unpack [_,_,_,_];clear hS2;simp only[jK,jN]at hS;generalize nd 8=v8 at *;have h1:=hS.ptr;clear hS;obtain⟨b2,rfl,hS⟩:=h1;go_wp2_with(first|go_at_call 164;refine(Bc7 vb mb p who u1 u2 W _ R ⟨p0,p1,p2+n,p3⟩ (hS.s _)).mono ?_;clear hS;rintro e w ⟨rfl,hS⟩|refine zl1 hS ?_|refine zlN hS ?_|refine zs1 hS ?_;clear hS;intro w hS);go_end0;exact⟨rfl,hS⟩
 ·by_cases hc:1152921504606846976<p3+n
  ·skip
   have e:r8 p who 3 n=K7 p who ⟨p0,p1,p2,1152921504606846976⟩:=by unfold r8 az4;rw[Hx.out];simp[aX4,A7,aj4,hc]
   rw[e];clear e;go_enter Tryz.func170,Tryz.ntmps170;go_wp2_with(first|refine zbx hS ?_;clear hS;intro b w hS);refine rf3 tB3a (fun i=>i==8) (fun _=>none) [⟨some 8,some 9,fun nd=>k8 (nd 8) [.I 0,.I 0,.I 0,.I 0] 29⟩,⟨some 9,none,fun nd=>k8 (nd 8) [.I p0,.I p1,.I p2,.I p3] 29⟩] [none,none,none] hS ?_;intro nd
   repeat(first|refine zc1 ?_|refine zcn ?_|apply AZ7 (ek:=eS) (ev:=eP) (k:=who) it0 ⟨p0,p1,p2,p3⟩;rfl;kernel_rfl;rfl;rfl;rfl;rfl;intro F;exact⟨_,by exact D5⟩;exact mP;exact kS;exact zP;rfl;exact Hx.out;simp only[Act.put,fA,fB,fC,Nat.reduceAdd,eP,It.cells]|refine cR ?_)
   (refine zca ?_);refine zct ?_;refine Ad7 ?_;clear hS;intro w hS;have hS2:St W [k8 (nd 8) _ _,blk b _ _,blk vb _ _,d8 eS eP mb p,sats R] w:=hS;clear hS;have hS:=hS2.unpack [_,_,_,_];clear hS2;simp only[jK,jN]at hS;generalize nd 8=v8 at *;have h1:=hS.ptr;clear hS;obtain⟨b2,rfl,hS⟩:=h1;go_wp2_with(first|go_at_call 164;refine(Bc7 vb mb p who u1 u2 W _ R ⟨p0,p1,p2,1152921504606846976⟩ (hS.s _)).mono ?_;clear hS;rintro e w ⟨rfl,hS⟩|refine zl1 hS ?_|refine zlN hS ?_|refine zs1 hS ?_;clear hS;intro w hS);go_end0;exact⟨rfl,hS⟩
  ·skip
   have e:r8 p who 3 n=K7 p who ⟨p0,p1,p2,p3+n⟩:=by unfold r8 az4;rw[Hx.out];simp[aX4,A7,aj4,hc]
   rw[e];clear e;go_enter Tryz.func170,Tryz.ntmps170;go_wp2_with(first|refine zbx hS ?_;clear hS;intro b w hS);refine rf3 tB3a (fun i=>i==8) (fun _=>none) [⟨some 8,some 9,fun nd=>k8 (nd 8) [.I 0,.I 0,.I 0,.I 0] 29⟩,⟨some 9,none,fun nd=>k8 (nd 8) [.I p0,.I p1,.I p2,.I p3] 29⟩] [none,none,none] hS ?_;intro nd
   repeat(first|refine zc1 ?_|refine zcn ?_|apply AZ7 (ek:=eS) (ev:=eP) (k:=who) it0 ⟨p0,p1,p2,p3⟩;rfl;kernel_rfl;rfl;rfl;rfl;rfl;intro F;exact⟨_,by exact D5⟩;exact mP;exact kS;exact zP;rfl;exact Hx.out;simp only[Act.put,fA,fB,fC,Nat.reduceAdd,eP,It.cells]|refine cR ?_)
   (refine zca ?_);refine zct ?_;refine Ad7 ?_;clear hS;intro w hS;have hS2:St W [k8 (nd 8) _ _,blk b _ _,blk vb _ _,d8 eS eP mb p,sats R] w:=hS;clear hS;have hS:=hS2.unpack [_,_,_,_];clear hS2;simp only[jK,jN]at hS;generalize nd 8=v8 at *;have h1:=hS.ptr;clear hS;obtain⟨b2,rfl,hS⟩:=h1;go_wp2_with(first|go_at_call 164;refine(Bc7 vb mb p who u1 u2 W _ R ⟨p0,p1,p2,p3+n⟩ (hS.s _)).mono ?_;clear hS;rintro e w ⟨rfl,hS⟩|refine zl1 hS ?_|refine zlN hS ?_|refine zs1 hS ?_;clear hS;intro w hS);go_end0;exact⟨rfl,hS⟩
def L5{α:Type}(xs:List α)(i j:Nat)(hi:i<xs.length)(hj:j<xs.length):List α:=(xs.set i xs[j]).set j xs[i]
theorem De7(b:Option Addr)(n cap:Nat)(W w:World)(L:List HP)(hS:St W L w):
  Calls Tryz.prog 296 #[.slice b n cap] w fun e w'=>e=.returned (.I n)/\St W L w':=by
 go_enter Tryz.func296,Tryz.ntmps296;go_wp2_with(fail);go_ret;exact⟨rfl,hS⟩
theorem BU7(xs:List Ord)(junk:List Value)(g n cap i j:Nat)(hn:xs.length=n)(hi:i<xs.length)(hj:j<xs.length)(hcap:n<=cap)(hm:cap<=maxLen)(W w:World)(L:List HP)(hS:St W (blk g (xs.flatMap Ord.cells++junk) 166::L) w):
  Calls Tryz.prog 298 #[.S g n cap,.I i,.I j] w fun e w'=>e=.returned (.tuple #[])/\St W (blk g ((L5 xs i j hi hj).flatMap Ord.cells++junk) 166::L) w':=by
 subst hn;unfold maxLen at hm;go_enter Tryz.func298,Tryz.ntmps298;go_wp2_with(fail)
 refine rf2 [0,0,0,0,0,0,48,112,0,0,768,1792,4083,8179,16383,32767] (fun i=>false) [⟨some 13,some 15,fun nd=>blk g ((xs.set i xs[j]).flatMap Ord.cells++junk) 166⟩,⟨some 15,none,fun nd=>blk g ((L5 xs i j hi hj).flatMap Ord.cells++junk) 166⟩]
  [some 13] hS ?_
 intro nd
 iterate 7 (refine cR ?_)
 (refine zcN ?_ (hc:=by(intro F;exact i8.elem Ord.len hj)))
 iterate 3 (refine cR ?_)
 (refine zcN ?_ (hc:=by(intro F;exact i8.elem Ord.len hi)));refine cR ?_;have hlt:∀k,k<xs.length->k*6+6<=xs.length*6:=fun k hk=>by omega
 have hfl:=Ab7 Ord.len xs;have hfl2:=Ab7 Ord.len (xs.set i xs[j]);rw[List.length_set]at hfl2;(apply dF4 (vs:=xs[j].cells);rfl;rfl;rfl;rfl;(focus((conv=>lhs;whnf);try rfl));rfl;kernel_rfl;rfl;rfl;(rw[jA,hfl,Ord.len];have:=hlt i hi;omega);exact HM7 Ord.len xs junk i hi xs[j];rfl;try(refine frS ?_));refine cR ?_;(apply dF4 (vs:=xs[i].cells);rfl;rfl;rfl;rfl;(focus((conv=>lhs;whnf);try rfl));rfl;kernel_rfl;rfl;rfl;(rw[jA,hfl2,Ord.len];have:=hlt j hj;omega);exact HM7 Ord.len (xs.set i xs[j]) junk j (by simpa using hj) xs[i];rfl;try(refine frS ?_));refine Ad7 ?_;clear hS;intro w hS;have hS:St W [blk g ((L5 xs i j hi hj).flatMap Ord.cells++junk) _,sats L] w:=hS;replace hS:=hS.unpack [_];simp only[jK,jN]at hS;go_wp2_with(fail);go_end0;exact⟨rfl,hS⟩
theorem IT7(xs:List Ord)(junk:List Value)(l:List Value)(T:TypeId)(bb off g n cap:Nat)(hn:xs.length=n+1)(hcap:n+1<=cap)(hm:cap<=maxLen)(hl:l[off]? = some (.S g (n+1) cap))(W w:World)(L:List HP)
  (hS:St W (blk bb l T::blk g (xs.flatMap Ord.cells++junk) 166::L) w):
  Calls Tryz.prog 299 #[.pointer (some ⟨bb,off,none⟩)] w fun e w'=>e=.returned (.iface 166 (.agg (xs[n]'(by omega)).cells.toArray))/\St W (blk bb (l.set off (.S g n cap)) T::blk g (xs.flatMap Ord.cells++junk) 166::L) w':=by
 unfold maxLen at hm;have hn':n<xs.length:=by omega
 have hlt:off<l.length:=(List.getElem?_eq_some_iff.1 hl).1;generalize hx:xs[n]=x;have Hx:=jH hx;clear hx;obtain⟨i1,u1,y1,t1,c1,p1⟩:=x;simp only[Ord.cells];have hS:St W (blk bb l T::blk g (xs.flatMap Ord.cells++junk) 166::L) w:=hS;go_enter Tryz.func299,Tryz.ntmps299;go_wp2_with(first|refine zl1 hS ?_ (hc:=by exact i9.here hl)|refine zlN hS ?_ (hc:=by exact(i8.there (i8.elemEq Ord.len hn' Hx.out):i8 _ _ _ [.I i1,.string u1,.bool y1,.I t1,.I c1,.I p1]))|((with_reducible apply Hl7 hS);rfl;rfl;rfl;(focus((conv=>lhs;whnf);try rfl));kernel_rfl;rfl;rfl;exact db4;exact hlt;rfl;clear hS;intro w hS;try(refine frS ?_))|refine zlN hS ?_|refine zsN hS ?_;clear hS;intro w hS|refine zal hS ?_;clear hS;intro b w hS);go_ret;exact⟨rfl,hS.drop⟩
theorem ME7(xs:List Ord)(o:Ord)(l:List Value)(T:TypeId)(bb off n:Nat)(v:Value)(hn:xs.length=n)(h63:n<=4294967296)(hl:l[off]? = some v)(W w:World)(L:List HP)
  (hS:St W (blk bb l T::row v 6 166 n (xs.flatMap Ord.cells)::L) w):
  Calls Tryz.prog 300 #[.pointer (some ⟨bb,off,none⟩),.iface 166 (.agg o.cells.toArray)] w fun e w'=>∃v',e=.returned (.tuple #[])/\St W (blk bb (l.set off v') T::row v' 6 166 (n+1) ((xs++[o]).flatMap Ord.cells)::L) w':=by
 have hlt:off<l.length:=(List.getElem?_eq_some_iff.1 hl).1;obtain⟨i1,u1,y1,t1,c1,p1⟩:=o;simp only[Ord.cells];have hta:=SB7;go_enter Tryz.func300,Tryz.ntmps300;go_wp2_with(fail)
 refine rf2 [0,0,2,6,0,16,48,126,255,511] (fun i=>i==6||i==7) [⟨some 6,none,fun nd=>R5 (nd 6) 1 1 [.I i1,.string u1,.bool y1,.I t1,.I c1,.I p1] 166⟩,⟨some 7,none,fun nd=>row (nd 7) 6 166 (n+1) (xs.flatMap Ord.cells++[.I i1,.string u1,.bool y1,.I t1,.I c1,.I p1])⟩,⟨some 9,none,fun nd=>blk bb (l.set off (nd 7)) T⟩]
  [some 9,some 7] hS ?_
 intro nd;refine cR ?_;refine cR ?_;refine zcn ?_;apply SA7;rfl;kernel_rfl;rfl;rfl;rfl;decide +kernel;intro F;exact i9.here hl;refine frS ?_;refine cR ?_;refine cR ?_;apply an4;rfl;rfl;rfl;(focus(simp only[fD,fI,fJ,Act.eval,fE,fF,fG,fH,fK];try rfl));(exact esS);(exact rsS);rfl;rfl;rfl;rfl;(intro _;rfl);rfl;(intro _;rfl);(refine frS ?_);apply Ai7;rfl;rfl;rfl;(focus((conv=>lhs;whnf);try rfl));(focus((conv=>lhs;whnf);try rfl));(exact esS);(exact rsS);rfl;decide;rfl;(intro F w hS;exact AT7 hS (by exact D5));(focus(try rfl));rfl;(focus(unfold maxLen;omega));(focus(omega));(intro _;rfl);(intro _;rfl);(refine frS ?_);refine zcn ?_;(apply Lr7;rfl;rfl;rfl;rfl;(focus((conv=>lhs;whnf);try rfl));kernel_rfl;rfl;intro F w hS;exact hS.rowOne (by exact D5);(focus(exact hlt));rfl;rfl;try(refine frS ?_));refine Ad7 ?_;clear hS;intro w hS;have hS:St W [R5 (nd 6) 1 1 _ _,row (nd 7) 6 _ (n+1) _,blk bb (l.set off (nd 7)) T,sats L] w:=hS;generalize nd 7=v7 at *;replace hS:=hS.drop.swap.unpack [_,_];simp only[jK,jN]at hS;go_wp2_with(fail);go_end0;refine⟨v7,rfl,?_⟩;rw[List.flatMap_append];exact hS
end Go.Proofs.YtlmhakmoioogaaaGreat
end
