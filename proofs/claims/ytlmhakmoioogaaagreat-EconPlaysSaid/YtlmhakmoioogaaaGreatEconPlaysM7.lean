/-
  Maps as resources, in one's own terms: block b is a map in which these keys stand with these values, in whatever order and born whenever; a range over such a map. Over any program; no condition.
  Maps as resources up to order: 'amap b l': block b is a map in which just the keys of l stand, with their values; 'itR r b l todo': r walks over it, todo is yet to come. The walk's rules. Over any program; no condition.
-/
import Derived.Test.YtlmhakmoioogaaaGreatEconPlaysM4
import Derived.Test.YtlmhakmoioogaaaGreatEconPlaysM6
set_option maxHeartbeats 16000000
set_option maxRecDepth 100000
set_option linter.unusedSimpArgs false
set_option linter.unusedVariables false
section
namespace Go.Sl
open Go.RowKit
def findA{κ:Type}[DecidableEq κ](k:κ):List (κ×Value×Nat)→Nat→Option (Nat×Value)
 | [],_=>none
 | x::l,i=>if k=x.1 then some (i,x.2.1)else findA k l (i+1)
def entA{κ:Type}(ek:κ→Value)(x:κ×Value×Nat):MapEntry:=⟨ek x.1,x.2.1,x.2.2⟩
structure KeyOk(P:Program)(K:TypeId){κ:Type}[DecidableEq κ](ek:κ→Value):Prop where
 chk:∀e k w,(Instr.checkKey e 10000 K (ek k)).run P w=.ok () w
 find:∀k (l:List (κ×Value×Nat)) w,(Instr.findKey K (ek k) (l.map (entA ek))).run P w=.ok (findA k l 0) w
 bits:∀k,Instr.sameBits 10000 (ek k) (ek k)=true
section
variable{κ:Type}[DecidableEq κ]
theorem EI7{k:κ}:∀(l:List (κ×Value×Nat)) (i:Nat),(∀x∈l,x.1≠k)→findA k l i=none
 | [],_,_=>rfl
 | x::l,i,h=>by
  rw[findA,if_neg (fun e=>h x (List.mem_cons_self ..) e.symm)]
  exact EI7 l (i+1) fun y hy=>h y (List.mem_cons_of_mem _ hy)
theorem EJ7{k:κ}{v:Value}{s:Nat}:∀(l:List (κ×Value×Nat)) (i:Nat),(l.map (·.1)).Nodup→(k,v,s)∈l→∃j, ∃h:j<l.length,l[j]=(k,v,s)∧findA k l i=some (i+j,v)
 | x::l,i,hn,hm=>by
  rw[List.map_cons,List.nodup_cons]at hn
  by_cases hk:k=x.1
  ·have hx:x=(k,v,s):=by
    rcases List.mem_cons.1 hm with h|h
    ·exact h.symm
    ·exact absurd (List.mem_map.2 ⟨_,h,hk⟩) hn.1
   exact⟨0,Nat.succ_pos _,hx,by rw[findA,if_pos hk,hx];rfl⟩
  ·have hm':(k,v,s)∈l:=by
    rcases List.mem_cons.1 hm with h|h
    ·exact absurd (by rw[←h]) hk
    ·exact h
   obtain⟨j,hj,h1,h2⟩:=EJ7 l (i+1) hn.2 hm'
   exact⟨j+1,by simpa using hj,h1,by rw[findA,if_neg hk,h2,show i+1+j=i+(j+1)by omega]⟩
theorem Dt7{kd:TypeDesc}{ek:κ→Value}(h:∀a b,Instr.sameNow kd (ek a) (ek b)=some (decide (a=b)))(k:κ):∀(l:List (κ×Value×Nat)) (i:Nat),Instr.findNow kd (ek k) (l.map (entA ek)) i=some (findA k l i)
 | [],_=>rfl
 | x::l,i=>by
  have e:(entA ek x).key=ek x.1:=rfl
  rw[List.map_cons,Instr.findNow,e,h,findA]
  by_cases hk:k=x.1
  ·rw[decide_eq_true hk,if_pos hk];rfl
  ·rw[decide_eq_false hk,if_neg hk];exact Dt7 h k l (i+1)
variable{P:Program}{K:TypeId}{kd:TypeDesc}{ek:κ→Value}
theorem KeyOk.plain(hK:P.underlying K=some kd)(hkd:plainKd kd=true)(h:∀a b,Instr.sameNow kd (ek a) (ek b)=some (decide (a=b)))(hb:∀k,Instr.sameBits 10000 (ek k) (ek k)=true):KeyOk P K ek:=
 ⟨fun e k w=>Ht7 hK hkd e 9999 (ek k),fun k l w=>IH7 hK (Dt7 h k l 0),hb⟩
end
theorem KeyOk.int{P:Program}{K:TypeId}(hK:P.underlying K=some (.int .i64)):KeyOk P K (fun z:Int=>.int .i64 z):=
 .plain hK rfl (fun a b=>by rw[ND7];exact congrArg some (Bool.beq_eq_decide_eq a b)) (fun k=>by simp[Instr.sameBits])
theorem KeyOk.str{P:Program}{K:TypeId}(hK:P.underlying K=some .string):KeyOk P K (fun s:ByteArray=>.string s):=
 .plain hK rfl (fun a b=>by
  rw[NE7]
  congr 1
  by_cases h:a=b
  ·subst h;rw[decide_eq_true rfl];exact(MapKept.bytes_beq _ _).2 rfl
  ·rw[decide_eq_false h]
   cases hb:a==b with
   | false=>rfl
   | true=>exact absurd ((MapKept.bytes_beq a b).1 hb) h) (fun k=>by
  show(k==k)=true
  exact(MapKept.bytes_beq _ _).2 rfl)
section
variable{κ:Type}[DecidableEq κ]{P:Program}{W w:World}{L R:List HP}{t K E:TypeId}{ek:κ→Value}
theorem Hu7{b c:Nat}{ps:List (κ×Value×Nat)}{k:κ}{z:Value}{ok:Bool}(h:St W (mapR b (ps.map (entA ek)) c::L) w)(ht:tyMap P t=some (K,E))(hK:KeyOk P K ek)(hz:tyZeroV P E=some z)(hn:∀x∈ps,x.1≠k):
  (Instr.lookup t (.map (some b)) (ek k) ok).run P w=.ok (if ok then .tuple #[z,.bool false]else z) w:=by
 unfold Instr.lookup
 have hu:=run_underlying (P:=P) (Bg7 ht) w
 cases ok <;> simp[hu,CE7 h,hK.chk,hK.find,EI7 ps 0 hn,LG7 hz]
theorem Hv7{b c:Nat}{ps:List (κ×Value×Nat)}{k:κ}{v:Value}{s:Nat}{ok:Bool}(h:St W (mapR b (ps.map (entA ek)) c::L) w)(ht:tyMap P t=some (K,E))(hK:KeyOk P K ek)(hn:(ps.map (·.1)).Nodup)(hm:(k,v,s)∈ps):
  (Instr.lookup t (.map (some b)) (ek k) ok).run P w=.ok (if ok then .tuple #[v,.bool true]else v) w:=by
 unfold Instr.lookup
 have hu:=run_underlying (P:=P) (Bg7 ht) w
 obtain⟨j,hj,h1,h2⟩:=EJ7 ps 0 hn hm
 cases ok <;> simp[hu,CE7 h,hK.chk,hK.find,h2]
theorem Hw7{b c:Nat}{ps:List (κ×Value×Nat)}{k:κ}{v:Value}(h:St W (mapR b (ps.map (entA ek)) c::L) w)(ht:tyMap P t=some (K,E))(hK:KeyOk P K ek)(hn:∀x∈ps,x.1≠k):
  ∃w',(Instr.mapUpdate t (.map (some b)) (ek k) v).run P w=.ok () w'∧St W (mapR b ((ps++[(k,v,c)]).map (entA ek)) (c+1)::L) w':=by
 refine⟨_,?_,h.setMap⟩
 unfold Instr.mapUpdate
 have hu:=run_underlying (P:=P) (Bg7 ht) w
 have hs:=MapKept.run_setObj_map (P:=P) (.map (ps.map (entA ek)++[(⟨ek k,v,c⟩:MapEntry)]).toArray (c+1)) (h.get (b:=b) .head)
 have e:(ps.map (entA ek)).toArray.push (⟨ek k,v,c⟩:MapEntry)=(ps.map (entA ek)++[(⟨ek k,v,c⟩:MapEntry)]).toArray:=by simp
 have e2:(ps++[(k,v,c)]).map (entA ek)=ps.map (entA ek)++[(⟨ek k,v,c⟩:MapEntry)]:=by rw[List.map_append];rfl
 rw[e2]
 simp only[hu,Sem.run_bind,Result.andThen_ok,CE7 h,hK.chk,hK.find,EI7 ps 0 hn,e,hs]
def setA(ps:List (κ×Value×Nat))(k:κ)(v:Value):List (κ×Value×Nat):=ps.map fun x=>if x.1=k then(x.1,v,x.2.2)else x
theorem Gg7{k:κ}{v:Value}:∀(ps:List (κ×Value×Nat)),k∉ps.map (·.1)→setA ps k v=ps
 | [],_=>rfl
 | x::ps,h=>by
  have hx:x.1≠k:=fun e=>h (by rw[List.map_cons,e];exact List.mem_cons_self ..)
  have:=Gg7 (k:=k) (v:=v) ps (fun e=>h (List.mem_cons_of_mem _ e))
  unfold setA at this ⊢
  rw[List.map_cons,if_neg hx,this]
theorem LJ7{k:κ}{v u:Value}{s:Nat}:∀(ps:List (κ×Value×Nat)) (j:Nat) (hj:j<ps.length),(ps.map (·.1)).Nodup→ps[j]=(k,u,s)→setA ps k v=ps.set j (k,v,s)
 | x::ps,0,_,hn,hx=>by
  have hx':x=(k,u,s):=hx
  rw[List.map_cons,List.nodup_cons,hx']at hn
  have:=Gg7 (v:=v) ps hn.1
  unfold setA at this ⊢
  rw[List.map_cons,this,hx',if_pos rfl];rfl
 | x::ps,j+1,hj,hn,hx=>by
  rw[List.map_cons,List.nodup_cons]at hn
  have hj':j<ps.length:=by simpa using hj
  have hx':ps[j]=(k,u,s):=hx
  have hne:x.1≠k:=fun e=>hn.1 (List.mem_map.2 ⟨ps[j],List.getElem_mem _,by rw[hx',e]⟩)
  have:=LJ7 (v:=v) ps j hj' hn.2 hx'
  unfold setA at this ⊢
  rw[List.map_cons,if_neg hne,this];rfl
theorem IJ7{b c:Nat}{ps:List (κ×Value×Nat)}{k:κ}{u v:Value}{s:Nat}(h:St W (mapR b (ps.map (entA ek)) c::L) w)(ht:tyMap P t=some (K,E))(hK:KeyOk P K ek)(hn:(ps.map (·.1)).Nodup)(hm:(k,u,s)∈ps):
  ∃w',(Instr.mapUpdate t (.map (some b)) (ek k) v).run P w=.ok () w'∧St W (mapR b ((setA ps k v).map (entA ek)) c::L) w':=by
 obtain⟨j,hj,h1,h2⟩:=EJ7 ps 0 hn hm
 rw[Nat.zero_add]at h2
 have e2:(setA ps k v).map (entA ek)=(ps.map (entA ek)).set j ⟨ek k,v,s⟩:=by
  rw[LJ7 ps j hj hn h1,List.map_set];rfl
 have e:(ps.map (entA ek)).modify j (fun e=>{ e with key:=ek k,val:=v })=(ps.map (entA ek)).set j ⟨ek k,v,s⟩:=by
  apply List.ext_getElem?
  intro i
  rw[List.getElem?_modify,List.getElem?_set]
  by_cases hi:j=i
  ·subst hi
   simp[hj,h1,entA]
  ·simp[hi]
 refine⟨_,?_,h.setMap⟩
 rw[e2]
 unfold Instr.mapUpdate
 have hu:=run_underlying (P:=P) (Bg7 ht) w
 have hks:(Instr.keyThatStays (ek k) (ek k)).run P w=.ok (ek k) w:=by unfold Instr.keyThatStays;simp[hK.bits]
 have hkk:((ps.map (entA ek)).toArray[j]?).map (·.key)=some (ek k):=by simp[hj,h1,entA]
 have hkj:(entA ek ps[j]).key=ek k:=by rw[h1];rfl
 simp[hu,CE7 h,hK.chk,hK.find,h2,hj,hkj,hks]
 rw[e]
 exact MapKept.run_setObj_map (P:=P) (.map ((ps.map (entA ek)).set j ⟨ek k,v,s⟩).toArray c) (h.get (b:=b) .head)
theorem Ez7{α β:Type}(f:α→β):∀(l:List α) (j:Nat),(l.map f).eraseIdx j=(l.eraseIdx j).map f
 | [],_=>by simp
 | x::l,0=>rfl
 | x::l,j+1=>by simp[Ez7 f l j]
def delA(ps:List (κ×Value×Nat))(k:κ):List (κ×Value×Nat):=ps.filter fun x=>decide (x.1≠k)
theorem Gh7{k:κ}{ps:List (κ×Value×Nat)}(h:∀x∈ps,x.1≠k):delA ps k=ps:=List.filter_eq_self.2 fun x hx=>by simpa using h x hx
theorem LK7{k:κ}{u:Value}{s:Nat}:∀(ps:List (κ×Value×Nat)) (j:Nat) (hj:j<ps.length),(ps.map (·.1)).Nodup→ps[j]=(k,u,s)→delA ps k=ps.eraseIdx j
 | x::ps,0,_,hn,hx=>by
  have hx':x=(k,u,s):=hx
  rw[List.map_cons,List.nodup_cons,hx']at hn
  have h1:delA ps k=ps:=Gh7 fun y hy e=>hn.1 (List.mem_map.2 ⟨y,hy,e⟩)
  unfold delA at h1 ⊢
  rw[List.filter_cons,hx',if_neg (by simp),h1];rfl
 | x::ps,j+1,hj,hn,hx=>by
  rw[List.map_cons,List.nodup_cons]at hn
  have hj':j<ps.length:=by simpa using hj
  have hx':ps[j]=(k,u,s):=hx
  have hne:x.1≠k:=fun e=>hn.1 (List.mem_map.2 ⟨ps[j],List.getElem_mem _,by rw[hx',e]⟩)
  have:=LK7 ps j hj' hn.2 hx'
  unfold delA at this ⊢
  rw[List.filter_cons,if_pos (by simpa using hne),this];rfl
theorem NG7{b c:Nat}{ps:List (κ×Value×Nat)}{k:κ}{k2 ty:TypeId}(h:St W (mapR b (ps.map (entA ek)) c::L) w)(ht:tyMap P t=some (K,E))(hK:KeyOk P K ek)(hn:(ps.map (·.1)).Nodup):
  ∃w',(Builtin.delete_ #[t,k2] ty #[.map (some b),ek k]).run P w=.ok (.tuple #[]) w'∧St W (mapR b ((delA ps k).map (entA ek)) c::L) w':=by
 have hu:=run_underlying (P:=P) (Bg7 ht) w
 by_cases hk:∃x∈ps,x.1=k
 ·obtain⟨⟨k',v,s⟩,hx,rfl⟩:=hk
  obtain⟨j,hj,h1,h2⟩:=EJ7 ps 0 hn hx
  rw[Nat.zero_add]at h2
  refine⟨_,?_,h.setMap⟩
  rw[LK7 ps j hj hn h1]
  unfold Builtin.delete_
  have hs:=MapKept.run_setObj_map (P:=P) (.map ((ps.eraseIdx j).map (entA ek)).toArray c) (h.get (b:=b) .head)
  have e:(ps.map (entA ek)).eraseIdx j=(ps.eraseIdx j).map (entA ek):=Ez7 (entA ek) ps j
  simp[hu,CE7 h,hK.chk,hK.find,h2,e,hs]
 ·have hn':∀x∈ps,x.1≠k:=fun x hx e=>hk ⟨x,hx,e⟩
  refine⟨_,?_,h.setMap⟩
  rw[Gh7 hn']
  unfold Builtin.delete_
  have hs:=MapKept.run_setObj_map (P:=P) (.map (ps.map (entA ek)).toArray c) (h.get (b:=b) .head)
  simp[hu,CE7 h,hK.chk,hK.find,EI7 ps 0 hn',hs]
end
end Go.Sl
end
section
namespace Go.Sl
open Go.RowKit
section
variable{κ ν:Type}
def evs(ev:ν→Value)(x:κ×ν×Nat):κ×Value×Nat:=(x.1,ev x.2.1,x.2.2)
def prj(x:κ×ν×Nat):κ×ν:=(x.1,x.2.1)
structure Good(ps:List (κ×ν×Nat))(c:Nat):Prop where
 st:(ps.map (·.2.2)).Nodup
 old:∀x∈ps,x.2.2<c
 ks:(ps.map (·.1)).Nodup
def mapV(ek:κ→Value)(ev:ν→Value)(b:Nat)(ps:List (κ×ν×Nat))(c:Nat):HP:=mapR b ((ps.map (evs ev)).map (entA ek)) c
def amap(ek:κ→Value)(ev:ν→Value)(b:Nat)(l:List (κ×ν)):HP:=fun f=>∃q:List (κ×ν×Nat)×Nat,((q.1.map prj).Perm l∧Good q.1 q.2)∧mapV ek ev b q.1 q.2 f
def itOk(l todo:List (κ×ν))(ps:List (κ×ν×Nat))(c since c0:Nat)(seen:Array Nat):Prop:=
 (ps.map prj).Perm l∧Good ps since∧since≤c0∧since≤c∧((ps.filter fun x=>decide (x.2.2∉seen)).map prj).Perm todo
structure ItQ(κ ν:Type) where
 ps:List (κ×ν×Nat)
 c:Nat
 since:Nat
 c0:Nat
 seen:Array Nat
def itR(ek:κ→Value)(ev:ν→Value)(r b:Nat)(l todo:List (κ×ν)):HP:=fun f=>∃q:ItQ κ ν,itOk l todo q.ps q.c q.since q.c0 q.seen∧sep (iterR r b q.since q.seen q.c0) (mapV ek ev b q.ps q.c) f
def itAt(ek:κ→Value)(ev:ν→Value)(r b:Nat)(l todo:List (κ×ν))(x:κ×ν):HP:=fun f=>∃q:ItQ κ ν,(itOk l todo q.ps q.c q.since q.c0 q.seen∧q.c0=q.c∧∃(s:Nat) (seen':Array Nat),q.seen=seen'.push s∧(x.1,x.2,s)∈q.ps)∧sep (iterR r b q.since q.seen q.c0) (mapV ek ev b q.ps q.c) f
theorem JN7(ps:List (κ×ν×Nat)):(ps.map prj).map (·.1)=ps.map (·.1):=by rw[List.map_map];rfl
theorem Du7(ev:ν→Value)(ps:List (κ×ν×Nat)):(ps.map (evs ev)).map (·.1)=ps.map (·.1):=by rw[List.map_map];rfl
theorem LL7{ev:ν→Value}{ps:List (κ×ν×Nat)}{k:κ}{v:ν}{s:Nat}(h:(k,v,s)∈ps):(k,ev v,s)∈ps.map (evs ev):=List.mem_map.2 ⟨_,h,rfl⟩
theorem LM7{ps:List (κ×ν×Nat)}{l:List (κ×ν)}{x:κ×ν}(hp:(ps.map prj).Perm l)(hx:x∈l):∃s,(x.1,x.2,s)∈ps:=by
 obtain⟨⟨k,v,s⟩,hy,rfl⟩:=List.mem_map.1 (hp.mem_iff.2 hx)
 exact⟨s,hy⟩
theorem Pc7{ev:ν→Value}{ps:List (κ×ν×Nat)}{l:List (κ×ν)}{k:κ}(hp:(ps.map prj).Perm l)(hk:∀x∈l,x.1≠k):∀x∈ps.map (evs ev),x.1≠k:=by
 intro x hx
 obtain⟨y,hy,rfl⟩:=List.mem_map.1 hx
 exact hk (prj y) (hp.mem_iff.1 (List.mem_map_of_mem hy))
theorem CA7{α β:Type}{f:α→β}{p:α→Bool}{l:List α}(h:(l.map f).Nodup):((l.filter p).map f).Nodup:=h.sublist (List.filter_sublist.map f)
theorem Good.new{ps:List (κ×ν×Nat)}{c:Nat}(h:Good ps c){k:κ}{v:ν}(hk:∀x∈ps,x.1≠k):Good (ps++[(k,v,c)]) (c+1):=
 ⟨by
  rw[List.map_append,List.nodup_append]
  refine⟨h.st,by simp,fun a ha b hb=>?_⟩
  obtain⟨x,hx,rfl⟩:=List.mem_map.1 ha
  obtain rfl:b=c:=by simpa using hb
  have:=h.old x hx
  omega,fun x hx=>by
  rcases List.mem_append.1 hx with h1|h1
  ·have:=h.old x h1;omega
  ·obtain rfl:=List.mem_singleton.1 h1;exact Nat.lt_succ_self c,by
  rw[List.map_append,List.nodup_append]
  refine⟨h.ks,by simp,fun a ha b hb=>?_⟩
  obtain⟨x,hx,rfl⟩:=List.mem_map.1 ha
  obtain rfl:b=k:=by simpa using hb
  exact hk x hx⟩
variable{W w:World}{L:List HP}{ek:κ→Value}{ev:ν→Value}{b r:Nat}{l l' todo:List (κ×ν)}
theorem amapOpen(h:St W (amap ek ev b l::L) w):∃ps c,(ps.map prj).Perm l∧Good ps c∧St W (mapV ek ev b ps c::L) w:=by
 obtain⟨⟨ps,c⟩,h⟩:=St.ex h
 obtain⟨⟨h1,h2⟩,h3⟩:=St.and h
 exact⟨ps,c,h1,h2,h3⟩
theorem amapShut{ps:List (κ×ν×Nat)}{c:Nat}(hp:(ps.map prj).Perm l)(hg:Good ps c)(h:St W (mapV ek ev b ps c::L) w):St W (amap ek ev b l::L) w:=
 h.imp fun _ hf=>⟨(ps,c),⟨hp,hg⟩,hf⟩
theorem amapPerm(hp:l.Perm l')(h:St W (amap ek ev b l::L) w):St W (amap ek ev b l'::L) w:=by
 obtain⟨ps,c,h1,h2,h3⟩:=amapOpen h
 exact amapShut (h1.trans hp) h2 h3
theorem amapKeys(h:St W (amap ek ev b l::L) w):(l.map (·.1)).Nodup:=by
 obtain⟨ps,c,h1,h2,h3⟩:=amapOpen h
 have:=h2.ks
 rw[←JN7]at this
 exact(h1.map (·.1)).nodup_iff.1 this
theorem itOpen(h:St W (itR ek ev r b l todo::L) w):∃q:ItQ κ ν,itOk l todo q.ps q.c q.since q.c0 q.seen∧St W (iterR r b q.since q.seen q.c0::mapV ek ev b q.ps q.c::L) w:=by
 obtain⟨q,h⟩:=St.ex h
 obtain⟨h1,h2⟩:=St.and h
 exact⟨q,h1,h2.split⟩
theorem itShut{q:ItQ κ ν}(hq:itOk l todo q.ps q.c q.since q.c0 q.seen)(h:St W (iterR r b q.since q.seen q.c0::mapV ek ev b q.ps q.c::L) w):St W (itR ek ev r b l todo::L) w:=
 h.join.imp fun _ hf=>⟨q,hq,hf⟩
theorem itEnd(h:St W (itR ek ev r b l todo::L) w):St W (amap ek ev b l::L) w:=by
 obtain⟨q,⟨h1,h2,h3,h4,h5⟩,hS⟩:=itOpen h
 exact amapShut h1 ⟨h2.st,fun x hx=>Nat.lt_of_lt_of_le (h2.old x hx) h4,h2.ks⟩ hS.drop
theorem itAtR{x:κ×ν}(h:St W (itAt ek ev r b l todo x::L) w):St W (itR ek ev r b l todo::L) w:=h.imp fun _ ⟨q,⟨h1,_⟩,h2⟩=>⟨q,h1,h2⟩
theorem JO7{ps:List (κ×ν×Nat)}{e:MapEntry}(h:e∈(ps.map (evs ev)).map (entA ek)):∃x∈ps,e=⟨ek x.1,ev x.2.1,x.2.2⟩:=by
 obtain⟨y,hy,rfl⟩:=List.mem_map.1 h
 obtain⟨x,hx,rfl⟩:=List.mem_map.1 hy
 exact⟨x,hx,rfl⟩
theorem JP7{ps:List (κ×ν×Nat)}{x:κ×ν×Nat}(h:x∈ps):(⟨ek x.1,ev x.2.1,x.2.2⟩:MapEntry)∈(ps.map (evs ev)).map (entA ek):=List.mem_map.2 ⟨_,List.mem_map.2 ⟨x,h,rfl⟩,rfl⟩
theorem IK7{ps:List (κ×ν×Nat)}{x:κ×ν×Nat}{seen:Array Nat}(hst:(ps.map (·.2.2)).Nodup)(hx:x∈ps)(hn:x.2.2∉seen):
  (ps.filter fun y=>decide (y.2.2∉seen)).Perm (x::ps.filter fun y=>decide (y.2.2∉seen.push x.2.2)):=by
 induction ps with
 | nil=>cases hx
 | cons y ps ih=>
  rw[List.map_cons,List.nodup_cons]at hst
  by_cases hxy:x=y
  ·subst hxy
   have e1:List.filter (fun y=>decide (y.2.2∉seen)) (x::ps)=x::ps.filter (fun y=>decide (y.2.2∉seen)):=by rw[List.filter_cons,if_pos (by simpa using hn)]
   have e2:List.filter (fun y=>decide (y.2.2∉seen.push x.2.2)) (x::ps)=ps.filter (fun y=>decide (y.2.2∉seen)):=by
    rw[List.filter_cons,if_neg (by simp)]
    refine List.filter_congr fun z hz=>?_
    have:z.2.2≠x.2.2:=fun e=>hst.1 (List.mem_map.2 ⟨z,hz,e⟩)
    simp[this]
   rw[e1,e2]
  ·have hx':x∈ps:=(List.mem_cons.1 hx).resolve_left hxy
   have hne:y.2.2≠x.2.2:=fun e=>hst.1 (List.mem_map.2 ⟨x,hx',e.symm⟩)
   have ih:=ih hst.2 hx'
   by_cases hy:y.2.2∈seen
   ·rw[List.filter_cons,if_neg (by simpa using hy),List.filter_cons,if_neg (by simp[hy])]
    exact ih
   ·rw[List.filter_cons,if_pos (by simpa using hy),List.filter_cons,if_pos (by simp[hy,hne])]
    exact(ih.cons y).trans (List.Perm.swap _ _ _)
variable{P:Program}{t K E:TypeId}
theorem LN7(h:St W L w):∃b w',(Instr.makeMap t none).run P w=.ok (.map (some b)) w'∧St W (amap ek ev b []::L) w':=by
 obtain⟨b,w',hr,hS⟩:=II7 (P:=P) (t:=t) h
 exact⟨b,w',hr,amapShut (ps:=[]) (c:=0) (List.Perm.refl _) ⟨List.nodup_nil,fun x hx=>(by cases hx),List.nodup_nil⟩ hS⟩
theorem Gi7(h:St W (amap ek ev b l::L) w)(ht:tyMap P t=some (K,E)):
  ∃r w',(Instr.range t (.map (some b))).run P w=.ok (.pointer (some ⟨r,0,none⟩)) w'∧St W (itR ek ev r b l l::L) w':=by
 obtain⟨ps,c,h1,h2,h3⟩:=amapOpen h
 obtain⟨r,w',hr,hS⟩:=LH7 (P:=P) h3 ht
 refine⟨r,w',hr,itShut (q:=⟨ps,c,c,c, #[]⟩) ⟨h1,h2,Nat.le_refl _,Nat.le_refl _,?_⟩ hS⟩
 have:ps.filter (fun x=>decide (x.2.2∉(#[]:Array Nat)))=ps:=List.filter_eq_self.2 fun x _=>by simp
 rw[this];exact h1
theorem Hx7{ty:TypeId}(h:St W (itR ek ev r b l todo::L) w):
  (todo=[]∧(Instr.next (.pointer (some ⟨r,0,none⟩)) false ty).run P w=.ok (.tuple #[.bool false]) w) ∨
  ∃x todo',todo.Perm (x::todo')∧x∈l∧∃w',(Instr.next (.pointer (some ⟨r,0,none⟩)) false ty).run P w=.ok (.tuple #[.bool true,ek x.1,ev x.2]) w'∧St W (itAt ek ev r b l todo' x::L) w':=by
 obtain⟨⟨ps,c,since,c0,seen⟩,⟨h1,h2,h3,h4,h5⟩,hS⟩:=itOpen h
 rcases NF7 (P:=P) (ty:=ty) hS (fun x hx=>by obtain⟨y,hy,rfl⟩:=JO7 hx;exact h2.old y hy) h3 with ⟨hall,hr⟩|⟨e,he,hne,w',hr,hS'⟩
 ·left
  refine⟨?_,hr⟩
  have:ps.filter (fun x=>decide (x.2.2∉seen))=[]:=List.filter_eq_nil_iff.2 fun x hx=>by
   have:=hall _ (JP7 (ek:=ek) (ev:=ev) hx)
   simpa using this
  simp only[this,List.map_nil]at h5
  exact List.nil_perm.1 h5
 ·right
  obtain⟨x,hx,rfl⟩:=JO7 he
  have hp:=IK7 h2.st hx hne
  have hp2:todo.Perm (prj x::(ps.filter fun y=>decide (y.2.2∉seen.push x.2.2)).map prj):=h5.symm.trans (hp.map prj)
  refine⟨prj x,(ps.filter fun y=>decide (y.2.2∉seen.push x.2.2)).map prj,hp2,h1.mem_iff.1 (List.mem_map_of_mem hx),w',hr,?_⟩
  exact hS'.join.imp fun _ hf=>⟨⟨ps,c,since,c,seen.push x.2.2⟩,⟨⟨h1,h2,h4,h4,List.Perm.refl _⟩,rfl,x.2.2,seen,rfl,hx⟩,hf⟩
theorem Gj7{x:κ×ν}(h:St W (itAt ek ev r b l todo x::L) w):(Instr.entry (.pointer (some ⟨r,0,none⟩))).run P w=.ok (.tuple #[ek x.1,ev x.2]) w:=by
 obtain⟨⟨ps,c,since,c0,seen⟩,h⟩:=St.ex (F:=fun(q:ItQ κ ν) f=>(itOk l todo q.ps q.c q.since q.c0 q.seen∧q.c0=q.c∧∃(s:Nat) (seen':Array Nat),q.seen=seen'.push s∧(x.1,x.2,s)∈q.ps)∧sep (iterR r b q.since q.seen q.c0) (mapV ek ev b q.ps q.c) f) h
 obtain⟨⟨⟨h1,h2,h3,h4,h5⟩,hc,s,seen',h6,h7⟩,h8⟩:=St.and h
 simp only at hc h6
 subst hc h6
 have h9:=h8.split
 have hst:Stamps ((ps.map (evs ev)).map (entA ek)):=by
  unfold Stamps
  rw[List.map_map,List.map_map]
  exact h2.st
 exact LI7 h9 (JP7 (ek:=ek) (ev:=ev) h7) hst
end
section
variable{κ ν:Type}[DecidableEq κ]
variable{W w:World}{L:List HP}{ek:κ→Value}{ev:ν→Value}{b r:Nat}{l l' todo:List (κ×ν)}
variable{P:Program}{t K E:TypeId}
def putL(l:List (κ×ν))(k:κ)(v:ν):List (κ×ν):=l.map fun x=>if x.1=k then(x.1,v)else x
def delL(l:List (κ×ν))(k:κ):List (κ×ν):=l.filter fun x=>decide (x.1≠k)
theorem NH7{ev:ν→Value}(ps:List (κ×ν×Nat))(k:κ)(v:ν):setA (ps.map (evs ev)) k (ev v)=(ps.map fun x=>if x.1=k then(x.1,v,x.2.2)else x).map (evs ev):=by
 unfold setA
 rw[List.map_map,List.map_map]
 refine List.map_congr_left fun x _=>?_
 show(if x.1=k then _ else _)=evs ev (if x.1=k then _ else _)
 by_cases h:x.1=k
 ·rw[if_pos h,if_pos h];rfl
 ·rw[if_neg h,if_neg h]
theorem NI7{ev:ν→Value}(ps:List (κ×ν×Nat))(k:κ):delA (ps.map (evs ev)) k=(ps.filter fun x=>decide (x.1≠k)).map (evs ev):=by
 unfold delA
 rw[List.filter_map]
 rfl
theorem Px7(ps:List (κ×ν×Nat))(k:κ)(v:ν):((ps.map fun x=>if x.1=k then(x.1,v,x.2.2)else x).map prj)=putL (ps.map prj) k v:=by
 unfold putL
 rw[List.map_map,List.map_map]
 refine List.map_congr_left fun x _=>?_
 show prj (if x.1=k then _ else _)=(if x.1=k then _ else _)
 by_cases h:x.1=k
 ·rw[if_pos h,if_pos h];rfl
 ·rw[if_neg h,if_neg h]
theorem Py7(ps:List (κ×ν×Nat))(k:κ):((ps.filter fun x=>decide (x.1≠k)).map prj)=delL (ps.map prj) k:=by
 unfold delL
 rw[List.filter_map]
 rfl
theorem LO7{l l':List (κ×ν)}(h:l.Perm l')(k:κ)(v:ν):(putL l k v).Perm (putL l' k v):=h.map _
theorem Fl7{l l':List (κ×ν)}(h:l.Perm l')(k:κ):(delL l k).Perm (delL l' k):=h.filter _
theorem QI7(ps:List (κ×ν×Nat))(k:κ)(v:ν):((ps.map fun x=>if x.1=k then(x.1,v,x.2.2)else x).map (·.2.2))=ps.map (·.2.2):=by
 rw[List.map_map]
 refine List.map_congr_left fun x _=>?_
 show(if x.1=k then _ else _:κ×ν×Nat).2.2=x.2.2
 by_cases h:x.1=k
 ·rw[if_pos h]
 ·rw[if_neg h]
theorem QJ7(ps:List (κ×ν×Nat))(k:κ)(v:ν):((ps.map fun x=>if x.1=k then(x.1,v,x.2.2)else x).map (·.1))=ps.map (·.1):=by
 rw[List.map_map]
 refine List.map_congr_left fun x _=>?_
 show(if x.1=k then _ else _:κ×ν×Nat).1=x.1
 by_cases h:x.1=k
 ·rw[if_pos h]
 ·rw[if_neg h]
theorem Good.set{ps:List (κ×ν×Nat)}{c:Nat}(h:Good ps c)(k:κ)(v:ν):Good (ps.map fun x=>if x.1=k then(x.1,v,x.2.2)else x) c:=
 ⟨by rw[QI7];exact h.st,fun x hx=>by
  obtain⟨y,hy,rfl⟩:=List.mem_map.1 hx
  have:=h.old y hy
  show(if y.1=k then _ else _:κ×ν×Nat).2.2<c
  by_cases e:y.1=k
  ·rw[if_pos e];exact this
  ·rw[if_neg e];exact this,by rw[QJ7];exact h.ks⟩
theorem Good.del{ps:List (κ×ν×Nat)}{c:Nat}(h:Good ps c)(k:κ):Good (ps.filter fun x=>decide (x.1≠k)) c:=
 ⟨CA7 h.st,fun x hx=>h.old x (List.mem_filter.1 hx).1,CA7 h.ks⟩
theorem Hy7{x:κ×ν}{ok:Bool}(h:St W (amap ek ev b l::L) w)(ht:tyMap P t=some (K,E))(hK:KeyOk P K ek)(hx:x∈l):
  (Instr.lookup t (.map (some b)) (ek x.1) ok).run P w=.ok (if ok then .tuple #[ev x.2,.bool true]else ev x.2) w:=by
 obtain⟨ps,c,h1,h2,h3⟩:=amapOpen h
 obtain⟨s,hs⟩:=LM7 h1 hx
 exact Hv7 h3 ht hK (by rw[Du7];exact h2.ks) (LL7 hs)
theorem Hz7{k:κ}{z:Value}{ok:Bool}(h:St W (amap ek ev b l::L) w)(ht:tyMap P t=some (K,E))(hK:KeyOk P K ek)(hz:tyZeroV P E=some z)(hk:∀x∈l,x.1≠k):
  (Instr.lookup t (.map (some b)) (ek k) ok).run P w=.ok (if ok then .tuple #[z,.bool false]else z) w:=by
 obtain⟨ps,c,h1,h2,h3⟩:=amapOpen h
 exact Hu7 h3 ht hK hz (Pc7 h1 hk)
theorem BG7{k:κ}(hk:∀x∈l,x.1≠k):delL l k=l:=List.filter_eq_self.2 fun x hx=>by simpa using hk x hx
theorem JQ7{k:κ}{u v:ν}:∀{l:List (κ×ν)},(l.map (·.1)).Nodup→(k,u)∈l→(putL l k v).Perm ((k,v)::delL l k)
 | y::l,hn,hm=>by
  rw[List.map_cons,List.nodup_cons]at hn
  by_cases hk:y.1=k
  ·have h0:∀x∈l,x.1≠k:=fun x hx e=>hn.1 (List.mem_map.2 ⟨x,hx,e.trans hk.symm⟩)
   have h1:putL l k v=l:=by
    unfold putL
    refine(List.map_congr_left fun x hx=>?_).trans (List.map_id l)
    rw[if_neg (h0 x hx)];rfl
   have h2:delL (y::l) k=l:=by
    have:=BG7 h0
    unfold delL at this ⊢
    rw[List.filter_cons,if_neg (by simpa using hk),this]
   have h3:putL (y::l) k v=(k,v)::l:=by
    have:putL (y::l) k v=(if y.1=k then(y.1,v)else y)::putL l k v:=rfl
    rw[this,h1,if_pos hk,hk]
   rw[h2,h3]
  ·have hm':(k,u)∈l:=by
    rcases List.mem_cons.1 hm with h|h
    ·exact absurd (by rw[←h]) hk
    ·exact h
   have h2:delL (y::l) k=y::delL l k:=by
    unfold delL
    rw[List.filter_cons,if_pos (by simpa using hk)]
   have h3:putL (y::l) k v=y::putL l k v:=by
    have:putL (y::l) k v=(if y.1=k then(y.1,v)else y)::putL l k v:=rfl
    rw[this,if_neg hk]
   rw[h2,h3]
   exact((JQ7 hn.2 hm').cons y).trans (List.Perm.swap _ _ _)
theorem NJ7{k:κ}{v:ν}(h:St W (amap ek ev b l::L) w)(ht:tyMap P t=some (K,E))(hK:KeyOk P K ek):
  ∃w',(Instr.mapUpdate t (.map (some b)) (ek k) (ev v)).run P w=.ok () w'∧St W (amap ek ev b ((k,v)::delL l k)::L) w':=by
 have hkl:=amapKeys h
 obtain⟨ps,c,h1,h2,h3⟩:=amapOpen h
 by_cases hk:∃u,(k,u)∈l
 ·obtain⟨u,hu⟩:=hk
  obtain⟨s,hs⟩:=LM7 h1 hu
  obtain⟨w',hr,hS⟩:=IJ7 (v:=ev v) h3 ht hK (by rw[Du7];exact h2.ks) (LL7 hs)
  rw[NH7]at hS
  refine⟨w',hr,amapShut ?_ (h2.set k v) hS⟩
  rw[Px7]
  exact(LO7 h1 k v).trans (JQ7 hkl hu)
 ·have hk':∀x∈l,x.1≠k:=fun x hx e=>hk ⟨x.2,by rw[←e];exact hx⟩
  obtain⟨w',hr,hS⟩:=Hw7 (v:=ev v) h3 ht hK (Pc7 h1 hk')
  have e:ps.map (evs ev)++[(k,ev v,c)]=(ps++[(k,v,c)]).map (evs ev):=by rw[List.map_append];rfl
  rw[e]at hS
  refine⟨w',hr,amapShut ?_ (h2.new fun x hx=>?_) hS⟩
  ·rw[BG7 hk',List.map_append]
   exact(List.perm_append_comm).trans (h1.cons (k,v))
  ·exact hk' (prj x) (h1.mem_iff.1 (List.mem_map_of_mem hx))
theorem NK7{k:κ}{k2 ty:TypeId}(h:St W (amap ek ev b l::L) w)(ht:tyMap P t=some (K,E))(hK:KeyOk P K ek):
  ∃w',(Builtin.delete_ #[t,k2] ty #[.map (some b),ek k]).run P w=.ok (.tuple #[]) w'∧St W (amap ek ev b (delL l k)::L) w':=by
 obtain⟨ps,c,h1,h2,h3⟩:=amapOpen h
 obtain⟨w',hr,hS⟩:=NG7 (k:=k) (k2:=k2) (ty:=ty) h3 ht hK (by rw[Du7];exact h2.ks)
 rw[NI7]at hS
 refine⟨w',hr,amapShut ?_ (h2.del k) hS⟩
 rw[Py7]
 exact Fl7 h1 k
end
end Go.Sl
end
