/-
  Maps as resources, in one's own terms.
-/
import Derived.Test.YtienbkdjkjbelaaGreatJuTM4
import Derived.Test.YtienbkdjkjbelaaGreatJuTM6
set_option maxHeartbeats 16000000
set_option maxRecDepth 100000
set_option linter.unusedSimpArgs false
set_option linter.unusedVariables false
section
namespace Go.Sl
open Go.RowKit
def bq4{κ:Type}[DecidableEq κ](k:κ):List (κ×Value×Nat)->Nat->Option (Nat×Value)
 | [],_=>none
 | x::l,i=>if k=x.1 then some (i,x.2.1)else bq4 k l (i+1)
def J9{κ:Type}(ek:κ->Value)(x:κ×Value×Nat):MapEntry:=⟨ek x.1,x.2.1,x.2.2⟩
structure KeyOk(P:Program)(K:TypeId){κ:Type}[DecidableEq κ](ek:κ->Value):Prop where
 chk:∀e k w,(Instr.checkKey e 10000 K (ek k)).run P w=.ok () w
 find:∀k (l:List (κ×Value×Nat)) w,(Instr.findKey K (ek k) (l.map (J9 ek))).run P w=.ok (bq4 k l 0) w
 bits:∀k,Instr.sameBits 10000 (ek k) (ek k)=true
section
variable{κ:Type}[DecidableEq κ]
theorem EB7{k:κ}:∀(l:List (κ×Value×Nat)) (i:Nat),(∀x∈l,x.1≠k)->bq4 k l i=none
 | [],_,_=>rfl
 | x::l,i,h=>by rw[bq4,if_neg (fun e=>h x (List.mem_cons_self ..) e.symm)];exact EB7 l (i+1) fun y hy=>h y (List.mem_cons_of_mem _ hy)
theorem EC7{k:κ}{v:Value}{s:Nat}:∀(l:List (κ×Value×Nat)) (i:Nat),(l.map (·.1)).Nodup->(k,v,s)∈l->∃j, ∃h:j<l.length,l[j]=(k,v,s)/\bq4 k l i=some (i+j,v)
 | x::l,i,hn,hm=>by
  rw[List.map_cons,List.nodup_cons]at hn;by_cases hk:k=x.1
  ·have hx:x=(k,v,s):=by
    rcases List.mem_cons.1 hm with h|h
    ·exact h.symm
    ·exact absurd (List.mem_map.2 ⟨_,h,hk⟩) hn.1
   exact⟨0,Nat.succ_pos _,hx,by rw[bq4,if_pos hk,hx];rfl⟩
  ·have hm':(k,v,s)∈l:=by
    rcases List.mem_cons.1 hm with h|h
    ·exact absurd (by rw[<-h]) hk
    ·exact h
   obtain⟨j,hj,h1,h2⟩:=EC7 l (i+1) hn.2 hm';exact⟨j+1,by simpa using hj,h1,by rw[bq4,if_neg hk,h2,show i+1+j=i+(j+1)by omega]⟩
theorem Di7{kd:TypeDesc}{ek:κ->Value}(h:∀a b,Instr.sameNow kd (ek a) (ek b)=some (decide (a=b)))(k:κ):∀(l:List (κ×Value×Nat)) (i:Nat),Instr.findNow kd (ek k) (l.map (J9 ek)) i=some (bq4 k l i)
 | [],_=>rfl
 | x::l,i=>by
  have e:(J9 ek x).key=ek x.1:=rfl;rw[List.map_cons,Instr.findNow,e,h,bq4];by_cases hk:k=x.1
  ·rw[decide_eq_true hk,if_pos hk];rfl
  ·rw[decide_eq_false hk,if_neg hk];exact Di7 h k l (i+1)
variable{P:Program}{K:TypeId}{kd:TypeDesc}{ek:κ->Value}
theorem KeyOk.plain(hK:P.underlying K=some kd)(hkd:cJ4 kd=true)(h:∀a b,Instr.sameNow kd (ek a) (ek b)=some (decide (a=b)))(hb:∀k,Instr.sameBits 10000 (ek k) (ek k)=true):KeyOk P K ek:=
 ⟨fun e k w=>GY7 hK hkd e 9999 (ek k),fun k l w=>Io7 hK (Di7 h k l 0),hb⟩
end
theorem KeyOk.int{P:Program}{K:TypeId}(hK:P.underlying K=some (.int .i64)):KeyOk P K (fun z:Int=>.I z):=
 .plain hK rfl (fun a b=>by rw[NF7];exact congrArg some (Bool.beq_eq_decide_eq a b)) (fun k=>by simp[Instr.sameBits])
theorem KeyOk.str{P:Program}{K:TypeId}(hK:P.underlying K=some .string):KeyOk P K (fun s:ByteArray=>.string s):=
 .plain hK rfl (fun a b=>by
  rw[NG7]
  congr 1
  by_cases h:a=b
  ·subst h;rw[decide_eq_true rfl];exact(MapKept.bytes_beq _ _).2 rfl
  ·rw[decide_eq_false h]
   cases hb:a==b with
   | false=>rfl
   | true=>exact absurd ((MapKept.bytes_beq a b).1 hb) h) (fun k=>by
  show(k==k)=true
  exact(MapKept.bytes_beq _ _).2 rfl)
section
variable{κ:Type}[DecidableEq κ]{P:Program}{W w:World}{L R:List HP}{t K E:TypeId}{ek:κ->Value}
theorem GZ7{b c:Nat}{ps:List (κ×Value×Nat)}{k:κ}{z:Value}{ok:Bool}(h:St W (aZ4 b (ps.map (J9 ek)) c::L) w)(ht:E8 P t=some (K,E))(hK:KeyOk P K ek)(hz:E9 P E=some z)(hn:∀x∈ps,x.1≠k):
  (Instr.lookup t (.map (some b)) (ek k) ok).run P w=.ok (if ok then .tuple #[z,.bool false]else z) w:=by
 unfold Instr.lookup;have hu:=run_underlying (P:=P) (Bt7 ht) w
 cases ok <;> simp[hu,CU7 h,hK.chk,hK.find,EB7 ps 0 hn,Lo7 hz]
theorem Ha7{b c:Nat}{ps:List (κ×Value×Nat)}{k:κ}{v:Value}{s:Nat}{ok:Bool}(h:St W (aZ4 b (ps.map (J9 ek)) c::L) w)(ht:E8 P t=some (K,E))(hK:KeyOk P K ek)(hn:(ps.map (·.1)).Nodup)(hm:(k,v,s)∈ps):
  (Instr.lookup t (.map (some b)) (ek k) ok).run P w=.ok (if ok then .tuple #[v,.bool true]else v) w:=by
 unfold Instr.lookup;have hu:=run_underlying (P:=P) (Bt7 ht) w;obtain⟨j,hj,h1,h2⟩:=EC7 ps 0 hn hm
 cases ok <;> simp[hu,CU7 h,hK.chk,hK.find,h2]
theorem Hb7{b c:Nat}{ps:List (κ×Value×Nat)}{k:κ}{v:Value}(h:St W (aZ4 b (ps.map (J9 ek)) c::L) w)(ht:E8 P t=some (K,E))(hK:KeyOk P K ek)(hn:∀x∈ps,x.1≠k):
  ∃w',(Instr.mapUpdate t (.map (some b)) (ek k) v).run P w=.ok () w'/\St W (aZ4 b ((ps++[(k,v,c)]).map (J9 ek)) (c+1)::L) w':=by
 refine⟨_,?_,h.setMap⟩;unfold Instr.mapUpdate;have hu:=run_underlying (P:=P) (Bt7 ht) w;have hs:=MapKept.run_setObj_map (P:=P) (.map (ps.map (J9 ek)++[(⟨ek k,v,c⟩:MapEntry)]).toArray (c+1)) (h.get (b:=b) .head);have e:(ps.map (J9 ek)).toArray.push (⟨ek k,v,c⟩:MapEntry)=(ps.map (J9 ek)++[(⟨ek k,v,c⟩:MapEntry)]).toArray:=by simp
 have e2:(ps++[(k,v,c)]).map (J9 ek)=ps.map (J9 ek)++[(⟨ek k,v,c⟩:MapEntry)]:=by rw[List.map_append];rfl
 rw[e2];simp only[hu,Sem.run_bind,Result.andThen_ok,CU7 h,hK.chk,hK.find,EB7 ps 0 hn,e,hs]
def cK4(ps:List (κ×Value×Nat))(k:κ)(v:Value):List (κ×Value×Nat):=ps.map fun x=>if x.1=k then(x.1,v,x.2.2)else x
theorem FR7{k:κ}{v:Value}:∀(ps:List (κ×Value×Nat)),k∉ps.map (·.1)->cK4 ps k v=ps
 | [],_=>rfl
 | x::ps,h=>by
  have hx:x.1≠k:=fun e=>h (by rw[List.map_cons,e];exact List.mem_cons_self ..)
  have:=FR7 (k:=k) (v:=v) ps (fun e=>h (List.mem_cons_of_mem _ e));unfold cK4 at this ⊢;rw[List.map_cons,if_neg hx,this]
theorem Lr7{k:κ}{v u:Value}{s:Nat}:∀(ps:List (κ×Value×Nat)) (j:Nat) (hj:j<ps.length),(ps.map (·.1)).Nodup->ps[j]=(k,u,s)->cK4 ps k v=ps.set j (k,v,s)
 | x::ps,0,_,hn,hx=>by have hx':x=(k,u,s):=hx;rw[List.map_cons,List.nodup_cons,hx']at hn;have:=FR7 (v:=v) ps hn.1;unfold cK4 at this ⊢;rw[List.map_cons,this,hx',if_pos rfl];rfl
 | x::ps,j+1,hj,hn,hx=>by
  rw[List.map_cons,List.nodup_cons]at hn;have hj':j<ps.length:=by simpa using hj
  have hx':ps[j]=(k,u,s):=hx;have hne:x.1≠k:=fun e=>hn.1 (List.mem_map.2 ⟨ps[j],jW _,by rw[hx',e]⟩)
  have:=Lr7 (v:=v) ps j hj' hn.2 hx';unfold cK4 at this ⊢;rw[List.map_cons,if_neg hne,this];rfl
theorem Iq7{b c:Nat}{ps:List (κ×Value×Nat)}{k:κ}{u v:Value}{s:Nat}(h:St W (aZ4 b (ps.map (J9 ek)) c::L) w)(ht:E8 P t=some (K,E))(hK:KeyOk P K ek)(hn:(ps.map (·.1)).Nodup)(hm:(k,u,s)∈ps):
  ∃w',(Instr.mapUpdate t (.map (some b)) (ek k) v).run P w=.ok () w'/\St W (aZ4 b ((cK4 ps k v).map (J9 ek)) c::L) w':=by
 obtain⟨j,hj,h1,h2⟩:=EC7 ps 0 hn hm;rw[Nat.zero_add]at h2;have e2:(cK4 ps k v).map (J9 ek)=(ps.map (J9 ek)).set j ⟨ek k,v,s⟩:=by rw[Lr7 ps j hj hn h1,List.map_set];rfl
 have e:(ps.map (J9 ek)).modify j (fun e=>{ e with key:=ek k,val:=v })=(ps.map (J9 ek)).set j ⟨ek k,v,s⟩:=by
  apply List.ext_getElem?;intro i;rw[List.getElem?_modify,List.getElem?_set];by_cases hi:j=i
  ·subst hi;simp[hj,h1,J9]
  ·simp[hi]
 refine⟨_,?_,h.setMap⟩;rw[e2];unfold Instr.mapUpdate;have hu:=run_underlying (P:=P) (Bt7 ht) w;have hks:(Instr.keyThatStays (ek k) (ek k)).run P w=.ok (ek k) w:=by unfold Instr.keyThatStays;simp[hK.bits]
 have hkk:((ps.map (J9 ek)).toArray[j]?).map (·.key)=some (ek k):=by simp[hj,h1,J9]
 have hkj:(J9 ek ps[j]).key=ek k:=by rw[h1];rfl
 simp[hu,CU7 h,hK.chk,hK.find,h2,hj,hkj,hks];rw[e];exact MapKept.run_setObj_map (P:=P) (.map ((ps.map (J9 ek)).set j ⟨ek k,v,s⟩).toArray c) (h.get (b:=b) .head)
theorem Es7{α β:Type}(f:α->β):∀(l:List α) (j:Nat),(l.map f).eraseIdx j=(l.eraseIdx j).map f
 | [],_=>by simp
 | x::l,0=>rfl
 | x::l,j+1=>by simp[Es7 f l j]
def cS4(ps:List (κ×Value×Nat))(k:κ):List (κ×Value×Nat):=ps.filter fun x=>decide (x.1≠k)
theorem FS7{k:κ}{ps:List (κ×Value×Nat)}(h:∀x∈ps,x.1≠k):cS4 ps k=ps:=List.filter_eq_self.2 fun x hx=>by simpa using h x hx
theorem Ls7{k:κ}{u:Value}{s:Nat}:∀(ps:List (κ×Value×Nat)) (j:Nat) (hj:j<ps.length),(ps.map (·.1)).Nodup->ps[j]=(k,u,s)->cS4 ps k=ps.eraseIdx j
 | x::ps,0,_,hn,hx=>by
  have hx':x=(k,u,s):=hx;rw[List.map_cons,List.nodup_cons,hx']at hn;have h1:cS4 ps k=ps:=FS7 fun y hy e=>hn.1 (List.mem_map.2 ⟨y,hy,e⟩)
  unfold cS4 at h1 ⊢;rw[List.filter_cons,hx',if_neg (by simp),h1];rfl
 | x::ps,j+1,hj,hn,hx=>by
  rw[List.map_cons,List.nodup_cons]at hn;have hj':j<ps.length:=by simpa using hj
  have hx':ps[j]=(k,u,s):=hx;have hne:x.1≠k:=fun e=>hn.1 (List.mem_map.2 ⟨ps[j],jW _,by rw[hx',e]⟩)
  have:=Ls7 ps j hj' hn.2 hx';unfold cS4 at this ⊢;rw[List.filter_cons,if_pos (by simpa using hne),this];rfl
theorem NI7{b c:Nat}{ps:List (κ×Value×Nat)}{k:κ}{k2 ty:TypeId}(h:St W (aZ4 b (ps.map (J9 ek)) c::L) w)(ht:E8 P t=some (K,E))(hK:KeyOk P K ek)(hn:(ps.map (·.1)).Nodup):
  ∃w',(Builtin.delete_ #[t,k2] ty #[.map (some b),ek k]).run P w=.ok (.tuple #[]) w'/\St W (aZ4 b ((cS4 ps k).map (J9 ek)) c::L) w':=by
 have hu:=run_underlying (P:=P) (Bt7 ht) w;by_cases hk:∃x∈ps,x.1=k
 ·obtain⟨⟨k',v,s⟩,hx,rfl⟩:=hk;obtain⟨j,hj,h1,h2⟩:=EC7 ps 0 hn hx;rw[Nat.zero_add]at h2;refine⟨_,?_,h.setMap⟩;rw[Ls7 ps j hj hn h1];unfold Builtin.delete_;have hs:=MapKept.run_setObj_map (P:=P) (.map ((ps.eraseIdx j).map (J9 ek)).toArray c) (h.get (b:=b) .head);have e:(ps.map (J9 ek)).eraseIdx j=(ps.eraseIdx j).map (J9 ek):=Es7 (J9 ek) ps j;simp[hu,CU7 h,hK.chk,hK.find,h2,e,hs]
 ·have hn':∀x∈ps,x.1≠k:=fun x hx e=>hk ⟨x,hx,e⟩
  refine⟨_,?_,h.setMap⟩;rw[FS7 hn'];unfold Builtin.delete_;have hs:=MapKept.run_setObj_map (P:=P) (.map (ps.map (J9 ek)).toArray c) (h.get (b:=b) .head);simp[hu,CU7 h,hK.chk,hK.find,EB7 ps 0 hn',hs]
end
end Go.Sl
end
section
namespace Go.Sl
open Go.RowKit
section
variable{κ ν:Type}
def evs(ev:ν->Value)(x:κ×ν×Nat):κ×Value×Nat:=(x.1,ev x.2.1,x.2.2)
def prj(x:κ×ν×Nat):κ×ν:=(x.1,x.2.1)
structure Good(ps:List (κ×ν×Nat))(c:Nat):Prop where
 st:(ps.map (·.2.2)).Nodup
 old:∀x∈ps,x.2.2<c
 ks:(ps.map (·.1)).Nodup
def cT4(ek:κ->Value)(ev:ν->Value)(b:Nat)(ps:List (κ×ν×Nat))(c:Nat):HP:=aZ4 b ((ps.map (evs ev)).map (J9 ek)) c
def d9(ek:κ->Value)(ev:ν->Value)(b:Nat)(l:List (κ×ν)):HP:=fun f=>∃q:List (κ×ν×Nat)×Nat,((q.1.map prj).Perm l/\Good q.1 q.2)/\cT4 ek ev b q.1 q.2 f
def dH4(l todo:List (κ×ν))(ps:List (κ×ν×Nat))(c since c0:Nat)(seen:Array Nat):Prop:=
 (ps.map prj).Perm l/\Good ps since/\since<=c0/\since<=c/\((ps.filter fun x=>decide (x.2.2∉seen)).map prj).Perm todo
structure ItQ(κ ν:Type) where
 ps:List (κ×ν×Nat)
 c:Nat
 since:Nat
 c0:Nat
 seen:Array Nat
def itR(ek:κ->Value)(ev:ν->Value)(r b:Nat)(l todo:List (κ×ν)):HP:=fun f=>∃q:ItQ κ ν,dH4 l todo q.ps q.c q.since q.c0 q.seen/\sep (bH4 r b q.since q.seen q.c0) (cT4 ek ev b q.ps q.c) f
def dx4(ek:κ->Value)(ev:ν->Value)(r b:Nat)(l todo:List (κ×ν))(x:κ×ν):HP:=fun f=>∃q:ItQ κ ν,(dH4 l todo q.ps q.c q.since q.c0 q.seen/\q.c0=q.c/\∃(s:Nat) (seen':Array Nat),q.seen=seen'.push s/\(x.1,x.2,s)∈q.ps)/\sep (bH4 r b q.since q.seen q.c0) (cT4 ek ev b q.ps q.c) f
theorem Jq7(ps:List (κ×ν×Nat)):(ps.map prj).map (·.1)=ps.map (·.1):=by rw[List.map_map];rfl
theorem Dj7(ev:ν->Value)(ps:List (κ×ν×Nat)):(ps.map (evs ev)).map (·.1)=ps.map (·.1):=by rw[List.map_map];rfl
theorem Lt7{ev:ν->Value}{ps:List (κ×ν×Nat)}{k:κ}{v:ν}{s:Nat}(h:(k,v,s)∈ps):(k,ev v,s)∈ps.map (evs ev):=List.mem_map.2 ⟨_,h,rfl⟩
theorem Lu7{ps:List (κ×ν×Nat)}{l:List (κ×ν)}{x:κ×ν}(hp:(ps.map prj).Perm l)(hx:x∈l):∃s,(x.1,x.2,s)∈ps:=by obtain⟨⟨k,v,s⟩,hy,rfl⟩:=List.mem_map.1 (hp.mem_iff.2 hx);exact⟨s,hy⟩
theorem Pm7{ev:ν->Value}{ps:List (κ×ν×Nat)}{l:List (κ×ν)}{k:κ}(hp:(ps.map prj).Perm l)(hk:∀x∈l,x.1≠k):∀x∈ps.map (evs ev),x.1≠k:=by intro x hx;obtain⟨y,hy,rfl⟩:=List.mem_map.1 hx;exact hk (prj y) (hp.mem_iff.1 (List.mem_map_of_mem hy))
theorem Cl7{α β:Type}{f:α->β}{p:α->Bool}{l:List α}(h:(l.map f).Nodup):((l.filter p).map f).Nodup:=h.sublist (List.filter_sublist.map f)
theorem Good.new{ps:List (κ×ν×Nat)}{c:Nat}(h:Good ps c){k:κ}{v:ν}(hk:∀x∈ps,x.1≠k):Good (ps++[(k,v,c)]) (c+1):=
 ⟨by
  rw[List.map_append,List.nodup_append];refine⟨h.st,by simp,fun a ha b hb=>?_⟩;obtain⟨x,hx,rfl⟩:=List.mem_map.1 ha;obtain rfl:b=c:=by simpa using hb
  have:=h.old x hx;omega,fun x hx=>by
  rcases List.mem_append.1 hx with h1|h1
  ·have:=h.old x h1;omega
  ·obtain rfl:=List.mem_singleton.1 h1;exact Nat.lt_succ_self c,by
  rw[List.map_append,List.nodup_append];refine⟨h.ks,by simp,fun a ha b hb=>?_⟩;obtain⟨x,hx,rfl⟩:=List.mem_map.1 ha;obtain rfl:b=k:=by simpa using hb
  exact hk x hx⟩
variable{W w:World}{L:List HP}{ek:κ->Value}{ev:ν->Value}{b r:Nat}{l l' todo:List (κ×ν)}
theorem aw4(h:St W (d9 ek ev b l::L) w):∃ps c,(ps.map prj).Perm l/\Good ps c/\St W (cT4 ek ev b ps c::L) w:=by obtain⟨⟨ps,c⟩,h⟩:=St.ex h;obtain⟨⟨h1,h2⟩,h3⟩:=St.and h;exact⟨ps,c,h1,h2,h3⟩
theorem ba4{ps:List (κ×ν×Nat)}{c:Nat}(hp:(ps.map prj).Perm l)(hg:Good ps c)(h:St W (cT4 ek ev b ps c::L) w):St W (d9 ek ev b l::L) w:=
 h.imp fun _ hf=>⟨(ps,c),⟨hp,hg⟩,hf⟩
theorem dI4(hp:l.Perm l')(h:St W (d9 ek ev b l::L) w):St W (d9 ek ev b l'::L) w:=by obtain⟨ps,c,h1,h2,h3⟩:=aw4 h;exact ba4 (h1.trans hp) h2 h3
theorem H7(h:St W (d9 ek ev b l::L) w):(l.map (·.1)).Nodup:=by obtain⟨ps,c,h1,h2,h3⟩:=aw4 h;have:=h2.ks;rw[<-Jq7]at this;exact(h1.map (·.1)).nodup_iff.1 this
theorem dh4(h:St W (itR ek ev r b l todo::L) w):∃q:ItQ κ ν,dH4 l todo q.ps q.c q.since q.c0 q.seen/\St W (bH4 r b q.since q.seen q.c0::cT4 ek ev b q.ps q.c::L) w:=by obtain⟨q,h⟩:=St.ex h;obtain⟨h1,h2⟩:=St.and h;exact⟨q,h1,h2.split⟩
theorem eL4{q:ItQ κ ν}(hq:dH4 l todo q.ps q.c q.since q.c0 q.seen)(h:St W (bH4 r b q.since q.seen q.c0::cT4 ek ev b q.ps q.c::L) w):St W (itR ek ev r b l todo::L) w:=
 h.join.imp fun _ hf=>⟨q,hq,hf⟩
theorem ez4(h:St W (itR ek ev r b l todo::L) w):St W (d9 ek ev b l::L) w:=by obtain⟨q,⟨h1,h2,h3,h4,h5⟩,hS⟩:=dh4 h;exact ba4 h1 ⟨h2.st,fun x hx=>Nat.lt_of_lt_of_le (h2.old x hx) h4,h2.ks⟩ hS.drop
theorem eA4{x:κ×ν}(h:St W (dx4 ek ev r b l todo x::L) w):St W (itR ek ev r b l todo::L) w:=h.imp fun _ ⟨q,⟨h1,_⟩,h2⟩=>⟨q,h1,h2⟩
theorem Jr7{ps:List (κ×ν×Nat)}{e:MapEntry}(h:e∈(ps.map (evs ev)).map (J9 ek)):∃x∈ps,e=⟨ek x.1,ev x.2.1,x.2.2⟩:=by obtain⟨y,hy,rfl⟩:=List.mem_map.1 h;obtain⟨x,hx,rfl⟩:=List.mem_map.1 hy;exact⟨x,hx,rfl⟩
theorem Js7{ps:List (κ×ν×Nat)}{x:κ×ν×Nat}(h:x∈ps):(⟨ek x.1,ev x.2.1,x.2.2⟩:MapEntry)∈(ps.map (evs ev)).map (J9 ek):=List.mem_map.2 ⟨_,List.mem_map.2 ⟨x,h,rfl⟩,rfl⟩
theorem Ir7{ps:List (κ×ν×Nat)}{x:κ×ν×Nat}{seen:Array Nat}(hst:(ps.map (·.2.2)).Nodup)(hx:x∈ps)(hn:x.2.2∉seen):
  (ps.filter fun y=>decide (y.2.2∉seen)).Perm (x::ps.filter fun y=>decide (y.2.2∉seen.push x.2.2)):=by
 induction ps with
 | nil=>cases hx
 | cons y ps ih=>
  rw[List.map_cons,List.nodup_cons]at hst;by_cases hxy:x=y
  ·subst hxy;have e1:List.filter (fun y=>decide (y.2.2∉seen)) (x::ps)=x::ps.filter (fun y=>decide (y.2.2∉seen)):=by rw[List.filter_cons,if_pos (by simpa using hn)]
   have e2:List.filter (fun y=>decide (y.2.2∉seen.push x.2.2)) (x::ps)=ps.filter (fun y=>decide (y.2.2∉seen)):=by
    rw[List.filter_cons,if_neg (by simp)];refine List.filter_congr fun z hz=>?_
    have:z.2.2≠x.2.2:=fun e=>hst.1 (List.mem_map.2 ⟨z,hz,e⟩)
    simp[this]
   rw[e1,e2]
  ·have hx':x∈ps:=(List.mem_cons.1 hx).resolve_left hxy;have hne:y.2.2≠x.2.2:=fun e=>hst.1 (List.mem_map.2 ⟨x,hx',e.symm⟩)
   have ih:=ih hst.2 hx';by_cases hy:y.2.2∈seen
   ·rw[List.filter_cons,if_neg (by simpa using hy),List.filter_cons,if_neg (by simp[hy])];exact ih
   ·rw[List.filter_cons,if_pos (by simpa using hy),List.filter_cons,if_pos (by simp[hy,hne])];exact(ih.cons y).trans (List.Perm.swap _ _ _)
variable{P:Program}{t K E:TypeId}
theorem Lv7(h:St W L w):∃b w',(Instr.makeMap t none).run P w=.ok (.map (some b)) w'/\St W (d9 ek ev b []::L) w':=by obtain⟨b,w',hr,hS⟩:=Ip7 (P:=P) (t:=t) h;exact⟨b,w',hr,ba4 (ps:=[]) (c:=0) (List.Perm.refl _) ⟨List.nodup_nil,fun x hx=>(by cases hx),List.nodup_nil⟩ hS⟩
theorem FT7(h:St W (d9 ek ev b l::L) w)(ht:E8 P t=some (K,E)):
  ∃r w',(Instr.range t (.map (some b))).run P w=.ok (.P r) w'/\St W (itR ek ev r b l l::L) w':=by
 obtain⟨ps,c,h1,h2,h3⟩:=aw4 h;obtain⟨r,w',hr,hS⟩:=Lp7 (P:=P) h3 ht;refine⟨r,w',hr,eL4 (q:=⟨ps,c,c,c, #[]⟩) ⟨h1,h2,Nat.le_refl _,Nat.le_refl _,?_⟩ hS⟩;have:ps.filter (fun x=>decide (x.2.2∉(#[]:Array Nat)))=ps:=List.filter_eq_self.2 fun x _=>by simp
 rw[this];exact h1
theorem Hc7{ty:TypeId}(h:St W (itR ek ev r b l todo::L) w):
  (todo=[]/\(Instr.next (.P r) false ty).run P w=.ok (.tuple #[.bool false]) w) \/
  ∃x todo',todo.Perm (x::todo')/\x∈l/\∃w',(Instr.next (.P r) false ty).run P w=.ok (.tuple #[.bool true,ek x.1,ev x.2]) w'/\St W (dx4 ek ev r b l todo' x::L) w':=by
 obtain⟨⟨ps,c,since,c0,seen⟩,⟨h1,h2,h3,h4,h5⟩,hS⟩:=dh4 h
 rcases NH7 (P:=P) (ty:=ty) hS (fun x hx=>by obtain⟨y,hy,rfl⟩:=Jr7 hx;exact h2.old y hy) h3 with ⟨hall,hr⟩|⟨e,he,hne,w',hr,hS'⟩
 ·left
  refine⟨?_,hr⟩;have:ps.filter (fun x=>decide (x.2.2∉seen))=[]:=List.filter_eq_nil_iff.2 fun x hx=>by have:=hall _ (Js7 (ek:=ek) (ev:=ev) hx);simpa using this
  simp only[this,List.map_nil]at h5;exact List.nil_perm.1 h5
 ·right
  obtain⟨x,hx,rfl⟩:=Jr7 he;have hp:=Ir7 h2.st hx hne;have hp2:todo.Perm (prj x::(ps.filter fun y=>decide (y.2.2∉seen.push x.2.2)).map prj):=h5.symm.trans (hp.map prj);refine⟨prj x,(ps.filter fun y=>decide (y.2.2∉seen.push x.2.2)).map prj,hp2,h1.mem_iff.1 (List.mem_map_of_mem hx),w',hr,?_⟩;exact hS'.join.imp fun _ hf=>⟨⟨ps,c,since,c,seen.push x.2.2⟩,⟨⟨h1,h2,h4,h4,List.Perm.refl _⟩,rfl,x.2.2,seen,rfl,hx⟩,hf⟩
theorem FU7{x:κ×ν}(h:St W (dx4 ek ev r b l todo x::L) w):(Instr.entry (.P r)).run P w=.ok (.tuple #[ek x.1,ev x.2]) w:=by
 obtain⟨⟨ps,c,since,c0,seen⟩,h⟩:=St.ex (F:=fun(q:ItQ κ ν) f=>(dH4 l todo q.ps q.c q.since q.c0 q.seen/\q.c0=q.c/\∃(s:Nat) (seen':Array Nat),q.seen=seen'.push s/\(x.1,x.2,s)∈q.ps)/\sep (bH4 r b q.since q.seen q.c0) (cT4 ek ev b q.ps q.c) f) h;obtain⟨⟨⟨h1,h2,h3,h4,h5⟩,hc,s,seen',h6,h7⟩,h8⟩:=St.and h;simp only at hc h6;subst hc h6;have h9:=h8.split;have hst:bp4 ((ps.map (evs ev)).map (J9 ek)):=by unfold bp4;rw[List.map_map,List.map_map];exact h2.st
 exact Lq7 h9 (Js7 (ek:=ek) (ev:=ev) h7) hst
end
section
variable{κ ν:Type}[DecidableEq κ]
variable{W w:World}{L:List HP}{ek:κ->Value}{ev:ν->Value}{b r:Nat}{l l' todo:List (κ×ν)}
variable{P:Program}{t K E:TypeId}
def bX4(l:List (κ×ν))(k:κ)(v:ν):List (κ×ν):=l.map fun x=>if x.1=k then(x.1,v)else x
def i9(l:List (κ×ν))(k:κ):List (κ×ν):=l.filter fun x=>decide (x.1≠k)
theorem NJ7{ev:ν->Value}(ps:List (κ×ν×Nat))(k:κ)(v:ν):cK4 (ps.map (evs ev)) k (ev v)=(ps.map fun x=>if x.1=k then(x.1,v,x.2.2)else x).map (evs ev):=by
 unfold cK4;rw[List.map_map,List.map_map];refine List.map_congr_left fun x _=>?_
 show(if x.1=k then _ else _)=evs ev (if x.1=k then _ else _)
 by_cases h:x.1=k
 ·rw[if_pos h,if_pos h];rfl
 ·rw[if_neg h,if_neg h]
theorem NK7{ev:ν->Value}(ps:List (κ×ν×Nat))(k:κ):cS4 (ps.map (evs ev)) k=(ps.filter fun x=>decide (x.1≠k)).map (evs ev):=by unfold cS4;rw[List.filter_map];rfl
theorem PM7(ps:List (κ×ν×Nat))(k:κ)(v:ν):((ps.map fun x=>if x.1=k then(x.1,v,x.2.2)else x).map prj)=bX4 (ps.map prj) k v:=by
 unfold bX4;rw[List.map_map,List.map_map];refine List.map_congr_left fun x _=>?_
 show prj (if x.1=k then _ else _)=(if x.1=k then _ else _)
 by_cases h:x.1=k
 ·rw[if_pos h,if_pos h];rfl
 ·rw[if_neg h,if_neg h]
theorem PN7(ps:List (κ×ν×Nat))(k:κ):((ps.filter fun x=>decide (x.1≠k)).map prj)=i9 (ps.map prj) k:=by unfold i9;rw[List.filter_map];rfl
theorem Lw7{l l':List (κ×ν)}(h:l.Perm l')(k:κ)(v:ν):(bX4 l k v).Perm (bX4 l' k v):=h.map _
theorem Fb7{l l':List (κ×ν)}(h:l.Perm l')(k:κ):(i9 l k).Perm (i9 l' k):=h.filter _
theorem QX7(ps:List (κ×ν×Nat))(k:κ)(v:ν):((ps.map fun x=>if x.1=k then(x.1,v,x.2.2)else x).map (·.2.2))=ps.map (·.2.2):=by
 rw[List.map_map];refine List.map_congr_left fun x _=>?_
 show(if x.1=k then _ else _:κ×ν×Nat).2.2=x.2.2
 by_cases h:x.1=k
 ·rw[if_pos h]
 ·rw[if_neg h]
theorem QY7(ps:List (κ×ν×Nat))(k:κ)(v:ν):((ps.map fun x=>if x.1=k then(x.1,v,x.2.2)else x).map (·.1))=ps.map (·.1):=by
 rw[List.map_map];refine List.map_congr_left fun x _=>?_
 show(if x.1=k then _ else _:κ×ν×Nat).1=x.1
 by_cases h:x.1=k
 ·rw[if_pos h]
 ·rw[if_neg h]
theorem Good.set{ps:List (κ×ν×Nat)}{c:Nat}(h:Good ps c)(k:κ)(v:ν):Good (ps.map fun x=>if x.1=k then(x.1,v,x.2.2)else x) c:=
 ⟨by rw[QX7];exact h.st,fun x hx=>by
  obtain⟨y,hy,rfl⟩:=List.mem_map.1 hx;have:=h.old y hy;show(if y.1=k then _ else _:κ×ν×Nat).2.2<c
  by_cases e:y.1=k
  ·rw[if_pos e];exact this
  ·rw[if_neg e];exact this,by rw[QY7];exact h.ks⟩
theorem Good.del{ps:List (κ×ν×Nat)}{c:Nat}(h:Good ps c)(k:κ):Good (ps.filter fun x=>decide (x.1≠k)) c:=
 ⟨Cl7 h.st,fun x hx=>h.old x (List.mem_filter.1 hx).1,Cl7 h.ks⟩
theorem Hd7{x:κ×ν}{ok:Bool}(h:St W (d9 ek ev b l::L) w)(ht:E8 P t=some (K,E))(hK:KeyOk P K ek)(hx:x∈l):
  (Instr.lookup t (.map (some b)) (ek x.1) ok).run P w=.ok (if ok then .tuple #[ev x.2,.bool true]else ev x.2) w:=by
 obtain⟨ps,c,h1,h2,h3⟩:=aw4 h;obtain⟨s,hs⟩:=Lu7 h1 hx;exact Ha7 h3 ht hK (by rw[Dj7];exact h2.ks) (Lt7 hs)
theorem He7{k:κ}{z:Value}{ok:Bool}(h:St W (d9 ek ev b l::L) w)(ht:E8 P t=some (K,E))(hK:KeyOk P K ek)(hz:E9 P E=some z)(hk:∀x∈l,x.1≠k):
  (Instr.lookup t (.map (some b)) (ek k) ok).run P w=.ok (if ok then .tuple #[z,.bool false]else z) w:=by
 obtain⟨ps,c,h1,h2,h3⟩:=aw4 h;exact GZ7 h3 ht hK hz (Pm7 h1 hk)
theorem By7{k:κ}(hk:∀x∈l,x.1≠k):i9 l k=l:=List.filter_eq_self.2 fun x hx=>by simpa using hk x hx
theorem Jt7{k:κ}{u v:ν}:∀{l:List (κ×ν)},(l.map (·.1)).Nodup->(k,u)∈l->(bX4 l k v).Perm ((k,v)::i9 l k)
 | y::l,hn,hm=>by
  rw[List.map_cons,List.nodup_cons]at hn;by_cases hk:y.1=k
  ·have h0:∀x∈l,x.1≠k:=fun x hx e=>hn.1 (List.mem_map.2 ⟨x,hx,e.trans hk.symm⟩)
   have h1:bX4 l k v=l:=by unfold bX4;refine(List.map_congr_left fun x hx=>?_).trans (List.map_id l);rw[if_neg (h0 x hx)];rfl
   have h2:i9 (y::l) k=l:=by have:=By7 h0;unfold i9 at this ⊢;rw[List.filter_cons,if_neg (by simpa using hk),this]
   have h3:bX4 (y::l) k v=(k,v)::l:=by have:bX4 (y::l) k v=(if y.1=k then(y.1,v)else y)::bX4 l k v:=rfl;rw[this,h1,if_pos hk,hk]
   rw[h2,h3]
  ·have hm':(k,u)∈l:=by
    rcases List.mem_cons.1 hm with h|h
    ·exact absurd (by rw[<-h]) hk
    ·exact h
   have h2:i9 (y::l) k=y::i9 l k:=by unfold i9;rw[List.filter_cons,if_pos (by simpa using hk)]
   have h3:bX4 (y::l) k v=y::bX4 l k v:=by have:bX4 (y::l) k v=(if y.1=k then(y.1,v)else y)::bX4 l k v:=rfl;rw[this,if_neg hk]
   rw[h2,h3];exact((Jt7 hn.2 hm').cons y).trans (List.Perm.swap _ _ _)
theorem NL7{k:κ}{v:ν}(h:St W (d9 ek ev b l::L) w)(ht:E8 P t=some (K,E))(hK:KeyOk P K ek):
  ∃w',(Instr.mapUpdate t (.map (some b)) (ek k) (ev v)).run P w=.ok () w'/\St W (d9 ek ev b ((k,v)::i9 l k)::L) w':=by
 have hkl:=H7 h;obtain⟨ps,c,h1,h2,h3⟩:=aw4 h;by_cases hk:∃u,(k,u)∈l
 ·obtain⟨u,hu⟩:=hk;obtain⟨s,hs⟩:=Lu7 h1 hu;obtain⟨w',hr,hS⟩:=Iq7 (v:=ev v) h3 ht hK (by rw[Dj7];exact h2.ks) (Lt7 hs);rw[NJ7]at hS;refine⟨w',hr,ba4 ?_ (h2.set k v) hS⟩;rw[PM7];exact(Lw7 h1 k v).trans (Jt7 hkl hu)
 ·have hk':∀x∈l,x.1≠k:=fun x hx e=>hk ⟨x.2,by rw[<-e];exact hx⟩
  obtain⟨w',hr,hS⟩:=Hb7 (v:=ev v) h3 ht hK (Pm7 h1 hk');have e:ps.map (evs ev)++[(k,ev v,c)]=(ps++[(k,v,c)]).map (evs ev):=by rw[List.map_append];rfl
  rw[e]at hS;refine⟨w',hr,ba4 ?_ (h2.new fun x hx=>?_) hS⟩
  ·rw[By7 hk',List.map_append];exact(List.perm_append_comm).trans (h1.cons (k,v))
  ·exact hk' (prj x) (h1.mem_iff.1 (List.mem_map_of_mem hx))
theorem NM7{k:κ}{k2 ty:TypeId}(h:St W (d9 ek ev b l::L) w)(ht:E8 P t=some (K,E))(hK:KeyOk P K ek):
  ∃w',(Builtin.delete_ #[t,k2] ty #[.map (some b),ek k]).run P w=.ok (.tuple #[]) w'/\St W (d9 ek ev b (i9 l k)::L) w':=by
 obtain⟨ps,c,h1,h2,h3⟩:=aw4 h;obtain⟨w',hr,hS⟩:=NI7 (k:=k) (k2:=k2) (ty:=ty) h3 ht hK (by rw[Dj7];exact h2.ks);rw[NK7]at hS;refine⟨w',hr,ba4 ?_ (h2.del k) hS⟩;rw[PN7];exact Fb7 h1 k
end
end Go.Sl
end
section
namespace Go.Sl
open Go.RowKit
section
variable{κ ν:Type}
end
section
variable{κ ν:Type}[DecidableEq κ]{W w:World}{L:List HP}{ek:κ->Value}{ev:ν->Value}{b r:Nat}{l todo:List (κ×ν)}{P:Program}{t K E:TypeId}
end
section
variable{κ ν:Type}{W w:World}{L:List HP}{ek:κ->Value}{ev:ν->Value}{b r:Nat}{l todo:List (κ×ν)}{P:Program}{t K E:TypeId}
end
section
variable{κ ν:Type}{W w:World}{L R:List HP}{ek:κ->Value}{ev:ν->Value}{b r:Nat}{l todo:List (κ×ν)}{P:Program}{t K E:TypeId}{ops:Array Oper}{Q:Exit->Act->World->Prop}{a:Act}{rest:List Oper}{o:Oper}
theorem CC7(ek:κ->Value)(ev:ν->Value)(hS:St W L w)(ho:o.op=.makeMap t none)(hg:Region.wanted o (yielded ops a.tmps)=true)
  (h:∀b w',St W (d9 ek ev b []::L) w'->wpList P ops Q rest (a.put o.dst (.map (some b))) w'):wpList P ops Q (o::rest) a w:=by
 obtain⟨b,w',hr,hS'⟩:=Lv7 (P:=P) (t:=t) (ek:=ek) (ev:=ev) hS;refine Am7 hg (v:=.map (some b)) (w':=w') ?_ (h b w' hS');unfold execOp;simp[ho,hr]
theorem Lx7{x:Operand}(hS:St W L w)(ho:o.op=.range t x)(hg:Region.wanted o (yielded ops a.tmps)=true)(hx:a.eval x=.map (some b))(ht:E8 P t=some (K,E))(hu:Take L (d9 ek ev b l) R)
  (h:∀r w',St W (itR ek ev r b l l::R) w'->wpList P ops Q rest (a.put o.dst (.P r)) w'):wpList P ops Q (o::rest) a w:=by
 obtain⟨r,w',hr,hS'⟩:=FT7 (P:=P) (hS.take hu) ht;refine Am7 hg (v:=.P r) (w':=w') ?_ (h r w' hS');unfold execOp;simp[ho,hx,hr]
theorem Ju7{x:Operand}(hS:St W L w)(ho:o.op=.next x false)(hg:Region.wanted o (yielded ops a.tmps)=true)(hx:a.eval x=.P r)(hu:Take L (itR ek ev r b l todo) R)
  (h0:todo=[]->wpList P ops Q rest (a.put o.dst (.tuple #[.bool false])) w)
  (h1:∀y todo',todo.Perm (y::todo')->y∈l->∀w',St W (dx4 ek ev r b l todo' y::R) w'->wpList P ops Q rest (a.put o.dst (.tuple #[.bool true,ek y.1,ev y.2])) w'):wpList P ops Q (o::rest) a w:=by
 rcases Hc7 (P:=P) (ty:=o.type) (hS.take hu)with ⟨h2,hr⟩|⟨y,todo',hp,hy,w',hr,hS'⟩
 ·refine Am7 hg (v:=.tuple #[.bool false]) (w':=w) ?_ (h0 h2);unfold execOp;simp[ho,hx,hr]
 ·refine Am7 hg (v:=.tuple #[.bool true,ek y.1,ev y.2]) (w':=w') ?_ (h1 y todo' hp hy w' hS');unfold execOp;simp[ho,hx,hr]
theorem Ly7{x:Operand}{y:κ×ν}(hS:St W L w)(ho:o.op=.entry x)(hg:Region.wanted o (yielded ops a.tmps)=true)(hx:a.eval x=.P r)(hu:Take L (dx4 ek ev r b l todo y) R)
  (h:St W (itR ek ev r b l todo::R) w->wpList P ops Q rest (a.put o.dst (.tuple #[ek y.1,ev y.2])) w):wpList P ops Q (o::rest) a w:=by
 refine Am7 hg (v:=.tuple #[ek y.1,ev y.2]) (w':=w) ?_ (h (eA4 (hS.take hu)));unfold execOp;simp[ho,hx,FU7 (hS.take hu)]
theorem Lz7{x:Operand}(hS:St W L w)(ho:o.op=.next x false)(hg:Region.wanted o (yielded ops a.tmps)=true)(hx:a.eval x=.P r)(hu:Take L (itR ek ev r b l todo) R)(ht:todo=[])
  (h0:wpList P ops Q rest (a.put o.dst (.tuple #[.bool false])) w):wpList P ops Q (o::rest) a w:=
 Ju7 hS ho hg hx hu (fun _=>h0) (fun y todo' hp _ _ _=>by rw[ht]at hp;exact absurd hp.length_eq (by simp))
theorem LA7{x:Operand}(hS:St W L w)(ho:o.op=.next x false)(hg:Region.wanted o (yielded ops a.tmps)=true)(hx:a.eval x=.P r)(hu:Take L (itR ek ev r b l todo) R)(ht:todo≠[])
  (h1:∀y todo',todo.Perm (y::todo')->y∈l->∀w',St W (dx4 ek ev r b l todo' y::R) w'->wpList P ops Q rest (a.put o.dst (.tuple #[.bool true,ek y.1,ev y.2])) w'):wpList P ops Q (o::rest) a w:=
 Ju7 hS ho hg hx hu (fun h=>absurd h ht) h1
def cL4(r b:Nat)(w:World):Nat:=match w.heap[r]?,w.heap[b]? with
 | some (.mapIter _ _ seen _),some (.map es _)=>(es.toList.filter fun e=>decide (e.born∉seen)).length
 | _,_=>0
theorem Dk7(h:St W (itR ek ev r b l todo::L) w):cL4 r b w=todo.length:=by
 obtain⟨⟨ps,c,since,c0,seen⟩,⟨h1,h2,h3,h4,h5⟩,hS⟩:=dh4 h;have e1:=hS.get (b:=r) .head;have e2:=hS.get (b:=b) (.tail .head);unfold cL4;rw[e1,e2]
 have e3:(((ps.map (evs ev)).map (J9 ek)).toArray.toList.filter fun e=>decide (e.born∉seen)).length=(ps.filter fun x=>decide (x.2.2∉seen)).length:=by
  show(((ps.map (evs ev)).map (J9 ek)).filter _).length=_
  rw[List.map_map,List.filter_map,jM];rfl
 have e4:=h5.length_eq;rw[jM]at e4;exact e3.trans e4
variable[DecidableEq κ]
def ad4(ok:Bool)(z:Value):Option Value->Value
 | some v=>if ok then .tuple #[v,.bool true]else v
 | none=>if ok then .tuple #[z,.bool false]else z
def j6(l:List (κ×ν))(k:κ):Option ν:=(l.find? fun x=>decide (x.1=k)).map (·.2)
theorem Bz7{k:κ}(h:j6 l k=none):∀x∈l,x.1≠k:=by unfold j6 at h;rw[Option.map_eq_none_iff,List.find?_eq_none]at h;intro x hx;simpa using h x hx
theorem AE7{k:κ}{v:ν}(h:j6 l k=some v):(k,v)∈l:=by unfold j6 at h;obtain⟨x,hx,rfl⟩:=Option.map_eq_some_iff.1 h;have h1:=List.find?_some hx;have h2:=List.mem_of_find?_eq_some hx;simp only[decide_eq_true_eq]at h1;rw[<-h1];exact h2
theorem Gn7{k:κ}(h:∀x∈l,x.1≠k):j6 l k=none:=by unfold j6;rw[Option.map_eq_none_iff,List.find?_eq_none];intro x hx;simpa using h x hx
theorem Cr7{k:κ}{v:ν}(hn:(l.map (·.1)).Nodup)(h:(k,v)∈l):j6 l k=some v:=by
 induction l with
 | nil=>cases h
 | cons x l ih=>
  rw[List.map_cons,List.nodup_cons]at hn;unfold j6 at ih ⊢
  rcases List.mem_cons.1 h with h1|h1
  ·subst h1;simp
  ·have hx:x.1≠k:=fun e=>hn.1 (List.mem_map.2 ⟨_,h1,e.symm⟩)
   rw[List.find?_cons_of_neg (by simpa using hx)];exact ih hn.2 h1
theorem AF7{l l':List (κ×ν)}(hn:(l.map (·.1)).Nodup)(hp:l.Perm l')(k:κ):j6 l k=j6 l' k:=by
 cases h:j6 l k with
 | some v=>exact(Cr7 ((hp.map (·.1)).nodup_iff.1 hn) (hp.mem_iff.1 (AE7 h))).symm
 | none=>exact(Gn7 fun x hx=>Bz7 h x (hp.mem_iff.2 hx)).symm
theorem Dl7{k:κ}{z:Value}{ok:Bool}(h:St W (d9 ek ev b l::L) w)(ht:E8 P t=some (K,E))(hK:KeyOk P K ek)(hz:E9 P E=some z):
  (Instr.lookup t (.map (some b)) (ek k) ok).run P w=.ok (ad4 ok z ((j6 l k).map ev)) w:=by
 cases hg:j6 l k with
 | some v=>exact Hd7 (x:=(k,v)) h ht hK (AE7 hg)
 | none=>exact He7 h ht hK hz (Bz7 hg)
theorem Dm7{x y:Operand}{k:κ}{z:Value}{ok:Bool}(hS:St W L w)(ho:o.op=.lookup t x y ok)(hg:Region.wanted o (yielded ops a.tmps)=true)(hx:a.eval x=.map (some b))(hy:a.eval y=ek k)(hu:Take L (d9 ek ev b l) R)
  (ht:E8 P t=some (K,E)) (hK:KeyOk P K ek) (hz:E9 P E=some z) (h:wpList P ops Q rest (a.put o.dst (ad4 ok z ((j6 l k).map ev))) w):wpList P ops Q (o::rest) a w:=by
 refine Am7 hg (w':=w) ?_ h;unfold execOp;simp[ho,hx,hy,Dl7 (hS.take hu) ht hK hz]
theorem Dn7{x y:Operand}{k:κ}{u:ν}{z:Value}(hS:St W L w)(ho:o.op=.lookup t x y false)(hg:Region.wanted o (yielded ops a.tmps)=true)(hx:a.eval x=.map (some b))(hy:a.eval y=ek k)(hu:Take L (d9 ek ev b l) R)
  (ht:E8 P t=some (K,E)) (hK:KeyOk P K ek) (hz:E9 P E=some z) (hgl:j6 l k=some u) (h:wpList P ops Q rest (a.put o.dst (ev u)) w):wpList P ops Q (o::rest) a w:=
 Dm7 hS ho hg hx hy hu ht hK hz (by rw[hgl];exact h)
theorem Fc7{x y:Operand}{k:κ}{z:Value}(hS:St W L w)(ho:o.op=.lookup t x y false)(hg:Region.wanted o (yielded ops a.tmps)=true)(hx:a.eval x=.map (some b))(hy:a.eval y=ek k)(hu:Take L (d9 ek ev b l) R)
  (ht:E8 P t=some (K,E)) (hK:KeyOk P K ek) (hz:E9 P E=some z) (hgl:j6 l k=none) (h:wpList P ops Q rest (a.put o.dst z) w):wpList P ops Q (o::rest) a w:=
 Dm7 hS ho hg hx hy hu ht hK hz (by rw[hgl];exact h)
theorem DW7{x y:Operand}{k:κ}{u:ν}{z:Value}(hS:St W L w)(ho:o.op=.lookup t x y true)(hg:Region.wanted o (yielded ops a.tmps)=true)(hx:a.eval x=.map (some b))(hy:a.eval y=ek k)(hu:Take L (d9 ek ev b l) R)
  (ht:E8 P t=some (K,E)) (hK:KeyOk P K ek) (hz:E9 P E=some z) (hgl:j6 l k=some u) (h:wpList P ops Q rest (a.put o.dst (.tuple #[ev u,.bool true])) w):wpList P ops Q (o::rest) a w:=
 Dm7 hS ho hg hx hy hu ht hK hz (by rw[hgl];exact h)
theorem FV7{x y:Operand}{k:κ}{z:Value}(hS:St W L w)(ho:o.op=.lookup t x y true)(hg:Region.wanted o (yielded ops a.tmps)=true)(hx:a.eval x=.map (some b))(hy:a.eval y=ek k)(hu:Take L (d9 ek ev b l) R)
  (ht:E8 P t=some (K,E)) (hK:KeyOk P K ek) (hz:E9 P E=some z) (hgl:j6 l k=none) (h:wpList P ops Q rest (a.put o.dst (.tuple #[z,.bool false])) w):wpList P ops Q (o::rest) a w:=
 Dm7 hS ho hg hx hy hu ht hK hz (by rw[hgl];exact h)
theorem BA7{x y v:Operand}{k:κ}{u:ν}(hS:St W L w)(ho:o.op=.mapUpdate t x y v)(hg:Region.wanted o (yielded ops a.tmps)=true)(hx:a.eval x=.map (some b))(hy:a.eval y=ek k)(hu:Take L (d9 ek ev b l) R)(hv:a.eval v=ev u)
  (ht:E8 P t=some (K,E)) (hK:KeyOk P K ek) (h:∀w',St W (d9 ek ev b ((k,u)::i9 l k)::R) w'->wpList P ops Q rest (a.put o.dst undef) w'):wpList P ops Q (o::rest) a w:=by
 obtain⟨w',hr,hS'⟩:=NL7 (P:=P) (k:=k) (v:=u) (hS.take hu) ht hK;refine BT7 hg (w':=w') ?_ (h w' hS');unfold execOp;simp[ho,hx,hy,hv,hr]
theorem Is7{x y:Operand}{k:κ}{k2:TypeId}(hS:St W L w)(ho:o.op=.call { callee:=.builtin .delete,args:=#[x,y],argTypes:=#[t,k2] })(hg:Region.wanted o (yielded ops a.tmps)=true)(hx:a.eval x=.map (some b))(hy:a.eval y=ek k)(hu:Take L (d9 ek ev b l) R)
  (ht:E8 P t=some (K,E)) (hK:KeyOk P K ek) (h:∀w',St W (d9 ek ev b (i9 l k)::R) w'->wpList P ops Q rest (a.put o.dst (.tuple #[])) w'):wpList P ops Q (o::rest) a w:=by
 obtain⟨w',hr,hS'⟩:=NM7 (P:=P) (k:=k) (k2:=k2) (ty:=o.type) (hS.take hu) ht hK;refine Am7 hg (v:=.tuple #[]) (w':=w') ?_ (h w' hS');unfold execOp;simp[ho,resolve,invoke,builtin,hx,hy,hr]
end
end Go.Sl
end
