/-
  Maps as resources, in one's own terms.
-/
import Derived.Test.YtienbkdjkjbelaaGreatJuA2M3
import Derived.Test.YtienbkdjkjbelaaGreatJuA2M4
import Derived.Test.YtienbkdjkjbelaaGreatJuA2M5
import Derived.Test.YtienbkdjkjbelaaGreatJuA2M6
set_option maxHeartbeats 16000000
set_option maxRecDepth 100000
set_option linter.unusedSimpArgs false
set_option linter.unusedVariables false
section
namespace Go.Sl
open Go.RowKit
def aR4{κ:Type}[DecidableEq κ](k:κ):List (κ×Value×Nat)->Nat->Option (Nat×Value)
 | [],_=>none
 | x::l,i=>if k=x.1 then some (i,x.2.1)else aR4 k l (i+1)
def I7{κ:Type}(ek:κ->Value)(x:κ×Value×Nat):MapEntry:=⟨ek x.1,x.2.1,x.2.2⟩
structure KeyOk(P:Program)(K:TypeId){κ:Type}[DecidableEq κ](ek:κ->Value):Prop where
 chk:∀e k w,(Instr.checkKey e 10000 K (ek k)).run P w=.ok () w
 find:∀k (l:List (κ×Value×Nat)) w,(Instr.findKey K (ek k) (l.map (I7 ek))).run P w=.ok (aR4 k l 0) w
 bits:∀k,Instr.sameBits 10000 (ek k) (ek k)=true
section
variable{κ:Type}[DecidableEq κ]
theorem DY7{k:κ}:∀(l:List (κ×Value×Nat)) (i:Nat),(∀x∈l,x.1≠k)->aR4 k l i=none
 | [],_,_=>rfl
 | x::l,i,h=>by rw[aR4,if_neg (fun e=>h x (List.mem_cons_self ..) e.symm)];exact DY7 l (i+1) fun y hy=>h y (List.mem_cons_of_mem _ hy)
theorem DZ7{k:κ}{v:Value}{s:Nat}:∀(l:List (κ×Value×Nat)) (i:Nat),(l.map (·.1)).Nodup->(k,v,s)∈l->∃j, ∃h:j<l.length,l[j]=(k,v,s)/\aR4 k l i=some (i+j,v)
 | x::l,i,hn,hm=>by
  rw[List.map_cons,List.nodup_cons]at hn;by_cases hk:k=x.1
  ·have hx:x=(k,v,s):=by
    rcases List.mem_cons.1 hm with h|h
    ·exact h.symm
    ·exact absurd (List.mem_map.2 ⟨_,h,hk⟩) hn.1
   exact⟨0,Nat.succ_pos _,hx,by rw[aR4,if_pos hk,hx];rfl⟩
  ·have hm':(k,v,s)∈l:=by
    rcases List.mem_cons.1 hm with h|h
    ·exact absurd (by rw[<-h]) hk
    ·exact h
   obtain⟨j,hj,h1,h2⟩:=DZ7 l (i+1) hn.2 hm';exact⟨j+1,by simpa using hj,h1,by rw[aR4,if_neg hk,h2,show i+1+j=i+(j+1)by omega]⟩
theorem CP7{kd:TypeDesc}{ek:κ->Value}(h:∀a b,Instr.sameNow kd (ek a) (ek b)=some (decide (a=b)))(k:κ):∀(l:List (κ×Value×Nat)) (i:Nat),Instr.findNow kd (ek k) (l.map (I7 ek)) i=some (aR4 k l i)
 | [],_=>rfl
 | x::l,i=>by
  have e:(I7 ek x).key=ek x.1:=rfl;rw[List.map_cons,Instr.findNow,e,h,aR4];by_cases hk:k=x.1
  ·rw[decide_eq_true hk,if_pos hk];rfl
  ·rw[decide_eq_false hk,if_neg hk];exact CP7 h k l (i+1)
variable{P:Program}{K:TypeId}{kd:TypeDesc}{ek:κ->Value}
theorem KeyOk.plain(hK:P.underlying K=some kd)(hkd:cf4 kd=true)(h:∀a b,Instr.sameNow kd (ek a) (ek b)=some (decide (a=b)))(hb:∀k,Instr.sameBits 10000 (ek k) (ek k)=true):KeyOk P K ek:=
 ⟨fun e k w=>Gs7 hK hkd e 9999 (ek k),fun k l w=>Hx7 hK (CP7 h k l 0),hb⟩
end
theorem KeyOk.int{P:Program}{K:TypeId}(hK:P.underlying K=some (.int .i64)):KeyOk P K (fun z:Int=>.I z):=
 .plain hK rfl (fun a b=>by rw[LS7];exact congrArg some (Bool.beq_eq_decide_eq a b)) (fun k=>by simp[Instr.sameBits])
theorem KeyOk.str{P:Program}{K:TypeId}(hK:P.underlying K=some .string):KeyOk P K (fun s:ByteArray=>.string s):=
 .plain hK rfl (fun a b=>by
  rw[LT7]
  congr 1
  by_cases h:a=b
  ·subst h;rw[decide_eq_true rfl];exact(MapKept.bytes_beq _ _).2 rfl
  ·rw[decide_eq_false h]
   cases hb:a==b with
   | false=>rfl
   | true=>exact absurd ((MapKept.bytes_beq a b).1 hb) h) (fun k=>by
  show(k==k)=true
  exact(MapKept.bytes_beq _ _).2 rfl)
section
variable{κ:Type}[DecidableEq κ]{P:Program}{W w:World}{L R:List HP}{t K E:TypeId}{ek:κ->Value}
theorem Gt7{b c:Nat}{ps:List (κ×Value×Nat)}{k:κ}{z:Value}{ok:Bool}(h:St W (bs4 b (ps.map (I7 ek)) c::L) w)(ht:F6 P t=some (K,E))(hK:KeyOk P K ek)(hz:D5 P E=some z)(hn:∀x∈ps,x.1≠k):
  (Instr.lookup t (.map (some b)) (ek k) ok).run P w=.ok (if ok then .tuple #[z,.bool false]else z) w:=by
 unfold Instr.lookup;have hu:=run_underlying (P:=P) (BM7 ht) w
 cases ok <;> simp[hu,Dv7 h,hK.chk,hK.find,DY7 ps 0 hn,JL7 hz]
theorem Gu7{b c:Nat}{ps:List (κ×Value×Nat)}{k:κ}{v:Value}{s:Nat}{ok:Bool}(h:St W (bs4 b (ps.map (I7 ek)) c::L) w)(ht:F6 P t=some (K,E))(hK:KeyOk P K ek)(hn:(ps.map (·.1)).Nodup)(hm:(k,v,s)∈ps):
  (Instr.lookup t (.map (some b)) (ek k) ok).run P w=.ok (if ok then .tuple #[v,.bool true]else v) w:=by
 unfold Instr.lookup;have hu:=run_underlying (P:=P) (BM7 ht) w;obtain⟨j,hj,h1,h2⟩:=DZ7 ps 0 hn hm
 cases ok <;> simp[hu,Dv7 h,hK.chk,hK.find,h2]
theorem Gv7{b c:Nat}{ps:List (κ×Value×Nat)}{k:κ}{v:Value}(h:St W (bs4 b (ps.map (I7 ek)) c::L) w)(ht:F6 P t=some (K,E))(hK:KeyOk P K ek)(hn:∀x∈ps,x.1≠k):
  ∃w',(Instr.mapUpdate t (.map (some b)) (ek k) v).run P w=.ok () w'/\St W (bs4 b ((ps++[(k,v,c)]).map (I7 ek)) (c+1)::L) w':=by
 refine⟨_,?_,h.setMap⟩;unfold Instr.mapUpdate;have hu:=run_underlying (P:=P) (BM7 ht) w;have hs:=MapKept.run_setObj_map (P:=P) (.map (ps.map (I7 ek)++[(⟨ek k,v,c⟩:MapEntry)]).toArray (c+1)) (h.get (b:=b) .head);have e:(ps.map (I7 ek)).toArray.push (⟨ek k,v,c⟩:MapEntry)=(ps.map (I7 ek)++[(⟨ek k,v,c⟩:MapEntry)]).toArray:=by simp
 have e2:(ps++[(k,v,c)]).map (I7 ek)=ps.map (I7 ek)++[(⟨ek k,v,c⟩:MapEntry)]:=by rw[List.map_append];rfl
 rw[e2];simp only[hu,Sem.run_bind,Result.andThen_ok,Dv7 h,hK.chk,hK.find,DY7 ps 0 hn,e,hs]
def ch4(ps:List (κ×Value×Nat))(k:κ)(v:Value):List (κ×Value×Nat):=ps.map fun x=>if x.1=k then(x.1,v,x.2.2)else x
theorem Fi7{k:κ}{v:Value}:∀(ps:List (κ×Value×Nat)),k∉ps.map (·.1)->ch4 ps k v=ps
 | [],_=>rfl
 | x::ps,h=>by
  have hx:x.1≠k:=fun e=>h (by rw[List.map_cons,e];exact List.mem_cons_self ..)
  have:=Fi7 (k:=k) (v:=v) ps (fun e=>h (List.mem_cons_of_mem _ e));unfold ch4 at this ⊢;rw[List.map_cons,if_neg hx,this]
theorem JM7{k:κ}{v u:Value}{s:Nat}:∀(ps:List (κ×Value×Nat)) (j:Nat) (hj:j<ps.length),(ps.map (·.1)).Nodup->ps[j]=(k,u,s)->ch4 ps k v=ps.set j (k,v,s)
 | x::ps,0,_,hn,hx=>by have hx':x=(k,u,s):=hx;rw[List.map_cons,List.nodup_cons,hx']at hn;have:=Fi7 (v:=v) ps hn.1;unfold ch4 at this ⊢;rw[List.map_cons,this,hx',if_pos rfl];rfl
 | x::ps,j+1,hj,hn,hx=>by
  rw[List.map_cons,List.nodup_cons]at hn;have hj':j<ps.length:=by simpa using hj
  have hx':ps[j]=(k,u,s):=hx;have hne:x.1≠k:=fun e=>hn.1 (List.mem_map.2 ⟨ps[j],jW _,by rw[hx',e]⟩)
  have:=JM7 (v:=v) ps j hj' hn.2 hx';unfold ch4 at this ⊢;rw[List.map_cons,if_neg hne,this];rfl
theorem Hz7{b c:Nat}{ps:List (κ×Value×Nat)}{k:κ}{u v:Value}{s:Nat}(h:St W (bs4 b (ps.map (I7 ek)) c::L) w)(ht:F6 P t=some (K,E))(hK:KeyOk P K ek)(hn:(ps.map (·.1)).Nodup)(hm:(k,u,s)∈ps):
  ∃w',(Instr.mapUpdate t (.map (some b)) (ek k) v).run P w=.ok () w'/\St W (bs4 b ((ch4 ps k v).map (I7 ek)) c::L) w':=by
 obtain⟨j,hj,h1,h2⟩:=DZ7 ps 0 hn hm;rw[Nat.zero_add]at h2;have e2:(ch4 ps k v).map (I7 ek)=(ps.map (I7 ek)).set j ⟨ek k,v,s⟩:=by rw[JM7 ps j hj hn h1,List.map_set];rfl
 have e:(ps.map (I7 ek)).modify j (fun e=>{ e with key:=ek k,val:=v })=(ps.map (I7 ek)).set j ⟨ek k,v,s⟩:=by
  apply List.ext_getElem?;intro i;rw[List.getElem?_modify,List.getElem?_set];by_cases hi:j=i
  ·subst hi;simp[hj,h1,I7]
  ·simp[hi]
 refine⟨_,?_,h.setMap⟩;rw[e2];unfold Instr.mapUpdate;have hu:=run_underlying (P:=P) (BM7 ht) w;have hks:(Instr.keyThatStays (ek k) (ek k)).run P w=.ok (ek k) w:=by unfold Instr.keyThatStays;simp[hK.bits]
 have hkk:((ps.map (I7 ek)).toArray[j]?).map (·.key)=some (ek k):=by simp[hj,h1,I7]
 have hkj:(I7 ek ps[j]).key=ek k:=by rw[h1];rfl
 simp[hu,Dv7 h,hK.chk,hK.find,h2,hj,hkj,hks];rw[e];exact MapKept.run_setObj_map (P:=P) (.map ((ps.map (I7 ek)).set j ⟨ek k,v,s⟩).toArray c) (h.get (b:=b) .head)
theorem DO7{α β:Type}(f:α->β):∀(l:List α) (j:Nat),(l.map f).eraseIdx j=(l.eraseIdx j).map f
 | [],_=>by simp
 | x::l,0=>rfl
 | x::l,j+1=>by simp[DO7 f l j]
def cp4(ps:List (κ×Value×Nat))(k:κ):List (κ×Value×Nat):=ps.filter fun x=>decide (x.1≠k)
theorem Fj7{k:κ}{ps:List (κ×Value×Nat)}(h:∀x∈ps,x.1≠k):cp4 ps k=ps:=List.filter_eq_self.2 fun x hx=>by simpa using h x hx
theorem JN7{k:κ}{u:Value}{s:Nat}:∀(ps:List (κ×Value×Nat)) (j:Nat) (hj:j<ps.length),(ps.map (·.1)).Nodup->ps[j]=(k,u,s)->cp4 ps k=ps.eraseIdx j
 | x::ps,0,_,hn,hx=>by
  have hx':x=(k,u,s):=hx;rw[List.map_cons,List.nodup_cons,hx']at hn;have h1:cp4 ps k=ps:=Fj7 fun y hy e=>hn.1 (List.mem_map.2 ⟨y,hy,e⟩)
  unfold cp4 at h1 ⊢;rw[List.filter_cons,hx',if_neg (by simp),h1];rfl
 | x::ps,j+1,hj,hn,hx=>by
  rw[List.map_cons,List.nodup_cons]at hn;have hj':j<ps.length:=by simpa using hj
  have hx':ps[j]=(k,u,s):=hx;have hne:x.1≠k:=fun e=>hn.1 (List.mem_map.2 ⟨ps[j],jW _,by rw[hx',e]⟩)
  have:=JN7 ps j hj' hn.2 hx';unfold cp4 at this ⊢;rw[List.filter_cons,if_pos (by simpa using hne),this];rfl
theorem LU7{b c:Nat}{ps:List (κ×Value×Nat)}{k:κ}{k2 ty:TypeId}(h:St W (bs4 b (ps.map (I7 ek)) c::L) w)(ht:F6 P t=some (K,E))(hK:KeyOk P K ek)(hn:(ps.map (·.1)).Nodup):
  ∃w',(Builtin.delete_ #[t,k2] ty #[.map (some b),ek k]).run P w=.ok (.tuple #[]) w'/\St W (bs4 b ((cp4 ps k).map (I7 ek)) c::L) w':=by
 have hu:=run_underlying (P:=P) (BM7 ht) w;by_cases hk:∃x∈ps,x.1=k
 ·obtain⟨⟨k',v,s⟩,hx,rfl⟩:=hk;obtain⟨j,hj,h1,h2⟩:=DZ7 ps 0 hn hx;rw[Nat.zero_add]at h2;refine⟨_,?_,h.setMap⟩;rw[JN7 ps j hj hn h1];unfold Builtin.delete_;have hs:=MapKept.run_setObj_map (P:=P) (.map ((ps.eraseIdx j).map (I7 ek)).toArray c) (h.get (b:=b) .head);have e:(ps.map (I7 ek)).eraseIdx j=(ps.eraseIdx j).map (I7 ek):=DO7 (I7 ek) ps j;simp[hu,Dv7 h,hK.chk,hK.find,h2,e,hs]
 ·have hn':∀x∈ps,x.1≠k:=fun x hx e=>hk ⟨x,hx,e⟩
  refine⟨_,?_,h.setMap⟩;rw[Fj7 hn'];unfold Builtin.delete_;have hs:=MapKept.run_setObj_map (P:=P) (.map (ps.map (I7 ek)).toArray c) (h.get (b:=b) .head);simp[hu,Dv7 h,hK.chk,hK.find,DY7 ps 0 hn',hs]
end
end Go.Sl
end
section
namespace Go.Sl
open Go.RowKit
section
variable{κ ν:Type}
def evs(ev:ν->Value)(x:κ×ν×Nat):κ×Value×Nat:=(x.1,ev x.2.1,x.2.2)
def prj(x:κ×ν×Nat):κ×ν:=(x.1,x.2.1)
structure Good(ps:List (κ×ν×Nat))(c:Nat):Prop where
 st:(ps.map (·.2.2)).Nodup
 old:∀x∈ps,x.2.2<c
 ks:(ps.map (·.1)).Nodup
def mapV(ek:κ->Value)(ev:ν->Value)(b:Nat)(ps:List (κ×ν×Nat))(c:Nat):HP:=bs4 b ((ps.map (evs ev)).map (I7 ek)) c
def d9(ek:κ->Value)(ev:ν->Value)(b:Nat)(l:List (κ×ν)):HP:=fun f=>∃q:List (κ×ν×Nat)×Nat,((q.1.map prj).Perm l/\Good q.1 q.2)/\mapV ek ev b q.1 q.2 f
def er4(l todo:List (κ×ν))(ps:List (κ×ν×Nat))(c since c0:Nat)(seen:Array Nat):Prop:=
 (ps.map prj).Perm l/\Good ps since/\since<=c0/\since<=c/\((ps.filter fun x=>decide (x.2.2∉seen)).map prj).Perm todo
structure ItQ(κ ν:Type) where
 ps:List (κ×ν×Nat)
 c:Nat
 since:Nat
 c0:Nat
 seen:Array Nat
def itR(ek:κ->Value)(ev:ν->Value)(r b:Nat)(l todo:List (κ×ν)):HP:=fun f=>∃q:ItQ κ ν,er4 l todo q.ps q.c q.since q.c0 q.seen/\sep (dI4 r b q.since q.seen q.c0) (mapV ek ev b q.ps q.c) f
def gr4(ek:κ->Value)(ev:ν->Value)(r b:Nat)(l todo:List (κ×ν))(x:κ×ν):HP:=fun f=>∃q:ItQ κ ν,(er4 l todo q.ps q.c q.since q.c0 q.seen/\q.c0=q.c/\∃(s:Nat) (seen':Array Nat),q.seen=seen'.push s/\(x.1,x.2,s)∈q.ps)/\sep (dI4 r b q.since q.seen q.c0) (mapV ek ev b q.ps q.c) f
theorem Ip7(ps:List (κ×ν×Nat)):(ps.map prj).map (·.1)=ps.map (·.1):=by rw[List.map_map];rfl
theorem CQ7(ev:ν->Value)(ps:List (κ×ν×Nat)):(ps.map (evs ev)).map (·.1)=ps.map (·.1):=by rw[List.map_map];rfl
theorem JO7{ev:ν->Value}{ps:List (κ×ν×Nat)}{k:κ}{v:ν}{s:Nat}(h:(k,v,s)∈ps):(k,ev v,s)∈ps.map (evs ev):=List.mem_map.2 ⟨_,h,rfl⟩
theorem JP7{ps:List (κ×ν×Nat)}{l:List (κ×ν)}{x:κ×ν}(hp:(ps.map prj).Perm l)(hx:x∈l):∃s,(x.1,x.2,s)∈ps:=by obtain⟨⟨k,v,s⟩,hy,rfl⟩:=List.mem_map.1 (hp.mem_iff.2 hx);exact⟨s,hy⟩
theorem Nn7{ev:ν->Value}{ps:List (κ×ν×Nat)}{l:List (κ×ν)}{k:κ}(hp:(ps.map prj).Perm l)(hk:∀x∈l,x.1≠k):∀x∈ps.map (evs ev),x.1≠k:=by intro x hx;obtain⟨y,hy,rfl⟩:=List.mem_map.1 hx;exact hk (prj y) (hp.mem_iff.1 (List.mem_map_of_mem hy))
theorem Cc7{α β:Type}{f:α->β}{p:α->Bool}{l:List α}(h:(l.map f).Nodup):((l.filter p).map f).Nodup:=h.sublist (List.filter_sublist.map f)
theorem Good.new{ps:List (κ×ν×Nat)}{c:Nat}(h:Good ps c){k:κ}{v:ν}(hk:∀x∈ps,x.1≠k):Good (ps++[(k,v,c)]) (c+1):=
 ⟨by
  rw[List.map_append,List.nodup_append];refine⟨h.st,by simp,fun a ha b hb=>?_⟩;obtain⟨x,hx,rfl⟩:=List.mem_map.1 ha;obtain rfl:b=c:=by simpa using hb
  have:=h.old x hx;omega,fun x hx=>by
  rcases List.mem_append.1 hx with h1|h1
  ·have:=h.old x h1;omega
  ·obtain rfl:=List.mem_singleton.1 h1;exact Nat.lt_succ_self c,by
  rw[List.map_append,List.nodup_append];refine⟨h.ks,by simp,fun a ha b hb=>?_⟩;obtain⟨x,hx,rfl⟩:=List.mem_map.1 ha;obtain rfl:b=k:=by simpa using hb
  exact hk x hx⟩
variable{W w:World}{L:List HP}{ek:κ->Value}{ev:ν->Value}{b r:Nat}{l l' todo:List (κ×ν)}
theorem aq4(h:St W (d9 ek ev b l::L) w):∃ps c,(ps.map prj).Perm l/\Good ps c/\St W (mapV ek ev b ps c::L) w:=by obtain⟨⟨ps,c⟩,h⟩:=St.ex h;obtain⟨⟨h1,h2⟩,h3⟩:=St.and h;exact⟨ps,c,h1,h2,h3⟩
theorem aS4{ps:List (κ×ν×Nat)}{c:Nat}(hp:(ps.map prj).Perm l)(hg:Good ps c)(h:St W (mapV ek ev b ps c::L) w):St W (d9 ek ev b l::L) w:=
 h.imp fun _ hf=>⟨(ps,c),⟨hp,hg⟩,hf⟩
theorem cV4(hp:l.Perm l')(h:St W (d9 ek ev b l::L) w):St W (d9 ek ev b l'::L) w:=by obtain⟨ps,c,h1,h2,h3⟩:=aq4 h;exact aS4 (h1.trans hp) h2 h3
theorem H6(h:St W (d9 ek ev b l::L) w):(l.map (·.1)).Nodup:=by obtain⟨ps,c,h1,h2,h3⟩:=aq4 h;have:=h2.ks;rw[<-Ip7]at this;exact(h1.map (·.1)).nodup_iff.1 this
variable{P:Program}{t K E:TypeId}
theorem JQ7(h:St W L w):∃b w',(Instr.makeMap t none).run P w=.ok (.map (some b)) w'/\St W (d9 ek ev b []::L) w':=by obtain⟨b,w',hr,hS⟩:=Hy7 (P:=P) (t:=t) h;exact⟨b,w',hr,aS4 (ps:=[]) (c:=0) (List.Perm.refl _) ⟨List.nodup_nil,fun x hx=>(by cases hx),List.nodup_nil⟩ hS⟩
end
section
variable{κ ν:Type}[DecidableEq κ]
variable{W w:World}{L:List HP}{ek:κ->Value}{ev:ν->Value}{b r:Nat}{l l' todo:List (κ×ν)}
variable{P:Program}{t K E:TypeId}
def bt4(l:List (κ×ν))(k:κ)(v:ν):List (κ×ν):=l.map fun x=>if x.1=k then(x.1,v)else x
def i9(l:List (κ×ν))(k:κ):List (κ×ν):=l.filter fun x=>decide (x.1≠k)
theorem LV7{ev:ν->Value}(ps:List (κ×ν×Nat))(k:κ)(v:ν):ch4 (ps.map (evs ev)) k (ev v)=(ps.map fun x=>if x.1=k then(x.1,v,x.2.2)else x).map (evs ev):=by
 unfold ch4;rw[List.map_map,List.map_map];refine List.map_congr_left fun x _=>?_
 show(if x.1=k then _ else _)=evs ev (if x.1=k then _ else _)
 by_cases h:x.1=k
 ·rw[if_pos h,if_pos h];rfl
 ·rw[if_neg h,if_neg h]
theorem LW7{ev:ν->Value}(ps:List (κ×ν×Nat))(k:κ):cp4 (ps.map (evs ev)) k=(ps.filter fun x=>decide (x.1≠k)).map (evs ev):=by unfold cp4;rw[List.filter_map];rfl
theorem ND7(ps:List (κ×ν×Nat))(k:κ)(v:ν):((ps.map fun x=>if x.1=k then(x.1,v,x.2.2)else x).map prj)=bt4 (ps.map prj) k v:=by
 unfold bt4;rw[List.map_map,List.map_map];refine List.map_congr_left fun x _=>?_
 show prj (if x.1=k then _ else _)=(if x.1=k then _ else _)
 by_cases h:x.1=k
 ·rw[if_pos h,if_pos h];rfl
 ·rw[if_neg h,if_neg h]
theorem NE7(ps:List (κ×ν×Nat))(k:κ):((ps.filter fun x=>decide (x.1≠k)).map prj)=i9 (ps.map prj) k:=by unfold i9;rw[List.filter_map];rfl
theorem JR7{l l':List (κ×ν)}(h:l.Perm l')(k:κ)(v:ν):(bt4 l k v).Perm (bt4 l' k v):=h.map _
theorem Ep7{l l':List (κ×ν)}(h:l.Perm l')(k:κ):(i9 l k).Perm (i9 l' k):=h.filter _
theorem Oy7(ps:List (κ×ν×Nat))(k:κ)(v:ν):((ps.map fun x=>if x.1=k then(x.1,v,x.2.2)else x).map (·.2.2))=ps.map (·.2.2):=by
 rw[List.map_map];refine List.map_congr_left fun x _=>?_
 show(if x.1=k then _ else _:κ×ν×Nat).2.2=x.2.2
 by_cases h:x.1=k
 ·rw[if_pos h]
 ·rw[if_neg h]
theorem Oz7(ps:List (κ×ν×Nat))(k:κ)(v:ν):((ps.map fun x=>if x.1=k then(x.1,v,x.2.2)else x).map (·.1))=ps.map (·.1):=by
 rw[List.map_map];refine List.map_congr_left fun x _=>?_
 show(if x.1=k then _ else _:κ×ν×Nat).1=x.1
 by_cases h:x.1=k
 ·rw[if_pos h]
 ·rw[if_neg h]
theorem Good.set{ps:List (κ×ν×Nat)}{c:Nat}(h:Good ps c)(k:κ)(v:ν):Good (ps.map fun x=>if x.1=k then(x.1,v,x.2.2)else x) c:=
 ⟨by rw[Oy7];exact h.st,fun x hx=>by
  obtain⟨y,hy,rfl⟩:=List.mem_map.1 hx;have:=h.old y hy;show(if y.1=k then _ else _:κ×ν×Nat).2.2<c
  by_cases e:y.1=k
  ·rw[if_pos e];exact this
  ·rw[if_neg e];exact this,by rw[Oz7];exact h.ks⟩
theorem Good.del{ps:List (κ×ν×Nat)}{c:Nat}(h:Good ps c)(k:κ):Good (ps.filter fun x=>decide (x.1≠k)) c:=
 ⟨Cc7 h.st,fun x hx=>h.old x (List.mem_filter.1 hx).1,Cc7 h.ks⟩
theorem Gw7{x:κ×ν}{ok:Bool}(h:St W (d9 ek ev b l::L) w)(ht:F6 P t=some (K,E))(hK:KeyOk P K ek)(hx:x∈l):
  (Instr.lookup t (.map (some b)) (ek x.1) ok).run P w=.ok (if ok then .tuple #[ev x.2,.bool true]else ev x.2) w:=by
 obtain⟨ps,c,h1,h2,h3⟩:=aq4 h;obtain⟨s,hs⟩:=JP7 h1 hx;exact Gu7 h3 ht hK (by rw[CQ7];exact h2.ks) (JO7 hs)
theorem Gx7{k:κ}{z:Value}{ok:Bool}(h:St W (d9 ek ev b l::L) w)(ht:F6 P t=some (K,E))(hK:KeyOk P K ek)(hz:D5 P E=some z)(hk:∀x∈l,x.1≠k):
  (Instr.lookup t (.map (some b)) (ek k) ok).run P w=.ok (if ok then .tuple #[z,.bool false]else z) w:=by
 obtain⟨ps,c,h1,h2,h3⟩:=aq4 h;exact Gt7 h3 ht hK hz (Nn7 h1 hk)
theorem BH7{k:κ}(hk:∀x∈l,x.1≠k):i9 l k=l:=List.filter_eq_self.2 fun x hx=>by simpa using hk x hx
theorem Iq7{k:κ}{u v:ν}:∀{l:List (κ×ν)},(l.map (·.1)).Nodup->(k,u)∈l->(bt4 l k v).Perm ((k,v)::i9 l k)
 | y::l,hn,hm=>by
  rw[List.map_cons,List.nodup_cons]at hn;by_cases hk:y.1=k
  ·have h0:∀x∈l,x.1≠k:=fun x hx e=>hn.1 (List.mem_map.2 ⟨x,hx,e.trans hk.symm⟩)
   have h1:bt4 l k v=l:=by unfold bt4;refine(List.map_congr_left fun x hx=>?_).trans (List.map_id l);rw[if_neg (h0 x hx)];rfl
   have h2:i9 (y::l) k=l:=by have:=BH7 h0;unfold i9 at this ⊢;rw[List.filter_cons,if_neg (by simpa using hk),this]
   have h3:bt4 (y::l) k v=(k,v)::l:=by have:bt4 (y::l) k v=(if y.1=k then(y.1,v)else y)::bt4 l k v:=rfl;rw[this,h1,if_pos hk,hk]
   rw[h2,h3]
  ·have hm':(k,u)∈l:=by
    rcases List.mem_cons.1 hm with h|h
    ·exact absurd (by rw[<-h]) hk
    ·exact h
   have h2:i9 (y::l) k=y::i9 l k:=by unfold i9;rw[List.filter_cons,if_pos (by simpa using hk)]
   have h3:bt4 (y::l) k v=y::bt4 l k v:=by have:bt4 (y::l) k v=(if y.1=k then(y.1,v)else y)::bt4 l k v:=rfl;rw[this,if_neg hk]
   rw[h2,h3];exact((Iq7 hn.2 hm').cons y).trans (List.Perm.swap _ _ _)
theorem LX7{k:κ}{v:ν}(h:St W (d9 ek ev b l::L) w)(ht:F6 P t=some (K,E))(hK:KeyOk P K ek):
  ∃w',(Instr.mapUpdate t (.map (some b)) (ek k) (ev v)).run P w=.ok () w'/\St W (d9 ek ev b ((k,v)::i9 l k)::L) w':=by
 have hkl:=H6 h;obtain⟨ps,c,h1,h2,h3⟩:=aq4 h;by_cases hk:∃u,(k,u)∈l
 ·obtain⟨u,hu⟩:=hk;obtain⟨s,hs⟩:=JP7 h1 hu;obtain⟨w',hr,hS⟩:=Hz7 (v:=ev v) h3 ht hK (by rw[CQ7];exact h2.ks) (JO7 hs);rw[LV7]at hS;refine⟨w',hr,aS4 ?_ (h2.set k v) hS⟩;rw[ND7];exact(JR7 h1 k v).trans (Iq7 hkl hu)
 ·have hk':∀x∈l,x.1≠k:=fun x hx e=>hk ⟨x.2,by rw[<-e];exact hx⟩
  obtain⟨w',hr,hS⟩:=Gv7 (v:=ev v) h3 ht hK (Nn7 h1 hk');have e:ps.map (evs ev)++[(k,ev v,c)]=(ps++[(k,v,c)]).map (evs ev):=by rw[List.map_append];rfl
  rw[e]at hS;refine⟨w',hr,aS4 ?_ (h2.new fun x hx=>?_) hS⟩
  ·rw[BH7 hk',List.map_append];exact(List.perm_append_comm).trans (h1.cons (k,v))
  ·exact hk' (prj x) (h1.mem_iff.1 (List.mem_map_of_mem hx))
theorem LY7{k:κ}{k2 ty:TypeId}(h:St W (d9 ek ev b l::L) w)(ht:F6 P t=some (K,E))(hK:KeyOk P K ek):
  ∃w',(Builtin.delete_ #[t,k2] ty #[.map (some b),ek k]).run P w=.ok (.tuple #[]) w'/\St W (d9 ek ev b (i9 l k)::L) w':=by
 obtain⟨ps,c,h1,h2,h3⟩:=aq4 h;obtain⟨w',hr,hS⟩:=LU7 (k:=k) (k2:=k2) (ty:=ty) h3 ht hK (by rw[CQ7];exact h2.ks);rw[LW7]at hS;refine⟨w',hr,aS4 ?_ (h2.del k) hS⟩;rw[NE7];exact Ep7 h1 k
end
end Go.Sl
end
section
namespace Go.Sl
open Go.RowKit
section
variable{κ ν:Type}
end
section
variable{κ ν:Type}[DecidableEq κ]{W w:World}{L:List HP}{ek:κ->Value}{ev:ν->Value}{b r:Nat}{l todo:List (κ×ν)}{P:Program}{t K E:TypeId}
end
section
variable{κ ν:Type}{W w:World}{L:List HP}{ek:κ->Value}{ev:ν->Value}{b r:Nat}{l todo:List (κ×ν)}{P:Program}{t K E:TypeId}
end
section
variable{κ ν:Type}{W w:World}{L R:List HP}{ek:κ->Value}{ev:ν->Value}{b r:Nat}{l todo:List (κ×ν)}{P:Program}{t K E:TypeId}{ops:Array Oper}{Q:Exit->Act->World->Prop}{a:Act}{rest:List Oper}{o:Oper}
theorem Co7(ek:κ->Value)(ev:ν->Value)(hS:St W L w)(ho:o.op=.makeMap t none)(hg:Region.wanted o (yielded ops a.tmps)=true)
  (h:∀b w',St W (d9 ek ev b []::L) w'->wpList P ops Q rest (a.put o.dst (.map (some b))) w'):wpList P ops Q (o::rest) a w:=by
 obtain⟨b,w',hr,hS'⟩:=JQ7 (P:=P) (t:=t) (ek:=ek) (ev:=ev) hS;refine Ar7 hg (v:=.map (some b)) (w':=w') ?_ (h b w' hS');unfold execOp;simp[ho,hr]
def fu4(r b:Nat)(w:World):Nat:=match w.heap[r]?,w.heap[b]? with
 | some (.mapIter _ _ seen _),some (.map es _)=>(es.toList.filter fun e=>decide (e.born∉seen)).length
 | _,_=>0
variable[DecidableEq κ]
def O6(ok:Bool)(z:Value):Option Value->Value
 | some v=>if ok then .tuple #[v,.bool true]else v
 | none=>if ok then .tuple #[z,.bool false]else z
def j5(l:List (κ×ν))(k:κ):Option ν:=(l.find? fun x=>decide (x.1=k)).map (·.2)
theorem BN7{k:κ}(h:j5 l k=none):∀x∈l,x.1≠k:=by unfold j5 at h;rw[Option.map_eq_none_iff,List.find?_eq_none]at h;intro x hx;simpa using h x hx
theorem AA7{k:κ}{v:ν}(h:j5 l k=some v):(k,v)∈l:=by unfold j5 at h;obtain⟨x,hx,rfl⟩:=Option.map_eq_some_iff.1 h;have h1:=List.find?_some hx;have h2:=List.mem_of_find?_eq_some hx;simp only[decide_eq_true_eq]at h1;rw[<-h1];exact h2
theorem FE7{k:κ}(h:∀x∈l,x.1≠k):j5 l k=none:=by unfold j5;rw[Option.map_eq_none_iff,List.find?_eq_none];intro x hx;simpa using h x hx
theorem FF7{k:κ}{v:ν}(hn:(l.map (·.1)).Nodup)(h:(k,v)∈l):j5 l k=some v:=by
 induction l with
 | nil=>cases h
 | cons x l ih=>
  rw[List.map_cons,List.nodup_cons]at hn;unfold j5 at ih ⊢
  rcases List.mem_cons.1 h with h1|h1
  ·subst h1;simp
  ·have hx:x.1≠k:=fun e=>hn.1 (List.mem_map.2 ⟨_,h1,e.symm⟩)
   rw[List.find?_cons_of_neg (by simpa using hx)];exact ih hn.2 h1
theorem AB7{l l':List (κ×ν)}(hn:(l.map (·.1)).Nodup)(hp:l.Perm l')(k:κ):j5 l k=j5 l' k:=by
 cases h:j5 l k with
 | some v=>exact(FF7 ((hp.map (·.1)).nodup_iff.1 hn) (hp.mem_iff.1 (AA7 h))).symm
 | none=>exact(FE7 fun x hx=>BN7 h x (hp.mem_iff.2 hx)).symm
theorem CR7{k:κ}{z:Value}{ok:Bool}(h:St W (d9 ek ev b l::L) w)(ht:F6 P t=some (K,E))(hK:KeyOk P K ek)(hz:D5 P E=some z):
  (Instr.lookup t (.map (some b)) (ek k) ok).run P w=.ok (O6 ok z ((j5 l k).map ev)) w:=by
 cases hg:j5 l k with
 | some v=>exact Gw7 (x:=(k,v)) h ht hK (AA7 hg)
 | none=>exact Gx7 h ht hK hz (BN7 hg)
theorem CS7{x y:Operand}{k:κ}{z:Value}{ok:Bool}(hS:St W L w)(ho:o.op=.lookup t x y ok)(hg:Region.wanted o (yielded ops a.tmps)=true)(hx:a.eval x=.map (some b))(hy:a.eval y=ek k)(hu:Take L (d9 ek ev b l) R)
  (ht:F6 P t=some (K,E)) (hK:KeyOk P K ek) (hz:D5 P E=some z) (h:wpList P ops Q rest (a.put o.dst (O6 ok z ((j5 l k).map ev))) w):wpList P ops Q (o::rest) a w:=by
 refine Ar7 hg (w':=w) ?_ h;unfold execOp;simp[ho,hx,hy,CR7 (hS.take hu) ht hK hz]
theorem Eq7{x y:Operand}{k:κ}{u:ν}{z:Value}(hS:St W L w)(ho:o.op=.lookup t x y false)(hg:Region.wanted o (yielded ops a.tmps)=true)(hx:a.eval x=.map (some b))(hy:a.eval y=ek k)(hu:Take L (d9 ek ev b l) R)
  (ht:F6 P t=some (K,E)) (hK:KeyOk P K ek) (hz:D5 P E=some z) (hgl:j5 l k=some u) (h:wpList P ops Q rest (a.put o.dst (ev u)) w):wpList P ops Q (o::rest) a w:=
 CS7 hS ho hg hx hy hu ht hK hz (by rw[hgl];exact h)
theorem Gy7{x y:Operand}{k:κ}{z:Value}(hS:St W L w)(ho:o.op=.lookup t x y false)(hg:Region.wanted o (yielded ops a.tmps)=true)(hx:a.eval x=.map (some b))(hy:a.eval y=ek k)(hu:Take L (d9 ek ev b l) R)
  (ht:F6 P t=some (K,E)) (hK:KeyOk P K ek) (hz:D5 P E=some z) (hgl:j5 l k=none) (h:wpList P ops Q rest (a.put o.dst z) w):wpList P ops Q (o::rest) a w:=
 CS7 hS ho hg hx hy hu ht hK hz (by rw[hgl];exact h)
theorem Dw7{x y:Operand}{k:κ}{u:ν}{z:Value}(hS:St W L w)(ho:o.op=.lookup t x y true)(hg:Region.wanted o (yielded ops a.tmps)=true)(hx:a.eval x=.map (some b))(hy:a.eval y=ek k)(hu:Take L (d9 ek ev b l) R)
  (ht:F6 P t=some (K,E)) (hK:KeyOk P K ek) (hz:D5 P E=some z) (hgl:j5 l k=some u) (h:wpList P ops Q rest (a.put o.dst (.tuple #[ev u,.bool true])) w):wpList P ops Q (o::rest) a w:=
 CS7 hS ho hg hx hy hu ht hK hz (by rw[hgl];exact h)
theorem Fk7{x y:Operand}{k:κ}{z:Value}(hS:St W L w)(ho:o.op=.lookup t x y true)(hg:Region.wanted o (yielded ops a.tmps)=true)(hx:a.eval x=.map (some b))(hy:a.eval y=ek k)(hu:Take L (d9 ek ev b l) R)
  (ht:F6 P t=some (K,E)) (hK:KeyOk P K ek) (hz:D5 P E=some z) (hgl:j5 l k=none) (h:wpList P ops Q rest (a.put o.dst (.tuple #[z,.bool false])) w):wpList P ops Q (o::rest) a w:=
 CS7 hS ho hg hx hy hu ht hK hz (by rw[hgl];exact h)
theorem Bq7{x y v:Operand}{k:κ}{u:ν}(hS:St W L w)(ho:o.op=.mapUpdate t x y v)(hg:Region.wanted o (yielded ops a.tmps)=true)(hx:a.eval x=.map (some b))(hy:a.eval y=ek k)(hu:Take L (d9 ek ev b l) R)(hv:a.eval v=ev u)
  (ht:F6 P t=some (K,E)) (hK:KeyOk P K ek) (h:∀w',St W (d9 ek ev b ((k,u)::i9 l k)::R) w'->wpList P ops Q rest (a.put o.dst undef) w'):wpList P ops Q (o::rest) a w:=by
 obtain⟨w',hr,hS'⟩:=LX7 (P:=P) (k:=k) (v:=u) (hS.take hu) ht hK;refine BG7 hg (w':=w') ?_ (h w' hS');unfold execOp;simp[ho,hx,hy,hv,hr]
theorem HA7{x y:Operand}{k:κ}{k2:TypeId}(hS:St W L w)(ho:o.op=.call { callee:=.builtin .delete,args:=#[x,y],argTypes:=#[t,k2] })(hg:Region.wanted o (yielded ops a.tmps)=true)(hx:a.eval x=.map (some b))(hy:a.eval y=ek k)(hu:Take L (d9 ek ev b l) R)
  (ht:F6 P t=some (K,E)) (hK:KeyOk P K ek) (h:∀w',St W (d9 ek ev b (i9 l k)::R) w'->wpList P ops Q rest (a.put o.dst (.tuple #[])) w'):wpList P ops Q (o::rest) a w:=by
 obtain⟨w',hr,hS'⟩:=LY7 (P:=P) (k:=k) (k2:=k2) (ty:=o.type) (hS.take hu) ht hK;refine Ar7 hg (v:=.tuple #[]) (w':=w') ?_ (h w' hS');unfold execOp;simp[ho,resolve,invoke,builtin,hx,hy,hr]
end
end Go.Sl
end
section
namespace Go.Sl
open Go.RowKit
section
variable{κ ν:Type}[DecidableEq κ]{P:Program}{t K E:TypeId}{ek:κ->Value}{ev:ν->Value}{W w:World}{L R:List HP}{b:Nat}{l:List (κ×ν)}{ops:Array Oper}{a:Act}{rest:List Oper}{o:Oper}
theorem JS7{k:κ}{z:Value}{d u:ν}(hd:z=ev d)(hu:(j5 l k).getD d=u):O6 false z ((j5 l k).map ev)=ev u:=by
 subst hu hd
 cases j5 l k <;> rfl
theorem Gz7{Q:Exit->Act->World->Prop}{x y:Operand}{k:κ}{z:Value}(d u:ν)(hS:St W L w)(ho:o.op=.lookup t x y false)(hg:Region.wanted o (yielded ops a.tmps)=true)(hx:a.eval x=.map (some b))(hy:a.eval y=ek k)(hu:Take L (d9 ek ev b l) R)
  (ht:F6 P t=some (K,E)) (hK:KeyOk P K ek) (hz:D5 P E=some z) (hd:z=ev d) (hv:(j5 l k).getD d=u) (h:wpList P ops Q rest (a.put o.dst (ev u)) w):wpList P ops Q (o::rest) a w:=
 CS7 hS ho hg hx hy hu ht hK hz (by rw[JS7 hd hv];exact h)
theorem AC7{tb:List Nat}{toks:List Tok}{fresh:Nat->Bool}{pin:Nat->Option Value}{Qf:Act->Prop}{nd:Nat->Value}{i:Nat}{x y:Operand}{k:κ}{z:Value}(d u:ν)(hf:fresh i=false)(hn:aj4 toks i=true)(ho:o.op=.lookup t x y false)(hg:Region.wanted o (yielded ops a.tmps)=true)(hx:a.eval x=.map (some b))(hy:a.eval y=ek k)
  (hu:∀F, ∃R,Take (kpL toks tb i nd++F) (d9 ek ev b l) R) (ht:F6 P t=some (K,E)) (hK:KeyOk P K ek) (hz:D5 P E=some z) (hd:z=ev d) (hv:(j5 l k).getD d=u)
  (h:k9 P W ops tb toks fresh pin Qf nd (i+1) rest (a.put o.dst (ev u))):k9 P W ops tb toks fresh pin Qf nd i (o::rest) a:=
 Fh7 hf hn hg (fun F w hS=>by obtain⟨R,hu⟩:=hu F;unfold execOp;simp[ho,hx,hy,CR7 (hS.take hu) ht hK hz,JS7 hd hv]) h
end
end Go.Sl
namespace Go.Sl
open Go.RowKit
section
variable{P:Program}{w:World}{ops:Array Oper}{Q:Exit->Act->World->Prop}{a:Act}{rest:List Oper}{o:Oper}
theorem Cd7{t t2:TypeId}{x y:Operand}{xs ys:Array Value}{r:Bool}(ho:o.op=.binOp .eql t x y t2)(hg:Region.wanted o (yielded ops a.tmps)=true)(hx:a.eval x=.agg xs)(hy:a.eval y=.agg ys)(hm:P.eqGuardType P.depth t=false)(hr:∀w:World,(Op.equalIn 10000 t (.agg xs) (.agg ys)).run P w=.ok r w)
  (h:wpList P ops Q rest (a.put o.dst (.bool r)) w):wpList P ops Q (o::rest) a w:=by
 refine Ar7 hg (v:=.bool r) (w':=w) ?_ h;unfold execOp;simp[ho,hx,hy,run_eqGuard_agg w .eql t x y xs ys hm,run_eql_struct,hr]
theorem DP7{t t2:TypeId}{x y:Operand}{xs ys:Array Value}{r:Bool}(ho:o.op=.binOp .neq t x y t2)(hg:Region.wanted o (yielded ops a.tmps)=true)(hx:a.eval x=.agg xs)(hy:a.eval y=.agg ys)(hm:P.eqGuardType P.depth t=false)(hr:∀w:World,(Op.equalIn 10000 t (.agg xs) (.agg ys)).run P w=.ok r w)
  (h:wpList P ops Q rest (a.put o.dst (.bool (!r))) w):wpList P ops Q (o::rest) a w:=by
 refine Ar7 hg (v:=.bool (!r)) (w':=w) ?_ h;unfold execOp;simp[ho,hx,hy,run_eqGuard_agg w .neq t x y xs ys hm,run_neq_struct,hr]
end
end Go.Sl
namespace Go.Proofs.YtienbkdjkjbelaaGreat
open Go.RowKit Go.Sl
theorem eqI(x0 x1 x2 x3 y0 y1 y2 y3:Int)(w:World):(Op.equalIn 10000 34 (.agg #[.I x0,.I x1,.I x2,.I x3]) (.agg #[.I y0,.I y1,.I y2,.I y3])).run Tryz.prog w=.ok (x0==y0&&(x1==y1&&(x2==y2&&x3==y3))) w:=by
 have u3:=Tryz.underlying3;have a3:=Tryz.isAgg3;have z3:=Tryz.sizeOf3;rw[show(10000:Nat)=9999+1 from rfl,Op.equalIn];simp only[Sem.run_bind,run_underlying Tryz.underlying34,Result.andThen_ok];simp only[Std.Legacy.Range.forIn_eq_forIn_range',Std.Legacy.Range.size,Nat.sub_zero,Nat.add_sub_cancel,Nat.div_one,List.range'_succ,List.range'_zero,List.forIn_cons,List.forIn_nil]
 go_simp
 by_cases h1:x0=y0 <;> by_cases h2:x1=y1 <;> by_cases h3:x2=y2 <;> by_cases h4:x3=y3 <;> simp[h1,h2,h3,h4]
abbrev eS(k:ByteArray):Value:=.string k
abbrev eP(i:It):Value:=.agg i.cells.toArray
theorem kS:KeyOk Tryz.prog 9 eS:=KeyOk.str Tryz.underlying9
theorem mP:F6 Tryz.prog 212=some (9,34):=by kernel_rfl
theorem zP:D5 Tryz.prog 34=some (.agg #[.I 0,.I 0,.I 0,.I 0]):=by kernel_rfl
abbrev Ps:=List (ByteArray×It)
def j7(p:Ps)(k:ByteArray):It:=(j5 p k).getD it0
def isZ(i:It):Bool:=decide (i.x0=0)&&(decide (i.x1=0)&&(decide (i.x2=0)&&decide (i.x3=0)))
def E7(p:Ps)(k:ByteArray)(i:It):Ps:=if isZ i=true then i9 p k else(k,i)::i9 p k
section
variable(vb mb:Nat)(p:Ps)(k:ByteArray)(u1 u2:Value)(W w:World)(R:List HP)
theorem LZ7(hS:St W (blk vb [.map (some mb),u1,u2] 215::d9 eS eP mb p::R) w):
  Calls Tryz.prog 155 #[.P vb,.string k] w fun e w'=>e=.returned (eP (j7 p k))/\St W (blk vb [.map (some mb),u1,u2] 215::d9 eS eP mb p::R) w':=by
 obtain⟨x,hx⟩:∃x,j7 p k=x:=⟨_,rfl⟩
 rw[hx];obtain⟨x0,x1,x2,x3⟩:=x;have Hx:=jH hx;clear hx;go_enter Tryz.func155,Tryz.ntmps155;go_wp2_with(first|(with_reducible apply Gz7 (ek:=eS) (ev:=eP) (k:=k) it0 ⟨x0,x1,x2,x3⟩ hS);rfl;rfl;rfl;rfl;exact i7;exact mP;exact kS;exact zP;rfl;exact Hx.out;simp only[Act.put,fA,fB,fC,Nat.reduceAdd,eP,It.cells]|refine zl1 hS ?_|refine zsN hS ?_;clear hS;intro w hS|refine zal hS ?_;clear hS;intro b w hS);apply Am7;rfl;rfl;rfl;exact hS;decide +kernel;(exact m8);kernel_rfl;exact⟨rfl,hS.drop⟩
theorem AL7(i:It)(hS:St W (blk vb [.map (some mb),u1,u2] 215::d9 eS eP mb p::R) w):
  Calls Tryz.prog 146 #[.P vb,.string k,.agg i.cells.toArray] w fun e w'=>e=.returned (.tuple #[])/\St W (blk vb [.map (some mb),u1,u2] 215::d9 eS eP mb (E7 p k i)::R) w':=by
 obtain⟨x0,x1,x2,x3⟩:=i;unfold E7
 cases hz:isZ ⟨x0,x1,x2,x3⟩with
 | true=>
  rw[if_pos rfl];simp only[isZ,jB,decide_eq_true_eq]at hz;obtain⟨rfl,rfl,rfl,rfl⟩:=hz;have h4:(((0:Int)==0)&&(((0:Int)==0)&&(((0:Int)==0)&&((0:Int)==0))))=true:=rfl;simp only[It.cells];go_enter Tryz.func146,Tryz.ntmps146;go_wp2_with(first|(with_reducible apply Cd7);rfl;rfl;rfl;rfl;kernel_rfl;exact eqI _ _ _ _ _ _ _ _;rw[h4];simp only[Act.put,fA,fB,fC,Nat.reduceAdd,eP,It.cells]|((with_reducible apply HA7 (ek:=eS) (ev:=eP) (k:=k) hS);rfl;rfl;rfl;rfl;exact i7;exact mP;exact kS;clear hS;intro w hS;try(simp only[Act.put,fA,fB,fC,Nat.reduceAdd,eP,It.cells]))|refine zl1 hS ?_|refine zlN hS ?_|refine zbx hS ?_;clear hS;intro b w hS);refine bodyPost_ret (results_none rfl _ _ _) rfl ?_;exact⟨rfl,hS.s _⟩
 | false=>
  rw[if_neg (by simp)];have h4:(x0==0&&(x1==0&&(x2==0&&x3==0)))=false:=hz;clear hz;simp only[It.cells];go_enter Tryz.func146,Tryz.ntmps146;go_wp2_with(first|(with_reducible apply Cd7);rfl;rfl;rfl;rfl;kernel_rfl;exact eqI _ _ _ _ _ _ _ _;rw[h4];simp only[Act.put,fA,fB,fC,Nat.reduceAdd,eP,It.cells]|refine zlN hS ?_|refine zbx hS ?_;clear hS;intro b w hS);refine rt 6 hS ?_
  repeat(first|refine zq1 ?_|refine zqN ?_|refine zqn ?_|refine qR ?_)
  clear hS;intro w hS;simp only[jD,List.drop_zero];go_wp2_with(first|((with_reducible apply Bq7 (ek:=eS) (ev:=eP) (k:=k) (u:=⟨x0,x1,x2,x3⟩) hS);rfl;rfl;rfl;rfl;exact i7;(focus(rfl));exact mP;exact kS;clear hS;intro w hS;try(simp only[Act.put,fA,fB,fC,Nat.reduceAdd,eP,It.cells])));go_end0;exact⟨rfl,hS.s _⟩
end
def A6(k:ByteArray):Bool:=decide (1<=k.size)&&decide (k.size<=16)
theorem BA7(k:ByteArray)(W w:World)(R:List HP)(hS:St W R w):
  Calls Tryz.prog 145 #[.string k] w fun e w'=>e=.returned (.bool (A6 k))/\St W R w':=by
 go_enter Tryz.func145,Tryz.ntmps145;by_cases h1:k.size<1
 ·have e:A6 k=false:=by unfold A6;simp;omega
  have d1:decide ((1:Int)<=(k.size:Int))=false:=by simp;omega
  rw[e];go_wp2_with(fail);go_ret;exact⟨rfl,hS⟩
 ·have d1:(1:Int)<=(k.size:Int):=by omega
  by_cases h2:k.size<=16
  ·have e:A6 k=true:=by unfold A6;simp;omega
   have d2:(k.size:Int)<=16:=by omega
   rw[e];go_wp2_with(fail);go_ret;exact⟨rfl,hS⟩
  ·have e:A6 k=false:=by unfold A6;simp;omega
   have d2:decide ((k.size:Int)<=16)=false:=by simp;omega
   rw[e];go_wp2_with(fail);go_ret;exact⟨rfl,hS⟩
theorem Ma7{l:List It}{s0 s1 s2 s3:Int}(h:J7 l it0=some ⟨s0,s1,s2,s3⟩)(v:Value)(W w:World)(R:List HP)(hS:St W (row v 4 34 l.length (l.flatMap It.cells)::R) w):
  Calls Tryz.prog 32 #[v] w fun e w'=>e=.returned (.tuple #[.agg #[.I s0,.I s1,.I s2,.I s3],.bool true])/\St W R w':=
 (Nm7 l v W w R hS).mono fun e w' ⟨he,hS⟩=>⟨by rw[he,bj4,h];rfl,hS.drop⟩
theorem Mb7{l:List It}(h:J7 l it0=none)(v:Value)(W w:World)(R:List HP)(hS:St W (row v 4 34 l.length (l.flatMap It.cells)::R) w):
  Calls Tryz.prog 32 #[v] w fun e w'=>e=.returned (.tuple #[.agg #[.I 0,.I 0,.I 0,.I 0],.bool false])/\St W R w':=
 (Nm7 l v W w R hS).mono fun e w' ⟨he,hS⟩=>⟨by rw[he,bj4,h];rfl,hS.drop⟩
theorem NF7{x0 x1 x2 x3 y0 y1 y2 y3:Int}(h:G6 ⟨x0,x1,x2,x3⟩ ⟨y0,y1,y2,y3⟩=true)(W w:World)(R:List HP)(hS:St W R w):
  Calls Tryz.prog 147 #[.agg #[.I x0,.I x1,.I x2,.I x3],.agg #[.I y0,.I y1,.I y2,.I y3]] w fun e w'=>e=.returned (.tuple #[.agg #[.I (x0-y0),.I (x1-y1),.I (x2-y2),.I (x3-y3)],.bool true])/\St W R w':=
 (Nl7 ⟨x0,x1,x2,x3⟩ ⟨y0,y1,y2,y3⟩ W w R hS).mono fun e w' ⟨he,hS⟩=>⟨by rw[he,br4,h];rfl,hS⟩
theorem OA7{x0 x1 x2 x3 y0 y1 y2 y3:Int}(h:G6 ⟨x0,x1,x2,x3⟩ ⟨y0,y1,y2,y3⟩=false)(W w:World)(R:List HP)(hS:St W R w):
  Calls Tryz.prog 147 #[.agg #[.I x0,.I x1,.I x2,.I x3],.agg #[.I y0,.I y1,.I y2,.I y3]] w fun e w'=>e=.returned (.tuple #[.agg #[.I 0,.I 0,.I 0,.I 0],.bool false])/\St W R w':=
 (Nl7 ⟨x0,x1,x2,x3⟩ ⟨y0,y1,y2,y3⟩ W w R hS).mono fun e w' ⟨he,hS⟩=>⟨by rw[he,br4,h];rfl,hS⟩
end Go.Proofs.YtienbkdjkjbelaaGreat
end
