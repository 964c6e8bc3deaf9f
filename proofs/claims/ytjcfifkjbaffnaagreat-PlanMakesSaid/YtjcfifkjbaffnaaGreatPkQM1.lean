/-
  Resources of a world.
-/
import Derived.WalkKit
import Derived.WalkSpells
import Derived.WalkLawsBesides
import Derived.BigQuiet
import Derived.StillTailTactics
import Derived.Deep.LoopGhost
import Derived.Lib.Hide
import Derived.ProofKit
import Derived.OpenShut
import Derived.ChangeSame
import Derived.ReadAgain
set_option maxHeartbeats 16000000
set_option maxRecDepth 100000
set_option linter.unusedSimpArgs false
set_option linter.unusedVariables false
section
namespace Go
abbrev Value.I (n : Int) : Value := .int .i64 n
end Go
namespace Go.Sl
abbrev jP (b : Nat) : Option Addr := some ⟨b, 0, none⟩
end Go.Sl
namespace Go
abbrev Value.P (b : Nat) : Value := .pointer (some ⟨b, 0, none⟩)
abbrev Value.S (b n c : Nat) : Value := .slice (some ⟨b, 0, none⟩) n c
end Go
namespace Go.Sl
theorem jH {p : Prop} (h : p) : RowKit.Hid p := Lib.hid h
end Go.Sl
namespace Go.Sl
theorem jA {α : Type _} {l m : List α} : (l ++ m).length = l.length + m.length := List.length_append
theorem jC {α : Type _} {a : α} {l : List α} : (a :: l).length = l.length + 1 := List.length_cons
theorem jM {α β : Type _} {l : List α} (f : α → β) : (l.map f).length = l.length := List.length_map f
theorem jT {α : Type _} {i : Nat} {l : List α} : (l.take i).length = min i l.length := List.length_take
theorem jS {α : Type _} (a b c : List α) : a ++ b ++ c = a ++ (b ++ c) := List.append_assoc a b c
theorem jN {α : Type _} (l : List α) : [] ++ l = l := List.nil_append l
theorem jK {α : Type _} {a : α} {l m : List α} : a :: l ++ m = a :: (l ++ m) := List.cons_append
theorem jG {α : Type _} {l : List α} {i : Nat} (h : i < l.length) : l[i]? = some l[i] := List.getElem?_eq_getElem h
theorem jB (a b : Bool) : ((a && b) = true) = (a = true ∧ b = true) := Bool.and_eq_true a b
theorem jD {α : Type _} {a : α} {l : List α} {i : Nat} : (a :: l).drop (i + 1) = l.drop i := List.drop_succ_cons
theorem jW {α : Type _} {l : List α} {n : Nat} (h : n < l.length) : l[n] ∈ l := List.getElem_mem h
theorem jE {α β : Type _} {b : β} {f : α → β} {l : List α} : b ∈ l.map f ↔ ∃ a, a ∈ l ∧ f a = b := List.mem_map
end Go.Sl
namespace Go.Sl
open Go.RowKit
abbrev t7:=Nat->Option Obj
abbrev HP:=t7->Prop
def k7(S:Nat->Bool)(h:t7):t7:=fun b=>cond (S b) (h b) none
def f8(S:Nat->Bool)(h:t7):t7:=fun b=>cond (S b) none (h b)
def sep(A B:HP):HP:=fun h=>∃S:Nat->Bool,A (k7 S h)/\B (f8 S h)
def sats:List HP->HP
 | []=>fun _=>True
 | A::L=>sep A (sats L)
structure St(W:World)(L:List HP)(w:World):Prop where
 os:w.os=W.os
 tape:w.tape=W.tape
 output:w.output=W.output
 sat:sats L (fun b=>w.heap[b]?)
def K5(b:Nat)(o:Obj):HP:=fun h=>h b=some o
def blk(b:Nat)(l:List Value)(T:TypeId):HP:=K5 b (.cells l.toArray T (0,0))
def Old(W:World):HP:=fun h=>∀b,b<W.heap.size->h b=W.heap[b]?
def cv4(p:Prop):HP:=fun _=>p
theorem AH7{A A' B B':HP}{h:t7}(ha:∀h,A h->A' h)(hb:∀h,B h->B' h)(hs:sep A B h):sep A' B' h:=
 let ⟨S,h1,h2⟩:=hs
 ⟨S,ha _ h1,hb _ h2⟩
theorem BU7{A B C:HP}{h:t7}(hs:sep A (sep B C) h):sep B (sep A C) h:=by
 obtain⟨S1,h1,S2,h2,h3⟩:=hs;refine⟨fun b=>!S1 b&&S2 b,?_,S1,?_,?_⟩
 ·have:k7 (fun b=>!S1 b&&S2 b) h=k7 S2 (f8 S1 h):=by
   funext b;simp only[k7,f8];cases S1 b <;> cases S2 b <;> rfl
  rw[this];exact h2
 ·have:k7 S1 (f8 (fun b=>!S1 b&&S2 b) h)=k7 S1 h:=by
   funext b;simp only[k7,f8];cases S1 b <;> cases S2 b <;> rfl
  rw[this];exact h1
 ·have:f8 S1 (f8 (fun b=>!S1 b&&S2 b) h)=f8 S2 (f8 S1 h):=by
   funext b;simp only[f8];cases S1 b <;> cases S2 b <;> rfl
  rw[this];exact h3
theorem DA7{A B C:HP}{h:t7}(hs:sep (sep A B) C h):sep A (sep B C) h:=by
 obtain⟨S1,⟨S2,h1,h2⟩,h3⟩:=hs;refine⟨fun b=>S1 b&&S2 b,?_,fun b=>S1 b,?_,?_⟩
 ·have:k7 (fun b=>S1 b&&S2 b) h=k7 S2 (k7 S1 h):=by
   funext b;simp only[k7];cases S1 b <;> cases S2 b <;> rfl
  rw[this];exact h1
 ·have:k7 S1 (f8 (fun b=>S1 b&&S2 b) h)=f8 S2 (k7 S1 h):=by
   funext b;simp only[k7,f8];cases S1 b <;> cases S2 b <;> rfl
  rw[this];exact h2
 ·have:f8 S1 (f8 (fun b=>S1 b&&S2 b) h)=f8 S1 h:=by
   funext b;simp only[f8];cases S1 b <;> cases S2 b <;> rfl
  rw[this];exact h3
theorem EN7{A B C:HP}{h:t7}(hs:sep A (sep B C) h):sep (sep A B) C h:=by
 obtain⟨S1,h1,S2,h2,h3⟩:=hs;refine⟨fun b=>S1 b||S2 b,⟨S1,?_,?_⟩,?_⟩
 ·have:k7 S1 (k7 (fun b=>S1 b||S2 b) h)=k7 S1 h:=by
   funext b;simp only[k7];cases S1 b <;> cases S2 b <;> rfl
  rw[this];exact h1
 ·have:f8 S1 (k7 (fun b=>S1 b||S2 b) h)=k7 S2 (f8 S1 h):=by
   funext b;simp only[k7,f8];cases S1 b <;> cases S2 b <;> rfl
  rw[this];exact h2
 ·have:f8 (fun b=>S1 b||S2 b) h=f8 S2 (f8 S1 h):=by
   funext b;simp only[f8];cases S1 b <;> cases S2 b <;> rfl
  rw[this];exact h3
inductive Take:List HP->HP->List HP->Prop
 | head {X:HP} {L:List HP}:Take (X::L) X L
 | tail {X Z:HP} {L L':List HP} (h:Take L X L'):Take (Z::L) X (Z::L')
theorem Take.sats{L L':List HP}{X:HP}(ht:Take L X L'):∀{h:t7},Sl.sats L h->Sl.sats (X::L') h:=by
 induction ht with
 | head=>exact fun h=>h
 | tail _ ih=>exact fun h=>BU7 (AH7 (fun _ x=>x) (fun _ x=>ih x) h)
theorem Take.back{L L':List HP}{X:HP}(ht:Take L X L'):∀{h:t7},Sl.sats (X::L') h->Sl.sats L h:=by
 induction ht with
 | head=>exact fun h=>h
 | tail _ ih=>exact fun h=>AH7 (fun _ x=>x) (fun _ x=>ih x) (BU7 h)
inductive Upd:List HP->HP->HP->List HP->Prop
 | head {X Y:HP} {L:List HP}:Upd (X::L) X Y (Y::L)
 | tail {X Y Z:HP} {L L':List HP} (h:Upd L X Y L'):Upd (Z::L) X Y (Z::L')
theorem Upd.take{L L':List HP}{X Y:HP}(hu:Upd L X Y L'):∃R,Take L X R/\Take L' Y R:=by
 induction hu with
 | head=>exact⟨_,.head,.head⟩
 | tail _ ih=>obtain⟨R,h1,h2⟩:=ih;exact⟨_,.tail h1,.tail h2⟩
section
variable{W w w':World}{L L':List HP}{X Y A B:HP}
theorem St.take(h:St W L w)(ht:Take L X L'):St W (X::L') w:=⟨h.os,h.tape,h.output,ht.sats h.sat⟩
theorem St.back(h:St W (X::L') w)(ht:Take L X L'):St W L w:=⟨h.os,h.tape,h.output,ht.back h.sat⟩
theorem St.swap(h:St W (A::B::L) w):St W (B::A::L) w:=⟨h.os,h.tape,h.output,BU7 h.sat⟩
theorem St.imp(h:St W (X::L) w)(hx:∀f,X f->Y f):St W (Y::L) w:=⟨h.os,h.tape,h.output,AH7 hx (fun _ x=>x) h.sat⟩
theorem St.split(h:St W (sep A B::L) w):St W (A::B::L) w:=⟨h.os,h.tape,h.output,DA7 h.sat⟩
theorem St.join(h:St W (A::B::L) w):St W (sep A B::L) w:=⟨h.os,h.tape,h.output,EN7 h.sat⟩
theorem St.ex{α:Type}{F:α->HP}(h:St W ((fun f=>∃x,F x f)::L) w):∃x,St W (F x::L) w:=
 let ⟨S,⟨x,hx⟩,hr⟩:=h.sat
 ⟨x,h.os,h.tape,h.output,S,hx,hr⟩
theorem St.mkEx{α:Type}{F:α->HP}(x:α)(h:St W (F x::L) w):St W ((fun f=>∃x,F x f)::L) w:=h.imp fun _ hf=>⟨x,hf⟩
theorem St.or{A B:HP}(h:St W ((fun f=>A f\/B f)::L) w):St W (A::L) w\/St W (B::L) w:=by
 obtain⟨ho,ht,hu,S,h1|h1,h2⟩:=h
 ·exact .inl ⟨ho,ht,hu,S,h1,h2⟩
 ·exact .inr ⟨ho,ht,hu,S,h1,h2⟩
theorem St.and{p:Prop}{A:HP}(h:St W ((fun f=>p/\A f)::L) w):p/\St W (A::L) w:=by obtain⟨ho,ht,hu,S,h1,h2⟩:=h;exact⟨h1.1,ho,ht,hu,S,h1.2,h2⟩
theorem St.mkAnd{p:Prop}{A:HP}(hp:p)(h:St W (A::L) w):St W ((fun f=>p/\A f)::L) w:=h.imp fun _ hf=>⟨hp,hf⟩
end
theorem AW7:∀{L:List HP} {S:Nat->Bool} {h:t7},sats L (f8 S h)->sats L h
 | [],_,_,_=>trivial
 | A::L,S,h,⟨S2,h1,h2⟩=>by
  refine⟨fun b=>S2 b&&!S b,?_,AW7 (S:=S) ?_⟩
  ·have:k7 (fun b=>S2 b&&!S b) h=k7 S2 (f8 S h):=by
    funext b;simp only[k7,f8];cases S b <;> cases S2 b <;> rfl
   rw[this];exact h1
  ·have:f8 S (f8 (fun b=>S2 b&&!S b) h)=f8 S2 (f8 S h):=by
    funext b;simp only[f8];cases S b <;> cases S2 b <;> rfl
   rw[this];exact h2
section
variable{W w w':World}{L L':List HP}{X Y A B:HP}
theorem St.drop(h:St W (X::L) w):St W L w:=let ⟨_,_,hr⟩:=h.sat;⟨h.os,h.tape,h.output,AW7 hr⟩
inductive Mem:HP->List HP->Prop
 | head {X:HP} {L:List HP}:Mem X (X::L)
 | tail {X Z:HP} {L:List HP} (h:Mem X L):Mem X (Z::L)
theorem Dd7:∀{L:List HP} {h:t7} {b:Nat} {o:Obj},Mem (K5 b o) L->sats L h->h b=some o
 | _::_,h,b,o,.head,⟨S,h1,_⟩=>by
  have:cond (S b) (h b) none=some o:=h1
  cases hS:S b <;> rw[hS]at this
  ·cases this
  ·exact this
 | _::_,h,b,o,.tail hm,⟨S,_,h2⟩=>by
  have:cond (S b) none (h b)=some o:=Dd7 hm h2
  cases hS:S b <;> rw[hS]at this
  ·exact this
  ·cases this
theorem St.get{b:Nat}{o:Obj}(h:St W L w)(hm:Mem (K5 b o) L):w.heap[b]? = some o:=Dd7 hm h.sat
theorem EO7:∀{L:List HP} {h:t7} {V:World},Mem (Old V) L->sats L h->∀b,b<V.heap.size->h b=V.heap[b]?
 | _::_,h,V,.head,⟨S,h1,_⟩,b,hb=>by
  have:cond (S b) (h b) none=V.heap[b]? := h1 b hb
  cases hS:S b <;> rw[hS]at this
  ·rw[Array.getElem?_eq_getElem hb]at this;cases this
  ·exact this
 | _::_,h,V,.tail hm,⟨S,_,h2⟩,b,hb=>by
  have:cond (S b) none (h b)=V.heap[b]? := EO7 hm h2 b hb
  cases hS:S b <;> rw[hS]at this
  ·exact this
  ·rw[Array.getElem?_eq_getElem hb]at this;cases this
theorem St.old{V:World}(h:St W L w)(hm:Mem (Old V) L){b:Nat}(hb:b<V.heap.size):w.heap[b]? = V.heap[b]? := EO7 hm h.sat b hb
theorem St.oldCell{V:World}(h:St W L w)(hm:Mem (Old V) L){p:Addr}{v:Value}(hp:V.cell? p=some v):w.cell? p=some v:=by have hb:=block_lt_of_cell hp;have:=h.old hm hb;unfold World.cell? at *;rw[this];exact hp
theorem St.start(W:World):St W [Old W] W:=
 ⟨rfl,rfl,rfl,fun _=>true,fun _ _=>rfl,trivial⟩
theorem St.below{V:World}(h:St V L w)(hm:Mem (Old V) L):Below V.heap.size V w:=by
 refine⟨h.os,h.tape,h.output,?_,fun k hk=>h.old hm hk⟩
 rcases Nat.eq_zero_or_pos V.heap.size with h0|h0
 ·omega
 ·have:=h.old hm (b:=V.heap.size-1) (by omega);rw[Array.getElem?_eq_getElem (xs:=V.heap) (by omega)]at this;obtain⟨hlt,_⟩:=Array.getElem?_eq_some_iff.1 this;omega
theorem St.drew(h:St W L w):St W L w.drew:=⟨h.os,h.tape,h.output,h.sat⟩
theorem St.drawn(h:St W L w)(n:Nat):St W L { w with drawn:=n }:=⟨h.os,h.tape,h.output,h.sat⟩
theorem St.alloc(h:St W L w)(o:Obj):St W (K5 w.heap.size o::L) (w.alloc o):=by
 refine⟨h.os,h.tape,h.output,fun b=>b==w.heap.size,?_,?_⟩
 ·show cond (w.heap.size==w.heap.size) ((w.heap.push o)[w.heap.size]?) none=some o
  simp
 ·have:f8 (fun b=>b==w.heap.size) (fun b=>(w.alloc o).heap[b]?)=fun b=>w.heap[b]? := by
   funext b
   show cond (b==w.heap.size) none ((w.heap.push o)[b]?)=w.heap[b]?
   by_cases hb:b=w.heap.size
   ·subst hb;simp
   ·rw[Array.getElem?_push,if_neg hb,beq_eq_false_iff_ne.2 hb];rfl
  rw[this];exact h.sat
def N5(h:t7)(b:Nat)(o:Obj):t7:=fun x=>if x=b then some o else h x
theorem Hw7{b:Nat}{o o':Obj}{L L':List HP}{X Y:HP}(hu:Upd L X Y L')(hX:X=K5 b o)(hY:Y=K5 b o'):∀{h:t7},sats L h->sats L' (N5 h b o'):=by
 induction hu with
 | head=>
  subst hX hY;intro h ⟨S,h1,h2⟩
  have hb:S b=true:=by
   have:cond (S b) (h b) none=some o:=h1
   cases hS:S b
   ·rw[hS]at this;cases this
   ·rfl
  refine⟨S,?_,?_⟩
  ·show k7 S (N5 h b o') b=some o'
   simp[k7,N5,hb]
  ·have:f8 S (N5 h b o')=f8 S h:=by
    funext x;simp only[f8,N5]
    by_cases hx:x=b
    ·subst hx;simp[hb]
    ·simp[hx]
   rw[this];exact h2
 | @tail Z X Y L L' hu ih=>
  intro h ⟨S,h1,h2⟩
  have hm:∀{L L':List HP} {X Y:HP},Upd L X Y L'->X=K5 b o->Mem (K5 b o) L:=by
   intro L L' X Y hu hX
   induction hu with
   | head=>subst hX;exact .head
   | tail _ ih=>exact .tail (ih hX)
  have hb:S b=false:=by
   have:cond (S b) none (h b)=some o:=Dd7 (hm hu hX) h2
   cases hS:S b
   ·rfl
   ·rw[hS]at this;cases this
  refine⟨S,?_,?_⟩
  ·have:k7 S (N5 h b o')=k7 S h:=by
    funext x;simp only[k7,N5]
    by_cases hx:x=b
    ·subst hx;simp[hb]
    ·simp[hx]
   rw[this];exact h1
  ·have:f8 S (N5 h b o')=N5 (f8 S h) b o':=by
    funext x;simp only[f8,N5]
    by_cases hx:x=b
    ·subst hx;simp[hb]
    ·simp[hx]
   rw[this];exact ih hX hY h2
theorem St.putO{b:Nat}{o o':Obj}(h:St W L w)(hu:Upd L (K5 b o) (K5 b o') L')(ho:w'.os=w.os)(ht:w'.tape=w.tape)(hp:w'.output=w.output)
  (hh:∀k,w'.heap[k]? = if k=b then some o' else w.heap[k]?):St W L' w':=by
 refine⟨ho.trans h.os,ht.trans h.tape,hp.trans h.output,?_⟩;have:=Hw7 hu rfl rfl h.sat
 have e:N5 (fun b=>w.heap[b]?) b o'=fun b=>w'.heap[b]? := by funext k;rw[hh k];rfl
 rw[e]at this;exact this
theorem Upd.mem{L L':List HP}{X Y:HP}(hu:Upd L X Y L'):Mem X L:=by
 induction hu with
 | head=>exact .head
 | tail _ ih=>exact .tail ih
theorem St.setCell{b:Nat}{l:List Value}{T:TypeId}(off:Nat)(v:Value)(h:St W L w)(hu:Upd L (blk b l T) (blk b (l.set off v) T) L'):St W L' (w.setCell ⟨b,off,none⟩ v):=by
 have hg:=h.get (b:=b) hu.mem;refine h.putO hu rfl rfl rfl fun k=>?_
 by_cases hk:k=b
 ·subst hk;rw[heap_setCell_same w k off _ T v hg,if_pos rfl];simp
 ·rw[heap_setCell_other _ _ _ _ hk,if_neg hk]
theorem St.setRow{b:Nat}{l:List Value}{T:TypeId}(l':List Value)(h:St W L w)(hu:Upd L (blk b l T) (blk b l' T) L'):St W L' (w.setRow b l'.toArray):=by
 have hg:=h.get (b:=b) hu.mem;refine h.putO hu rfl rfl rfl fun k=>?_
 by_cases hk:k=b
 ·subst hk;rw[setRow_heap w k _ _ T _ hg,if_pos rfl]
 ·rw[setRow_other _ _ _ _ hk,if_neg hk]
theorem St.cell{b off:Nat}{l:List Value}{T:TypeId}{v:Value}(h:St W L w)(hm:Mem (blk b l T) L)(hl:l[off]? = some v):w.cell? ⟨b,off,none⟩=some v:=by have:=h.get (b:=b) hm;simp[World.cell?,this,hl]
theorem St.free{b off:Nat}{l:List Value}{T:TypeId}(h:St W L w)(hm:Mem (blk b l T) L):w.frozen? ⟨b,off,none⟩=false:=by have:=h.get (b:=b) hm;simp[World.frozen?,this]
end
theorem fA(l:List Value)(i:Nat)(a:Value):l.toArray.setIfInBounds i a=(l.set i a).toArray:=by simp
theorem fB(x a:Value)(l:List Value)(i:Nat):(x::l).set (i+1) a=x::l.set i a:=rfl
theorem fC(x a:Value)(l:List Value):(x::l).set 0 a=a::l:=rfl
theorem fD{α β:Type}(f:α->β)(l:List α):l.toArray.map f=(l.map f).toArray:=by simp
theorem fE(l:Array Value)(i:Nat)(d:Value):l.getD i d=l[i]?.getD d:=by simp
theorem fF(l:List Value)(i:Nat):l.toArray[i]? = l[i]? := by simp
theorem fG(a:Value)(l:List Value)(i:Nat):(a::l)[i+1]? = l[i]? := by simp
theorem fH(a:Value)(l:List Value):(a::l)[0]? = some a:=by simp
theorem fI{α β:Type}(f:α->β)(a:α)(l:List α):(a::l).map f=f a::l.map f:=rfl
theorem fJ{α β:Type}(f:α->β):([]:List α).map f=[]:=rfl
theorem fK{α:Type}(a d:α):(some a).getD d=a:=rfl
theorem fL{α:Type}(a:α)(l m:List α):a::l++m=a::(l++m):=rfl
theorem fM{α:Type}(l:List α):[]++l=l:=rfl
end Go.Sl
end
section
namespace Go.Sl
open Go.ChangeShapes Go.WideShapes Go.ChangeAt Go.RowKit
section
variable{H:Type}{enc:TypeId×Value->H}{P:Program}
theorem Bt7{w w':World}{base:Nat}{spare:Nat->Bool}{held:Bool}:∀{ts:List TypeId} {vs:List Value} {ds:List (DataW H)} {ps:List MemPlace},
  DataW.TrodAll enc P w base spare held ts vs ds ps->(∀p∈ps,w.sameAt w' p)->DataW.TrodAll enc P w' base spare held ts vs ds ps
 | [],[],[],_,h,_=>h
 | _::_,_::_,_::_,_,⟨p,q,⟨n,hn⟩,h2,e⟩,hs=>
  ⟨p,q,⟨n,DataW.trod_carry n _ _ _ hn fun x hx=>hs x (by rw[e];exact List.mem_append_left _ hx)⟩,Bt7 h2 (fun x hx=>hs x (by rw[e];exact List.mem_append_right _ hx)),e⟩
theorem law_post{f:Func}{s:ChangeSpec}{apart fresh handsOn again:Bool}{W W':World}{args:Array Value}{ds gs:List (DataW H)}{before:List MemPlace}{tb:TypeId}
  (hl:laidOutB P=true) (hm:mapsRowed P=true) (hz:((List.range P.types.size).all fun t=>match P.underlying t with|some (.slice e)=>decide (0<P.cellsOf e)|_=>true)=true)
  (hT:f.params.toList.all (·<P.types.size)=true) (hr:f.resultTypes=#[tb]) (hb:P.underlying tb=some .bool) (hv:s.vars=[])
  (hW:DataW.Whole enc P f.params.toList s.vars apart W args.toList ds gs before)
  (hres:(s.fn H (ds++gs)).results=[.lit (.bool true)]) (hargs:(s.fn H (ds++gs)).args=ds) (hvars:(s.fn H (ds++gs)).vars=[])
  (hB:Below W.heap.size W W'):s.post enc P f apart fresh handsOn again W args (.bool true) W':=by
 have hW0:=hW;obtain⟨p,q,hA,hV,rfl,hfz,hnd⟩:=hW;rw[hv]at hV;obtain⟨rfl,rfl⟩:=trodVars_none hV;have hlt:∀x∈p++[],x.block<W.heap.size:=fun x hx=>hW0.lt x hx
 have hA':∀sp:Nat->Bool,(∀x∈p++[],sp x.block=true)->DataW.TrodAll enc P W' 0 sp true f.params.toList args.toList (s.fn H (ds++[])).args p:=fun sp hs=>by rw[hargs];refine Bt7 (DataW.TrodAll.respare (kids_rows hl hm) (fun t e=>slices_full_of P hz t e) (fun t ht=>by simpa using List.all_eq_true.1 hT t ht) hA fun x hx=>hs x (by simpa using hx)) fun x hx=>hB.same (hlt x (by simpa using hx))
 have hR:∀(b:Nat) (sp:Nat->Bool) (hd:Bool),DataW.TrodAll enc P W' b sp hd f.resultTypes.toList ((Value.bool true).resultList f.resultTypes.size) (s.fn H (ds++[])).results []:=fun b sp hd=>by rw[hres,hr];exact trodAll_cons_mk (shut_bool hb _) trodAll_mk0
 have hU:∀sp:Nat->Bool,DataW.TrodVars enc P W' sp s.vars (s.fn H (ds++[])).vars []:=fun sp=>by rw[hv,hvars];rfl
 have hold:∀x∈p++[],(fun b=>decide (b<W.heap.size)) x.block=true:=fun x hx=>by simpa using hlt x hx
 refine⟨ds,[],p++[],[],p,[],hW0,hR _ _ _,hA' _ hold,hU _,World.keptBut_mono (fun x hx=>⟨hx,?_⟩) (hB.frame (·∈p++[])),fun _=>?_⟩
 ·exact Or.inr (by simpa using hx)
 ·refine⟨ok_one hr rfl (okWide_bool_mk hb _),_,_,([]++p)++[],⟨[]++p,[],trodAll_append (hA' _ (fun _ _=>rfl)) (hR _ _ _),hU _,rfl,?_,?_⟩,?_⟩
  ·intro b off hx;rw[hB.frozen (hlt _ (by simpa using hx))];exact hfz b off (by simpa using hx)
  ·intro ha;simpa using hnd ha
  ·intro x hx _;simpa using hx
end
end Go.Sl
end
