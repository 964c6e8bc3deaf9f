/-
  A region that draws its order, whose operations each turn resources of their.
-/
import Derived.Test.YtjcfifkjbaffnaaGreatPkQM2
set_option maxHeartbeats 16000000
set_option maxRecDepth 100000
set_option linter.unusedSimpArgs false
set_option linter.unusedVariables false
section
namespace Go.Sl
open Go.RowKit
structure Tok where
 prod:Option Nat
 cons:Option Nat
 res:(Nat->Value)->HP
def K6(ops:Array Oper)(i:Nat):List Nat:=
 match ops[i]? with
 | some o=>(o.after.toList.filter (Region.binds .any)).map (·.on)
 | none=>[]
def m8(t:List Nat)(i j:Nat):Bool:=(t.getD i 0).testBit j
def aj4(ops:Array Oper)(t:List Nat):Bool:=
 (List.range ops.size).all fun i=>(List.range ops.size).all fun j=>!m8 t i j||(decide (j<i)&&((K6 ops i).contains j||(K6 ops i).any fun d=>decide (d<i)&&m8 t d j))
def A5(ops:Array Oper):Bool:=
 (List.range ops.size).all fun i=>(List.range ops.size).all fun j=>i==j||((ops[i]?).bind (·.dst)).isNone||((ops[i]?).bind (·.dst)) != ((ops[j]?).bind (·.dst))
def M9 (ops : Array Oper) (t : List Nat) : Bool :=
  (List.range ops.size).all fun i => (List.range ops.size).all fun j => i == j || m8 t i j || m8 t j i ||
    (match (ops[j]?).bind (·.dst), ops[i]? with
     | some s, some o => !(o.looksAt ops).contains s
     | _, _ => true)
def ar4(n:Nat)(t:List Nat)(toks:List Tok):Bool:=
 toks.all fun k=>(match k.prod with|some p=>decide (p<n)|none=>true)&&(match k.cons with|some c=>decide (c<n)|none=>true)&&(match k.prod,k.cons with|some p,some c=>m8 t c p|_,_=>true)
def aN4(ops:Array Oper):Bool:=(List.range ops.size).all fun i=>(K6 ops i).all fun d=>decide (d<i)
def ak4(ops:Array Oper)(t:List Nat)(toks:List Tok):Bool:=
 Region.noSelect ops&&aN4 ops&&aj4 ops t&&A5 ops&&M9 ops t&&ar4 ops.size t toks
def l9(t:List Nat)(i:Nat)(k:Tok):Bool:=
 (match k.prod with|some p=>m8 t i p|none=>true)&&(match k.cons with|some c=>c==i||m8 t c i|none=>true)
def here(toks:List Tok)(t:List Nat)(i:Nat)(nd:Nat->Value):List HP:=(toks.filter (l9 t i)).map (·.res nd)
def o9(toks:List Tok)(t:List Nat)(i:Nat)(nd:Nat->Value):List HP:=
 ((toks.filter fun k=>l9 t i k&&k.cons != some i)++toks.filter fun k=>k.prod==some i).map (·.res nd)
def upd(nd:Nat->Value)(i:Nat)(v:Value):Nat->Value:=fun j=>if j=i then v else nd j
def L6(toks:List Tok)(nd:Nat->Value):List HP:=(toks.filter fun k=>k.cons==none).map (·.res nd)
section
variable(P:Program)(W:World)(ops:Array Oper)(t:List Nat)(toks:List Tok)(fresh:Nat->Bool)(pin:Nat->Option Value)
def bc4(o:Oper)(a:Act)(i:Nat)(nd:Nat->Value)(v:Value):Prop:=
 ∀F w,St W (here toks t i nd++F) w->∃w',((execOp a.eval o).run P w=.ok (.value v) w'\/((execOp a.eval o).run P w=.ok .skip w'/\v=undef))/\St W (o9 toks t i nd++F) w'
def bd4(R:Value->World->Prop):Result Next->Prop
 | .ok (.value v) w'=>R v w'
 | .ok (.enter f args) w'=>Calls P f args w' fun e w''=>∃v,e=.returned v/\R v w''
 | _=>False
def be4(o:Oper)(a:Act)(i:Nat)(nd:Nat->Value):Prop:=
 ∀F w,St W (here toks t i nd++F) w->bd4 P (fun v w'=>St W (o9 toks t i (upd nd i v)++F) w') ((execOp a.eval o).run P w)
def bf4(o:Oper)(a:Act)(i:Nat)(nd:Nat->Value)(v:Value):Prop:=
 ∀F w,St W (here toks t i nd++F) w->bd4 P (fun v' w'=>v'=v/\St W (o9 toks t i nd++F) w') ((execOp a.eval o).run P w)
def bg4(i:Nat)(nd:Nat->Value):Prop:=∀F w,St W (here toks t i nd++F) w->St W (o9 toks t i nd++F) w
def d9(Qf:Act->Prop)(nd:Nat->Value):Nat->List Oper->Act->Prop
 | _,[],a=>Qf a
 | i,o::l,a=>
  (Region.wanted o (yielded ops a.tmps)=true/\fresh i=true/\be4 P W t toks o a i nd/\d9 Qf nd (i+1) l (a.put o.dst (nd i))) \/
  (Region.wanted o (yielded ops a.tmps)=true/\fresh i=false/\∃v,bc4 P W t toks o a i nd v/\d9 Qf nd (i+1) l (a.put o.dst v)) \/
  (Region.wanted o (yielded ops a.tmps)=false/\bg4 W t toks i nd/\d9 Qf nd (i+1) l (a.put o.dst undef)) \/
  (Region.wanted o (yielded ops a.tmps)=true/\fresh i=false/\∃v,pin i=some v/\bf4 P W t toks o a i nd v/\d9 Qf nd (i+1) l (a.put o.dst v))
def K7(o:Oper)(a:Act)(i:Nat)(nd:Nat->Value)(v:Value):Prop:=
 (Region.wanted o (yielded ops a.tmps)=true/\fresh i=true/\be4 P W t toks o a i nd/\v=nd i) \/
 (Region.wanted o (yielded ops a.tmps)=true/\fresh i=false/\bc4 P W t toks o a i nd v) \/
 (Region.wanted o (yielded ops a.tmps)=false/\bg4 W t toks i nd/\v=undef) \/
 (Region.wanted o (yielded ops a.tmps)=true/\fresh i=false/\pin i=some v/\bf4 P W t toks o a i nd v)
def En(l:List Oper)(a:Act)(vs:Nat->Value):Nat->Act
 | 0=>a
 | k+1=>match l[k]? with
  | some o=>(En l a vs k).put o.dst (vs k)
  | none=>En l a vs k
end
section
variable{P:Program}{W:World}{ops:Array Oper}{t:List Nat}{toks:List Tok}{fresh:Nat->Bool}{pin:Nat->Option Value}
theorem Ge7(o:Oper)(l:List Oper)(a:Act)(v:Value)(vs vs':Nat->Value)(h0:vs 0=v)(h:∀k,vs (k+1)=vs' k):∀k,En (o::l) a vs (k+1)=En l (a.put o.dst v) vs' k
 | 0=>by simp[En,h0]
 | k+1=>by rw[En,Ge7 o l a v vs vs' h0 h k,En];simp only[List.getElem?_cons_succ,h]
theorem Cg7 {Qf : Act -> Prop} {nd : Nat -> Value} : ∀ (l : List Oper) (i : Nat) (a : Act), d9 P W ops t toks fresh pin Qf nd i l a ->
    ∃ vs : Nat -> Value, Qf (En l a vs l.length) /\ ∀ k o, l[k]? = some o -> K7 P W ops t toks fresh pin o (En l a vs k) (i + k) nd (vs k)
  | [], _, a, h => ⟨fun _ => undef, h, fun k o hk => by simp at hk⟩
  | o :: l, i, a, h => by
    have go : ∀ v, K7 P W ops t toks fresh pin o a i nd v -> d9 P W ops t toks fresh pin Qf nd (i + 1) l (a.put o.dst v) ->
        ∃ vs : Nat -> Value, Qf (En (o :: l) a vs (o :: l).length) /\ ∀ k o', (o :: l)[k]? = some o' -> K7 P W ops t toks fresh pin o' (En (o :: l) a vs k) (i + k) nd (vs k) := by
      intro v hv hc;obtain ⟨vs, h1, h2⟩ := Cg7 l (i + 1) _ hc;have hE := Ge7 o l a v (fun | 0 => v | k + 1 => vs k) vs rfl (fun _ => rfl);refine ⟨fun | 0 => v | k + 1 => vs k, ?_, fun k o' hk => ?_⟩
      · rw [jC, hE]; exact h1
      · cases k with
        | zero =>
          obtain rfl : o = o' := by simpa using hk
          exact hv
        | succ k => have := h2 k o' (by simpa using hk);rw [hE, show i + (k + 1) = i + 1 + k by omega];exact this
    rcases h with ⟨h1, h2, h3, h4⟩ | ⟨h1, h2, v, h3, h4⟩ | ⟨h1, h3, h4⟩ | ⟨h1, h2, v, h0, h3, h4⟩
    · exact go _ (.inl ⟨h1, h2, h3, rfl⟩) h4
    · exact go v (.inr (.inl ⟨h1, h2, h3⟩)) h4
    · exact go _ (.inr (.inr (.inl ⟨h1, h3, rfl⟩))) h4
    · exact go v (.inr (.inr (.inr ⟨h1, h2, h0, h3⟩))) h4
structure EnvOk(ops:Array Oper)(a0:Act)(D:Nat->Bool)(vs:Nat->Value)(a:Act):Prop where
 defers:a.defers=a0.defers
 size:a.tmps.size=a0.tmps.size
 done:∀j o s,ops[j]? = some o->o.dst=some s->D j=true->s<a0.tmps.size->a.tmps[s]? = some (vs j)
 rest:∀s,(∀j o,ops[j]? = some o->D j=true->o.dst≠some s)->a.tmps[s]? = a0.tmps[s]?
theorem EnvOk.put{a0 a:Act}{D D':Nat->Bool}{vs:Nat->Value}(h:EnvOk ops a0 D vs a)(hw:A5 ops=true){i:Nat}{o:Oper}(ho:ops[i]? = some o)
  (hD:∀j,D' j=true↔D j=true\/j=i):EnvOk ops a0 D' vs (a.put o.dst (vs i)):=by
 have hsz:(a.put o.dst (vs i)).tmps.size=a0.tmps.size:=by rw[<-h.size];unfold Act.put;split <;> simp
 refine⟨by rw[<-h.defers];unfold Act.put;split <;> rfl,hsz,?_,?_⟩
 ·intro j o' s hj hs hDj hlt;by_cases hji:j=i
  ·subst hji;obtain rfl:o=o':=Option.some.inj (ho.symm.trans hj);unfold Act.put;simp[hs,h.size,hlt]
  ·have hne:o.dst≠some s:=by
    intro he;have h1:=List.all_eq_true.1 hw j (List.mem_range.2 (Array.getElem?_eq_some_iff.1 hj).1);have h2:=List.all_eq_true.1 h1 i (List.mem_range.2 (Array.getElem?_eq_some_iff.1 ho).1);simp[hji,hj,ho,hs,he]at h2
   have h3:=h.done j o' s hj hs (((hD j).1 hDj).resolve_right hji) hlt;unfold Act.put;split
   ·rename_i d hd
    rw[hd]at hne;rw[Array.getElem?_setIfInBounds_ne (fun e=>hne (by rw[e]))];exact h3
   ·exact h3
 ·intro s hs;have hne:o.dst≠some s:=hs i o ho ((hD i).2 (.inr rfl));have h3:=h.rest s fun j o' hj hDj=>hs j o' hj ((hD j).2 (.inl hDj))
  unfold Act.put;split
  ·rename_i d hd
   rw[hd]at hne;rw[Array.getElem?_setIfInBounds_ne (fun e=>hne (by rw[e]))];exact h3
  ·exact h3
theorem EnvOk.en(hw:A5 ops=true)(a0:Act)(vs:Nat->Value):∀k,k<=ops.size->EnvOk ops a0 (fun j=>decide (j<k)) vs (En ops.toList a0 vs k)
 | 0,_=>⟨rfl,rfl,fun j o s _ _ h _=>by simp at h,fun s _=>rfl⟩
 | k+1,hk=>by
  have ih:=EnvOk.en hw a0 vs k (by omega);have hlt:k<ops.size:=by omega
  have ho:ops[k]? = some ops[k]:=by simp[hlt]
  rw[En];simp only[Array.getElem?_toList,ho];exact ih.put hw ho fun j=>by simp;omega
theorem Be7{l l':List HP}(hp:l.Perm l'):∀{h:t7},sats l h->sats l' h:=by
 induction hp with
 | nil=>exact fun h=>h
 | cons x _ ih=>exact fun h=>AH7 (fun _ x=>x) (fun _ x=>ih x) h
 | swap x y l=>exact fun h=>BU7 h
 | trans _ _ h1 h2=>exact fun h=>h2 (h1 h)
theorem St.perm{w:World}{l l':List HP}(h:St W l w)(hp:l.Perm l'):St W l' w:=⟨h.os,h.tape,h.output,Be7 hp h.sat⟩
theorem AJ7{α:Type}{p q r:α->Bool}:∀(l:List α),(∀k∈l,p k=(q k||r k))->(∀k∈l,¬(q k=true/\r k=true))->(l.filter p).Perm (l.filter q++l.filter r)
 | [],_,_=>.nil
 | x::l,h1,h2=>by
  have ih:=AJ7 l (fun k hk=>h1 k (List.mem_cons_of_mem _ hk)) (fun k hk=>h2 k (List.mem_cons_of_mem _ hk));have e:=h1 x (List.mem_cons_self ..);have n:=h2 x (List.mem_cons_self ..)
  cases hq:q x <;> cases hr:r x <;> rw[hq,hr]at e n
  ·rw[List.filter_cons_of_neg (by simp[e]),List.filter_cons_of_neg (by simp[hq]),List.filter_cons_of_neg (by simp[hr])];exact ih
  ·rw[List.filter_cons_of_pos (by simp[e]),List.filter_cons_of_neg (by simp[hq]),List.filter_cons_of_pos hr];exact(ih.cons x).trans List.perm_middle.symm
  ·rw[List.filter_cons_of_pos (by simp[e]),List.filter_cons_of_pos hq,List.filter_cons_of_neg (by simp[hr])];exact ih.cons x
  ·exact absurd ⟨rfl,rfl⟩ n
theorem ET7{i d:Nat}{o:Oper}(ho:ops[i]? = some o):d∈K6 ops i↔∃e∈o.after,Region.binds .any e=true/\e.on=d:=by unfold K6;simp only[ho,jE,List.mem_filter,Array.mem_toList_iff];exact⟨fun⟨e,⟨h1,h2⟩,h3⟩=>⟨e,h1,h2,h3⟩,fun⟨e,h1,h2,h3⟩=>⟨e,⟨h1,h2⟩,h3⟩⟩
theorem AT7(hT:aj4 ops t=true){i j:Nat}(hi:i<ops.size)(hj:j<ops.size)(h:m8 t i j=true):j<i/\(j∈K6 ops i\/∃d∈K6 ops i,d<i/\m8 t d j=true):=by have h1:=List.all_eq_true.1 (List.all_eq_true.1 hT i (List.mem_range.2 hi)) j (List.mem_range.2 hj);simp only[h,Bool.not_true,Bool.false_or,jB,decide_eq_true_eq,Bool.or_eq_true,List.contains_iff_mem,List.any_eq_true]at h1;exact h1
theorem BH7{D:Nat->Bool}(hT:aj4 ops t=true)(hcl:∀j,j<ops.size->D j=true->∀d∈K6 ops j,D d=true):
  ∀(i:Nat),i<ops.size->(∀d∈K6 ops i,D d=true)->∀j,j<ops.size->m8 t i j=true->D j=true:=by
 intro i
 induction i using Nat.strongRecOn with
 | _ i ih=>
  intro hi hd j hj hw;obtain⟨_,h|⟨d,h1,h2,h3⟩⟩:=AT7 hT hi hj hw
  ·exact hd j h
  ·exact ih d h2 (by omega) (fun x hx=>hcl d (by omega) (hd d h1) x hx) j hj h3
theorem Hy7{a0 a:Act}{D:Nat->Bool}{vs:Nat->Value}{i:Nat}{o:Oper}(hw:A5 ops=true)(hr:M9 ops t=true)(hT:aj4 ops t=true)(ho:ops[i]? = some o)(h:EnvOk ops a0 D vs a)
  (hDi:D i=false) (hup:∀j,j<ops.size->m8 t i j=true->D j=true) (hdn:∀j,j<ops.size->m8 t j i=true->D j=false):
  ∀s,(o.looksAt ops).contains s=true->a.tmps[s]? = (En ops.toList a0 vs i).tmps[s]? := by
 intro s hs;have hi:i<ops.size:=(Array.getElem?_eq_some_iff.1 ho).1;have hE:=EnvOk.en hw a0 vs i (by omega)
 have hcase:∀j o',ops[j]? = some o'->o'.dst=some s->j≠i->(m8 t i j=true\/m8 t j i=true):=by
  intro j o' hj hs' hji;have h1:=List.all_eq_true.1 (List.all_eq_true.1 hr i (List.mem_range.2 hi)) j (List.mem_range.2 (Array.getElem?_eq_some_iff.1 hj).1);have hij:(i==j)=false:=by simpa using fun e=>hji e.symm
  simp only[hij,hj,ho,Option.bind_some,hs',hs,Bool.not_true,Bool.or_false,Bool.false_or,Bool.or_eq_true]at h1;exact h1
 by_cases hex:∃j o',ops[j]? = some o'/\o'.dst=some s/\j≠i/\m8 t i j=true
 ·obtain⟨j,o',hj,hs',hji,hwt⟩:=hex;have hjl:j<ops.size:=(Array.getElem?_eq_some_iff.1 hj).1;have hlt:=(AT7 hT hi hjl hwt).1;by_cases hsl:s<a0.tmps.size
  ·rw[h.done j o' s hj hs' (hup j hjl hwt) hsl,hE.done j o' s hj hs' (by simpa using hlt) hsl]
  ·rw[Array.getElem?_eq_none (by rw[h.size];exact Nat.le_of_not_lt hsl),Array.getElem?_eq_none (by rw[hE.size];exact Nat.le_of_not_lt hsl)]
 ·have hno:∀j o',ops[j]? = some o'->o'.dst=some s->j=i\/m8 t j i=true:=fun j o' hj hs'=>by
   by_cases hji:j=i
   ·exact .inl hji
   ·rcases hcase j o' hj hs' hji with h1|h1
    ·exact absurd ⟨j,o',hj,hs',hji,h1⟩ hex
    ·exact .inr h1
  rw[h.rest s fun j o' hj hD hs'=>?_,hE.rest s fun j o' hj hD hs'=>?_]
  ·have hD':j<i:=by simpa using hD
   rcases hno j o' hj hs' with rfl|h1
   ·omega
   ·have:=(AT7 hT (Array.getElem?_eq_some_iff.1 hj).1 hi h1).1;omega
  ·rcases hno j o' hj hs' with rfl|h1
   ·rw[hDi]at hD;cases hD
   ·rw[hdn j (Array.getElem?_eq_some_iff.1 hj).1 h1]at hD;cases hD
theorem Gf7{a b:Act}{o:Oper}(hsel:∀cs c,o.op ≠ .select cs c)(h:∀s,(o.looksAt ops).contains s=true->a.tmps[s]? = b.tmps[s]?):
  execOp a.eval o=execOp b.eval o/\Region.wanted o (yielded ops a.tmps)=Region.wanted o (yielded ops b.tmps):=by
 refine⟨execOp_congr o hsel fun x hx=>?_,?_⟩
 ·cases x with
  | tmp s=>
   have:=h s (by rw[List.contains_iff_mem];exact List.mem_append_left _ (List.mem_filterMap.2 ⟨.tmp s,by simpa using hx,rfl⟩));simp[Act.eval,this]
  | _=>rfl
 ·unfold Region.wanted
  cases hg:o.guard with
  | none=>rfl
  | some gw=>
   obtain⟨g,want⟩:=gw
   have hy:yielded ops a.tmps g=yielded ops b.tmps g:=by
    unfold yielded
    cases ht:(ops[g]?).bind (·.dst)with
    | none=>rfl
    | some s=>
     have:=h s (by rw[List.contains_iff_mem];unfold Oper.looksAt;exact List.mem_append_right _ (by simp[hg,ht]));simp[this]
   simp only[hy]
def j8(D:Nat->Bool)(k:Tok):Bool:=(match k.prod with|some p=>D p|none=>true)&&(match k.cons with|some c=>!D c|none=>true)
structure Inv(W:World)(ops:Array Oper)(toks:List Tok)(fresh:Nat->Bool)(a0:Act)(val:(Nat->Value)->Nat->Value)(listed:Array Bool)(a:Act)(w:World):Prop where
 size:listed.size=ops.size
 closed:∀j,j<ops.size->listed.getD j false=true->∀d∈K6 ops j,listed.getD d false=true
 act:∃act:Nat->Value, ∀nd,(∀j,listed.getD j false=true->fresh j=true->nd j=act j)->
  EnvOk ops a0 (fun j=>listed.getD j false) (val nd) a/\St W ((toks.filter (j8 fun j=>listed.getD j false)).map (·.res nd)) w
def q9(t:List Nat)(toks:List Tok)(fresh:Nat->Bool):Prop:=
 ∀k∈toks, ∀nd nd':Nat->Value,(∀j,fresh j=true->(match k.prod with|some p=>j==p||(decide (j<p)&&m8 t p j)|none=>false)=true->nd j=nd' j)->k.res nd=k.res nd'
section
variable{Q:Exit->Act->World->Prop}{a0:Act}{val:(Nat->Value)->Nat->Value}
theorem Hz7 (hsel : Region.noSelect ops = true) (hT : aj4 ops t = true) (hw : A5 ops = true) (hr : M9 ops t = true) (htk : ar4 ops.size t toks = true) (hcong : q9 t toks fresh)
    (hspec : ∀ nd k o, ops[k]? = some o -> K7 P W ops t toks fresh pin o (En ops.toList a0 (val nd) k) k nd (val nd k))
    {listed : Array Bool} {a : Act} {w : World} {i : Nat} (hinv : Inv W ops toks fresh a0 val listed a w) (hi : i ∈ Region.ready .any ops listed) :
    wpOp P ops Q i (fun a' w' => Inv W ops toks fresh a0 val (listed.setIfInBounds i true) a' w') a w := by
  obtain ⟨hun, o, ho, hall⟩ := mem_ready.1 hi;have hil : i < ops.size := (Array.getElem?_eq_some_iff.1 ho).1;obtain ⟨hsz, hcl, act, hact⟩ := hinv;generalize hDdef : (fun j => listed.getD j false) = D at hact;have hDe : ∀ j, listed.getD j false = D j := fun j => by rw [<- hDdef]
  have hDi : D i = false := by rw [<- hDe]; exact getD_both hun
  have hcl' : ∀ j, j < ops.size -> D j = true -> ∀ d ∈ K6 ops j, D d = true := fun j hj h d hd => by rw [<- hDe] at h ⊢; exact hcl j hj h d hd
  have hD' : ∀ j, (listed.setIfInBounds i true).getD j false = true ↔ D j = true \/ j = i := fun j => by
    by_cases hji : j = i
    · subst hji; simp [hsz, hil]
    · rw [getD_set_ne false (Ne.symm hji), hDe]; simp [hji]
  have hdd : ∀ d ∈ K6 ops i, D d = true := fun d hd => by obtain ⟨e, he, hb, rfl⟩ := (ET7 ho).1 hd;rw [<- hDe]; exact hall e he hb
  have hup : ∀ j, j < ops.size -> m8 t i j = true -> D j = true := fun j hj h => BH7 hT hcl' i hil hdd j hj h
  have hdn : ∀ j, j < ops.size -> m8 t j i = true -> D j = false := fun j hj h => by
    cases hjD : D j with
    | false => rfl
    | true => rw [BH7 hT hcl' j hj (hcl' j hj hjD) i hil h] at hDi; cases hDi
  have hclo : ∀ p, p < ops.size -> D p = true -> ∀ j, j < ops.size -> m8 t p j = true -> D j = true := fun p hp h j hj hpj => BH7 hT hcl' p hp (hcl' p hp h) j hj hpj
  have hself : m8 t i i = false := by
    cases h : m8 t i i with
    | false => rfl
    | true => have := (AT7 hT hil hil h).1; omega
  have htoks : ∀ k ∈ toks, (∀ p, k.prod = some p -> p < ops.size) /\ (∀ c, k.cons = some c -> c < ops.size) /\ ∀ p c, k.prod = some p -> k.cons = some c -> m8 t c p = true := fun k hk => by
    have := List.all_eq_true.1 htk k hk;simp only [jB] at this;refine ⟨fun p hp => ?_, fun c hc => ?_, fun p c hp hc => ?_⟩
    · simpa [hp] using this.1.1
    · simpa [hc] using this.1.2
    · simpa [hp, hc] using this.2
  have hhere : ∀ k ∈ toks, l9 t i k = true -> j8 D k = true := fun k hk h => by
    obtain ⟨h1, h2, _⟩ := htoks k hk;unfold l9 at h;unfold j8;rw [jB] at h ⊢;refine ⟨?_, ?_⟩
    · cases hp : k.prod with
      | none => rfl
      | some p => rw [hp] at h; exact hup p (h1 p hp) h.1
    · cases hc : k.cons with
      | none => rfl
      | some c =>
        rw [hc] at h;have h3 := h.2;simp only [Bool.or_eq_true, beq_iff_eq] at h3
        rcases h3 with rfl | h3
        · simp [hDi]
        · simp [hdn c (h2 c hc) h3]
  have P1 := AJ7 (p := j8 D) (q := l9 t i) (r := fun k => j8 D k && !l9 t i k) toks
    (fun k hk => by cases h : l9 t i k with
      | true => simp [hhere k hk h]
      | false => simp) (fun k _ => by simp +contextual)
  have P2 := AJ7 (p := j8 fun j => (listed.setIfInBounds i true).getD j false) (q := fun k => (l9 t i k && k.cons != some i) || k.prod == some i) (r := fun k => j8 D k && !l9 t i k) toks
    (fun k hk => by
      obtain ⟨h1, h2, h3⟩ := htoks k hk;have hb : ∀ j, (listed.setIfInBounds i true).getD j false = (D j || j == i) := fun j => by rw [Bool.eq_iff_iff, hD' j]; simp
      have hh := hhere k hk;unfold j8 at hh ⊢;unfold l9 at hh ⊢;simp only [hb]
      cases hp : k.prod with
      | none =>
        cases hc : k.cons with
        | none => simp
        | some c =>
          simp only [hp, hc, Bool.true_and] at hh ⊢;by_cases hci : c = i
          · subst hci; simp
          · have : (c == i) = false := by simpa using hci
            simp only [this, Bool.or_false, Bool.false_or] at hh ⊢
            cases hx : m8 t c i with
            | true => have := hh hx; simp [this, hci]
            | false => simp
      | some p =>
        by_cases hpi : p = i
        · subst hpi
          cases hc : k.cons with
          | none => simp [hDi]
          | some c =>
            have hwc := h3 p c hp hc;have hcD := hdn c (h2 c hc) hwc;have hci : (c == p) = false := by have := (AT7 hT (h2 c hc) (h1 p hp) hwc).1;simp; omega
            simp [hcD, hci]
        · have hpi' : (p == i) = false := by simpa using hpi
          cases hc : k.cons with
          | none =>
            simp only [hp, hc, Bool.and_true] at hh ⊢
            cases hx : m8 t i p with
            | true => have := hh hx; simp [this]
            | false => simp [hpi']
          | some c =>
            have hwc := h3 p c hp hc;by_cases hci : c = i
            · subst hci; simp [hwc, hpi]
            · have hci' : (c == i) = false := by simpa using hci
              simp only [hp, hc, hci', hpi', Bool.or_false, Bool.false_or] at hh ⊢;have e1 : (some c != some i) = true := by simp [hci]
              cases hx : m8 t i p <;> cases hy : m8 t c i <;> simp [hx, hy, hpi', e1] at hh ⊢
              exact hh)
    (fun k hk ⟨h1, h2⟩ => by
      simp only [Bool.or_eq_true, jB, Bool.not_eq_true', beq_iff_eq] at h1 h2
      rcases h1 with h1 | h1
      · rw [h2.2] at h1; exact Bool.false_ne_true h1.1
      · have := h2.1
        unfold j8 at this;rw [h1] at this;simp [hDi] at this)
  have P3 := AJ7 (p := fun k => (l9 t i k && k.cons != some i) || k.prod == some i) (q := fun k => l9 t i k && k.cons != some i) (r := fun k => k.prod == some i) toks (fun _ _ => rfl)
    (fun k hk ⟨h1, h2⟩ => by
      have hp : k.prod = some i := by simpa using h2
      simp only [jB] at h1;have := h1.1;unfold l9 at this;simp [hp, hself] at this)
  have into : ∀ nd, St W ((toks.filter (j8 D)).map (·.res nd)) w -> St W (here toks t i nd ++ (toks.filter fun k => j8 D k && !l9 t i k).map (·.res nd)) w := fun nd h => by have := h.perm (P1.map (·.res nd));rw [List.map_append] at this;exact this
  have outof : ∀ nd w', St W (o9 toks t i nd ++ (toks.filter fun k => j8 D k && !l9 t i k).map (·.res nd)) w' -> St W ((toks.filter (j8 fun j => (listed.setIfInBounds i true).getD j false)).map (·.res nd)) w' := fun nd w' h => by refine h.perm ?_;unfold o9;rw [<- List.map_append];exact (((P3.symm.append_right _).trans P2.symm).map _)
  have same : ∀ nd, (∀ j, D j = true -> fresh j = true -> nd j = act j) -> execOp a.eval o = execOp (En ops.toList a0 (val nd) i).eval o /\ Region.wanted o (yielded ops a.tmps) = Region.wanted o (yielded ops (En ops.toList a0 (val nd) i).tmps) := fun nd hnd => Gf7 (fun cs c => Region.noSelect_spec hsel i o cs c ho) (Hy7 hw hr hT ho (hact nd fun j h => hnd j (by rwa [<- hDe])).1 hDi hup hdn)
  have ext : ∀ {act' nd : Nat -> Value}, (∀ j, j ≠ i -> act' j = act j) -> (∀ j, (listed.setIfInBounds i true).getD j false = true -> fresh j = true -> nd j = act' j) -> ∀ j, D j = true -> fresh j = true -> nd j = act j := fun {act' nd} ha h j hj hf => by
    have hji : j ≠ i := fun e => by subst e; rw [hDi] at hj; cases hj
    rw [h j ((hD' j).2 (.inl hj)) hf, ha j hji]
  have mk : ∀ (v : Value) (w' : World) (act' : Nat -> Value), (∀ nd, (∀ j, (listed.setIfInBounds i true).getD j false = true -> fresh j = true -> nd j = act' j) -> (∀ j, D j = true -> fresh j = true -> nd j = act j) /\ val nd i = v /\ St W (o9 toks t i nd ++ (toks.filter fun k => j8 D k && !l9 t i k).map (·.res nd)) w') ->
      Inv W ops toks fresh a0 val (listed.setIfInBounds i true) (a.put o.dst v) w' := fun v w' act' h => by
    refine ⟨by simp [hsz], fun j hj hj' d hd => ?_, act', fun nd hnd => ?_⟩
    · rw [hD']
      rcases (hD' j).1 hj' with h1 | rfl
      · exact .inl (hcl' j hj h1 d hd)
      · exact .inl (hdd d hd)
    · obtain ⟨h1, h2, h3⟩ := h nd hnd
      refine ⟨?_, outof nd w' h3⟩;have := (hact nd fun j h => h1 j (by rwa [<- hDe])).1.put hw ho (D' := fun j => (listed.setIfInBounds i true).getD j false) hD';rw [h2] at this;exact this
  -- a choice of values that fits what is done
  have hnd0 : ∀ j, D j = true -> fresh j = true -> (fun j => if D j = true /\ fresh j = true then act j else undef) j = act j := fun j h1 h2 => if_pos ⟨h1, h2⟩
  generalize (fun j => if D j = true /\ fresh j = true then act j else undef) = nd0 at hnd0;have hS0 := into nd0 (hact nd0 fun j h => hnd0 j (by rwa [<- hDe])).2;obtain ⟨hex0, hwa0⟩ := same nd0 hnd0;unfold wpOp;simp only [ho]
  rcases hspec nd0 i o ho with ⟨h1, hf, hN, _⟩ | ⟨h1, hf, hDs⟩ | ⟨h1, hU, h0⟩ | ⟨h1, hf, hpin, hP⟩
  · rw [hwa0, if_pos h1]
    refine .inl ?_
    have hfin : ∀ v w', St W (o9 toks t i (upd nd0 i v) ++ (toks.filter fun k => j8 D k && !l9 t i k).map (·.res nd0)) w' -> Inv W ops toks fresh a0 val (listed.setIfInBounds i true) (a.put o.dst v) w' := fun v w' hS => by
      refine mk v w' (upd act i v) fun nd hnd => ?_
      have hext := ext (act' := upd act i v) (fun j hj => by simp [upd, hj]) hnd;have hndi : nd i = v := by rw [hnd i ((hD' i).2 (.inr rfl)) hf]; simp [upd]
      obtain ⟨_, hwan⟩ := same nd hext
      have hvi : val nd i = v := by
        rcases hspec nd i o ho with ⟨_, _, _, h⟩ | ⟨_, h, _⟩ | ⟨h, _, _⟩ | ⟨_, h, _⟩
        · rw [h, hndi]
        · rw [hf] at h; cases h
        · rw [<- hwan, hwa0, h1] at h; cases h
        · rw [hf] at h; cases h
      refine ⟨hext, hvi, ?_⟩
      have hk1 : ∀ k ∈ toks, j8 D k = true -> k.res nd0 = k.res nd := fun k hk hav => hcong k hk _ _ fun j hj hm => by
        have hDj : D j = true := by
          unfold j8 at hav
          cases hp : k.prod with
          | none => rw [hp] at hm; cases hm
          | some p =>
            rw [hp] at hm hav;simp only [jB] at hav;simp only [Bool.or_eq_true, jB, decide_eq_true_eq, beq_iff_eq] at hm;have hpl := (htoks k hk).1 p hp
            rcases hm with rfl | hm
            · exact hav.1
            · exact hclo p hpl hav.1 j (by omega) hm.2
        rw [hnd0 j hDj hj, hext j hDj hj]
      have hk2 : ∀ k ∈ toks, (l9 t i k = true \/ k.prod = some i) -> k.res (upd nd0 i v) = k.res nd := fun k hk hor => hcong k hk _ _ fun j hj hm => by
        by_cases hji : j = i
        · subst hji; rw [hndi]; simp [upd]
        · have hDj : D j = true := by
            cases hp : k.prod with
            | none => rw [hp] at hm; cases hm
            | some p =>
              rw [hp] at hm;simp only [Bool.or_eq_true, jB, decide_eq_true_eq, beq_iff_eq] at hm;have hpl := (htoks k hk).1 p hp
              rcases hor with hor | hor
              · unfold l9 at hor
                rw [hp] at hor;simp only [jB] at hor;have hDp := hup p hpl hor.1
                rcases hm with rfl | hm
                · exact hDp
                · exact hclo p hpl hDp j (by omega) hm.2
              · obtain rfl : p = i := by rw [hp] at hor; exact Option.some.inj hor
                rcases hm with rfl | hm
                · exact absurd rfl hji
                · exact hup j (by omega) hm.2
          rw [hext j hDj hj];unfold upd;rw [if_neg hji, hnd0 j hDj hj]
      have e1 : o9 toks t i (upd nd0 i v) = o9 toks t i nd := by
        unfold o9;refine List.map_congr_left fun k hk => ?_
        rcases List.mem_append.1 hk with hk | hk
        · have := List.mem_filter.1 hk
          simp only [jB] at this;exact hk2 k this.1 (.inl this.2.1)
        · have := List.mem_filter.1 hk
          exact hk2 k this.1 (.inr (by simpa using this.2))
      have e2 : ((toks.filter fun k => j8 D k && !l9 t i k).map (·.res nd0)) = ((toks.filter fun k => j8 D k && !l9 t i k).map (·.res nd)) := by
        refine List.map_congr_left fun k hk => ?_
        have := List.mem_filter.1 hk;simp only [jB] at this;exact hk1 k this.1 this.2.1
      rw [e1, e2] at hS;exact hS
    unfold Oper.wp;rw [hex0];have hn := hN _ w hS0;generalize (execOp (En ops.toList a0 (val nd0) i).eval o).run P w = r at hn
    cases r with
    | ok n w' =>
      cases n with
      | value v => exact hfin v w' hn
      | enter f args => refine Calls.mono hn ?_;rintro e w'' ⟨v, rfl, h⟩;exact hfin v w'' h
      | _ => exact hn.elim
    | halt x w' => exact hn.elim
  · rw [hwa0, if_pos h1]
    refine .inl ?_;obtain ⟨w', hrun, hS'⟩ := hDs _ w hS0
    have hfin : ∀ v, (execOp a.eval o).run P w = .ok (.value v) w' \/ ((execOp a.eval o).run P w = .ok .skip w' /\ v = undef) -> Inv W ops toks fresh a0 val (listed.setIfInBounds i true) (a.put o.dst v) w' := fun v hv => by
      refine mk v w' act fun nd hnd => ?_
      have hext := ext (act' := act) (fun _ _ => rfl) hnd;obtain ⟨hex, hwan⟩ := same nd hext;have hSn := into nd (hact nd fun j h => hext j (by rwa [<- hDe])).2
      rcases hspec nd i o ho with ⟨_, h, _, _⟩ | ⟨_, _, hD2⟩ | ⟨h, _, _⟩ | ⟨_, _, _, hP2⟩
      · rw [hf] at h; cases h
      · obtain ⟨w2, hrun2, hS2⟩ := hD2 _ w hSn
        rw [<- hex] at hrun2
        have : val nd i = v /\ w2 = w' := by
          rcases hv with hv | ⟨hv, rfl⟩ <;> rcases hrun2 with h2 | ⟨h2, h3⟩ <;> rw [hv] at h2 <;> simp at h2
          · exact ⟨h2.1.symm, h2.2.symm⟩
          · exact ⟨h3, h2.symm⟩
        exact ⟨hext, this.1, this.2 ▸ hS2⟩
      · rw [<- hwan, hwa0, h1] at h; cases h
      · have h5 := hP2 _ w hSn
        rw [<- hex] at h5
        rcases hv with hv | ⟨hv, _⟩
        · rw [hv] at h5
          exact ⟨hext, h5.1.symm, h5.2⟩
        · rw [hv] at h5; exact h5.elim
    rw [<- hex0] at hrun;unfold Oper.wp
    rcases hrun with hrun | ⟨hrun, hv⟩
    · have := hfin _ (.inl hrun)
      rw [hrun]; exact this
    · have := hfin _ (.inr ⟨hrun, rfl⟩)
      rw [hrun]; exact this
  · rw [hwa0, if_neg (by rw [h1]; exact Bool.false_ne_true)]
    refine mk undef w (upd act i (act i)) fun nd hnd => ?_
    have hext := ext (act' := upd act i (act i)) (fun j hj => by simp [upd, hj]) hnd;obtain ⟨_, hwan⟩ := same nd hext;have hSn := into nd (hact nd fun j h => hext j (by rwa [<- hDe])).2
    rcases hspec nd i o ho with ⟨h, _, _, _⟩ | ⟨h, _, _⟩ | ⟨_, hU2, h2⟩ | ⟨h, _, _⟩
    · rw [<- hwan, hwa0, h1] at h; cases h
    · rw [<- hwan, hwa0, h1] at h; cases h
    · exact ⟨hext, h2, hU2 _ w hSn⟩
    · rw [<- hwan, hwa0, h1] at h; cases h
  · rw [hwa0, if_pos h1]
    refine .inl ?_
    have hfin : ∀ w', St W (o9 toks t i nd0 ++ (toks.filter fun k => j8 D k && !l9 t i k).map (·.res nd0)) w' -> Inv W ops toks fresh a0 val (listed.setIfInBounds i true) (a.put o.dst (val nd0 i)) w' := fun w' hS => by
      refine mk _ w' act fun nd hnd => ?_
      have hext := ext (act' := act) (fun _ _ => rfl) hnd;obtain ⟨hex, hwan⟩ := same nd hext
      have hvi : val nd i = val nd0 i := by
        have hSn := into nd (hact nd fun j h => hext j (by rwa [<- hDe])).2
        rcases hspec nd i o ho with ⟨_, h, _⟩ | ⟨_, _, hD2⟩ | ⟨h, _, _⟩ | ⟨_, _, h, _⟩
        · rw [hf] at h; cases h
        · obtain ⟨w2, hrun2, _⟩ := hD2 _ w hSn
          have h5 := hP _ w hS0;rw [<- hex0, hex] at h5
          rcases hrun2 with h2 | ⟨h2, _⟩
          · rw [h2] at h5; exact h5.1
          · rw [h2] at h5; exact h5.elim
        · rw [<- hwan, hwa0, h1] at h; cases h
        · rw [h] at hpin; exact Option.some.inj hpin
      refine ⟨hext, hvi, ?_⟩
      have hk1 : ∀ k ∈ toks, j8 D k = true -> k.res nd0 = k.res nd := fun k hk hav => hcong k hk _ _ fun j hj hm => by
        have hDj : D j = true := by
          unfold j8 at hav
          cases hp : k.prod with
          | none => rw [hp] at hm; cases hm
          | some p =>
            rw [hp] at hm hav;simp only [jB] at hav;simp only [Bool.or_eq_true, jB, decide_eq_true_eq, beq_iff_eq] at hm;have hpl := (htoks k hk).1 p hp
            rcases hm with rfl | hm
            · exact hav.1
            · exact hclo p hpl hav.1 j (by omega) hm.2
        rw [hnd0 j hDj hj, hext j hDj hj]
      have hk2 : ∀ k ∈ toks, (l9 t i k = true \/ k.prod = some i) -> k.res nd0 = k.res nd := fun k hk hor => hcong k hk _ _ fun j hj hm => by
        have hji : j ≠ i := fun e => by rw [e, hf] at hj; cases hj
        have hDj : D j = true := by
          cases hp : k.prod with
          | none => rw [hp] at hm; cases hm
          | some p =>
            rw [hp] at hm;simp only [Bool.or_eq_true, jB, decide_eq_true_eq, beq_iff_eq] at hm;have hpl := (htoks k hk).1 p hp
            rcases hor with hor | hor
            · unfold l9 at hor
              rw [hp] at hor;simp only [jB] at hor;have hDp := hup p hpl hor.1
              rcases hm with rfl | hm
              · exact hDp
              · exact hclo p hpl hDp j (by omega) hm.2
            · obtain rfl : p = i := by rw [hp] at hor; exact Option.some.inj hor
              rcases hm with rfl | hm
              · exact absurd rfl hji
              · exact hup j (by omega) hm.2
        rw [hnd0 j hDj hj, hext j hDj hj]
      have e1 : o9 toks t i nd0 = o9 toks t i nd := by
        unfold o9;refine List.map_congr_left fun k hk => ?_
        rcases List.mem_append.1 hk with hk | hk
        · have := List.mem_filter.1 hk
          simp only [jB] at this;exact hk2 k this.1 (.inl this.2.1)
        · have := List.mem_filter.1 hk
          exact hk2 k this.1 (.inr (by simpa using this.2))
      have e2 : ((toks.filter fun k => j8 D k && !l9 t i k).map (·.res nd0)) = ((toks.filter fun k => j8 D k && !l9 t i k).map (·.res nd)) := by
        refine List.map_congr_left fun k hk => ?_
        have := List.mem_filter.1 hk;simp only [jB] at this;exact hk1 k this.1 this.2.1
      rw [e1, e2] at hS;exact hS
    unfold Oper.wp;rw [hex0];have hn := hP _ w hS0;generalize (execOp (En ops.toList a0 (val nd0) i).eval o).run P w = r at hn
    cases r with
    | ok n w' =>
      cases n with
      | value v => obtain ⟨rfl, hn⟩ := hn; exact hfin w' hn
      | enter f args => refine Calls.mono hn ?_;rintro e w'' ⟨v, rfl, rfl, h⟩;exact hfin w'' h
      | _ => exact hn.elim
    | halt x w' => exact hn.elim
def G6(D:Nat->Bool):Nat->Nat
 | 0=>0
 | n+1=>G6 D n+if D n then 0 else 1
theorem DI7{D D':Nat->Bool}{i:Nat}(h:∀j,j≠i->D' j=D j):∀n,n<=i->G6 D' n=G6 D n
 | 0,_=>rfl
 | n+1,hn=>by rw[G6,G6,DI7 h n (by omega),h n (by omega)]
theorem DJ7{D D':Nat->Bool}{i:Nat}(h:∀j,j≠i->D' j=D j)(h0:D i=false)(h1:D' i=true):∀n,i<n->G6 D n=G6 D' n+1
 | 0,hn=>by omega
 | n+1,hn=>by
  by_cases hi:i=n
  ·subst hi;rw[G6,G6,DI7 h i (Nat.le_refl _),h0,h1];simp
  ·rw[G6,G6,DJ7 h h0 h1 n (by omega),h n (fun e=>hi e.symm)];omega
theorem DK7{D:Nat->Bool}:∀n,G6 D n=0->∀j,j<n->D j=true
 | 0,_,j,hj=>by omega
 | n+1,h,j,hj=>by
  rw[G6]at h;by_cases hjn:j=n
  ·subst hjn
   cases hD:D j with
   | true=>rfl
   | false=>rw[hD]at h;simp at h
  ·exact DK7 n (by omega) j (by omega)
theorem Fw7(hb:aN4 ops=true){listed:Array Bool}(hsz:listed.size=ops.size)(hr:Region.ready .any ops listed=[]):∀j,j<ops.size->listed.getD j false=true:=by
 intro j
 induction j using Nat.strongRecOn with
 | _ j ih=>
  intro hj
  cases hl:listed.getD j false with
  | true=>rfl
  | false=>
   have:j∈Region.ready .any ops listed:=by
    refine mem_ready.2 ⟨getD_in (by omega) hl,ops[j],by simp[hj],fun e he hbi=>?_⟩;have hd:e.on∈K6 ops j:=(ET7 (by simp[hj])).2 ⟨e,he,hbi,rfl⟩;have hlt:e.on<j:=by have h1:=List.all_eq_true.1 (List.all_eq_true.1 hb j (List.mem_range.2 hj)) _ hd;simpa using h1
    exact ih _ hlt (by omega)
   rw[hr]at this
   cases this
theorem Gg7(hw:A5 ops=true)(hQ:∀nd w,St W (L6 toks nd) w->Q .normal (En ops.toList a0 (val nd) ops.size) w)(htk:ar4 ops.size t toks=true)
  {listed:Array Bool} {a:Act} {w:World} (hinv:Inv W ops toks fresh a0 val listed a w) (hall:∀j,j<ops.size->listed.getD j false=true):Q .normal a w:=by
 obtain⟨_,_,act,hact⟩:=hinv;obtain⟨hE,hS⟩:=hact act fun _ _ _=>rfl
 have hE':=EnvOk.en hw a0 (val act) ops.size (Nat.le_refl _)
 have ha:a=En ops.toList a0 (val act) ops.size:=by
  have h1:a.tmps=(En ops.toList a0 (val act) ops.size).tmps:=by
   apply Array.ext_getElem?;intro s;by_cases hex:∃(j:Nat) (o:Oper),ops[j]? = some o/\o.dst=some s
   ·obtain⟨j,o,hj,hs⟩:=hex;have hjl:j<ops.size:=(Array.getElem?_eq_some_iff.1 hj).1;by_cases hsl:s<a0.tmps.size
    ·rw[hE.done j o s hj hs (hall j hjl) hsl,hE'.done j o s hj hs (by simpa using hjl) hsl]
    ·rw[Array.getElem?_eq_none (by rw[hE.size];exact Nat.le_of_not_lt hsl),Array.getElem?_eq_none (by rw[hE'.size];exact Nat.le_of_not_lt hsl)]
   ·rw[hE.rest s fun j o hj _ hs=>hex ⟨j,o,hj,hs⟩,hE'.rest s fun j o hj _ hs=>hex ⟨j,o,hj,hs⟩]
  have h2:a.defers=(En ops.toList a0 (val act) ops.size).defers:=hE.defers.trans hE'.defers.symm
  cases a
  generalize En ops.toList a0 (val act) ops.size=b at h1 h2
  cases b
  simp only[Act.mk.injEq];exact⟨h1,h2⟩
 rw[ha];refine hQ act w ?_
 have he:(toks.filter (j8 fun j=>listed.getD j false))=toks.filter fun k=>k.cons==none:=by
  refine List.filter_congr fun k hk=>?_
  have:=List.all_eq_true.1 htk k hk;simp only[jB]at this;unfold j8
  cases hp:k.prod <;> cases hc:k.cons <;> simp only[hp,hc,decide_eq_true_eq]at this ⊢
  ·rfl
  ·rw[hall _ this.1.2];rfl
  ·rw[hall _ this.1.1];rfl
  ·rw[hall _ this.1.1,hall _ this.1.2];rfl
 rw[he]at hS;exact hS
theorem EU7(hsel:Region.noSelect ops=true)(hb:aN4 ops=true)(hT:aj4 ops t=true)(hw:A5 ops=true)(hr:M9 ops t=true)(htk:ar4 ops.size t toks=true)(hcong:q9 t toks fresh)
  (hspec:∀nd k o,ops[k]? = some o->K7 P W ops t toks fresh pin o (En ops.toList a0 (val nd) k) k nd (val nd k))
  (hQ:∀nd w,St W (L6 toks nd) w->Q .normal (En ops.toList a0 (val nd) ops.size) w):
  ∀(f:Nat) (listed:Array Bool) (a:Act) (w:World),G6 (fun j=>listed.getD j false) ops.size=f->Inv W ops toks fresh a0 val listed a w->wpAny P .any ops Q f listed a w
 | 0,listed,a,w,hf,hinv=>by
  have hall:=DK7 ops.size hf;refine⟨?_,Gg7 hw hQ htk hinv hall⟩
  cases hrd:Region.ready .any ops listed with
  | nil=>rfl
  | cons x xs=>
   have hx:x∈Region.ready .any ops listed:=by rw[hrd];exact List.mem_cons_self ..
   obtain⟨h1,o,ho,_⟩:=mem_ready.1 hx;have:=hall x (Array.getElem?_eq_some_iff.1 ho).1;rw[getD_both h1]at this
   cases this
 | f+1,listed,a,w,hf,hinv=>by refine⟨fun h0=>Gg7 hw hQ htk hinv (Fw7 hb hinv.size h0),fun i hi=>?_⟩;have hun:=(mem_ready.1 hi).1;obtain⟨o,ho,_⟩:=(mem_ready.1 hi).2;have hil:i<ops.size:=(Array.getElem?_eq_some_iff.1 ho).1;refine wpOp_mono (fun a' w' h=>EU7 hsel hb hT hw hr htk hcong hspec hQ f _ a' w' ?_ h) (Hz7 hsel hT hw hr htk hcong hspec hinv hi);have:=DJ7 (D:=fun j=>listed.getD j false) (D':=fun j=>(listed.setIfInBounds i true).getD j false) (i:=i) (fun j hj=>getD_set_ne false (Ne.symm hj)) (getD_both hun) (by simp[hinv.size,hil]) ops.size hil;omega
end
theorem CJ7{Q:Exit->Act->World->Prop}{a:Act}{w:World}{L:List HP}{l:List Oper}{id:Nat}(t:List Nat)(fresh:Nat->Bool)(pin:Nat->Option Value)(toks:List Tok)(hm:P.follows .mixedOrders=true)(hB:ak4 l.toArray t toks=true)(hS:St W L w)
  (hL:∀nd,(toks.filter fun k=>k.prod==none).map (·.res nd)=L) (hcong:q9 t toks fresh)
  (h:∀nd,d9 P W l.toArray t toks fresh pin (fun a'=>∀w',St W (L6 toks nd) w'->Q .normal a' w') nd 0 l a):(Code.region id l.toArray true).wp P Q a w:=by
 unfold ak4 at hB;simp only[jB]at hB;obtain⟨⟨⟨⟨⟨hsel,hb⟩,hT⟩,hw⟩,hr⟩,htk⟩:=hB;have hex:∀nd, ∃vs:Nat->Value,(∀w',St W (L6 toks nd) w'->Q .normal (En l a vs l.length) w')/\∀k o,l[k]? = some o->K7 P W l.toArray t toks fresh pin o (En l a vs k) k nd (vs k):=fun nd=>by obtain⟨vs,h1,h2⟩:=Cg7 l 0 a (h nd);exact⟨vs,h1,fun k o hk=>by have:=h2 k o hk;rwa [Nat.zero_add]at this⟩
 refine wp_region_any hm ?_;refine EU7 (val:=fun nd=>Classical.choose (hex nd)) (a0:=a) hsel hb hT hw hr htk hcong (fun nd k o hk=>(Classical.choose_spec (hex nd)).2 k o (by simpa using hk)) (fun nd w' hS'=>?_) _ _ _ _ ?_ ?_
 ·have:=(Classical.choose_spec (hex nd)).1 w' hS';simpa using this
 ·have:∀n,G6 (fun j=>(Array.replicate l.toArray.size false).getD j false) n=n:=by
   intro n
   induction n with
   | zero=>rfl
   | succ n ih=>rw[G6,ih,getD_replicate_false];rfl
  exact this _
 ·refine⟨by simp,fun j _ hj=>(by rw[getD_replicate_false]at hj;cases hj),fun _=>undef,fun nd _=>⟨⟨rfl,rfl,fun j o s _ _ hD _=>(by simp only[getD_replicate_false]at hD;cases hD),fun s _=>rfl⟩,?_⟩⟩
  have he:(toks.filter (j8 fun j=>(Array.replicate l.toArray.size false).getD j false))=toks.filter fun k=>k.prod==none:=by
   refine List.filter_congr fun k _=>?_
   unfold j8;simp only[getD_replicate_false]
   cases hp:k.prod <;> cases hc:k.cons <;> rfl
  have:=hS.drawn (w.drawn+1);rw[<-hL nd,<-he]at this;exact this
end
theorem DL7{L:List HP}{h:t7}:sats L h↔sats [sats L] h:=by
 refine⟨fun hs=>⟨fun _=>true,hs,trivial⟩,fun⟨S,h1,_⟩=>?_⟩;refine AW7 (S:=fun b=>!S b) ?_;have:f8 (fun b=>!S b) h=k7 S h:=by funext b;simp only[k7,f8];cases S b <;> rfl
 rw[this];exact h1
theorem Bw7:∀{A G:List HP} {h:t7},sats (A++G) h↔sats (A++[sats G]) h
 | [],_,_=>DL7
 | _::_,_,_=>⟨fun hs=>AH7 (fun _ x=>x) (fun _ x=>Bw7.1 x) hs,fun hs=>AH7 (fun _ x=>x) (fun _ x=>Bw7.2 x) hs⟩
theorem St.unpack{W w:World}(A:List HP){G:List HP}(h:St W (A++[sats G]) w):St W (A++G) w:=⟨h.os,h.tape,h.output,Bw7.2 h.sat⟩
def i8:List (Option Nat)->List HP->List Tok
 | []=>fun L=>[⟨none,none,fun _=>sats L⟩]
 | c::cs=>fun L=>match L with
  | X::L=>⟨none,c,fun _=>X⟩::i8 cs L
  | []=>[]
theorem DM7{nd:Nat->Value}:∀(cs:List (Option Nat)) (L:List HP) {h:t7},sats L h->sats ((i8 cs L).map (·.res nd)) h
 | [],_,_,h=>DL7.1 h
 | _::_,[],_,h=>h
 | _::cs,_::L,_,h=>AH7 (fun _ x=>x) (fun _ x=>DM7 cs L x) h
theorem Bx7:∀(cs:List (Option Nat)) (L:List HP), ∀k∈i8 cs L,k.prod=none
 | [],_,k,h=>by
  obtain rfl:k=_:=by simpa[i8]using h
  rfl
 | _::_,[],k,h=>by unfold i8 at h;cases h
 | _::cs,_::L,k,h=>by
  rcases List.mem_cons.1 h with rfl|h
  ·rfl
  ·exact Bx7 cs L k h
theorem AY7{k:Tok}:∀(cs:List (Option Nat)) (L:List HP),k∈i8 cs L->∀nd nd':Nat->Value,k.res nd=k.res nd'
 | [],_,h=>by
  obtain rfl:k=_:=by simpa[i8]using h
  exact fun _ _=>rfl
 | _::_,[],h=>by unfold i8 at h;cases h
 | _::cs,_::L,h=>by
  rcases List.mem_cons.1 h with rfl|h
  ·exact fun _ _=>rfl
  ·exact AY7 cs L h
theorem Bf7{P:Program}{W:World}{Q:Exit->Act->World->Prop}{a:Act}{w:World}{L:List HP}{l:List Oper}{id:Nat}(t:List Nat)(fresh:Nat->Bool)(pin:Nat->Option Value)(made:List Tok)(cs:List (Option Nat))(hm:P.follows .mixedOrders=true)
  (hB:ak4 l.toArray t (made++i8 cs L)=true) (hp:made.all (fun k=>k.prod.isSome)=true) (hS:St W L w) (hcong:q9 t made fresh)
  (h:∀nd,d9 P W l.toArray t (made++i8 cs L) fresh pin (fun a'=>∀w',St W (L6 (made++i8 cs L) nd) w'->Q .normal a' w') nd 0 l a):(Code.region id l.toArray true).wp P Q a w:=by
 have hf:((made++i8 cs L).filter fun k=>k.prod==none)=i8 cs L:=by
  rw[List.filter_append,List.filter_eq_nil_iff.2 fun k hk h1=>?_,jN,List.filter_eq_self.2 fun k hk=>?_]
  ·rw[Bx7 cs L k hk];rfl
  ·have:=List.all_eq_true.1 hp k hk;rw[beq_iff_eq]at h1;rw[h1]at this;cases this
 refine CJ7 (L:=(i8 cs L).map (·.res fun _=>undef)) t fresh pin (made++i8 cs L) hm hB ⟨hS.os,hS.tape,hS.output,DM7 cs L hS.sat⟩ (fun nd=>?_) (fun k hk nd nd' hnd=>?_) h
 ·rw[hf];exact List.map_congr_left fun k hk=>AY7 cs L hk _ _
 ·rcases List.mem_append.1 hk with hk|hk
  ·exact hcong k hk nd nd' hnd
  ·exact AY7 cs L hk _ _
theorem Gh7{P:Program}{W:World}{Q:Exit->Act->World->Prop}{a:Act}{w:World}{L:List HP}{l:List Oper}{id:Nat}(t:List Nat)(fresh:Nat->Bool)(made:List Tok)(cs:List (Option Nat))(hm:P.follows .mixedOrders=true)
  (hB:ak4 l.toArray t (made++i8 cs L)=true) (hp:made.all (fun k=>k.prod.isSome)=true) (hS:St W L w) (hcong:q9 t made fresh)
  (h:∀nd,d9 P W l.toArray t (made++i8 cs L) fresh (fun _=>none) (fun a'=>∀w',St W (L6 (made++i8 cs L) nd) w'->Q .normal a' w') nd 0 l a):(Code.region id l.toArray true).wp P Q a w:=
 Bf7 t fresh (fun _=>none) made cs hm hB hp hS hcong h
theorem q9.nil{t:List Nat}{fresh:Nat->Bool}:q9 t [] fresh:=fun k hk=>by cases hk
theorem q9.cons{t:List Nat}{fresh:Nat->Bool}{k:Tok}{toks:List Tok}(hk:∀nd nd':Nat->Value,(∀j,fresh j=true->(match k.prod with|some p=>j==p||(decide (j<p)&&m8 t p j)|none=>false)=true->nd j=nd' j)->k.res nd=k.res nd')
  (h:q9 t toks fresh):q9 t (k::toks) fresh:=fun k' hk'=>by
 rcases List.mem_cons.1 hk' with rfl|h'
 ·exact hk
 ·exact h k' h'
theorem rf3{P:Program}{W:World}{Q:Exit->Act->World->Prop}{a:Act}{w:World}{L:List HP}{l:List Oper}{id:Nat}(t:List Nat)(fresh:Nat->Bool)(pin:Nat->Option Value)(made:List Tok)(cs:List (Option Nat))(hS:St W L w)
  (h:∀nd,d9 P W l.toArray t (made++i8 cs L) fresh pin (fun a'=>∀w',St W (L6 (made++i8 cs L) nd) w'->Q .normal a' w') nd 0 l a) (hm:P.follows .mixedOrders=true:=by kernel_rfl)
  (hB:ak4 l.toArray t (made++i8 cs L)=true:=by kernel_rfl) (hp:made.all (fun k=>k.prod.isSome)=true:=by rfl) (hcong:q9 t made fresh:=by repeat' (first|exact q9.nil|(refine q9.cons (fun nd nd' h=>?_) ?_;focus(dsimp only;repeat(first|rfl|rw[h 0 rfl rfl]|rw[h 1 rfl rfl]|rw[h 2 rfl rfl]|rw[h 3 rfl rfl]|rw[h 4 rfl rfl]|rw[h 5 rfl rfl]|rw[h 6 rfl rfl]|rw[h 7 rfl rfl]|rw[h 8 rfl rfl]|rw[h 9 rfl rfl]|rw[h 10 rfl rfl]|rw[h 11 rfl rfl]|rw[h 12 rfl rfl]|rw[h 13 rfl rfl]|rw[h 14 rfl rfl]|rw[h 15 rfl rfl]|rw[h 16 rfl rfl]|rw[h 17 rfl rfl]|rw[h 18 rfl rfl]|rw[h 19 rfl rfl]|rw[h 20 rfl rfl]|rw[h 21 rfl rfl]|rw[h 22 rfl rfl]|rw[h 23 rfl rfl]|rw[h 24 rfl rfl]|rw[h 25 rfl rfl]|rw[h 26 rfl rfl]|rw[h 27 rfl rfl]|rw[h 28 rfl rfl]|rw[h 29 rfl rfl]|rw[h 30 rfl rfl]|rw[h 31 rfl rfl]|rw[h 32 rfl rfl]|rw[h 33 rfl rfl]|rw[h 34 rfl rfl]|rw[h 35 rfl rfl]|rw[h 36 rfl rfl]|rw[h 37 rfl rfl]|rw[h 38 rfl rfl]|rw[h 39 rfl rfl]))))):(Code.region id l.toArray true).wp P Q a w:=Bf7 t fresh pin made cs hm hB hp hS hcong h
theorem rf2{P:Program}{W:World}{Q:Exit->Act->World->Prop}{a:Act}{w:World}{L:List HP}{l:List Oper}{id:Nat}(t:List Nat)(fresh:Nat->Bool)(made:List Tok)(cs:List (Option Nat))(hS:St W L w)
  (h:∀nd,d9 P W l.toArray t (made++i8 cs L) fresh (fun _=>none) (fun a'=>∀w',St W (L6 (made++i8 cs L) nd) w'->Q .normal a' w') nd 0 l a) (hm:P.follows .mixedOrders=true:=by kernel_rfl)
  (hB:ak4 l.toArray t (made++i8 cs L)=true:=by kernel_rfl) (hp:made.all (fun k=>k.prod.isSome)=true:=by rfl) (hcong:q9 t made fresh:=by repeat' (first|exact q9.nil|(refine q9.cons (fun nd nd' h=>?_) ?_;focus(dsimp only;repeat(first|rfl|rw[h 0 rfl rfl]|rw[h 1 rfl rfl]|rw[h 2 rfl rfl]|rw[h 3 rfl rfl]|rw[h 4 rfl rfl]|rw[h 5 rfl rfl]|rw[h 6 rfl rfl]|rw[h 7 rfl rfl]|rw[h 8 rfl rfl]|rw[h 9 rfl rfl]|rw[h 10 rfl rfl]|rw[h 11 rfl rfl]|rw[h 12 rfl rfl]|rw[h 13 rfl rfl]|rw[h 14 rfl rfl]|rw[h 15 rfl rfl]|rw[h 16 rfl rfl]|rw[h 17 rfl rfl]|rw[h 18 rfl rfl]|rw[h 19 rfl rfl]|rw[h 20 rfl rfl]|rw[h 21 rfl rfl]|rw[h 22 rfl rfl]|rw[h 23 rfl rfl]|rw[h 24 rfl rfl]|rw[h 25 rfl rfl]|rw[h 26 rfl rfl]|rw[h 27 rfl rfl]|rw[h 28 rfl rfl]|rw[h 29 rfl rfl]|rw[h 30 rfl rfl]|rw[h 31 rfl rfl]|rw[h 32 rfl rfl]|rw[h 33 rfl rfl]|rw[h 34 rfl rfl]|rw[h 35 rfl rfl]|rw[h 36 rfl rfl]|rw[h 37 rfl rfl]|rw[h 38 rfl rfl]|rw[h 39 rfl rfl]))))):(Code.region id l.toArray true).wp P Q a w:=rf3 t fresh (fun _=>none) made cs hS h hm hB hp hcong
def cnL(toks:List Tok)(t:List Nat)(i:Nat)(nd:Nat->Value):List HP:=(toks.filter fun k=>l9 t i k&&k.cons==some i).map (·.res nd)
def kpL(toks:List Tok)(t:List Nat)(i:Nat)(nd:Nat->Value):List HP:=(toks.filter fun k=>l9 t i k&&k.cons != some i).map (·.res nd)
def mdL(toks:List Tok)(i:Nat)(nd:Nat->Value):List HP:=(toks.filter fun k=>k.prod==some i).map (·.res nd)
def x9(toks:List Tok)(i:Nat):Bool:=toks.all fun k=>k.prod != some i&&k.cons != some i
def f7(v:Value)(l:List Value)(T:TypeId):HP:=fun h=>∃b,v=.P b/\blk b l T h
section
variable{toks:List Tok}{t:List Nat}{i:Nat}{nd:Nat->Value}{W w:World}{F:List HP}
theorem BI7(h:St W (here toks t i nd++F) w):St W (cnL toks t i nd++(kpL toks t i nd++F)) w:=by
 refine h.perm ?_;unfold here cnL kpL;rw[<-jS,<-List.map_append];refine List.Perm.append_right _ (List.Perm.map _ (AJ7 toks (fun k _=>?_) fun k _ ⟨h1,h2⟩=>?_))
 ·cases l9 t i k <;> simp
  cases hc:k.cons==some i <;> simp_all
 ·simp only[jB,beq_iff_eq,bne_iff_ne]at h1 h2;exact h2.2 h1.2
theorem AM7(h:St W (mdL toks i nd++(kpL toks t i nd++F)) w):St W (o9 toks t i nd++F) w:=by refine h.perm ?_;unfold o9 mdL kpL;rw[List.map_append,<-jS];exact List.Perm.append_right _ List.perm_append_comm
theorem EV7(h:x9 toks i=true):cnL toks t i nd=[]:=by unfold cnL;rw[List.map_eq_nil_iff,List.filter_eq_nil_iff];intro k hk h1;have:=List.all_eq_true.1 h k hk;simp only[jB,beq_iff_eq,bne_iff_ne]at this h1;exact this.2 h1.2
theorem EW7(h:x9 toks i=true):mdL toks i nd=[]:=by unfold mdL;rw[List.map_eq_nil_iff,List.filter_eq_nil_iff];intro k hk h1;have:=List.all_eq_true.1 h k hk;simp only[jB,beq_iff_eq,bne_iff_ne]at this h1;exact this.1 h1
end
section
variable{P:Program}{W:World}{ops:Array Oper}{t:List Nat}{toks:List Tok}{fresh:Nat->Bool}{pin:Nat->Option Value}{Qf:Act->Prop}{nd:Nat->Value}{i:Nat}{o:Oper}{l:List Oper}{a:Act}
theorem AC7(h:Qf a):d9 P W ops t toks fresh pin Qf nd i [] a:=h
theorem By7{v:Value}(hf:fresh i=false)(hn:x9 toks i=true)(hg:Region.wanted o (yielded ops a.tmps)=true)(hv:∀F w,St W (kpL toks t i nd++F) w->(execOp a.eval o).run P w=.ok (.value v) w)
  (h:d9 P W ops t toks fresh pin Qf nd (i+1) l (a.put o.dst v)):d9 P W ops t toks fresh pin Qf nd i (o::l) a:=
 .inr (.inl ⟨hg,hf,v,fun F w hS=>by have h1:=BI7 hS;rw[EV7 hn]at h1;refine⟨w,.inl (hv F w h1),AM7 ?_⟩;rw[EW7 hn];exact h1,h⟩)
theorem Gi7(hf:fresh i=false)(hn:x9 toks i=true)(hg:Region.wanted o (yielded ops a.tmps)=true)(hc:B9 o.op=false)
  (h:∀K:Act->Prop,(∀a,d9 P W ops t toks fresh pin Qf nd (i+1) l a->K a)->o.quiet P a (fun _=>True) K):d9 P W ops t toks fresh pin Qf nd i (o::l) a:=by
 obtain⟨v,h1,h2⟩:=h _ fun _ h=>h
 have key:∀w,(execOp a.eval o).run P w=.ok (.value v) w\/((execOp a.eval o).run P w=.ok .skip w/\v=undef):=fun w=>by
  have:=h1 w trivial;unfold Oper.quietAt at this;generalize hr:(execOp a.eval o).run P w=r at this
  cases r with
  | ok n w'=>cases n <;> simp only[Oper.quietUpon]at this <;> first | (obtain⟨rfl,rfl⟩:=this;simp) | exact(DF7 hc hr).elim
  | halt x w'=>exact this.elim
 refine .inr (.inl ⟨hg,hf,v,fun F w hS=>?_,h2⟩);have h1:=BI7 hS;rw[EV7 hn]at h1;refine⟨w,key w,AM7 ?_⟩;rw[EW7 hn];exact h1
theorem cQ(h:∀K:Act->Prop,(∀a,d9 P W ops t toks fresh pin Qf nd (i+1) l a->K a)->o.quiet P a (fun _=>True) K)(hf:fresh i=false:=by rfl)(hn:x9 toks i=true:=by kernel_rfl)(hg:Region.wanted o (yielded ops a.tmps)=true:=by rfl)(hc:B9 o.op=false:=by rfl):d9 P W ops t toks fresh pin Qf nd i (o::l) a:=Gi7 hf hn hg hc h
theorem cR{a':Act}(k:d9 P W ops t toks fresh pin Qf nd (i+1) l a')(h:∀K:Act->Prop,K a'->o.quiet P a (fun _=>True) K:=by(intro K hK;go_big_quiet_op;exact hK))(hf:fresh i=false:=by rfl)(hn:x9 toks i=true:=by kernel_rfl)(hg:Region.wanted o (yielded ops a.tmps)=true:=by rfl)(hc:B9 o.op=false:=by rfl):d9 P W ops t toks fresh pin Qf nd i (o::l) a:=Gi7 hf hn hg hc fun K hK=>h K (hK _ k)
theorem JL7{x:Operand}{p:Addr}(hf:fresh i=false)(hn:x9 toks i=true)(ho:o.op=.nilCheck x)(hg:Region.wanted o (yielded ops a.tmps)=true)(hx:a.eval x=.pointer (some p))
  (h:d9 P W ops t toks fresh pin Qf nd (i+1) l (a.put o.dst (.pointer (some p)))):d9 P W ops t toks fresh pin Qf nd i (o::l) a:=
 By7 hf hn hg (fun _ w _=>by unfold execOp;simp[ho,hx]) h
theorem JM7{ty:TypeId}{x:Operand}{b off:Nat}{v:Value}(hf:fresh i=false)(hn:x9 toks i=true)(ho:o.op=.load ty x)(hg:Region.wanted o (yielded ops a.tmps)=true)(hx:a.eval x=.pointer (some ⟨b,off,none⟩))
  (ht:m7 P ty=some false) (hc:∀F,a8 (kpL toks t i nd++F) b off v) (h:d9 P W ops t toks fresh pin Qf nd (i+1) l (a.put o.dst v)):d9 P W ops t toks fresh pin Qf nd i (o::l) a:=
 By7 hf hn hg (fun F _ hS=>De7 hS ho hx ht (hc F)) h
theorem JN7{ty:TypeId}{x:Operand}{b off:Nat}{vs:List Value}(hf:fresh i=false)(hn:x9 toks i=true)(ho:o.op=.load ty x)(hg:Region.wanted o (yielded ops a.tmps)=true)(hx:a.eval x=.pointer (some ⟨b,off,none⟩))
  (ht:m7 P ty=some true) (hc:∀F,a7 (kpL toks t i nd++F) b off vs) (hz:j6 P ty=some vs.length) (h:d9 P W ops t toks fresh pin Qf nd (i+1) l (a.put o.dst (.agg vs.toArray))):d9 P W ops t toks fresh pin Qf nd i (o::l) a:=
 By7 hf hn hg (fun F _ hS=>BV7 hS ho hx ht hz (hc F)) h
theorem Ev7(hf:fresh i=false)(hg:Region.wanted o (yielded ops a.tmps)=true)(hs:∀F w,St W (cnL toks t i nd++(kpL toks t i nd++F)) w->∃w',(execOp a.eval o).run P w=.ok .skip w'/\St W (mdL toks i nd++(kpL toks t i nd++F)) w')
  (h:d9 P W ops t toks fresh pin Qf nd (i+1) l (a.put o.dst undef)):d9 P W ops t toks fresh pin Qf nd i (o::l) a:=
 .inr (.inl ⟨hg,hf,undef,fun F w hS=>by obtain⟨w',h1,h2⟩:=hs F w (BI7 hS);exact⟨w',.inr ⟨h1,rfl⟩,AM7 h2⟩,h⟩)
theorem CN7(hf:fresh i=true)(hg:Region.wanted o (yielded ops a.tmps)=true)(hk:∀v,kpL toks t i (upd nd i v)=kpL toks t i nd)
  (hs:∀F w,St W (cnL toks t i nd++(kpL toks t i nd++F)) w->∃v w',(execOp a.eval o).run P w=.ok (.value v) w'/\St W (mdL toks i (upd nd i v)++(kpL toks t i nd++F)) w')
  (h:d9 P W ops t toks fresh pin Qf nd (i+1) l (a.put o.dst (nd i))):d9 P W ops t toks fresh pin Qf nd i (o::l) a:=
 .inl ⟨hg,hf,fun F w hS=>by obtain⟨v,w',h1,h2⟩:=hs F w (BI7 hS);rw[h1];exact AM7 (by rw[hk];exact h2),h⟩
theorem IS7{f:FuncId}{args:Array Value}(hf:fresh i=true)(hg:Region.wanted o (yielded ops a.tmps)=true)(hk:∀v,kpL toks t i (upd nd i v)=kpL toks t i nd)(hr:∀w,(execOp a.eval o).run P w=.ok (.enter f args) w)
  (hs:∀F w,St W (cnL toks t i nd++(kpL toks t i nd++F)) w->Calls P f args w fun e w'=>∃v,e=.returned v/\St W (mdL toks i (upd nd i v)++(kpL toks t i nd++F)) w')
  (h:d9 P W ops t toks fresh pin Qf nd (i+1) l (a.put o.dst (nd i))):d9 P W ops t toks fresh pin Qf nd i (o::l) a:=
 .inl ⟨hg,hf,fun F w hS=>by rw[hr];exact(hs F w (BI7 hS)).mono fun e w' ⟨v,he,h2⟩=>⟨v,he,AM7 (by rw[hk];exact h2)⟩,h⟩
theorem HA7{f:FuncId}{args:Array Value}{v:Value}(hf:fresh i=false)(hp:pin i=some v)(hg:Region.wanted o (yielded ops a.tmps)=true)(hr:∀w,(execOp a.eval o).run P w=.ok (.enter f args) w)
  (hs:∀F w,St W (cnL toks t i nd++(kpL toks t i nd++F)) w->Calls P f args w fun e w'=>e=.returned v/\St W (mdL toks i nd++(kpL toks t i nd++F)) w')
  (h:d9 P W ops t toks fresh pin Qf nd (i+1) l (a.put o.dst v)):d9 P W ops t toks fresh pin Qf nd i (o::l) a:=
 .inr (.inr (.inr ⟨hg,hf,v,hp,fun F w hS=>by rw[hr];exact(hs F w (BI7 hS)).mono fun e w' ⟨he,h2⟩=>⟨v,he,rfl,AM7 h2⟩,h⟩))
theorem St.ptr{W w:World}{L:List HP}{v:Value}{z:List Value}{T:TypeId}(h:St W (f7 v z T::L) w):∃b,v=.P b/\St W (blk b z T::L) w:=by obtain⟨b,h1⟩:=h.ex;obtain⟨h2,h3⟩:=h1.and;exact⟨b,h2,h3⟩
theorem HB7{ty:TypeId}{z:List Value}(hf:fresh i=true)(ho:o.op=.alloc ty)(hg:Region.wanted o (yielded ops a.tmps)=true)(hk:∀v,kpL toks t i (upd nd i v)=kpL toks t i nd)(hz:j7 P ty=some z)(hc:cnL toks t i nd=[])
  (hm:∀v,mdL toks i (upd nd i v)=[f7 v z ty]) (h:d9 P W ops t toks fresh pin Qf nd (i+1) l (a.put o.dst (nd i))):d9 P W ops t toks fresh pin Qf nd i (o::l) a:=
 CN7 hf hg hk (fun F w hS=>by rw[hc]at hS;obtain⟨b,w',h1,h2⟩:=CK7 (P:=P) (a:=a) hS ho hz;refine⟨_,w',h1,?_⟩;rw[hm];exact h2.imp fun _ hf=>⟨b,rfl,hf⟩) h
theorem IC7{ty:TypeId}{x:Operand}{v:Value}{z:List Value}(hf:fresh i=true)(ho:o.op=.box ty x)(hg:Region.wanted o (yielded ops a.tmps)=true)(hx:a.eval x=v)(hv:v.cells=z.toArray)(hk:∀v,kpL toks t i (upd nd i v)=kpL toks t i nd)(hc:cnL toks t i nd=[])
  (hm:∀v,mdL toks i (upd nd i v)=[f7 v z ty]) (h:d9 P W ops t toks fresh pin Qf nd (i+1) l (a.put o.dst (nd i))):d9 P W ops t toks fresh pin Qf nd i (o::l) a:=
 CN7 hf hg hk (fun F w hS=>by rw[hc]at hS;obtain⟨b,w',h1,h2⟩:=EP7 (P:=P) hS ho hx hv;refine⟨_,w',h1,?_⟩;rw[hm];exact h2.imp fun _ hf=>⟨b,rfl,hf⟩) h
theorem IT7{ty:TypeId}{x y:Operand}{pv v:Value}{z z' vs:List Value}{T:TypeId}(hf:fresh i=false)(ho:o.op=.store ty x y)(hg:Region.wanted o (yielded ops a.tmps)=true)(hx:a.eval x=pv)(hy:a.eval y=v)(hv:v.cells.toList=vs)
  (hn:j6 P ty=some vs.length) (h1:vs.all (·.oneCell')=true) (hc:cnL toks t i nd=[f7 pv z T]) (hl:0+vs.length<=z.length) (he:l7 z 0 vs=z') (hm:mdL toks i nd=[f7 pv z' T])
  (h:d9 P W ops t toks fresh pin Qf nd (i+1) l (a.put o.dst undef)):d9 P W ops t toks fresh pin Qf nd i (o::l) a:=
 Ev7 hf hg (fun F w hS=>by rw[hc]at hS;obtain⟨b,hS1⟩:=hS.ex;obtain⟨hpv,hS2⟩:=hS1.and;obtain⟨w',h2,h3⟩:=Cd7 (P:=P) hS2 ho (hx.trans hpv) hy hv hn h1 .head hl he;refine⟨w',h2,?_⟩;rw[hm];exact h3.imp fun _ hf=>⟨b,hpv,hf⟩) h
theorem aO4{ty:TypeId}{x y:Operand}{v:Value}{b off:Nat}{z z' vs:List Value}{T:TypeId}(hf:fresh i=false)(ho:o.op=.store ty x y)(hg:Region.wanted o (yielded ops a.tmps)=true)(hx:a.eval x=.pointer (some ⟨b,off,none⟩))(hy:a.eval y=v)(hv:v.cells.toList=vs)
  (hn:j6 P ty=some vs.length) (h1:vs.all (·.oneCell')=true) (hc:cnL toks t i nd=[blk b z T]) (hl:off+vs.length<=z.length) (he:l7 z off vs=z') (hm:mdL toks i nd=[blk b z' T])
  (h:d9 P W ops t toks fresh pin Qf nd (i+1) l (a.put o.dst undef)):d9 P W ops t toks fresh pin Qf nd i (o::l) a:=
 Ev7 hf hg (fun F w hS=>by rw[hc]at hS;obtain⟨w',h2,h3⟩:=Cd7 (P:=P) hS ho hx hy hv hn h1 .head hl he;exact⟨w',h2,by rw[hm];exact h3⟩) h
def I6(v:Value)(n c:Nat)(l:List Value)(T:TypeId):HP:=fun h=>∃b,v=.S b n c/\blk b l T h
theorem St.sl{W w:World}{L:List HP}{v:Value}{n c:Nat}{z:List Value}{T:TypeId}(h:St W (I6 v n c z T::L) w):∃b,v=.S b n c/\St W (blk b z T::L) w:=by obtain⟨b,h1⟩:=h.ex;obtain⟨h2,h3⟩:=h1.and;exact⟨b,h2,h3⟩
theorem ay4{ty e n:TypeId}{z:Value}{k bytes:Nat}{xs:Array (Nat×Operand)}{parts:List (Nat×Value)}{ls:List Value}(hf:fresh i=true)(ho:o.op=.buildSlice ty n xs)(hg:Region.wanted o (yielded ops a.tmps)=true)(hx:(xs.map fun(i,x)=>(i,a.eval x))=parts.toArray)
  (ht:j5 P ty=some e) (hi:k8 P e=some (some z,k,bytes)) (hz:z.cells.size=k) (hn:decide (n*k<=16777216)=true) (hp:C9 k n parts=true) (hl:F7 k (y9 z n) parts=ls) (hk:∀v,kpL toks t i (upd nd i v)=kpL toks t i nd) (hc:cnL toks t i nd=[])
  (hm:∀v,mdL toks i (upd nd i v)=[I6 v n n ls e]) (h:d9 P W ops t toks fresh pin Qf nd (i+1) l (a.put o.dst (nd i))):d9 P W ops t toks fresh pin Qf nd i (o::l) a:=
 CN7 hf hg hk (fun F w hS=>by rw[hc]at hS;obtain⟨b,w',h1,h2⟩:=Es7 (P:=P) hS ho hx ht hi hz hn hp hl;refine⟨_,w',h1,?_⟩;rw[hm];exact h2.imp fun _ hf=>⟨b,rfl,hf⟩) h
theorem Ew7{W w:World}{L R:List HP}{o:Oper}{s x:Operand}{ty e:TypeId}{z:Value}{k bytes:Nat}{v xv:Value}{n m:Nat}{cs news:List Value}(hS:St W L w)(ho:o.op=.call { callee:=.builtin .append,args:=#[s,x],argTypes:=#[ty,ty] })
  (hs:a.eval s=v) (hx:a.eval x=xv) (ht:j5 P ty=some e) (hi:k8 P e=some (some z,k,bytes)) (hz:z.cells.size=k) (hk:0<k) (hu:Take L (row v k e n cs) R)
  (hsrc:aM4 w xv m news) (hl:news.length=m*k) (h1:news.all (·.oneCell')=true) (h63:n+m<=maxLen) (hb:(n+m)*bytes<=140737488355328):
  ∃v' w',(execOp a.eval o).run P w=.ok (.value v') w'/\St W (row v' k e (n+m) (cs++news)::R) w':=by
 obtain⟨v',w',hr,hS'⟩:=CL7 (P:=P) (ty:=o.type) ht hi hz hk rfl hS hu hsrc hl h1 h63 hb;refine⟨v',w',?_,hS'⟩;unfold execOp;simp only[ho,resolve,invoke,builtin,Sem.run_bind,Sem.run_pure,Result.andThen_ok,List.map_toArray,List.map_cons,List.map_nil,hs,hx,hr]
theorem Dg7{W w:World}{L R:List HP}{v:Value}{n c:Nat}{ls:List Value}{T:TypeId}(hS:St W L w)(hu:Take L (I6 v n c ls T) R):aM4 w v n ls:=by obtain⟨b,h1,h2⟩:=(hS.take hu).sl;exact .inr ⟨b,0,c,h1,fun j u hj=>h2.cell .head (by rw[Nat.zero_add];exact hj)⟩
theorem Ch7{s x:Operand}{ty e:TypeId}{z:Value}{k bytes:Nat}{v xv:Value}{n m:Nat}{cs news:List Value}(hf:fresh i=true)(ho:o.op=.call { callee:=.builtin .append,args:=#[s,x],argTypes:=#[ty,ty] })
  (hg:Region.wanted o (yielded ops a.tmps)=true) (hs:a.eval s=v) (hx:a.eval x=xv) (ht:j5 P ty=some e) (hi:k8 P e=some (some z,k,bytes)) (hz:z.cells.size=k) (hk:0<k)
  (hc:cnL toks t i nd=[row v k e n cs]) (hsrc:∀F w,St W (row v k e n cs::(kpL toks t i nd++F)) w->aM4 w xv m news) (hl:news.length=m*k) (h1:news.all (·.oneCell')=true) (h63:n+m<=maxLen) (hb:(n+m)*bytes<=140737488355328)
  (hkk:∀v,kpL toks t i (upd nd i v)=kpL toks t i nd) (hm:∀v,mdL toks i (upd nd i v)=[row v k e (n+m) (cs++news)]) (h:d9 P W ops t toks fresh pin Qf nd (i+1) l (a.put o.dst (nd i))):d9 P W ops t toks fresh pin Qf nd i (o::l) a:=
 CN7 hf hg hkk (fun F w hS=>by rw[hc]at hS;obtain⟨v',w',h2,h3⟩:=Ew7 (P:=P) hS ho hs hx ht hi hz hk .head (hsrc F w hS) hl h1 h63 hb;exact⟨v',w',h2,by rw[hm];exact h3⟩) h
theorem Gj7{ty:TypeId}{x y:Operand}{v:Value}{b off:Nat}{z z':List Value}{T:TypeId}(hf:fresh i=false)(ho:o.op=.store ty x y)(hg:Region.wanted o (yielded ops a.tmps)=true)(hx:a.eval x=.pointer (some ⟨b,off,none⟩))(hy:a.eval y=v)
  (hn:j6 P ty=some 1) (hc:cnL toks t i nd=[blk b z T]) (hv:∀F w,St W (blk b z T::(kpL toks t i nd++F)) w->v.cells.toList=[v]/\v.oneCell'=true) (hl:off<z.length) (he:z.set off v=z') (hm:mdL toks i nd=[blk b z' T])
  (h:d9 P W ops t toks fresh pin Qf nd (i+1) l (a.put o.dst undef)):d9 P W ops t toks fresh pin Qf nd i (o::l) a:=
 Ev7 hf hg (fun F w hS=>by rw[hc]at hS;obtain⟨h5,h6⟩:=hv F w hS;obtain⟨w',h2,h3⟩:=Cd7 (P:=P) (vs:=[v]) hS ho hx hy h5 hn (by simp[h6]) .head (by simp;omega) (by simpa[l7]using he);exact⟨w',h2,by rw[hm];exact h3⟩) h
theorem Ab7{f:FuncId}{xs:Array Operand}{ats:Array TypeId}{args:Array Value}(w:World)(ho:o.op=.call { callee:=.value (.func f),args:=xs,argTypes:=ats })(hb:t8 P f=true)(hx:xs.map a.eval=args):
  (execOp a.eval o).run P w=.ok (.enter f args) w:=by
 unfold execOp;simp only[ho,resolve,invoke,Act.eval,Sem.run_bind,Sem.run_pure,Result.andThen_ok,Deferred.ofValue,hx,Array.append_empty,AI7 hb];simp[Act.eval,Deferred.ofValue,hx,invoke,AI7 hb,Made.depth]
theorem HC7{f:FuncId}{xs:Array Operand}{ats:Array TypeId}{args:Array Value}{v:Value}(hf:fresh i=false)(hp:pin i=some v)(hg:Region.wanted o (yielded ops a.tmps)=true)
  (ho:o.op=.call { callee:=.value (.func f),args:=xs,argTypes:=ats }) (hb:t8 P f=true) (hx:xs.map a.eval=args)
  (hs:∀F w,St W (cnL toks t i nd++(kpL toks t i nd++F)) w->Calls P f args w fun e w'=>e=.returned v/\St W (mdL toks i nd++(kpL toks t i nd++F)) w')
  (h:d9 P W ops t toks fresh pin Qf nd (i+1) l (a.put o.dst v)):d9 P W ops t toks fresh pin Qf nd i (o::l) a:=
 HA7 hf hp hg (fun w=>Ab7 w ho hb hx) hs h
theorem Bz7{f:FuncId}{xs:Array Operand}{ats:Array TypeId}{args:Array Value}(hf:fresh i=true)(hg:Region.wanted o (yielded ops a.tmps)=true)
  (ho:o.op=.call { callee:=.value (.func f),args:=xs,argTypes:=ats }) (hb:t8 P f=true) (hx:xs.map a.eval=args) (hk:∀v,kpL toks t i (upd nd i v)=kpL toks t i nd)
  (hs:∀F w,St W (cnL toks t i nd++(kpL toks t i nd++F)) w->Calls P f args w fun e w'=>∃v,e=.returned v/\St W (mdL toks i (upd nd i v)++(kpL toks t i nd++F)) w')
  (h:d9 P W ops t toks fresh pin Qf nd (i+1) l (a.put o.dst (nd i))):d9 P W ops t toks fresh pin Qf nd i (o::l) a:=
 IS7 hf hg hk (fun w=>Ab7 w ho hb hx) hs h
end
end Go.Sl
end
