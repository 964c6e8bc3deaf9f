/-
  The walk over resources.
-/
import Derived.Test.YtjcfifkjbaffnaaGreatPkQM1
set_option maxHeartbeats 16000000
set_option maxRecDepth 100000
set_option linter.unusedSimpArgs false
set_option linter.unusedVariables false
section
namespace Go.Sl
open Go.RowKit
def m7(P:Program)(t:TypeId):Option Bool:=(P.underlying t).map fun|.struct _|.array _ _=>true|_=>false
def j6(P:Program)(t:TypeId):Option Nat:=(P.info? t).map (·.size)
def j5(P:Program)(t:TypeId):Option TypeId:=(P.underlying t).bind fun|.slice e=>some e|_=>none
def k8(P:Program)(t:TypeId):Option (Option Value×Nat×Nat):=(P.info? t).map fun i=>(i.zero,i.size,i.bytes)
section
variable{P:Program}{w:World}
theorem DB7{t:TypeId}{x:Bool}(h:m7 P t=some x):(isAgg t).run P w=.ok x w:=by
 unfold m7 at h;obtain⟨d,hd,hx⟩:=Option.map_eq_some_iff.1 h;unfold isAgg;rw[Sem.run_bind,run_underlying hd w]
 cases d <;> simp_all
theorem L5{t:TypeId}{n:Nat}(h:j6 P t=some n):(sizeOf t).run P w=.ok n w:=by unfold j6 at h;obtain⟨d,hd,hx⟩:=Option.map_eq_some_iff.1 h;simp[sizeOf,typeInfo,hd,hx]
theorem AF7{t e:TypeId}(h:j5 P t=some e):P.underlying t=some (.slice e):=by
 unfold j5 at h;obtain⟨d,hd,hx⟩:=Option.bind_eq_some_iff.1 h
 cases d <;> simp at hx
 rw[hd,hx]
theorem Gc7{t:TypeId}{p:Addr}{v:Value}(ht:m7 P t=some false)(hc:w.cell? p=some v):(loadVar t p).run P w=.ok v w:=by simp[loadVar,DB7 ht,hc]
theorem BG7{t:TypeId}{p:Addr}{vs:List Value}(ht:m7 P t=some true)(hn:j6 P t=some vs.length)(hc:∀j v,vs[j]? = some v->w.cell? (p.add j)=some v):
  (loadVar t p).run P w=.ok (.agg vs.toArray) w:=by
 simp[loadVar,DB7 ht,L5 hn,run_loadCells_list (P:=P) w p vs hc]
end
def a8(L:List HP)(b off:Nat)(v:Value):Prop:=∀W w,St W L w->w.cell? ⟨b,off,none⟩=some v
def a7(L:List HP)(b off:Nat)(vs:List Value):Prop:=∀(j:Nat) (v:Value),vs[j]? = some v->a8 L b (off+j) v
theorem a8.here{b off:Nat}{l:List Value}{T:TypeId}{v:Value}{L:List HP}(h:l[off]? = some v):a8 (blk b l T::L) b off v:=fun _ _ hS=>hS.cell .head h
theorem a8.there{b off:Nat}{v:Value}{X:HP}{L:List HP}(h:a8 L b off v):a8 (X::L) b off v:=fun W w hS=>h W w hS.drop
theorem a8.of{b off:Nat}{l:List Value}{T:TypeId}{v:Value}{L:List HP}(hm:Mem (blk b l T) L)(h:l[off]? = some v):a8 L b off v:=fun _ _ hS=>hS.cell hm h
theorem a8.old{b off:Nat}{v:Value}{L:List HP}{V:World}(hm:Mem (Old V) L)(h:V.cell? ⟨b,off,none⟩=some v):a8 L b off v:=fun _ _ hS=>hS.oldCell hm h
theorem a7.here{b off:Nat}{l vs:List Value}{T:TypeId}{L:List HP}(h:(l.drop off).take vs.length=vs):a7 (blk b l T::L) b off vs:=fun j v hj=>a8.here (by
 rw[<-h,List.getElem?_take]at hj;split at hj
 ·rwa [List.getElem?_drop]at hj
 ·cases hj)
theorem a7.whole{b:Nat}{l:List Value}{T:TypeId}{L:List HP}:a7 (blk b l T::L) b 0 l:=a7.here (by simp)
theorem a7.there{b off:Nat}{vs:List Value}{X:HP}{L:List HP}(h:a7 L b off vs):a7 (X::L) b off vs:=fun j v hj=>(h j v hj).there
theorem a7.old{b off:Nat}{vs:List Value}{L:List HP}{V:World}(hm:Mem (Old V) L)(h:∀(j:Nat) (v:Value),vs[j]? = some v->V.cell? ⟨b,off+j,none⟩=some v):a7 L b off vs:=fun j v hj=>a8.old hm (h j v hj)
def row(v:Value)(k:Nat)(T:TypeId)(n:Nat)(cs:List Value):HP:=fun h=>
 cs.length=n*k/\((v=.slice none 0 0/\n=0) \/
  ∃(g cap:Nat) (junk:List Value),v=.S g n cap/\n<=cap/\cap<=maxLen/\(cs++junk).length=cap*k/\blk g (cs++junk) T h)
section
variable{W w:World}{L L' R:List HP}{v:Value}{k n:Nat}{T:TypeId}{cs:List Value}
theorem St.rowNil(h:St W L w):St W (row (.slice none 0 0) k T 0 []::L) w:=
 ⟨h.os,h.tape,h.output,fun _=>false,⟨by simp,.inl ⟨rfl,rfl⟩⟩,h.sat⟩
theorem St.rowOpen(h:St W (row v k T n cs::L) w):(v=.slice none 0 0/\n=0/\cs=[]/\St W L w) \/
  ∃(g cap:Nat) (junk:List Value),v=.S g n cap/\n<=cap/\cap<=maxLen/\(cs++junk).length=cap*k/\cs.length=n*k/\St W (blk g (cs++junk) T::L) w:=by
 obtain⟨S,⟨hl,h1⟩,h2⟩:=h.sat
 rcases h1 with ⟨hv,hn⟩|⟨g,cap,junk,hv,h3,h4,h5,h6⟩
 ·exact .inl ⟨hv,hn,List.eq_nil_of_length_eq_zero (by rw[hl,hn,Nat.zero_mul]),h.drop⟩
 ·exact .inr ⟨g,cap,junk,hv,h3,h4,h5,hl,h.os,h.tape,h.output,S,h6,h2⟩
theorem St.rowShut{g cap:Nat}{junk:List Value}(h:St W (blk g (cs++junk) T::L) w)(hn:n<=cap)(hm:cap<=maxLen)(hj:(cs++junk).length=cap*k)(hl:cs.length=n*k):
  St W (row (.S g n cap) k T n cs::L) w:=h.imp fun _ hf=>⟨hl,.inr ⟨g,cap,junk,rfl,hn,hm,hj,hf⟩⟩
end
section
variable{W w:World}{L R:List HP}{v:Value}{k n:Nat}{T:TypeId}{cs:List Value}
theorem St.rowVal(h:St W (row v k T n cs::L) w):∃b c,v=.slice b n c:=by
 rcases h.rowOpen with ⟨rfl,rfl,_⟩|⟨g,cap,junk,rfl,_⟩
 ·exact⟨none,0,rfl⟩
 ·exact⟨_,_,rfl⟩
theorem St.rowOne(h:St W L w)(hu:Take L (row v k T n cs) R):v.cells.toList=[v]/\v.oneCell'=true:=by obtain⟨b,c,rfl⟩:=(h.take hu).rowVal;exact⟨rfl,rfl⟩
end
section
variable{P:Program}{ops:Array Oper}{Q:Exit->Act->World->Prop}{a:Act}{w:World}{W:World}{L L' R:List HP}{rest:List Oper}{o:Oper}
theorem Al7{v:Value}{w':World}(hg:Region.wanted o (yielded ops a.tmps)=true)(hr:(execOp a.eval o).run P w=.ok (.value v) w')(h:wpList P ops Q rest (a.put o.dst v) w'):wpList P ops Q (o::rest) a w:=
 wpList_step fun K hK=>by rw[if_pos hg];unfold Oper.wp;rw[hr];exact hK _ _ h
theorem AR7{w':World}(hg:Region.wanted o (yielded ops a.tmps)=true)(hr:(execOp a.eval o).run P w=.ok .skip w')(h:wpList P ops Q rest (a.put o.dst undef) w'):wpList P ops Q (o::rest) a w:=
 wpList_step fun K hK=>by rw[if_pos hg];unfold Oper.wp;rw[hr];exact hK _ _ h
theorem De7{t:TypeId}{x:Operand}{b off:Nat}{v:Value}(hS:St W L w)(ho:o.op=.load t x)(hx:a.eval x=.pointer (some ⟨b,off,none⟩))(ht:m7 P t=some false)(hc:a8 L b off v):
  (execOp a.eval o).run P w=.ok (.value v) w:=by
 unfold execOp;simp only[ho,hx,Instr.loadAt,Instr.sureAddr,Sem.run_bind,Sem.run_pure,Result.andThen_ok,Gc7 ht (hc W w hS)]
theorem BV7{t:TypeId}{x:Operand}{b off:Nat}{vs:List Value}(hS:St W L w)(ho:o.op=.load t x)(hx:a.eval x=.pointer (some ⟨b,off,none⟩))(ht:m7 P t=some true)(hn:j6 P t=some vs.length)
  (hc:a7 L b off vs):(execOp a.eval o).run P w=.ok (.value (.agg vs.toArray)) w:=by
 unfold execOp;simp only[ho,hx,Instr.loadAt,Instr.sureAddr,Sem.run_bind,Sem.run_pure,Result.andThen_ok,BG7 ht hn (fun j v hj=>by rw[Addr.add_lit];exact hc j v hj W w hS)]
theorem JE7{t:TypeId}{x:Operand}{b off:Nat}{v:Value}(hS:St W L w)(ho:o.op=.load t x)(hg:Region.wanted o (yielded ops a.tmps)=true)(hx:a.eval x=.pointer (some ⟨b,off,none⟩))(ht:m7 P t=some false)
  (hc:a8 L b off v) (h:wpList P ops Q rest (a.put o.dst v) w):wpList P ops Q (o::rest) a w:=
 Al7 hg (De7 hS ho hx ht hc) h
theorem JF7{t:TypeId}{x:Operand}{b off:Nat}{vs:List Value}(hS:St W L w)(ho:o.op=.load t x)(hg:Region.wanted o (yielded ops a.tmps)=true)(hx:a.eval x=.pointer (some ⟨b,off,none⟩))(ht:m7 P t=some true)
  (hc:a7 L b off vs) (hn:j6 P t=some vs.length) (h:wpList P ops Q rest (a.put o.dst (.agg vs.toArray)) w):wpList P ops Q (o::rest) a w:=
 Al7 hg (BV7 hS ho hx ht hn hc) h
def l7:List Value->Nat->List Value->List Value
 | l,_,[]=>l
 | l,i,v::vs=>l7 (l.set i v) (i+1) vs
theorem Bu7:∀(vs l:List Value) (i:Nat),(l7 l i vs).length=l.length
 | [],_,_=>rfl
 | v::vs,l,i=>by rw[l7,Bu7 vs];simp
theorem DC7:∀(vs l:List Value) (i:Nat),i+vs.length<=l.length->l7 l i vs=l.take i++vs++l.drop (i+vs.length)
 | [],l,i,_=>by simp[l7]
 | v::vs,l,i,h=>by
  simp only[jC]at h;rw[l7,DC7 vs (l.set i v) (i+1) (by simp;omega)];apply List.ext_getElem?;intro j;simp only[List.getElem?_append,jT,List.length_set,jA,jC,List.getElem?_take,List.getElem?_drop,List.getElem?_set];by_cases h1:j<i
  ·simp[h1,show j<i+1 by omega,show min (i+1) l.length=i+1 by omega,show min i l.length=i by omega,show i≠j by omega,show j<i+1+vs.length by omega,show j<i+(vs.length+1)by omega]
  ·by_cases h2:j=i
   ·subst h2;simp[show min (j+1) l.length=j+1 by omega,show min j l.length=j by omega,show j<j+1+vs.length by omega,show j<l.length by omega]
   ·by_cases h3:j<i+(vs.length+1)
    ·simp[show min (i+1) l.length=i+1 by omega,show min i l.length=i by omega,h1,show ¬j<i+1 by omega,show j<i+1+vs.length by omega,h3,show j-i=(j-(i+1))+1 by omega]
    ·simp[show min (i+1) l.length=i+1 by omega,show min i l.length=i by omega,show ¬j<i+1+vs.length by omega,h3,show i≠i+1+vs.length+(j-(i+1+vs.length))by omega]
     congr 1
     omega
theorem Cc7{b:Nat}{T:TypeId}(off:Nat):∀(vs:List Value) (i:Nat) (l:List Value) (w:World),St W (blk b l T::R) w->off+i+vs.length<=l.length->(∀v∈vs,v.oneCell'=true)->
  ∃w',(storeCells ⟨b,off,none⟩ vs i).run P w=.ok () w'/\St W (blk b (l7 l (off+i) vs) T::R) w'
 | [],i,l,w,hS,_,_=>⟨w,rfl,hS⟩
 | v::vs,i,l,w,hS,hl,h1=>by
  have hlt:off+i<l.length:=by simp at hl;omega
  have hc:w.cell? ⟨b,off+i,none⟩=some l[off+i]:=hS.cell .head (by simp[hlt]);have hf:w.frozen? ⟨b,off+i,none⟩=false:=hS.free (off:=off+i) (b:=b) (l:=l) (T:=T) .head;have hst:(store ((⟨b,off,none⟩:Addr).add i) v).run P w=.ok () (w.setCell ⟨b,off+i,none⟩ v):=by rw[Addr.add_lit,run_store P w _ v _ (h1 v (by simp)),hc];simp[hf]
  obtain⟨w',hr,hS'⟩:=Cc7 off vs (i+1) (l.set (off+i) v) _ (hS.setCell (off+i) v .head) (by simp at hl ⊢;omega) (fun x hx=>h1 x (by simp[hx]));refine⟨w',?_,hS'⟩;simp only[storeCells,Sem.run_bind,hst,Result.andThen_ok,hr]
theorem Cd7{t:TypeId}{x y:Operand}{b off:Nat}{l vs l':List Value}{T:TypeId}{v:Value}(hS:St W L w)(ho:o.op=.store t x y)(hx:a.eval x=.pointer (some ⟨b,off,none⟩))(hy:a.eval y=v)(hv:v.cells.toList=vs)
  (hn:j6 P t=some vs.length) (h1:vs.all (·.oneCell')=true) (hu:Upd L (blk b l T) (blk b l' T) L') (hl:off+vs.length<=l.length) (he:l7 l off vs=l'):
  ∃w',(execOp a.eval o).run P w=.ok .skip w'/\St W L' w':=by
 obtain⟨R,t1,t2⟩:=hu.take;obtain⟨w',hr,hS'⟩:=Cc7 (P:=P) off vs 0 l w (hS.take t1) (by omega) (fun v hv=>List.all_eq_true.1 h1 v hv);simp only[Nat.add_zero,he]at hS';refine⟨w',?_,hS'.back t2⟩;have hsz:v.cells.size=vs.length:=by rw[<-hv];simp
 unfold execOp;simp only[ho,hx,hy,Instr.storeAt,Instr.sureAddr,storeVar,Sem.run_bind,Sem.run_pure,Result.andThen_ok,L5 hn,hsz,hv];simp[hr]
theorem IA7{t:TypeId}{x y:Operand}{b off:Nat}{l l':List Value}{T:TypeId}{v:Value}(hS:St W L w)(ho:o.op=.store t x y)(hg:Region.wanted o (yielded ops a.tmps)=true)(hx:a.eval x=.pointer (some ⟨b,off,none⟩))
  (hy:a.eval y=v) (hn:j6 P t=some 1) (hv:v.cells.toList=[v]) (h1:v.oneCell'=true) (hu:Upd L (blk b l T) (blk b l' T) L') (hl:off<l.length) (he:l.set off v=l')
  (h:∀w',St W L' w'->wpList P ops Q rest (a.put o.dst undef) w'):wpList P ops Q (o::rest) a w:=by
 obtain⟨w',hr,hS'⟩:=Cd7 (P:=P) hS ho hx hy hv hn (by simp[h1]) hu (by simp;omega) (by simpa[l7]using he);exact AR7 hg hr (h w' hS')
theorem JG7{t:TypeId}{x y:Operand}{b off:Nat}{l l' vs:List Value}{T:TypeId}(hS:St W L w)(ho:o.op=.store t x y)(hg:Region.wanted o (yielded ops a.tmps)=true)(hx:a.eval x=.pointer (some ⟨b,off,none⟩))
  (hy:a.eval y=.agg vs.toArray) (hn:j6 P t=some vs.length) (h1:vs.all (·.oneCell')=true) (hu:Upd L (blk b l T) (blk b l' T) L') (hl:off+vs.length<=l.length) (he:l7 l off vs=l')
  (h:∀w',St W L' w'->wpList P ops Q rest (a.put o.dst undef) w'):wpList P ops Q (o::rest) a w:=by
 obtain⟨w',hr,hS'⟩:=Cd7 (P:=P) hS ho hx hy (by simp[Value.cells]) hn h1 hu hl he;exact AR7 hg hr (h w' hS')
theorem EP7{t:TypeId}{x:Operand}{v:Value}{l:List Value}(hS:St W L w)(ho:o.op=.box t x)(hx:a.eval x=v)(hv:v.cells=l.toArray):
  ∃b w',(execOp a.eval o).run P w=.ok (.value (.P b)) w'/\St W (blk b l t::L) w':=
 ⟨w.heap.size,w.alloc (.cells l.toArray t),by unfold execOp;simp[ho,hx,Instr.box,newVar,newRow,hv],hS.alloc _⟩
theorem JH7{t:TypeId}{x:Operand}{v:Value}{l:List Value}(hS:St W L w)(ho:o.op=.box t x)(hg:Region.wanted o (yielded ops a.tmps)=true)(hx:a.eval x=v)(hv:v.cells=l.toArray)
  (h:∀b w',St W (blk b l t::L) w'->wpList P ops Q rest (a.put o.dst (.P b)) w'):wpList P ops Q (o::rest) a w:=by
 obtain⟨b,w',hr,hS'⟩:=EP7 (P:=P) hS ho hx hv;exact Al7 hg hr (h b w' hS')
def j7(P:Program)(t:TypeId):Option (List Value):=((P.info? t).bind (·.zero)).map (·.cells.toList)
theorem CK7{t:TypeId}{l:List Value}(hS:St W L w)(ho:o.op=.alloc t)(hz:j7 P t=some l):
  ∃b w',(execOp a.eval o).run P w=.ok (.value (.P b)) w'/\St W (blk b l t::L) w':=by
 unfold j7 at hz;obtain⟨z,hz1,hz2⟩:=Option.map_eq_some_iff.1 hz;obtain⟨i,hi,hz3⟩:=Option.bind_eq_some_iff.1 hz1;refine⟨w.heap.size,w.alloc (.cells l.toArray t),?_,hS.alloc _⟩;unfold execOp;simp[ho,Instr.alloc,zeroValue,typeInfo,hi,hz3,newVar,newRow,<-hz2]
theorem Hx7{t:TypeId}{l:List Value}(hS:St W L w)(ho:o.op=.alloc t)(hg:Region.wanted o (yielded ops a.tmps)=true)(hz:j7 P t=some l)
  (h:∀b w',St W (blk b l t::L) w'->wpList P ops Q rest (a.put o.dst (.P b)) w'):wpList P ops Q (o::rest) a w:=by
 obtain⟨b,w',hr,hS'⟩:=CK7 (P:=P) (a:=a) hS ho hz;exact Al7 hg hr (h b w' hS')
def Src(L:List HP)(x:Value)(m:Nat)(news:List Value):Prop:=
 (x=.slice none 0 0/\m=0/\news=[])\/∃(g off c:Nat),x=.slice (some ⟨g,off,none⟩) m c/\a7 L g off news
theorem Src.mk{L:List HP}{g off m c:Nat}{news:List Value}(h:a7 L g off news):Src L (.slice (some ⟨g,off,none⟩) m c) m news:=.inr ⟨g,off,c,rfl,h⟩
theorem Src.there{L:List HP}{X:HP}{x:Value}{m:Nat}{news:List Value}(h:Src L x m news):Src (X::L) x m news:=by
 rcases h with h|⟨g,off,c,rfl,h⟩
 ·exact .inl h
 ·exact .inr ⟨g,off,c,rfl,h.there⟩
def aM4(w:World)(x:Value)(m:Nat)(news:List Value):Prop:=
 (x=.slice none 0 0/\m=0/\news=[])\/∃(g off c:Nat),x=.slice (some ⟨g,off,none⟩) m c/\∀(j:Nat) (u:Value),news[j]? = some u->w.cell? ⟨g,off+j,none⟩=some u
theorem Src.at{L:List HP}{x:Value}{m:Nat}{news:List Value}(h:Src L x m news)(hS:St W L w):aM4 w x m news:=by
 rcases h with h|⟨g,off,c,h1,h2⟩
 ·exact .inl h
 ·exact .inr ⟨g,off,c,h1,fun j u hj=>h2 j u hj W w hS⟩
theorem Bd7(t ty e:TypeId)(i:TypeInfo)(ht:P.underlying t=some (.slice e))(hi:P.info? e=some i)(b:Option Addr)(n cap:Nat)(hn:n<=cap):
  (Builtin.append_ #[t,t] ty #[.slice b n cap,.slice none 0 0]).run P w=.ok (.slice b n cap) w:=by
 cases b with
 | none=>simp[Builtin.append_,run_underlying ht,sizeOf,typeInfo,hi,Builtin.lenOf,hn,Builtin.firstCells]
 | some p=>simp[Builtin.append_,run_underlying ht,sizeOf,typeInfo,hi,Builtin.lenOf,hn,Builtin.firstCells,storeCells]
theorem CL7 {t ty e : TypeId} {z : Value} {k bytes : Nat} (ht : j5 P t = some e) (hi : k8 P e = some (some z, k, bytes)) (hz : z.cells.size = k) (hk : 0 < k) {v x : Value} {n m : Nat} {cs news : List Value} {T : TypeId} (hT : T = e)
    (hS : St W L w) (hu : Take L (row v k T n cs) R) (hx : aM4 w x m news) (hl : news.length = m * k) (h1 : news.all (·.oneCell') = true) (h63 : n + m <= maxLen) (hb : (n + m) * bytes <= 140737488355328) :
    ∃ v' w', (Builtin.append_ #[t, t] ty #[v, x]).run P w = .ok v' w' /\ St W (row v' k T (n + m) (cs ++ news) :: R) w' := by
  subst hT;have ht' := AF7 ht;unfold k8 at hi;obtain ⟨i, hi', hi2⟩ := Option.map_eq_some_iff.1 hi;simp only [Prod.mk.injEq] at hi2;obtain ⟨hz', rfl, rfl⟩ := hi2;have h1' : ∀ u ∈ news, u.oneCell' = true := fun u hu => List.all_eq_true.1 h1 u hu
  have hsmall : n + m <= 9223372036854775807 := by simp only [maxLen] at h63; omega
  rcases hx with ⟨rfl, rfl, rfl⟩ | ⟨g, off, c, rfl, hc⟩
  · rcases (hS.take hu).rowOpen with ⟨rfl, rfl, rfl, hS'⟩ | ⟨g, cap, junk, rfl, hn, hm, hj, hcl, hS'⟩
    · exact ⟨_, w, Bd7 t ty T i ht' hi' none 0 0 (Nat.le_refl _), by simpa using hS'.rowNil⟩
    · exact ⟨_, w, Bd7 t ty T i ht' hi' _ n cap hn, by simpa using hS'.rowShut hn hm hj hcl⟩
  · have hnews : ∀ (j : Nat) (u : Value), news[j]? = some u -> w.cell? ((⟨g, off, none⟩ : Addr).add j) = some u := fun j u hj => by rw [Addr.add_lit]; exact hc j u hj
    have hg : ∀ (old : Nat) (l : List Value), l.length = n * i.size -> old < n + m -> St W R w ->
        St W (row (.slice (some ⟨w.heap.size, 0, none⟩) (n + m) (grownCap w (n + m) old T)) i.size T (n + m) (l ++ news) :: R) (w.drew.alloc (.cells (l.toArray ++ news.toArray ++ Builtin.zeroCells z.cells (grownCap w (n + m) old T - (n + m))) T)) := by
      intro old l hll ho hR;have hge := grownCap_ge w (n + m) old T;have hcm : grownCap w (n + m) old T <= maxLen := grownCap_le_maxLen w (n + m) old T h63;have := hR.drew.alloc (.cells (l.toArray ++ news.toArray ++ Builtin.zeroCells z.cells (grownCap w (n + m) old T - (n + m))) T);have e : l.toArray ++ news.toArray ++ Builtin.zeroCells z.cells (grownCap w (n + m) old T - (n + m)) = (l ++ news ++ (Builtin.zeroCells z.cells (grownCap w (n + m) old T - (n + m))).toList).toArray := by apply Array.ext'; simp
      rw [e] at this ⊢;refine St.rowShut (junk := (Builtin.zeroCells z.cells (grownCap w (n + m) old T - (n + m))).toList) this hge hcm ?_ ?_
      · simp only [jA, Array.length_toList, size_zeroCells, hz, hll, hl, <- Nat.add_mul]
        congr 1
        omega
      · simp only [jA, hll, hl, <- Nat.add_mul]
    rcases (hS.take hu).rowOpen with ⟨rfl, rfl, rfl, hS'⟩ | ⟨g', cap, junk, rfl, hn, hm, hj, hcl, hS'⟩
    · by_cases hm : m = 0
      · subst hm
        obtain rfl : news = [] := List.eq_nil_of_length_eq_zero (by simpa using hl);refine ⟨.slice none 0 0, w, ?_, by simpa using hS'.rowNil⟩;simp [Builtin.append_, run_underlying ht', sizeOf, typeInfo, hi', Builtin.lenOf, Builtin.firstCells, loadCells, loadCellsFrom]
      · have hr := run_append_nil (P := P) w t ty T i z ht' hi' hz' ⟨g, off, none⟩ m c news hl hnews (by omega) (by omega) (by have := hb; simp only [Nat.zero_add] at this; omega)
        refine ⟨_, _, hr, ?_⟩;have := hg 0 [] (by simp) (by omega) hS';simpa using this
    · by_cases hroom : n + m <= cap
      · have hcur : cs.length + news.length <= cap * i.size := by rw [hcl, hl, <- Nat.add_mul]; exact Nat.mul_le_mul_right _ hroom
        have hr := run_append_room (P := P) w t ty T i ht' hi' g' n cap (cs ++ junk).toArray (hS'.get .head) ⟨g, off, none⟩ m c news hl hnews h1' hroom (by simp only [List.size_toArray, hj]; omega);refine ⟨_, _, hr, ?_⟩;have hsr := hS'.setRow (List.take (n * i.size) (cs ++ junk) ++ news ++ List.drop (n * i.size + news.length) (cs ++ junk)) .head;have e1 : List.take (n * i.size) (cs ++ junk) = cs := by rw [<- hcl]; exact List.take_left
        rw [e1] at hsr;have hdl : (List.drop (n * i.size + news.length) (cs ++ junk)).length = cap * i.size - (n * i.size + news.length) := by rw [List.length_drop, hj]
        refine St.rowShut (junk := List.drop (n * i.size + news.length) (cs ++ junk)) ?_ hroom hm ?_ ?_
        · simpa [e1] using hsr
        · rw [jA, jA, hdl]; omega
        · rw [jA, hcl, hl, Nat.add_mul]
      · have holds : ∀ (j : Nat) (u : Value), cs[j]? = some u -> w.cell? ((⟨g', 0, none⟩ : Addr).add j) = some u := fun j u hju => by
          rw [Addr.add_lit];have hjl : j < cs.length := (List.getElem?_eq_some_iff.1 hju).1;exact hS'.cell .head (by rw [Nat.zero_add, List.getElem?_append_left hjl]; exact hju)
        have hr := run_append_grow (P := P) w t ty T i z ht' hi' hz' ⟨g', 0, none⟩ n cap cs hcl holds ⟨g, off, none⟩ m c news hl hnews (by omega) (by omega) (growslice_fits (by omega) hb);exact ⟨_, _, hr, hg cap cs hcl (by omega) hS'.drop⟩
theorem At7{s x:Operand}{t e:TypeId}{z:Value}{k bytes:Nat}{v xv:Value}{n m:Nat}{cs news:List Value}(hS:St W L w)(ho:o.op=.call { callee:=.builtin .append,args:=#[s,x],argTypes:=#[t,t] })
  (hg:Region.wanted o (yielded ops a.tmps)=true) (hs:a.eval s=v) (hx:a.eval x=xv) (ht:j5 P t=some e) (hi:k8 P e=some (some z,k,bytes)) (hz:z.cells.size=k) (hk:0<k) (hu:Take L (row v k e n cs) R)
  (hsrc:Src L xv m news) (hl:news.length=m*k) (h1:news.all (·.oneCell')=true) (h63:n+m<=maxLen) (hb:(n+m)*bytes<=140737488355328)
  (h:∀v' w',St W (row v' k e (n+m) (cs++news)::R) w'->wpList P ops Q rest (a.put o.dst v') w'):wpList P ops Q (o::rest) a w:=by
 obtain⟨v',w',hr,hS'⟩:=CL7 (P:=P) (ty:=o.type) ht hi hz hk rfl hS hu (hsrc.at hS) hl h1 h63 hb;refine Al7 hg (v:=v') (w':=w') ?_ (h v' w' hS');unfold execOp;simp only[ho,resolve,invoke,builtin,Sem.run_bind,Sem.run_pure,Result.andThen_ok,List.map_toArray,List.map_cons,List.map_nil,hs,hx,hr]
end
section
variable{P:Program}{ops:Array Oper}{md:Region.Mode}{C:World->Prop}
def hd(P:Program)(md:Region.Mode)(ops:Array Oper)(C:World->Prop)(n:Nat)(T:Array Bool->Act->Prop):Nat->Array Bool->Act->Prop
 | 0,listed,a=>T listed a
 | f+1,listed,a=>
  Region.ready md ops listed≠[]/\∀i∈Region.ready md ops listed,i<n/\qOp P ops C i (hd P md ops C n T f (listed.setIfInBounds i true)) a
theorem DD7{n g:Nat}{T:Array Bool->Act->Prop}{Q:Exit->Act->World->Prop}(hT:∀listed a w,C w->T listed a->wpAny P md ops Q g listed a w):
  ∀(f:Nat) (listed:Array Bool) (a:Act) (w:World),C w->hd P md ops C n T f listed a->wpAny P md ops Q (f+g) listed a w
 | 0,listed,a,w,hC,h=>by rw[Nat.zero_add];exact hT _ _ _ hC h
 | f+1,listed,a,w,hC,h=>by rw[show f+1+g=(f+g)+1 by omega];exact⟨fun h0=>absurd h0 h.1,fun i hi=>wpOp_of_qOp hC (fun a' w' hC' h'=>DD7 hT f _ a' w' hC' h') (h.2 i hi).2⟩
theorem EQ7{n i:Nat}{oi:Oper}{v:Value}{T:Array Bool->Act->Prop}(hi:ops[i]? = some oi)(hsel:∀(j:Nat) (o:Oper) cs b,ops[j]? = some o->o.op ≠ .select cs b)
  (hs:Region.sinkB md ops n=true) (hc:Region.chainB md ops n=true) (hn:n<ops.size) (hin:i<n) (hdone:∀listed a,T listed a->∀j∈Region.ready md ops listed,n<=j):
  ∀(f:Nat) (listed:Array Bool) (a:Act),HeadInv md ops n listed->
   (∀j oj,ops[j]? = some oj->j≠i->listed.getD j true=false->(∀e∈oj.after,Region.binds md e=true->e.on≠i)->oi.apart ops oj=true)->
   i∈Region.ready md ops listed->YieldsIn P ops C oi v a->
   hd P md ops C n T f (listed.setIfInBounds i true) (a.put oi.dst v)->hd P md ops C n T (f+1) listed a
 | f,listed,a,inv,hfree,hr,hy,H=>by
  have hun:=(mem_ready.1 hr).1;refine⟨fun h=>(by rw[h]at hr;cases hr),fun j hj=>?_⟩;have hjn:j<n:=Nat.lt_of_not_le fun h=>absurd hj (tail_waits hs hc hn inv _ i rfl hin hun j h)
  refine⟨hjn,?_⟩;by_cases hji:j=i
  ·subst hji;exact hy.qOp hi H
  ·match f,H with
   | 0,H=>have:=hdone _ _ H j (ready_mono hj hji);omega
   | f+1,H=>
    obtain⟨hjun,oj,hoj,hall⟩:=mem_ready.1 hj
    have hnot:∀e∈oj.after,Region.binds md e=true->e.on≠i:=fun e he hb heq=>by
     have h1:=hall e he hb;rw[heq,getD_both hun]at h1
     cases h1
    refine qOp_mono (fun a' h3=>?_) (qOp_put hoj (hfree j oj hoj hji hjun hnot) (fun cs b=>hsel i oi cs b hi) (fun cs b=>hsel j oj cs b hoj) hy (H.2 j (ready_mono hj hji)).2);refine EQ7 hi hsel hs hc hn hin hdone f (listed.setIfInBounds j true) a' (inv.set hj hjn) (fun k ok hk hki hun' hno=>hfree k ok hk hki ?_ hno) (ready_mono hr (Ne.symm hji)) h3.1 ?_
    ·by_cases hjk:j=k
     ·subst hjk;exact hjun
     ·rw[getD_set_ne true hjk]at hun';exact hun'
    ·rw[Array.setIfInBounds_comm _ _ hji];exact h3.2
theorem IB7{n g:Nat}{T:Act->Prop}(hsel:Region.noSelect ops=true)(hs:Region.sinkB md ops n=true)(hc:Region.chainB md ops n=true)(hn:n<ops.size):
  ∀(l:List Oper) (k:Nat) (listed:Array Bool) (a:Act),(∀j,j<l.length->l[j]? = ops[k+j]?)->k+l.length=n->HeadInv md ops n listed->
  Region.lexHead md ops g l.length k listed=true->wpQuiet P ops C T l a->
  hd P md ops C n (fun listed' a'=>Region.seqB md ops g n listed'=true/\T a') l.length listed a
 | [],k,listed,a,_,hk,_,hB,h=>by
  obtain rfl:k=n:=by simpa using hk
  exact⟨by simpa[Region.lexHead]using hB,h⟩
 | o::l,k,listed,a,hl,hk,inv,hB,h=>by
  have h0:ops[k]? = some o:=by simpa using(hl 0 (by simp)).symm
  simp only[jC,Region.lexHead,jB]at hB;have hkn:k<n:=by simp only[jC]at hk;omega
  have hr':k∈Region.ready md ops listed:=by simpa using hB.1.1
  obtain⟨v,hy,hK⟩:=yieldsIn_of_qOp h0 (show qOp P ops C k (wpQuiet P ops C T l) a by unfold qOp;simp only[h0];exact h)
  exact EQ7 h0 (Region.noSelect_spec hsel) hs hc hn hkn (fun listed' a' hL=>seqB_ready hL.1) l.length listed a inv (Region.free_spec h0 hB.1.2) hr' hy
   (IB7 hsel hs hc hn l (k+1) _ _ (fun j hj=>by have:=hl (j+1) (by simp;omega);simpa[Nat.add_assoc,Nat.add_comm 1 j]using this) (by simp only[jC]at hk;omega) (inv.set hr' hkn) hB.2 hK)
theorem CF7{id:Nat}{Q:Exit->Act->World->Prop}{a:Act}{W w:World}{L:List HP}{l:List Oper}(n:Nat)(hm:P.follows .mixedOrders=true)(hB:Region.lexTailB .any l.toArray n=true)(hS:St W L w)
  (h:wpQuiet P l.toArray (St W L) (fun a'=>∀w',St W L w'->wpList P l.toArray Q (l.drop n) a' w') (l.take n) a):(Code.region id l.toArray true).wp P Q a w:=by
 simp only[Region.lexTailB,jB,decide_eq_true_eq]at hB;obtain⟨⟨⟨⟨hsel,hn⟩,hs⟩,hc⟩,hlex⟩:=hB;have htl:(l.take n).length=n:=by simp at hn ⊢;omega
 have hdl:(l.drop n).length=l.toArray.size-n:=by simp
 have inv0:HeadInv .any l.toArray n (Array.replicate l.toArray.size false):=
  ⟨by simp,fun j oj _ hl=>(by rw[getD_replicate_false]at hl;cases hl),fun t _ ht=>getD_in (by simpa using ht) (getD_replicate_false _ _)⟩
 have H:=IB7 (md:=.any) (g:=l.toArray.size-n) hsel hs hc hn (l.take n) 0 _ a (fun j hj=>by
  have hj':j<n:=by rw[htl]at hj;exact hj
  simp[hj']) (by simpa using htl) inv0 (by rw[htl];exact hlex) h
 refine wp_region_any hm ?_;have:=DD7 (Q:=Q) (g:=l.toArray.size-n) (fun listed a' w' hC hL=>by have:=wpAny_of_seq (md:=.any) (Q':=Q) (l.drop n) n listed a' w' (fun j=>by simp[List.getElem?_drop]) (by rw[hdl];exact hL.1) (hL.2 w' hC);rwa [hdl]at this) _ _ _ _ (hS.drawn (w.drawn+1)) H;rw[htl,show n+(l.toArray.size-n)=l.toArray.size by simp at hn ⊢;omega]at this;exact this
theorem rt{P:Program}{id:Nat}{Q:Exit->Act->World->Prop}{a:Act}{W w:World}{L:List HP}{l:List Oper}(n:Nat)(hS:St W L w)
  (h:wpQuiet P l.toArray (St W L) (fun a'=>∀w',St W L w'->wpList P l.toArray Q (l.drop n) a' w') (l.take n) a) (hm:P.follows .mixedOrders=true:=by kernel_rfl) (hB:Region.lexTailB .any l.toArray n=true:=by kernel_rfl):(Code.region id l.toArray true).wp P Q a w:=CF7 n hm hB hS h
theorem Aa7{id:Nat}{Q:Exit->Act->World->Prop}{a:Act}{W w:World}{L:List HP}{l:List Oper}(hm:P.follows .mixedOrders=true)(hB:Region.lexB .any l.toArray=true)(hS:St W L w)
  (h:wpQuiet P l.toArray (St W L) (fun a'=>∀w',St W L w'->Q .normal a' w') l a):(Code.region id l.toArray true).wp P Q a w:=
 wp_region_quiet (C:=St W L) hm hB (hS.drawn (w.drawn+1)) (by simpa using h)
variable{W:World}{L:List HP}{Q:Act->Prop}{a:Act}{o:Oper}{rest:List Oper}
theorem Ce7{v:Value}(hg:Region.wanted o (yielded ops a.tmps)=true)(hv:∀w,St W L w->(execOp a.eval o).run P w=.ok (.value v) w)(h:wpQuiet P ops (St W L) Q rest (a.put o.dst v)):wpQuiet P ops (St W L) Q (o::rest) a:=
 wpQuiet_step fun K hK=>by rw[if_pos hg];exact⟨v,fun w hw=>by unfold Oper.quietAt;rw[hv w hw];exact⟨rfl,rfl⟩,hK _ h⟩
theorem JI7{t:TypeId}{x:Operand}{b off:Nat}{v:Value}(ho:o.op=.load t x)(hg:Region.wanted o (yielded ops a.tmps)=true)(hx:a.eval x=.pointer (some ⟨b,off,none⟩))(ht:m7 P t=some false)(hc:a8 L b off v)
  (h:wpQuiet P ops (St W L) Q rest (a.put o.dst v)):wpQuiet P ops (St W L) Q (o::rest) a:=
 Ce7 hg (fun _ hS=>De7 hS ho hx ht hc) h
theorem JJ7{t:TypeId}{x:Operand}{b off:Nat}{vs:List Value}(ho:o.op=.load t x)(hg:Region.wanted o (yielded ops a.tmps)=true)(hx:a.eval x=.pointer (some ⟨b,off,none⟩))(ht:m7 P t=some true)
  (hc:a7 L b off vs) (hn:j6 P t=some vs.length) (h:wpQuiet P ops (St W L) Q rest (a.put o.dst (.agg vs.toArray))):wpQuiet P ops (St W L) Q (o::rest) a:=
 Ce7 hg (fun _ hS=>BV7 hS ho hx ht hn hc) h
theorem Ac7{f:FuncId}{args:Array Value}{v:Value}(hg:Region.wanted o (yielded ops a.tmps)=true)(hr:∀w,(execOp a.eval o).run P w=.ok (.enter f args) w)
  (hc:∀w,St W L w->Calls P f args w fun e w'=>e=.returned v/\St W L w') (h:wpQuiet P ops (St W L) Q rest (a.put o.dst v)):wpQuiet P ops (St W L) Q (o::rest) a:=
 wpQuiet_step fun K hK=>by rw[if_pos hg];exact⟨v,fun w hw=>by unfold Oper.quietAt;rw[hr w];exact⟨rfl,hc w hw⟩,hK _ h⟩
def B9:Op->Bool
 | .nilCheck _=>true
 | .call { callee:=.builtin .len,.. } | .call { callee:=.builtin .cap,.. } | .call { callee:=.builtin .min,.. } | .call { callee:=.builtin .max,.. }=>false
 | .call _ | .go _ | .defer _ | .send .. | .recv .. | .select .. => true
 | _=>false
theorem Bv7{s:Sem Value}{w w':World}{f:FuncId}{args:Array Value}(h:((do pure (Next.value (<-s)):Sem Next)).run P w=.ok (.enter f args) w'):False:=by
 rw[Sem.run_bind]at h
 cases hs:s.run P w with
 | ok v w2=>rw[hs]at h;simp at h
 | halt x w2=>rw[hs]at h;simp at h
theorem DE7{s:Sem Unit}{w w':World}{f:FuncId}{args:Array Value}(h:((do s;pure Next.skip:Sem Next)).run P w=.ok (.enter f args) w'):False:=by
 rw[Sem.run_bind]at h
 cases hs:s.run P w with
 | ok v w2=>rw[hs]at h;simp at h
 | halt x w2=>rw[hs]at h;simp at h
theorem DF7 {ρ : Operand -> Value} (hc : B9 o.op = false) {w w' : World} {f : FuncId} {args : Array Value} (h : (execOp ρ o).run P w = .ok (.enter f args) w') : False := by
  unfold execOp at h;split at h
  all_goals first
    | exact Bv7 h
    | exact DE7 h
    | (rename_i he; rw [he] at hc; simp [B9] at hc; done)
    | (simp at h; done)
    | skip
  · rename_i c a b he
    rw [Sem.run_bind] at h
    cases hs : (asBool (ρ c)).run P w with
    | ok v w2 => rw [hs] at h; simp at h
    | halt x w2 => rw [hs] at h; simp at h
  · rename_i c he
    rw [he] at hc;obtain ⟨callee, xs, ats⟩ := c
    cases callee with
    | value f => simp [B9] at hc
    | invoke r m => simp [B9] at hc
    | builtin b =>
      cases b <;> first
        | (simp [B9] at hc; done)
        | (simp only [resolve, invoke, builtin] at h
           rw [Sem.run_bind] at h;simp only [Sem.run_pure, Result.andThen_ok] at h;exact Bv7 h)
theorem Gd7(hg:Region.wanted o (yielded ops a.tmps)=true)(hc:B9 o.op=false)(h:∀K:Act->Prop,(∀a,wpQuiet P ops (St W L) Q rest a->K a)->o.quiet P a (fun _=>True) K):wpQuiet P ops (St W L) Q (o::rest) a:=by
 obtain⟨v,h1,h2⟩:=h _ fun _ h=>h
 refine wpQuiet_step fun K hK=>?_
 rw[if_pos hg];refine⟨v,fun w _=>?_,hK _ h2⟩;have:=h1 w trivial;unfold Oper.quietAt at this ⊢;generalize hr:(execOp a.eval o).run P w=r at this
 cases r with
 | ok n w'=>cases n <;> first | exact this | exact(DF7 hc hr).elim
 | halt x w'=>exact this
theorem qQ(h:∀K:Act->Prop,(∀a,wpQuiet P ops (St W L) Q rest a->K a)->o.quiet P a (fun _=>True) K)(hg:Region.wanted o (yielded ops a.tmps)=true:=by rfl)(hc:B9 o.op=false:=by rfl):wpQuiet P ops (St W L) Q (o::rest) a:=Gd7 hg hc h
theorem qR{a':Act}(k:wpQuiet P ops (St W L) Q rest a')(h:∀K:Act->Prop,K a'->o.quiet P a (fun _=>True) K:=by(intro K hK;go_big_quiet_op;exact hK))(hg:Region.wanted o (yielded ops a.tmps)=true:=by rfl)(hc:B9 o.op=false:=by rfl):wpQuiet P ops (St W L) Q (o::rest) a:=Gd7 hg hc fun K hK=>h K (hK _ k)
theorem JK7{x:Operand}{p:Addr}(ho:o.op=.nilCheck x)(hg:Region.wanted o (yielded ops a.tmps)=true)(hx:a.eval x=.pointer (some p))(h:wpQuiet P ops (St W L) Q rest (a.put o.dst (.pointer (some p)))):wpQuiet P ops (St W L) Q (o::rest) a:=
 Ce7 hg (fun w _=>by unfold execOp;simp[ho,hx]) h
end
section
variable{α:Type}{enc:α->List Value}{k:Nat}
theorem Am7(henc:∀x,(enc x).length=k):∀xs:List α,(xs.flatMap enc).length=xs.length*k
 | []=>by simp
 | x::xs=>by rw[List.flatMap_cons,jA,henc,Am7 henc xs,jC,Nat.add_mul,Nat.one_mul,Nat.add_comm]
theorem AX7(henc:∀x,(enc x).length=k):∀(xs:List α) (junk:List Value) (i:Nat) (h:i<xs.length) (j:Nat),j<k->(xs.flatMap enc++junk)[i*k+j]? = (enc xs[i])[j]?
 | x::xs,junk,0,_,j,hj=>by rw[List.flatMap_cons,jS,List.getElem?_append_left (by rw[henc];omega),Nat.zero_mul,Nat.zero_add];rfl
 | x::xs,junk,i+1,h,j,hj=>by
  have e:(i+1)*k+j=k+(i*k+j):=by rw[Nat.add_mul,Nat.one_mul];omega
  rw[List.flatMap_cons,jS,List.getElem?_append_right (by rw[henc,e];omega),henc,e,Nat.add_sub_cancel_left,AX7 henc xs junk i (by simpa using h) j hj];rfl
theorem a7.elem(henc:∀x,(enc x).length=k){xs:List α}{junk:List Value}{g i:Nat}{T:TypeId}{L:List HP}(h:i<xs.length):a7 (blk g (xs.flatMap enc++junk) T::L) g (i*k) (enc xs[i]):=fun j v hj=>
 a8.here (by have hl:j<(enc xs[i]).length:=(List.getElem?_eq_some_iff.1 hj).1;rw[AX7 henc xs junk i h j (by rwa [henc]at hl)];exact hj)
theorem a8.elem(henc:∀x,(enc x).length=k){xs:List α}{junk:List Value}{g i j:Nat}{v:Value}{T:TypeId}{L:List HP}(h:i<xs.length)(hv:(enc xs[i])[j]? = some v):a8 (blk g (xs.flatMap enc++junk) T::L) g (i*k+j) v:=
 a7.elem henc h j v hv
theorem ER7(henc:∀x,(enc x).length=k)(xs:List α)(junk:List Value)(i:Nat)(h:i<xs.length)(y:α):l7 (xs.flatMap enc++junk) (i*k) (enc y)=(xs.set i y).flatMap enc++junk:=by
 have hl:=Am7 henc xs;have hlt:i*k+k<=xs.length*k:=by have:(i+1)*k<=xs.length*k:=Nat.mul_le_mul_right _ h;rw[Nat.add_mul,Nat.one_mul]at this;exact this
 rw[DC7 _ _ _ (by rw[henc,jA,hl];omega)];rw[henc];have h1:xs=xs.take i++xs[i]::xs.drop (i+1):=by simp
 have h2:xs.set i y=xs.take i++y::xs.drop (i+1):=by rw[List.set_eq_take_append_cons_drop,if_pos h]
 have h3:xs.flatMap enc=(xs.take i).flatMap enc++(enc xs[i]++(xs.drop (i+1)).flatMap enc):=by
  conv=>lhs;rw[h1]
  rw[List.flatMap_append,List.flatMap_cons]
 have h4:((xs.take i).flatMap enc).length=i*k:=by rw[Am7 henc,jT];congr 1;omega
 rw[h2,List.flatMap_append,List.flatMap_cons,h3];have e1:List.take (i*k) ((xs.take i).flatMap enc++(enc xs[i]++(xs.drop (i+1)).flatMap enc)++junk)=(xs.take i).flatMap enc:=by rw[jS,List.take_append_of_le_length (by omega),List.take_of_length_le (by omega)]
 have e2:List.drop (i*k+k) ((xs.take i).flatMap enc++(enc xs[i]++(xs.drop (i+1)).flatMap enc)++junk)=(xs.drop (i+1)).flatMap enc++junk:=by rw[jS,jS,<-jS ((xs.take i).flatMap enc)];exact List.drop_left' (by rw[jA,h4,henc])
 rw[e1,e2];simp only[jS]
end
theorem BQ7:∀(l:List Value) (k off:Nat) (cells:Array Value),((l.zipIdx k).foldl (fun cs (c,j)=>cs.setIfInBounds (off+j) c) cells).toList=l7 cells.toList (off+k) l
 | [],_,_,_=>rfl
 | v::l,k,off,cells=>by rw[List.zipIdx_cons,List.foldl_cons,BQ7 l (k+1) off,l7];simp[Nat.add_assoc]
def F7(k:Nat):List Value->List (Nat×Value)->List Value
 | l,[]=>l
 | l,(i,v)::r=>F7 k (l7 l (i*k) v.cells.toList) r
def C9(k n:Nat)(parts:List (Nat×Value)):Bool:=parts.all fun(i,v)=>v.cells.size==k&&decide (i<n)
theorem Df7{k n:Nat}:∀(parts:List (Nat×Value)) (cells:Array Value),cells.size=n*k->C9 k n parts=true->Instr.fill (fun i=>some (i*k,k)) cells parts=some (F7 k cells.toList parts).toArray
 | [],cells,_,_=>by simp[Instr.fill,F7]
 | (i,v)::r,cells,hs,hp=>by
  unfold C9 at hp;simp only[List.all_cons,jB,beq_iff_eq,decide_eq_true_eq]at hp;obtain⟨⟨h1,h2⟩,h3⟩:=hp;have hle:i*k+k<=n*k:=by have:(i+1)*k<=n*k:=Nat.mul_le_mul_right _ h2;rw[Nat.add_mul,Nat.one_mul]at this;exact this
  have e:(v.cells.zipIdx.foldl (fun cs (c,j)=>cs.setIfInBounds (i*k+j) c) cells).toList=l7 cells.toList (i*k) v.cells.toList:=by have:=BQ7 v.cells.toList 0 (i*k) cells;rw[Nat.add_zero]at this;rw[<-this,<-Array.foldl_toList,Array.toList_zipIdx]
  rw[Instr.fill];simp only[];rw[if_neg (by simp[h1,hs];omega),Df7 r _ (by rw[<-Array.length_toList,e,Bu7];simpa using hs) h3,F7,e]
def y9(z:Value)(n:Nat):List Value:=(List.range (n*z.cells.size)).map fun j=>z.cells[j%z.cells.size]!
section
variable{P:Program}{w:World}
theorem CG7{t e n:TypeId}{z:Value}{k bytes:Nat}{parts:List (Nat×Value)}(ht:j5 P t=some e)(hi:k8 P e=some (some z,k,bytes))(hz:z.cells.size=k)(hn:decide (n*k<=16777216)=true)(hp:C9 k n parts=true):
  (Instr.buildSlice t n parts.toArray).run P w=.ok (.slice (some ⟨w.heap.size,0,none⟩) n n) (w.alloc (.cells (F7 k (y9 z n) parts).toArray e)):=by
 unfold k8 at hi;obtain⟨i,hi',hi2⟩:=Option.map_eq_some_iff.1 hi;simp only[Prod.mk.injEq]at hi2;obtain⟨hz',hk,_⟩:=hi2;have hn':¬(n*k>2^24):=by simp at hn ⊢;omega
 have hcells:∀zc:Array Value,(n*k=0/\zc=#[]\/zc=z.cells)->((Array.range (n*k)).map (zc[·%zc.size]!))=(y9 z n).toArray:=by
  intro zc h;unfold y9;rw[hz]
  rcases h with ⟨h0,rfl⟩|rfl
  ·rw[h0];simp
  ·apply Array.ext';simp[hz]
 have hlen:(y9 z n).toArray.size=n*k:=by simp[y9,hz]
 by_cases h0:n*k=0
 ·have hr:=Df7 (k:=k) (n:=n) parts (y9 z n).toArray hlen hp;rw[<-hcells #[] (.inl ⟨h0,rfl⟩)]at hr;simp only[Instr.buildSlice,Sem.run_bind,run_underlying (AF7 ht),Result.andThen_ok,sizeOf,typeInfo,hi',run_program,Sem.run_pure,hk,if_neg hn',if_pos h0,hr];simp only[newRow,Sem.run_bind,run_newObj,Result.andThen_ok,Sem.run_pure];rw[hcells #[] (.inl ⟨h0,rfl⟩)];rfl
 ·have hr:=Df7 (k:=k) (n:=n) parts (y9 z n).toArray hlen hp;rw[<-hcells z.cells (.inr rfl)]at hr;simp only[Instr.buildSlice,Sem.run_bind,run_underlying (AF7 ht),Result.andThen_ok,sizeOf,typeInfo,zeroValue,hi',hz',run_program,Sem.run_pure,hk,if_neg hn',if_neg h0,hr];simp only[newRow,Sem.run_bind,run_newObj,Result.andThen_ok,Sem.run_pure];rw[hcells z.cells (.inr rfl)];rfl
end
section
variable{P:Program}{ops:Array Oper}{Q:Exit->Act->World->Prop}{a:Act}{w:World}{W:World}{L L' R:List HP}{rest:List Oper}{o:Oper}
theorem Es7{t e n:TypeId}{z:Value}{k bytes:Nat}{xs:Array (Nat×Operand)}{parts:List (Nat×Value)}{l:List Value}(hS:St W L w)(ho:o.op=.buildSlice t n xs)(hx:(xs.map fun(i,x)=>(i,a.eval x))=parts.toArray)
  (ht:j5 P t=some e) (hi:k8 P e=some (some z,k,bytes)) (hz:z.cells.size=k) (hn:decide (n*k<=16777216)=true) (hp:C9 k n parts=true) (hl:F7 k (y9 z n) parts=l):
  ∃b w',(execOp a.eval o).run P w=.ok (.value (.S b n n)) w'/\St W (blk b l e::L) w':=by
 subst hl;refine⟨w.heap.size,w.alloc (.cells (F7 k (y9 z n) parts).toArray e),?_,hS.alloc _⟩;unfold execOp;simp only[ho,hx,Sem.run_bind,CG7 ht hi hz hn hp,Result.andThen_ok,Sem.run_pure]
theorem bs4{t e n:TypeId}{z:Value}{k bytes:Nat}{xs:Array (Nat×Operand)}{parts:List (Nat×Value)}{l:List Value}(hS:St W L w)(ho:o.op=.buildSlice t n xs)(hg:Region.wanted o (yielded ops a.tmps)=true)(hx:(xs.map fun(i,x)=>(i,a.eval x))=parts.toArray)
  (ht:j5 P t=some e) (hi:k8 P e=some (some z,k,bytes)) (hz:z.cells.size=k) (hn:decide (n*k<=16777216)=true) (hp:C9 k n parts=true) (hl:F7 k (y9 z n) parts=l)
  (h:∀b w',St W (blk b l e::L) w'->wpList P ops Q rest (a.put o.dst (.S b n n)) w'):wpList P ops Q (o::rest) a w:=by
 obtain⟨b,w',hr,hS'⟩:=Es7 (P:=P) hS ho hx ht hi hz hn hp hl;exact Al7 hg hr (h b w' hS')
end
def F8(P:Program)(t:TypeId)(name:String):Option (FuncId×Bool):=(P.info? t).bind fun i=>(i.methods.find? (·.name==name)).bind fun m=>if m.path.isEmpty then m.func else none
def G9(P:Program)(t:TypeId):Option TypeId:=(P.underlying t).bind fun|.pointer e=>some e|_=>none
def bt4(P:Program)(t:TypeId):Bool:=match G9 P t with|some e=>m7 P e==some false|none=>false
def t8 (P : Program) (f : FuncId) : Bool := match P.funcs[f]? with | some fn => fn.name != "runtime.NumGoroutine" && fn.body.isSome | none => false
section
variable{P:Program}{w:World}
theorem CM7{t e:TypeId}(h:G9 P t=some e):P.underlying t=some (.pointer e):=by
 unfold G9 at h;obtain⟨d,hd,hx⟩:=Option.bind_eq_some_iff.1 h
 cases d <;> simp at hx
 rw[hd,hx]
theorem Cf7{t:TypeId}{name:String}{f:FuncId}{r:Bool}(h:F8 P t name=some (f,r)):∃i m,P.info? t=some i/\i.methods.find? (·.name==name)=some m/\m.path=#[]/\m.func=some (f,r):=by
 unfold F8 at h;obtain⟨i,hi,h⟩:=Option.bind_eq_some_iff.1 h;obtain⟨m,hm,h⟩:=Option.bind_eq_some_iff.1 h;by_cases hp:m.path.isEmpty=true
 ·rw[if_pos hp]at h;exact⟨i,m,hi,hm,by simpa using hp,h⟩
 ·rw[if_neg hp]at h;cases h
theorem Et7(ats:Array TypeId)(ty:TypeId)(p:Addr)(s m:ByteArray):(Builtin.ssaWrapNilChk_ ats ty #[.pointer (some p),.string s,.string m]).run P w=.ok (.pointer (some p)) w:=rfl
theorem CH7{fuel:Nat}{t e:TypeId}{name:String}{f:FuncId}{p:Addr}{u:Value}(hm:F8 P t name=some (f,false))(hu:G9 P t=some e)(hl:(loadVar e p).run P w=.ok u w):
  (method (fuel+1) t (.pointer (some p)) name).run P w=.ok (f,u) w:=by
 obtain⟨i,m,hi,hf,hp,hfn⟩:=Cf7 hm;simp[method,typeInfo,hi,hf,hp,follow,hfn,receiverAt,run_underlying (CM7 hu),Place.get,Et7,strVal,asAddr,hl]
theorem CI7{fuel:Nat}{t e:TypeId}{name:String}{f:FuncId}{p:Addr}(hm:F8 P t name=some (f,true))(hu:G9 P t=some e):
  (method (fuel+1) t (.pointer (some p)) name).run P w=.ok (f,.pointer (some p)) w:=by
 obtain⟨i,m,hi,hf,hp,hfn⟩:=Cf7 hm;simp[method,typeInfo,hi,hf,hp,follow,hfn,receiverAt,run_underlying (CM7 hu),Place.get]
theorem AI7{f:FuncId}{args:Array Value}(hb:t8 P f=true):(callFunc f args).run P w=.ok (.enter f args) w:=by
 unfold t8 at hb
 cases hf:P.funcs[f]? with
 | none=>rw[hf]at hb;cases hb
 | some fn=>
  rw[hf]at hb;simp only[jB,bne_iff_ne,ne_eq]at hb;have h2:fn.body≠none:=fun h=>by rw[h]at hb;simp at hb
  simp[callFunc,hf,hb.1,h2]
end
section
variable{P:Program}{ops:Array Oper}{Q:Exit->Act->World->Prop}{a:Act}{w:World}{W:World}{L L' R:List HP}{rest:List Oper}{o:Oper}
theorem ES7{f:FuncId}{args:Array Value}(hg:Region.wanted o (yielded ops a.tmps)=true)(hr:(execOp a.eval o).run P w=.ok (.enter f args) w)
  (h:Calls P f args w fun e w'=>∃v,e=.returned v/\wpList P ops Q rest (a.put o.dst v) w'):wpList P ops Q (o::rest) a w:=
 wpList_step fun K hK=>by rw[if_pos hg];unfold Oper.wp;rw[hr];refine h.mono ?_;rintro e w' ⟨v,rfl,h⟩;exact hK _ _ h
theorem DG7(x:Value)(args:Array Value):(#[x]++args)[0]? = some x:=by rw[Array.getElem?_append_left (by simp)];rfl
theorem DH7{x:Operand}{name:String}{xs:Array Operand}{ats:Array TypeId}{t e:TypeId}{f:FuncId}{p:Addr}{args:Array Value}(ho:o.op=.call { callee:=.invoke x name,args:=xs,argTypes:=ats })
  (hx:a.eval x=.iface t (.pointer (some p))) (hm:F8 P t name=some (f,true)) (hb:t8 P f=true) (hu:G9 P t=some e) (hargs:xs.map a.eval=args):
  (execOp a.eval o).run P w=.ok (.enter f (#[.pointer (some p)]++args)) w:=by
 unfold execOp;simp only[ho,resolve,invoke,Sem.run_bind,Sem.run_pure,Result.andThen_ok,hx,hargs,Array.extract_append];simp[DG7,callMethod,CI7 hm hu,AI7 hb,Made.depth]
end
section
variable{P:Program}{fn:Func}{R:Ending->World->Prop}{a:Act}{W w:World}{L:List HP}
theorem BW7{p:Tmp}{q:Addr}(hp:a.tmps.getD p undef=.pointer (some q)):(asAddr (a.tmps.getD p undef)).run P w=.ok q w:=by rw[hp];rfl
theorem Eu7{p:Tmp}{ty:TypeId}{b off:Nat}{vs:List Value}(hres:fn.results=#[.cell p ty])(hp:a.tmps.getD p undef=.pointer (some ⟨b,off,none⟩))(hd:a.defers=[])(hS:St W L w)(ht:m7 P ty=some true)
  (hc:a7 L b off vs) (hz:j6 P ty=some vs.length) (h:R (.returned (.agg vs.toArray)) w):bodyPost P fn R .ret a w:=by
 refine bodyPost_ret (v:=.agg vs.toArray) ?_ hd h;have h1:=BW7 (P:=P) (w:=w) hp;have h2:=BG7 (w:=w) (P:=P) (p:=⟨b,off,none⟩) ht hz (fun j v hj=>by rw[Addr.add_lit];exact hc j v hj W w hS);simp[results,hres,Sem.run_bind,Result.andThen]at h1 ⊢;simp[h1,h2]
theorem AD7{p q:Tmp}{ty:TypeId}{b off:Nat}{vs:List Value}{v:Value}(hres:fn.results=#[.cell p ty,.tmp q])(hp:a.tmps.getD p undef=.pointer (some ⟨b,off,none⟩))(hq:a.tmps.getD q undef=v)(hd:a.defers=[])(hS:St W L w)(ht:m7 P ty=some true)
  (hc:a7 L b off vs) (hz:j6 P ty=some vs.length) (h:R (.returned (.tuple #[.agg vs.toArray,v])) w):bodyPost P fn R .ret a w:=by
 refine bodyPost_ret (v:=.tuple #[.agg vs.toArray,v]) ?_ hd h;have h1:=BW7 (P:=P) (w:=w) hp;have h2:=BG7 (w:=w) (P:=P) (p:=⟨b,off,none⟩) ht hz (fun j v hj=>by rw[Addr.add_lit];exact hc j v hj W w hS);subst hq;simp[results,hres,Sem.run_bind,Result.andThen]at h1 ⊢;simp[h1,h2]
end
end Go.Sl
end
