/-
  A row that is only read.
-/
import Derived.Test.YtienbkdjkjbelaaGreatJuRM3
import Derived.Test.YtienbkdjkjbelaaGreatJuRM4
set_option maxHeartbeats 16000000
set_option maxRecDepth 100000
set_option linter.unusedSimpArgs false
set_option linter.unusedVariables false
section
namespace Go.Sl
open Go.RowKit
section
variable{W w:World}{L:List HP}{a:Option Addr}{v:Value}{k n c g off:Nat}{T:TypeId}{cs:List Value}
theorem St.rowAddr(h:St W (row (.slice a n c) k T n cs::L) w)(hn:0<n):(∃g,a=some ⟨g,0,none⟩)/\c<=9223372036854775807/\n<=c:=by
 rcases h.rowOpen with ⟨_,h0,_⟩|⟨g,cap,junk,hv,hn1,hm1,_⟩
 ·omega
 ·injection hv with e1 e2 e3
  subst e3;exact⟨⟨g,e1⟩,hm1,hn1⟩
theorem i6.row(hn:0<n)(h:cs[off]? = some v):i6 (Sl.row (.S g n c) k T n cs::L) g off v:=fun W w hS=>by
 rcases hS.rowOpen with ⟨_,h0,_⟩|⟨g',cap,junk,hv,hn1,hm1,hj1,hl1,hS'⟩
 ·omega
 ·injection hv with e1 e2 e3
  injection e1 with e1
  injection e1 with e1
  subst e1;exact hS'.cell .head (by rw[List.getElem?_append_left (List.getElem?_eq_some_iff.1 h).1];exact h)
theorem d8.rowE{α:Type}{enc:α->List Value}(henc:∀x,(enc x).length=k){xs:List α}{i:Nat}(h:i<xs.length):d8 (Sl.row (.S g xs.length c) k T xs.length (xs.flatMap enc)::L) g (i*k) (enc xs[i]):=fun j v hj=>by refine i6.row (by omega) ?_;have hl:j<(enc xs[i]).length:=(List.getElem?_eq_some_iff.1 hj).1;have:=AY7 henc xs [] i h j (by rwa [henc]at hl);rw[List.append_nil]at this;rw[this];exact hj
theorem i6.rowE{α:Type}{enc:α->List Value}(henc:∀x,(enc x).length=k){xs:List α}{i j:Nat}(h:i<xs.length)(hv:(enc xs[i])[j]? = some v):i6 (Sl.row (.S g xs.length c) k T xs.length (xs.flatMap enc)::L) g (i*k+j) v:=
 d8.rowE henc h j v hv
end
section
variable{P:Program}{W:World}{ops:Array Oper}{t:List Nat}{toks:List Tok}{fresh:Nat->Bool}{pin:Nat->Option Value}{Qf:Act->Prop}{nd:Nat->Value}{i:Nat}{o:Oper}{l:List Oper}{a:Act}
theorem Bi7{ty e n:TypeId}{z:Value}{k bytes:Nat}{xs:Array (Nat×Operand)}{parts:List (Nat×Value)}{ls:List Value}(hf:fresh i=true)(ho:o.op=.buildSlice ty n xs)(hg:Region.wanted o (yielded ops a.tmps)=true)(hx:(xs.map fun(i,x)=>(i,a.eval x))=parts.toArray)
  (ht:t7 P ty=some e) (hi:B8 P e=some (some z,k,bytes)) (hz:z.cells.size=k) (hn:decide (n*k<=16777216)=true) (hp:ak4 k n parts=true) (hl:aH4 k (N5 z n) parts=ls) (hll:ls.length=n*k) (hn63:n<=maxLen) (hk:∀v,kpL toks t i (upd nd i v)=kpL toks t i nd) (hc:cnL toks t i nd=[])
  (hm:∀v,mdL toks i (upd nd i v)=[row v k e n ls]) (h:k8 P W ops t toks fresh pin Qf nd (i+1) l (a.put o.dst (nd i))):k8 P W ops t toks fresh pin Qf nd i (o::l) a:=
 HX7 hf hg hk (fun F w hS=>by
  rw[hc]at hS;obtain⟨b,w',h1,h2⟩:=Ft7 (P:=P) hS ho hx ht hi hz hn hp hl;refine⟨_,w',h1,?_⟩;rw[hm];have h3:St W (blk b (ls++[]) e::(kpL toks t i nd++F)) w':=by rw[List.append_nil];exact h2
  exact St.rowShut h3 (Nat.le_refl _) hn63 (by rw[List.append_nil];exact hll) hll) h
end
theorem Fw7{W w:World}{L R:List HP}{g n c k m c' off:Nat}{T:TypeId}{cs news:List Value}(hS:St W L w)(hu:Take L (Sl.row (.S g n c) k T n cs) R)(h:∀j u,news[j]? = some u->cs[off+j]? = some u):
  cm4 w (.slice (some ⟨g,off,none⟩) m c') m news:=by
 refine .inr ⟨g,off,c',rfl,fun j u hj=>?_⟩;have h1:=h j u hj;rcases(hS.take hu).rowOpen with ⟨hv,_⟩|⟨g',cap,junk,hv,_,_,_,_,hS'⟩
 ·cases hv
 ·injection hv with e1 e2 e3
  injection e1 with e1
  injection e1 with e1
  subst e1;exact hS'.cell .head (by rw[List.getElem?_append_left (List.getElem?_eq_some_iff.1 h1).1];exact h1)
end Go.Sl
end
section
namespace Go.Sl
open Go.RowKit
inductive Suf:List HP->List HP->Prop
 | refl {L:List HP}:Suf L L
 | tail {X:HP} {L L':List HP} (h:Suf L L'):Suf (X::L) L'
inductive Sel:List HP->List HP->Prop
 | done {L L':List HP} (h:Suf L L'):Sel L L'
 | cons {A:HP} {L L1 L':List HP} (t:Take L A L1) (s:Sel L1 L'):Sel L (A::L')
theorem Lv7{L L':List HP}(s:Suf L L'):∀{h:M9},sats L h->sats L' h:=by
 induction s with
 | refl=>exact fun h=>h
 | tail _ ih=>exact fun⟨S,_,h2⟩=>ih (By7 h2)
theorem Sel.sats{L L':List HP}(s:Sel L L'):∀{h:M9},Sl.sats L h->Sl.sats L' h:=by
 induction s with
 | done h=>exact Lv7 h
 | cons t _ ih=>exact fun h=>AQ7 (fun _ x=>x) (fun _ x=>ih x) (t.sats h)
theorem St.sel{W w:World}{L L':List HP}(h:St W L w)(s:Sel L L'):St W L' w:=⟨h.os,h.tape,h.output,s.sats h.sat⟩
end Go.Sl
end
section
namespace Go.Sl
open Go.RowKit
section
variable{W w:World}{L:List HP}{a:Option Addr}{v:Value}{k n c g off:Nat}{T:TypeId}{cs news:List Value}
theorem St.rowCase(h:St W (row (.slice a n c) k T n cs::L) w):(a=none/\n=0/\c=0/\cs=[])\/∃g,a=some ⟨g,0,none⟩/\c<=9223372036854775807/\n<=c:=by
 rcases h.rowOpen with ⟨hv,h0,hc,_⟩|⟨g,cap,junk,hv,hn1,hm1,_⟩
 ·injection hv with e1 e2 e3
  exact .inl ⟨e1,h0,e3,hc⟩
 ·injection hv with e1 e2 e3
  subst e3;exact .inr ⟨g,e1,hm1,hn1⟩
theorem i6.rowS(h:cs[off]? = some v):i6 (Sl.row (.S g n c) k T n cs::L) g off v:=fun W w hS=>by
 rcases hS.rowOpen with ⟨hv,_⟩|⟨g',cap,junk,hv,hn1,hm1,hj1,hl1,hS'⟩
 ·cases hv
 ·injection hv with e1 e2 e3
  injection e1 with e1
  injection e1 with e1
  subst e1;exact hS'.cell .head (by rw[List.getElem?_append_left (List.getElem?_eq_some_iff.1 h).1];exact h)
theorem i6.rowM{L':List HP}(hu:Take L (Sl.row (.S g n c) k T n cs) L')(h:cs[off]? = some v):i6 L g off v:=fun W w hS=>i6.rowS h W w (hS.take hu)
theorem d8.rowM{L':List HP}(hu:Take L (Sl.row (.S g n c) k T n cs) L')(h:∀j u,news[j]? = some u->cs[off+j]? = some u):d8 L g off news:=fun j v hj=>i6.rowM hu (h j v hj)
theorem d8.elemM{α:Type}{enc:α->List Value}(henc:∀x,(enc x).length=k){xs:List α}{i:Nat}{L':List HP}(hu:Take L (Sl.row (.S g xs.length c) k T xs.length (xs.flatMap enc)) L')(h:i<xs.length):d8 L g (i*k) (enc xs[i]):=
 d8.rowM hu fun j u hj=>by have hl:j<(enc xs[i]).length:=(List.getElem?_eq_some_iff.1 hj).1;have:=AY7 henc xs [] i h j (by rwa [henc]at hl);rw[List.append_nil]at this;rw[this];exact hj
theorem Src.partM{L':List HP}{m c':Nat}(hu:Take L (Sl.row (.S g n c) k T n cs) L')(h:∀j u,news[j]? = some u->cs[off+j]? = some u):Src L (.slice (some ⟨g,off,none⟩) m c') m news:=.inr ⟨g,off,c',rfl,d8.rowM hu h⟩
theorem Src.behindM{L':List HP}{m c' i:Nat}(hu:Take L (Sl.row (.S g n c) k T n cs) L')(h0:c=i->m=0/\news=[])(h:∀j u,news[j]? = some u->cs[i*k+j]? = some u):
  Src L (.slice (if c=i then some ⟨g,0,none⟩else some ⟨g,i*k,none⟩) m c') m news:=by
 split
 ·rename_i hc
  obtain⟨rfl,rfl⟩:=h0 hc;exact .inr ⟨g,0,c',rfl,fun j u hj=>by simp at hj⟩
 ·exact .inr ⟨g,i*k,c',rfl,d8.rowM hu h⟩
theorem x8{α:Type}{enc:α->List Value}(xs:List α)(i j:Nat)(u:Value)(h:((xs.take i).flatMap enc)[j]? = some u):(xs.flatMap enc)[0+j]? = some u:=by
 rw[Nat.zero_add];have e:xs.flatMap enc=(xs.take i).flatMap enc++(xs.drop i).flatMap enc:=by rw[<-List.flatMap_append,List.take_append_drop]
 rw[e,List.getElem?_append_left (List.getElem?_eq_some_iff.1 h).1];exact h
theorem B7{α:Type}{enc:α->List Value}(henc:∀x,(enc x).length=k)(xs:List α)(i j:Nat)(u:Value)(hi:i<=xs.length)(h:((xs.drop i).flatMap enc)[j]? = some u):(xs.flatMap enc)[i*k+j]? = some u:=by
 have e:xs.flatMap enc=(xs.take i).flatMap enc++(xs.drop i).flatMap enc:=by rw[<-List.flatMap_append,List.take_append_drop]
 have hl:((xs.take i).flatMap enc).length=i*k:=by rw[Ab7 henc,jT,Nat.min_eq_left hi]
 rw[e,List.getElem?_append_right (by omega),hl,Nat.add_sub_cancel_left];exact h
theorem Gk7{α:Type}{enc:α->List Value}(henc:∀x,(enc x).length=k):∀(xs:List α) (junk:List Value) (i j:Nat) (h:i<xs.length) (y:α) (u:Value),j<k->enc y=(enc xs[i]).set j u->(xs.flatMap enc++junk).set (i*k+j) u=(xs.set i y).flatMap enc++junk
 | x::xs,junk,0,j,_,y,u,hj,he=>by have he':enc y=(enc x).set j u:=he;rw[List.flatMap_cons,jS,Nat.zero_mul,Nat.zero_add,List.set_append,if_pos (by rw[henc];exact hj),List.set_cons_zero,List.flatMap_cons,he',jS]
 | x::xs,junk,i+1,j,h,y,u,hj,he=>by
  have e:(i+1)*k+j=k+(i*k+j):=by rw[Nat.add_mul,Nat.one_mul];omega
  rw[List.flatMap_cons,jS,e,List.set_append,if_neg (by rw[henc];omega),henc,Nat.add_sub_cancel_left,List.set_cons_succ,List.flatMap_cons,jS,
   Gk7 henc xs junk i j (by simpa using h) y u hj he]
end
section
variable{P:Program}{ops:Array Oper}{Q:Exit->Act->World->Prop}{a:Act}{w:World}{W:World}{L R:List HP}{rest:List Oper}{o:Oper}
theorem Bj7{t e n:TypeId}{z:Value}{k bytes:Nat}{xs:Array (Nat×Operand)}{parts:List (Nat×Value)}{l:List Value}(hS:St W L w)(ho:o.op=.buildSlice t n xs)(hg:Region.wanted o (yielded ops a.tmps)=true)(hx:(xs.map fun(i,x)=>(i,a.eval x))=parts.toArray)
  (ht:t7 P t=some e) (hi:B8 P e=some (some z,k,bytes)) (hz:z.cells.size=k) (hn:decide (n*k<=16777216)=true) (hp:ak4 k n parts=true) (hl:aH4 k (N5 z n) parts=l) (hll:l.length=n*k) (hn63:n<=maxLen)
  (h:∀v w',St W (row v k e n l::L) w'->wpList P ops Q rest (a.put o.dst v) w'):wpList P ops Q (o::rest) a w:=by
 obtain⟨b,w',hr,hS'⟩:=Ft7 (P:=P) hS ho hx ht hi hz hn hp hl;refine Ar7 hg hr (h _ w' ?_);have h3:St W (blk b (l++[]) e::L) w':=by rw[List.append_nil];exact hS'
 exact St.rowShut h3 (Nat.le_refl _) hn63 (by rw[List.append_nil];exact hll) hll
end
end Go.Sl
end
section
namespace Go.Sl
open Go.RowKit Go.Proofs Go.Proofs.YtienbkdjkjbelaaGreat
theorem frS{p p':Prop}(h:p')(e:p=p':=by(simp only[Act.put,fA,fB,fC,Nat.reduceAdd];rfl)):p:=e▸h
theorem i7{L L':List HP}{X:HP}(h:Take L X L':=by(focus((repeat(first|exact .head|apply Take.tail));done))):Take L X L':=h
theorem ax4{L L':List HP}{X:HP}(h:Take L X L':=by with_reducible (focus((repeat(first|exact .head|apply Take.tail));done))):Take L X L':=h
theorem cy4{L L':List HP}{X Y:HP}(h:Upd L X Y L':=by(focus((repeat(first|exact Upd.head|apply Upd.tail));done))):Upd L X Y L':=h
theorem bC4{L:List HP}{X:HP}(h:Mem X L:=by with_reducible (focus((repeat(first|exact Mem.head|apply Mem.tail));done))):Mem X L:=h
theorem aa4{L:List HP}{b off:Nat}{v:Value}(h:i6 L b off v:=by first|(focus((repeat(first|exact i6.here rfl|apply i6.there));done))|assumption):i6 L b off v:=h
theorem m8{L:List HP}{b off:Nat}{vs:List Value}(h:d8 L b off vs:=by first|(focus((repeat(first|exact d8.whole|apply d8.there));done))|assumption):d8 L b off vs:=h
theorem fl4{L:List HP}{b off:Nat}{v:Value}(h:i6 L b off v:=by first|exact i6.here rfl|exact i6.there (i6.here rfl)|exact i6.there (i6.there (i6.here rfl))|exact i6.there (i6.there (i6.there (i6.here rfl)))|exact i6.there (i6.there (i6.there (i6.there (i6.here rfl))))|exact i6.there (i6.there (i6.there (i6.there (i6.there (i6.here rfl)))))|exact i6.there (i6.there (i6.there (i6.there (i6.there (i6.there (i6.here rfl))))))|assumption):i6 L b off v:=h
theorem fm4{L:List HP}{b off:Nat}{vs:List Value}(h:d8 L b off vs:=by first|exact d8.whole|exact d8.there d8.whole|exact d8.there (d8.there d8.whole)|exact d8.there (d8.there (d8.there d8.whole))|exact d8.there (d8.there (d8.there (d8.there d8.whole)))|exact d8.there (d8.there (d8.there (d8.there (d8.there d8.whole))))|exact d8.there (d8.there (d8.there (d8.there (d8.there (d8.there d8.whole)))))|assumption):d8 L b off vs:=h
theorem w8{L L':List HP}{X:HP}(h:Take L X L':=by first|exact Take.head|exact Take.tail Take.head|exact Take.tail (Take.tail Take.head)|exact Take.tail (Take.tail (Take.tail Take.head))|exact Take.tail (Take.tail (Take.tail (Take.tail Take.head)))|exact Take.tail (Take.tail (Take.tail (Take.tail (Take.tail Take.head))))|exact Take.tail (Take.tail (Take.tail (Take.tail (Take.tail (Take.tail Take.head)))))):Take L X L':=h
theorem fn4{L L':List HP}(h:Sel L L':=by(repeat' (first|(with_reducible first|exact Sel.done Suf.refl|exact Sel.done (Suf.tail Suf.refl)|exact Sel.done (Suf.tail (Suf.tail Suf.refl))|exact Sel.done (Suf.tail (Suf.tail (Suf.tail Suf.refl)))|(apply Sel.done;(focus((repeat(first|exact Suf.refl|apply Suf.tail));done))))|(refine Sel.cons (by exact ax4) ?_)))):Sel L L':=h
theorem St.s{W w:World}{L:List HP}(h:St W L w)(L':List HP)(s:Sel L L':=by exact fn4):St W L' w:=h.sel s
theorem esS{t e:TypeId}(h:t7 Tryz.prog t=some e:=by with_reducible first|exact Ty.e22|exact Ty.e23|exact Ty.e27|exact Ty.e40|exact Ty.e41|exact Ty.e48|exact Ty.e81|exact Ty.e82|exact Ty.e83|exact Ty.e84|exact Ty.e93|exact Ty.e166|exact Ty.e167|exact Ty.e225|exact Ty.e240|exact Ty.e251|exact Ty.e254):t7 Tryz.prog t=some e:=h
theorem rsS{e:TypeId}{r:Option Value×Nat×Nat}(h:B8 Tryz.prog e=some r:=by with_reducible first|exact Ty.r3|exact Ty.r5|exact Ty.r27|exact Ty.r31|exact Ty.r34|exact Ty.r36|exact Ty.r38|exact Ty.r76|exact Ty.r77|exact Ty.r97|exact Ty.r137|exact Ty.r141|exact Ty.r144|exact Ty.r171|exact Ty.r173|exact Ty.r230|exact Ty.r243|exact Ty.r253):B8 Tryz.prog e=some r:=h
theorem zsS{t:TypeId}{l:List Value}(h:m5 Tryz.prog t=some l:=by with_reducible first|exact Ty.z3|exact Ty.z29|exact Ty.z31|exact Ty.z34|exact Ty.z36|exact Ty.z38|exact Ty.z39|exact Ty.z76|exact Ty.z97|exact Ty.z121|exact Ty.z127|exact Ty.z152|exact Ty.z173|exact Ty.z230|exact Ty.z234|exact Ty.z235|exact Ty.z243):m5 Tryz.prog t=some l:=h
section
variable{ops:Array Oper}{Q:Exit->Act->World->Prop}{a a':Act}{w W:World}{L L' R:List HP}{rest:List Oper}{o:Oper}
theorem zl1{t:TypeId}{x:Operand}{b off:Nat}{v:Value}(hS:St W L w)(h:wpList Tryz.prog ops Q rest a' w)(ho:o.op=.load t x:=by with_reducible rfl)(hg:Region.wanted o (yielded ops a.tmps)=true:=by rfl)(hx:a.eval x=.pointer (some ⟨b,off,none⟩):=by rfl)
  (ht:I9 Tryz.prog t=some false:=by decide +kernel) (hc:i6 L b off v:=by exact aa4) (ha:a.put o.dst v=a':=by first|(simp only[Act.put,fA,fB,fC,Nat.reduceAdd];rfl)|rfl):wpList Tryz.prog ops Q (o::rest) a w:=
 Ob7 hS ho hg hx ht hc (by rw[ha];exact h)
theorem zlN{t:TypeId}{x:Operand}{b off:Nat}{vs:List Value}(hS:St W L w)(h:wpList Tryz.prog ops Q rest a' w)(ho:o.op=.load t x:=by with_reducible rfl)(hg:Region.wanted o (yielded ops a.tmps)=true:=by rfl)(hx:a.eval x=.pointer (some ⟨b,off,none⟩):=by rfl)
  (ht:I9 Tryz.prog t=some true:=by decide +kernel) (hc:d8 L b off vs:=by exact m8) (hn:E6 Tryz.prog t=some vs.length:=by kernel_rfl) (ha:a.put o.dst (.agg vs.toArray)=a':=by first|(simp only[Act.put,fA,fB,fC,Nat.reduceAdd];rfl)|rfl):wpList Tryz.prog ops Q (o::rest) a w:=
 Oc7 hS ho hg hx ht hc hn (by rw[ha];exact h)
theorem zs1{t:TypeId}{x y:Operand}{b off:Nat}{l l':List Value}{T:TypeId}{v:Value}(hS:St W L w)(h:∀w',St W L' w'->wpList Tryz.prog ops Q rest a' w')(ho:o.op=.store t x y:=by with_reducible rfl)(hg:Region.wanted o (yielded ops a.tmps)=true:=by rfl)(hx:a.eval x=.pointer (some ⟨b,off,none⟩):=by rfl)
  (hy:a.eval y=v:=by focus((conv=>lhs;whnf);try rfl)) (hn:E6 Tryz.prog t=some 1:=by kernel_rfl) (hv:v.cells.toList=[v]:=by rfl) (h1:v.oneCell'=true:=by rfl) (hu:Upd L (blk b l T) (blk b l' T) L':=by exact cy4) (hl:off<l.length:=by(simp only[jC,List.length_nil];omega)) (he:l.set off v=l':=by((simp only[List.set_cons_zero,List.set_cons_succ,C8]);rfl))
  (ha:a.put o.dst undef=a':=by first|(simp only[Act.put,fA,fB,fC,Nat.reduceAdd];rfl)|rfl):wpList Tryz.prog ops Q (o::rest) a w:=
 EX7 hS ho hg hx hy hn hv h1 hu hl he (by rw[ha];exact h)
theorem zsN{t:TypeId}{x y:Operand}{b off:Nat}{l l' vs:List Value}{T:TypeId}(hS:St W L w)(h:∀w',St W L' w'->wpList Tryz.prog ops Q rest a' w')(ho:o.op=.store t x y:=by with_reducible rfl)(hg:Region.wanted o (yielded ops a.tmps)=true:=by rfl)(hx:a.eval x=.pointer (some ⟨b,off,none⟩):=by rfl)
  (hy:a.eval y=.agg vs.toArray:=by focus((conv=>lhs;whnf);try rfl)) (hn:E6 Tryz.prog t=some vs.length:=by kernel_rfl) (h1:vs.all (·.oneCell')=true:=by rfl) (hu:Upd L (blk b l T) (blk b l' T) L':=by exact cy4) (hl:off+vs.length<=l.length:=by(simp only[jC,List.length_nil];omega)) (he:C8 l off vs=l':=by((simp only[List.set_cons_zero,List.set_cons_succ,C8]);rfl))
  (ha:a.put o.dst undef=a':=by first|(simp only[Act.put,fA,fB,fC,Nat.reduceAdd];rfl)|rfl):wpList Tryz.prog ops Q (o::rest) a w:=
 Od7 hS ho hg hx hy hn h1 hu hl he (by rw[ha];exact h)
theorem zbx{t:TypeId}{x:Operand}{v:Value}{l:List Value}{a':Nat->Act}(hS:St W L w)(h:∀b w',St W (blk b l t::L) w'->wpList Tryz.prog ops Q rest (a' b) w')(ho:o.op=.box t x:=by with_reducible rfl)(hg:Region.wanted o (yielded ops a.tmps)=true:=by rfl)(hx:a.eval x=v:=by rfl)(hv:v.cells=l.toArray:=by rfl)
  (ha:∀b,a.put o.dst (.P b)=a' b:=by(intro b;first|(simp only[Act.put,fA,fB,fC,Nat.reduceAdd];rfl)|rfl)):wpList Tryz.prog ops Q (o::rest) a w:=
 Au7 hS ho hg hx hv fun b w' h1=>by rw[ha];exact h b w' h1
theorem zal{t:TypeId}{l:List Value}{a':Nat->Act}(hS:St W L w)(h:∀b w',St W (blk b l t::L) w'->wpList Tryz.prog ops Q rest (a' b) w')(ho:o.op=.alloc t:=by with_reducible rfl)(hg:Region.wanted o (yielded ops a.tmps)=true:=by rfl)(hz:m5 Tryz.prog t=some l:=by exact zsS)
  (ha:∀b,a.put o.dst (.P b)=a' b:=by(intro b;first|(simp only[Act.put,fA,fB,fC,Nat.reduceAdd];rfl)|rfl)):wpList Tryz.prog ops Q (o::rest) a w:=
 Ap7 hS ho hg hz fun b w' h1=>by rw[ha];exact h b w' h1
theorem zbs{t e n:TypeId}{z:Value}{k bytes:Nat}{xs:Array (Nat×Operand)}{parts:List (Nat×Value)}{l:List Value}{a':Nat->Act}(hS:St W L w)(h:∀b w',St W (blk b l e::L) w'->wpList Tryz.prog ops Q rest (a' b) w')(ho:o.op=.buildSlice t n xs:=by with_reducible rfl)(hg:Region.wanted o (yielded ops a.tmps)=true:=by rfl)
  (hx:(xs.map fun(i,x)=>(i,a.eval x))=parts.toArray:=by(simp only[fD,fI,fJ,Act.eval,fE,fF,fG,fH,fK];try rfl)) (ht:t7 Tryz.prog t=some e:=by exact esS) (hi:B8 Tryz.prog e=some (some z,k,bytes):=by exact rsS) (hz:z.cells.size=k:=by rfl) (hn:decide (n*k<=16777216)=true:=by rfl) (hp:ak4 k n parts=true:=by rfl) (hl:aH4 k (N5 z n) parts=l:=by rfl)
  (ha:∀b,a.put o.dst (.S b n n)=a' b:=by(intro b;first|(simp only[Act.put,fA,fB,fC,Nat.reduceAdd];rfl)|rfl)):wpList Tryz.prog ops Q (o::rest) a w:=
 el4 hS ho hg hx ht hi hz hn hp hl fun b w' h1=>by rw[ha];exact h b w' h1
theorem zap{s x:Operand}{t e:TypeId}{z:Value}{k bytes:Nat}{v xv:Value}{n m:Nat}{cs news:List Value}{a':Value->Act}(hS:St W L w)(h:∀v' w',St W (row v' k e (n+m) (cs++news)::R) w'->wpList Tryz.prog ops Q rest (a' v') w')(ho:o.op=.call { callee:=.builtin .append,args:=#[s,x],argTypes:=#[t,t] }:=by with_reducible rfl)
  (hg:Region.wanted o (yielded ops a.tmps)=true:=by rfl) (hs:a.eval s=v:=by rfl) (hx:a.eval x=xv:=by rfl) (ht:t7 Tryz.prog t=some e:=by exact esS) (hi:B8 Tryz.prog e=some (some z,k,bytes):=by exact rsS) (hz:z.cells.size=k:=by rfl) (hk:0<k:=by decide) (hu:Take L (row v k e n cs) R:=by exact i7)
  (hsrc:Src L xv m news:=by exact Src.mk d8.whole) (hl:news.length=m*k:=by(try rfl)) (h1:news.all (·.oneCell')=true:=by rfl) (h63:n+m<=maxLen) (hb:(n+m)*bytes<=140737488355328)
  (ha:∀v,a.put o.dst v=a' v:=by(intro v;first|(simp only[Act.put,fA,fB,fC,Nat.reduceAdd];rfl)|rfl)):wpList Tryz.prog ops Q (o::rest) a w:=
 Ae7 hS ho hg hs hx ht hi hz hk hu hsrc hl h1 h63 hb fun v w' h2=>by rw[ha];exact h v w' h2
end
section
variable{ops:Array Oper}{Q:Act->Prop}{a a':Act}{W:World}{L:List HP}{rest:List Oper}{o:Oper}
theorem zq1{t:TypeId}{x:Operand}{b off:Nat}{v:Value}(h:wpQuiet Tryz.prog ops (St W L) Q rest a')(ho:o.op=.load t x:=by with_reducible rfl)(hg:Region.wanted o (yielded ops a.tmps)=true:=by rfl)(hx:a.eval x=.pointer (some ⟨b,off,none⟩):=by rfl)(ht:I9 Tryz.prog t=some false:=by decide +kernel)(hc:i6 L b off v:=by exact aa4)
  (ha:a.put o.dst v=a':=by first|(simp only[Act.put,fA,fB,fC,Nat.reduceAdd];rfl)|rfl):wpQuiet Tryz.prog ops (St W L) Q (o::rest) a:=
 An7 ho hg hx ht hc (by rw[ha];exact h)
theorem zqN{t:TypeId}{x:Operand}{b off:Nat}{vs:List Value}(h:wpQuiet Tryz.prog ops (St W L) Q rest a')(ho:o.op=.load t x:=by with_reducible rfl)(hg:Region.wanted o (yielded ops a.tmps)=true:=by rfl)(hx:a.eval x=.pointer (some ⟨b,off,none⟩):=by rfl)(ht:I9 Tryz.prog t=some true:=by decide +kernel)(hc:d8 L b off vs:=by exact m8)
  (hn:E6 Tryz.prog t=some vs.length:=by kernel_rfl) (ha:a.put o.dst (.agg vs.toArray)=a':=by first|(simp only[Act.put,fA,fB,fC,Nat.reduceAdd];rfl)|rfl):wpQuiet Tryz.prog ops (St W L) Q (o::rest) a:=
 Oe7 ho hg hx ht hc hn (by rw[ha];exact h)
theorem zqn{x:Operand}{p:Addr}(h:wpQuiet Tryz.prog ops (St W L) Q rest a')(ho:o.op=.nilCheck x:=by with_reducible rfl)(hg:Region.wanted o (yielded ops a.tmps)=true:=by rfl)(hx:a.eval x=.pointer (some p):=by rfl)(ha:a.put o.dst (.pointer (some p))=a':=by first|(simp only[Act.put,fA,fB,fC,Nat.reduceAdd];rfl)|rfl):wpQuiet Tryz.prog ops (St W L) Q (o::rest) a:=
 Of7 ho hg hx (by rw[ha];exact h)
end
section
variable{W:World}{ops:Array Oper}{t:List Nat}{toks:List Tok}{fresh:Nat->Bool}{pin:Nat->Option Value}{Qf:Act->Prop}{nd:Nat->Value}{i:Nat}{o:Oper}{l:List Oper}{a a':Act}
theorem zcn{x:Operand}{p:Addr}(h:k8 Tryz.prog W ops t toks fresh pin Qf nd (i+1) l a')(hf:fresh i=false:=by rfl)(hn:ah4 toks i=true:=by kernel_rfl)(ho:o.op=.nilCheck x:=by with_reducible rfl)(hg:Region.wanted o (yielded ops a.tmps)=true:=by rfl)(hx:a.eval x=.pointer (some p):=by rfl)
  (ha:a.put o.dst (.pointer (some p))=a':=by first|(simp only[Act.put,fA,fB,fC,Nat.reduceAdd];rfl)|rfl):k8 Tryz.prog W ops t toks fresh pin Qf nd i (o::l) a:=
 Og7 hf hn ho hg hx (by rw[ha];exact h)
theorem zc1{ty:TypeId}{x:Operand}{b off:Nat}{v:Value}(h:k8 Tryz.prog W ops t toks fresh pin Qf nd (i+1) l a')(hf:fresh i=false:=by rfl)(hn:ah4 toks i=true:=by kernel_rfl)(ho:o.op=.load ty x:=by with_reducible rfl)(hg:Region.wanted o (yielded ops a.tmps)=true:=by rfl)(hx:a.eval x=.pointer (some ⟨b,off,none⟩):=by rfl)
  (ht:I9 Tryz.prog ty=some false:=by decide +kernel) (hc:∀F,i6 (kpL toks t i nd++F) b off v:=by(intro F;exact fl4)) (ha:a.put o.dst v=a':=by first|(simp only[Act.put,fA,fB,fC,Nat.reduceAdd];rfl)|rfl):k8 Tryz.prog W ops t toks fresh pin Qf nd i (o::l) a:=
 MN7 hf hn ho hg hx ht hc (by rw[ha];exact h)
theorem zcN{ty:TypeId}{x:Operand}{b off:Nat}{vs:List Value}(h:k8 Tryz.prog W ops t toks fresh pin Qf nd (i+1) l a')(hf:fresh i=false:=by rfl)(hn:ah4 toks i=true:=by kernel_rfl)(ho:o.op=.load ty x:=by with_reducible rfl)(hg:Region.wanted o (yielded ops a.tmps)=true:=by rfl)(hx:a.eval x=.pointer (some ⟨b,off,none⟩):=by rfl)
  (ht:I9 Tryz.prog ty=some true:=by decide +kernel) (hc:∀F,d8 (kpL toks t i nd++F) b off vs:=by(intro F;exact fm4)) (hz:E6 Tryz.prog ty=some vs.length:=by kernel_rfl) (ha:a.put o.dst (.agg vs.toArray)=a':=by first|(simp only[Act.put,fA,fB,fC,Nat.reduceAdd];rfl)|rfl):k8 Tryz.prog W ops t toks fresh pin Qf nd i (o::l) a:=
 Jw7 hf hn ho hg hx ht hc hz (by rw[ha];exact h)
theorem zca{ty:TypeId}{z:List Value}(h:k8 Tryz.prog W ops t toks fresh pin Qf nd (i+1) l a')(hf:fresh i=true:=by rfl)(ho:o.op=.alloc ty:=by with_reducible rfl)(hg:Region.wanted o (yielded ops a.tmps)=true:=by rfl)(hk:∀v,kpL toks t i (upd nd i v)=kpL toks t i nd:=by(intro _;rfl))(hz:m5 Tryz.prog ty=some z:=by exact zsS)(hc:cnL toks t i nd=[]:=by rfl)
  (hm:∀v,mdL toks i (upd nd i v)=[i8 v z ty]:=by(intro _;rfl)) (ha:a.put o.dst (nd i)=a':=by first|(simp only[Act.put,fA,fB,fC,Nat.reduceAdd];rfl)|rfl):k8 Tryz.prog W ops t toks fresh pin Qf nd i (o::l) a:=
 Lt7 hf ho hg hk hz hc hm (by rw[ha];exact h)
theorem zct{ty:TypeId}{x y:Operand}{pv v:Value}{z z' vs:List Value}{T:TypeId}(h:k8 Tryz.prog W ops t toks fresh pin Qf nd (i+1) l a')(hf:fresh i=false:=by rfl)(ho:o.op=.store ty x y:=by with_reducible rfl)(hg:Region.wanted o (yielded ops a.tmps)=true:=by rfl)(hx:a.eval x=pv:=by focus((conv=>lhs;whnf);try rfl))(hy:a.eval y=v:=by focus((conv=>lhs;whnf);try rfl))(hv:v.cells.toList=vs:=by focus((conv=>lhs;whnf);try rfl))
  (hn:E6 Tryz.prog ty=some vs.length:=by kernel_rfl) (h1:vs.all (·.oneCell')=true:=by rfl) (hc:cnL toks t i nd=[i8 pv z T]:=by rfl) (hl:0+vs.length<=z.length:=by(simp only[jC,List.length_nil];omega)) (he:C8 z 0 vs=z':=by rfl) (hm:mdL toks i nd=[i8 pv z' T]:=by rfl)
  (ha:a.put o.dst undef=a':=by first|(simp only[Act.put,fA,fB,fC,Nat.reduceAdd];rfl)|rfl):k8 Tryz.prog W ops t toks fresh pin Qf nd i (o::l) a:=
 Nh7 hf ho hg hx hy hv hn h1 hc hl he hm (by rw[ha];exact h)
theorem zcs{ty:TypeId}{x y:Operand}{v:Value}{b off:Nat}{z z' vs:List Value}{T:TypeId}(h:k8 Tryz.prog W ops t toks fresh pin Qf nd (i+1) l a')(hf:fresh i=false:=by rfl)(ho:o.op=.store ty x y:=by with_reducible rfl)(hg:Region.wanted o (yielded ops a.tmps)=true:=by rfl)(hx:a.eval x=.pointer (some ⟨b,off,none⟩):=by rfl)(hy:a.eval y=v:=by focus((conv=>lhs;whnf);try rfl))(hv:v.cells.toList=vs:=by focus((conv=>lhs;whnf);try rfl))
  (hn:E6 Tryz.prog ty=some vs.length:=by kernel_rfl) (h1:vs.all (·.oneCell')=true:=by rfl) (hc:cnL toks t i nd=[blk b z T]:=by rfl) (hl:off+vs.length<=z.length:=by(simp only[jC,List.length_nil];omega)) (he:C8 z off vs=z':=by rfl) (hm:mdL toks i nd=[blk b z' T]:=by rfl)
  (ha:a.put o.dst undef=a':=by first|(simp only[Act.put,fA,fB,fC,Nat.reduceAdd];rfl)|rfl):k8 Tryz.prog W ops t toks fresh pin Qf nd i (o::l) a:=
 cn4 hf ho hg hx hy hv hn h1 hc hl he hm (by rw[ha];exact h)
theorem zcv{f:FuncId}{xs:Array Operand}{ats:Array TypeId}{args:Array Value}{v:Value}(h:k8 Tryz.prog W ops t toks fresh pin Qf nd (i+1) l a')(hf:fresh i=false:=by rfl)(hp:pin i=some v:=by rfl)(hg:Region.wanted o (yielded ops a.tmps)=true:=by rfl)
  (ho:o.op=.call { callee:=.value (.func f),args:=xs,argTypes:=ats }:=by with_reducible rfl) (hb:M5 Tryz.prog f=true:=by decide +kernel) (hx:xs.map a.eval=args:=by(simp only[fD,fI,fJ,Act.eval,fE,fF,fG,fH,fK];try rfl))
  (hs:∀F w,St W (cnL toks t i nd++(kpL toks t i nd++F)) w->Calls Tryz.prog f args w fun e w'=>e=.returned v/\St W (mdL toks i nd++(kpL toks t i nd++F)) w')
  (ha:a.put o.dst v=a':=by first|(simp only[Act.put,fA,fB,fC,Nat.reduceAdd];rfl)|rfl):k8 Tryz.prog W ops t toks fresh pin Qf nd i (o::l) a:=
 Lu7 hf hp hg ho hb hx hs (by rw[ha];exact h)
end
end Go.Sl
end
