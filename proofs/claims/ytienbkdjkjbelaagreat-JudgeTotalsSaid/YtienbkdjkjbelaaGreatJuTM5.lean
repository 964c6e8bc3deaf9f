/-
  A row that is only read.
-/
import Derived.Test.YtienbkdjkjbelaaGreatJuTM3
import Derived.Test.YtienbkdjkjbelaaGreatJuTM4
set_option maxHeartbeats 16000000
set_option maxRecDepth 100000
set_option linter.unusedSimpArgs false
set_option linter.unusedVariables false
section
namespace Go.Sl
open Go.RowKit
section
variable{W w:World}{L:List HP}{a:Option Addr}{v:Value}{k n c g off:Nat}{T:TypeId}{cs:List Value}
theorem St.rowAddr(h:St W (row (.slice a n c) k T n cs::L) w)(hn:0<n):(∃g,a=some ⟨g,0,none⟩)/\c<=9223372036854775807/\n<=c:=by
 rcases h.rowOpen with ⟨_,h0,_⟩|⟨g,cap,junk,hv,hn1,hm1,_⟩
 ·omega
 ·injection hv with e1 e2 e3
  subst e3;exact⟨⟨g,e1⟩,hm1,hn1⟩
theorem i6.row(hn:0<n)(h:cs[off]? = some v):i6 (Sl.row (.S g n c) k T n cs::L) g off v:=fun W w hS=>by
 rcases hS.rowOpen with ⟨_,h0,_⟩|⟨g',cap,junk,hv,hn1,hm1,hj1,hl1,hS'⟩
 ·omega
 ·injection hv with e1 e2 e3
  injection e1 with e1
  injection e1 with e1
  subst e1;exact hS'.cell .head (by rw[List.getElem?_append_left (List.getElem?_eq_some_iff.1 h).1];exact h)
theorem d8.rowE{α:Type}{enc:α->List Value}(henc:∀x,(enc x).length=k){xs:List α}{i:Nat}(h:i<xs.length):d8 (Sl.row (.S g xs.length c) k T xs.length (xs.flatMap enc)::L) g (i*k) (enc xs[i]):=fun j v hj=>by refine i6.row (by omega) ?_;have hl:j<(enc xs[i]).length:=(List.getElem?_eq_some_iff.1 hj).1;have:=AS7 henc xs [] i h j (by rwa [henc]at hl);rw[List.append_nil]at this;rw[this];exact hj
theorem i6.rowE{α:Type}{enc:α->List Value}(henc:∀x,(enc x).length=k){xs:List α}{i j:Nat}(h:i<xs.length)(hv:(enc xs[i])[j]? = some v):i6 (Sl.row (.S g xs.length c) k T xs.length (xs.flatMap enc)::L) g (i*k+j) v:=
 d8.rowE henc h j v hv
end
section
variable{P:Program}{W:World}{ops:Array Oper}{t:List Nat}{toks:List Tok}{fresh:Nat->Bool}{pin:Nat->Option Value}{Qf:Act->Prop}{nd:Nat->Value}{i:Nat}{o:Oper}{l:List Oper}{a:Act}
theorem Bn7{ty e n:TypeId}{z:Value}{k bytes:Nat}{xs:Array (Nat×Operand)}{parts:List (Nat×Value)}{ls:List Value}(hf:fresh i=true)(ho:o.op=.buildSlice ty n xs)(hg:Region.wanted o (yielded ops a.tmps)=true)(hx:(xs.map fun(i,x)=>(i,a.eval x))=parts.toArray)
  (ht:s5 P ty=some e) (hi:A8 P e=some (some z,k,bytes)) (hz:z.cells.size=k) (hn:decide (n*k<=16777216)=true) (hp:ar4 k n parts=true) (hl:aX4 k (O9 z n) parts=ls) (hll:ls.length=n*k) (hn63:n<=maxLen) (hk:∀v,kpL toks t i (upd nd i v)=kpL toks t i nd) (hc:cnL toks t i nd=[])
  (hm:∀v,mdL toks i (upd nd i v)=[row v k e n ls]) (h:l7 P W ops t toks fresh pin Qf nd (i+1) l (a.put o.dst (nd i))):l7 P W ops t toks fresh pin Qf nd i (o::l) a:=
 Jm7 hf hg hk (fun F w hS=>by
  rw[hc]at hS;obtain⟨b,w',h1,h2⟩:=EW7 (P:=P) hS ho hx ht hi hz hn hp hl;refine⟨_,w',h1,?_⟩;rw[hm];have h3:St W (blk b (ls++[]) e::(kpL toks t i nd++F)) w':=by rw[List.append_nil];exact h2
  exact St.rowShut h3 (Nat.le_refl _) hn63 (by rw[List.append_nil];exact hll) hll) h
end
theorem Gm7{W w:World}{L R:List HP}{g n c k m c' off:Nat}{T:TypeId}{cs news:List Value}(hS:St W L w)(hu:Take L (Sl.row (.S g n c) k T n cs) R)(h:∀j u,news[j]? = some u->cs[off+j]? = some u):
  cG4 w (.slice (some ⟨g,off,none⟩) m c') m news:=by
 refine .inr ⟨g,off,c',rfl,fun j u hj=>?_⟩;have h1:=h j u hj;rcases(hS.take hu).rowOpen with ⟨hv,_⟩|⟨g',cap,junk,hv,_,_,_,_,hS'⟩
 ·cases hv
 ·injection hv with e1 e2 e3
  injection e1 with e1
  injection e1 with e1
  subst e1;exact hS'.cell .head (by rw[List.getElem?_append_left (List.getElem?_eq_some_iff.1 h1).1];exact h1)
end Go.Sl
end
section
namespace Go.Sl
open Go.RowKit
inductive Suf:List HP->List HP->Prop
 | refl {L:List HP}:Suf L L
 | tail {X:HP} {L L':List HP} (h:Suf L L'):Suf (X::L) L'
inductive Sel:List HP->List HP->Prop
 | done {L L':List HP} (h:Suf L L'):Sel L L'
 | cons {A:HP} {L L1 L':List HP} (t:Take L A L1) (s:Sel L1 L'):Sel L (A::L')
theorem NE7{L L':List HP}(s:Suf L L'):∀{h:O8},sats L h->sats L' h:=by
 induction s with
 | refl=>exact fun h=>h
 | tail _ ih=>exact fun⟨S,_,h2⟩=>ih (BK7 h2)
theorem Sel.sats{L L':List HP}(s:Sel L L'):∀{h:O8},Sl.sats L h->Sl.sats L' h:=by
 induction s with
 | done h=>exact NE7 h
 | cons t _ ih=>exact fun h=>AL7 (fun _ x=>x) (fun _ x=>ih x) (t.sats h)
theorem St.sel{W w:World}{L L':List HP}(h:St W L w)(s:Sel L L'):St W L' w:=⟨h.os,h.tape,h.output,s.sats h.sat⟩
end Go.Sl
end
section
namespace Go.Sl
open Go.RowKit
section
variable{W w:World}{L:List HP}{a:Option Addr}{v:Value}{k n c g off:Nat}{T:TypeId}{cs news:List Value}
theorem St.rowCase(h:St W (row (.slice a n c) k T n cs::L) w):(a=none/\n=0/\c=0/\cs=[])\/∃g,a=some ⟨g,0,none⟩/\c<=9223372036854775807/\n<=c:=by
 rcases h.rowOpen with ⟨hv,h0,hc,_⟩|⟨g,cap,junk,hv,hn1,hm1,_⟩
 ·injection hv with e1 e2 e3
  exact .inl ⟨e1,h0,e3,hc⟩
 ·injection hv with e1 e2 e3
  subst e3;exact .inr ⟨g,e1,hm1,hn1⟩
theorem i6.rowS(h:cs[off]? = some v):i6 (Sl.row (.S g n c) k T n cs::L) g off v:=fun W w hS=>by
 rcases hS.rowOpen with ⟨hv,_⟩|⟨g',cap,junk,hv,hn1,hm1,hj1,hl1,hS'⟩
 ·cases hv
 ·injection hv with e1 e2 e3
  injection e1 with e1
  injection e1 with e1
  subst e1;exact hS'.cell .head (by rw[List.getElem?_append_left (List.getElem?_eq_some_iff.1 h).1];exact h)
theorem i6.rowM{L':List HP}(hu:Take L (Sl.row (.S g n c) k T n cs) L')(h:cs[off]? = some v):i6 L g off v:=fun W w hS=>i6.rowS h W w (hS.take hu)
theorem d8.rowM{L':List HP}(hu:Take L (Sl.row (.S g n c) k T n cs) L')(h:∀j u,news[j]? = some u->cs[off+j]? = some u):d8 L g off news:=fun j v hj=>i6.rowM hu (h j v hj)
theorem d8.elemM{α:Type}{enc:α->List Value}(henc:∀x,(enc x).length=k){xs:List α}{i:Nat}{L':List HP}(hu:Take L (Sl.row (.S g xs.length c) k T xs.length (xs.flatMap enc)) L')(h:i<xs.length):d8 L g (i*k) (enc xs[i]):=
 d8.rowM hu fun j u hj=>by have hl:j<(enc xs[i]).length:=(List.getElem?_eq_some_iff.1 hj).1;have:=AS7 henc xs [] i h j (by rwa [henc]at hl);rw[List.append_nil]at this;rw[this];exact hj
theorem Src.partM{L':List HP}{m c':Nat}(hu:Take L (Sl.row (.S g n c) k T n cs) L')(h:∀j u,news[j]? = some u->cs[off+j]? = some u):Src L (.slice (some ⟨g,off,none⟩) m c') m news:=.inr ⟨g,off,c',rfl,d8.rowM hu h⟩
theorem Src.behindM{L':List HP}{m c' i:Nat}(hu:Take L (Sl.row (.S g n c) k T n cs) L')(h0:c=i->m=0/\news=[])(h:∀j u,news[j]? = some u->cs[i*k+j]? = some u):
  Src L (.slice (if c=i then some ⟨g,0,none⟩else some ⟨g,i*k,none⟩) m c') m news:=by
 split
 ·rename_i hc
  obtain⟨rfl,rfl⟩:=h0 hc;exact .inr ⟨g,0,c',rfl,fun j u hj=>by simp at hj⟩
 ·exact .inr ⟨g,i*k,c',rfl,d8.rowM hu h⟩
theorem C5{α:Type}{enc:α->List Value}(xs:List α)(i j:Nat)(u:Value)(h:((xs.take i).flatMap enc)[j]? = some u):(xs.flatMap enc)[0+j]? = some u:=by
 rw[Nat.zero_add];have e:xs.flatMap enc=(xs.take i).flatMap enc++(xs.drop i).flatMap enc:=by rw[<-List.flatMap_append,List.take_append_drop]
 rw[e,List.getElem?_append_left (List.getElem?_eq_some_iff.1 h).1];exact h
theorem D9{α:Type}{enc:α->List Value}(henc:∀x,(enc x).length=k)(xs:List α)(i j:Nat)(u:Value)(hi:i<=xs.length)(h:((xs.drop i).flatMap enc)[j]? = some u):(xs.flatMap enc)[i*k+j]? = some u:=by
 have e:xs.flatMap enc=(xs.take i).flatMap enc++(xs.drop i).flatMap enc:=by rw[<-List.flatMap_append,List.take_append_drop]
 have hl:((xs.take i).flatMap enc).length=i*k:=by rw[Ab7 henc,jT,Nat.min_eq_left hi]
 rw[e,List.getElem?_append_right (by omega),hl,Nat.add_sub_cancel_left];exact h
end
section
variable{P:Program}{ops:Array Oper}{Q:Exit->Act->World->Prop}{a:Act}{w:World}{W:World}{L R:List HP}{rest:List Oper}{o:Oper}
theorem Be7{t e n:TypeId}{z:Value}{k bytes:Nat}{xs:Array (Nat×Operand)}{parts:List (Nat×Value)}{l:List Value}(hS:St W L w)(ho:o.op=.buildSlice t n xs)(hg:Region.wanted o (yielded ops a.tmps)=true)(hx:(xs.map fun(i,x)=>(i,a.eval x))=parts.toArray)
  (ht:s5 P t=some e) (hi:A8 P e=some (some z,k,bytes)) (hz:z.cells.size=k) (hn:decide (n*k<=16777216)=true) (hp:ar4 k n parts=true) (hl:aX4 k (O9 z n) parts=l) (hll:l.length=n*k) (hn63:n<=maxLen)
  (h:∀v w',St W (row v k e n l::L) w'->wpList P ops Q rest (a.put o.dst v) w'):wpList P ops Q (o::rest) a w:=by
 obtain⟨b,w',hr,hS'⟩:=EW7 (P:=P) hS ho hx ht hi hz hn hp hl;refine Am7 hg hr (h _ w' ?_);have h3:St W (blk b (l++[]) e::L) w':=by rw[List.append_nil];exact hS'
 exact St.rowShut h3 (Nat.le_refl _) hn63 (by rw[List.append_nil];exact hll) hll
end
end Go.Sl
end
section
namespace Go.Sl
open Go.RowKit Go.Proofs Go.Proofs.YtienbkdjkjbelaaGreat
theorem frS{p p':Prop}(h:p')(e:p=p':=by(simp only[Act.put,fA,fB,fC,Nat.reduceAdd];rfl)):p:=e▸h
theorem i7{L L':List HP}{X:HP}(h:Take L X L':=by(focus((repeat(first|exact .head|apply Take.tail));done))):Take L X L':=h
theorem aY4{L L':List HP}{X:HP}(h:Take L X L':=by with_reducible (focus((repeat(first|exact .head|apply Take.tail));done))):Take L X L':=h
theorem cI4{L L':List HP}{X Y:HP}(h:Upd L X Y L':=by(focus((repeat(first|exact Upd.head|apply Upd.tail));done))):Upd L X Y L':=h
theorem aR4{L:List HP}{X:HP}(h:Mem X L:=by with_reducible (focus((repeat(first|exact Mem.head|apply Mem.tail));done))):Mem X L:=h
theorem N5{L:List HP}{b off:Nat}{v:Value}(h:i6 L b off v:=by first|(focus((repeat(first|exact i6.here rfl|apply i6.there));done))|assumption):i6 L b off v:=h
theorem r6{L:List HP}{b off:Nat}{vs:List Value}(h:d8 L b off vs:=by first|(focus((repeat(first|exact d8.whole|apply d8.there));done))|assumption):d8 L b off vs:=h
theorem gm4{L:List HP}{b off:Nat}{v:Value}(h:i6 L b off v:=by first|exact i6.here rfl|exact i6.there (i6.here rfl)|exact i6.there (i6.there (i6.here rfl))|exact i6.there (i6.there (i6.there (i6.here rfl)))|exact i6.there (i6.there (i6.there (i6.there (i6.here rfl))))|exact i6.there (i6.there (i6.there (i6.there (i6.there (i6.here rfl)))))|exact i6.there (i6.there (i6.there (i6.there (i6.there (i6.there (i6.here rfl))))))|assumption):i6 L b off v:=h
theorem gn4{L:List HP}{b off:Nat}{vs:List Value}(h:d8 L b off vs:=by first|exact d8.whole|exact d8.there d8.whole|exact d8.there (d8.there d8.whole)|exact d8.there (d8.there (d8.there d8.whole))|exact d8.there (d8.there (d8.there (d8.there d8.whole)))|exact d8.there (d8.there (d8.there (d8.there (d8.there d8.whole))))|exact d8.there (d8.there (d8.there (d8.there (d8.there (d8.there d8.whole)))))|assumption):d8 L b off vs:=h
theorem A6{L L':List HP}{X:HP}(h:Take L X L':=by first|exact Take.head|exact Take.tail Take.head|exact Take.tail (Take.tail Take.head)|exact Take.tail (Take.tail (Take.tail Take.head))|exact Take.tail (Take.tail (Take.tail (Take.tail Take.head)))|exact Take.tail (Take.tail (Take.tail (Take.tail (Take.tail Take.head))))|exact Take.tail (Take.tail (Take.tail (Take.tail (Take.tail (Take.tail Take.head)))))):Take L X L':=h
theorem go4{L L':List HP}(h:Sel L L':=by(repeat' (first|(with_reducible first|exact Sel.done Suf.refl|exact Sel.done (Suf.tail Suf.refl)|exact Sel.done (Suf.tail (Suf.tail Suf.refl))|exact Sel.done (Suf.tail (Suf.tail (Suf.tail Suf.refl)))|(apply Sel.done;(focus((repeat(first|exact Suf.refl|apply Suf.tail));done))))|(refine Sel.cons (by exact aY4) ?_)))):Sel L L':=h
theorem St.s{W w:World}{L:List HP}(h:St W L w)(L':List HP)(s:Sel L L':=by exact go4):St W L' w:=h.sel s
theorem esS{t e:TypeId}(h:s5 Tryz.prog t=some e:=by with_reducible first|exact Ty.e22|exact Ty.e23|exact Ty.e27|exact Ty.e40|exact Ty.e41|exact Ty.e48|exact Ty.e55|exact Ty.e59|exact Ty.e60|exact Ty.e81|exact Ty.e82|exact Ty.e83|exact Ty.e84|exact Ty.e93|exact Ty.e101|exact Ty.e124|exact Ty.e166|exact Ty.e167|exact Ty.e225|exact Ty.e240|exact Ty.e251|exact Ty.e254):s5 Tryz.prog t=some e:=h
theorem rsS{e:TypeId}{r:Option Value×Nat×Nat}(h:A8 Tryz.prog e=some r:=by with_reducible first|exact Ty.r3|exact Ty.r5|exact Ty.r9|exact Ty.r22|exact Ty.r27|exact Ty.r31|exact Ty.r34|exact Ty.r36|exact Ty.r38|exact Ty.r49|exact Ty.r66|exact Ty.r76|exact Ty.r77|exact Ty.r97|exact Ty.r127|exact Ty.r137|exact Ty.r141|exact Ty.r144|exact Ty.r171|exact Ty.r173|exact Ty.r230|exact Ty.r243|exact Ty.r253):A8 Tryz.prog e=some r:=h
theorem zsS{t:TypeId}{l:List Value}(h:m6 Tryz.prog t=some l:=by with_reducible first|exact Ty.z3|exact Ty.z29|exact Ty.z31|exact Ty.z34|exact Ty.z36|exact Ty.z38|exact Ty.z39|exact Ty.z76|exact Ty.z92|exact Ty.z97|exact Ty.z121|exact Ty.z127|exact Ty.z152|exact Ty.z171|exact Ty.z173|exact Ty.z230|exact Ty.z234|exact Ty.z235|exact Ty.z243):m6 Tryz.prog t=some l:=h
section
variable{ops:Array Oper}{Q:Exit->Act->World->Prop}{a a':Act}{w W:World}{L L' R:List HP}{rest:List Oper}{o:Oper}
theorem zl1{t:TypeId}{x:Operand}{b off:Nat}{v:Value}(hS:St W L w)(h:wpList Tryz.prog ops Q rest a' w)(ho:o.op=.load t x:=by with_reducible rfl)(hg:Region.wanted o (yielded ops a.tmps)=true:=by rfl)(hx:a.eval x=.pointer (some ⟨b,off,none⟩):=by rfl)
  (ht:K7 Tryz.prog t=some false:=by decide +kernel) (hc:i6 L b off v:=by exact N5) (ha:a.put o.dst v=a':=by first|(simp only[Act.put,fA,fB,fC,Nat.reduceAdd];rfl)|rfl):wpList Tryz.prog ops Q (o::rest) a w:=
 QR7 hS ho hg hx ht hc (by rw[ha];exact h)
theorem zlN{t:TypeId}{x:Operand}{b off:Nat}{vs:List Value}(hS:St W L w)(h:wpList Tryz.prog ops Q rest a' w)(ho:o.op=.load t x:=by with_reducible rfl)(hg:Region.wanted o (yielded ops a.tmps)=true:=by rfl)(hx:a.eval x=.pointer (some ⟨b,off,none⟩):=by rfl)
  (ht:K7 Tryz.prog t=some true:=by decide +kernel) (hc:d8 L b off vs:=by exact r6) (hn:E5 Tryz.prog t=some vs.length:=by kernel_rfl) (ha:a.put o.dst (.agg vs.toArray)=a':=by first|(simp only[Act.put,fA,fB,fC,Nat.reduceAdd];rfl)|rfl):wpList Tryz.prog ops Q (o::rest) a w:=
 QS7 hS ho hg hx ht hc hn (by rw[ha];exact h)
theorem zs1{t:TypeId}{x y:Operand}{b off:Nat}{l l':List Value}{T:TypeId}{v:Value}(hS:St W L w)(h:∀w',St W L' w'->wpList Tryz.prog ops Q rest a' w')(ho:o.op=.store t x y:=by with_reducible rfl)(hg:Region.wanted o (yielded ops a.tmps)=true:=by rfl)(hx:a.eval x=.pointer (some ⟨b,off,none⟩):=by rfl)
  (hy:a.eval y=v:=by focus((conv=>lhs;whnf);try rfl)) (hn:E5 Tryz.prog t=some 1:=by kernel_rfl) (hv:v.cells.toList=[v]:=by rfl) (h1:v.oneCell'=true:=by rfl) (hu:Upd L (blk b l T) (blk b l' T) L':=by exact cI4) (hl:off<l.length:=by(simp only[jC,List.length_nil];omega)) (he:l.set off v=l':=by((simp only[List.set_cons_zero,List.set_cons_succ,B9]);rfl))
  (ha:a.put o.dst undef=a':=by first|(simp only[Act.put,fA,fB,fC,Nat.reduceAdd];rfl)|rfl):wpList Tryz.prog ops Q (o::rest) a w:=
 GN7 hS ho hg hx hy hn hv h1 hu hl he (by rw[ha];exact h)
theorem zsN{t:TypeId}{x y:Operand}{b off:Nat}{l l' vs:List Value}{T:TypeId}(hS:St W L w)(h:∀w',St W L' w'->wpList Tryz.prog ops Q rest a' w')(ho:o.op=.store t x y:=by with_reducible rfl)(hg:Region.wanted o (yielded ops a.tmps)=true:=by rfl)(hx:a.eval x=.pointer (some ⟨b,off,none⟩):=by rfl)
  (hy:a.eval y=.agg vs.toArray:=by focus((conv=>lhs;whnf);try rfl)) (hn:E5 Tryz.prog t=some vs.length:=by kernel_rfl) (h1:vs.all (·.oneCell')=true:=by rfl) (hu:Upd L (blk b l T) (blk b l' T) L':=by exact cI4) (hl:off+vs.length<=l.length:=by(simp only[jC,List.length_nil];omega)) (he:B9 l off vs=l':=by((simp only[List.set_cons_zero,List.set_cons_succ,B9]);rfl))
  (ha:a.put o.dst undef=a':=by first|(simp only[Act.put,fA,fB,fC,Nat.reduceAdd];rfl)|rfl):wpList Tryz.prog ops Q (o::rest) a w:=
 QT7 hS ho hg hx hy hn h1 hu hl he (by rw[ha];exact h)
theorem zbx{t:TypeId}{x:Operand}{v:Value}{l:List Value}{a':Nat->Act}(hS:St W L w)(h:∀b w',St W (blk b l t::L) w'->wpList Tryz.prog ops Q rest (a' b) w')(ho:o.op=.box t x:=by with_reducible rfl)(hg:Region.wanted o (yielded ops a.tmps)=true:=by rfl)(hx:a.eval x=v:=by rfl)(hv:v.cells=l.toArray:=by rfl)
  (ha:∀b,a.put o.dst (.P b)=a' b:=by(intro b;first|(simp only[Act.put,fA,fB,fC,Nat.reduceAdd];rfl)|rfl)):wpList Tryz.prog ops Q (o::rest) a w:=
 Ay7 hS ho hg hx hv fun b w' h1=>by rw[ha];exact h b w' h1
theorem zal{t:TypeId}{l:List Value}{a':Nat->Act}(hS:St W L w)(h:∀b w',St W (blk b l t::L) w'->wpList Tryz.prog ops Q rest (a' b) w')(ho:o.op=.alloc t:=by with_reducible rfl)(hg:Region.wanted o (yielded ops a.tmps)=true:=by rfl)(hz:m6 Tryz.prog t=some l:=by exact zsS)
  (ha:∀b,a.put o.dst (.P b)=a' b:=by(intro b;first|(simp only[Act.put,fA,fB,fC,Nat.reduceAdd];rfl)|rfl)):wpList Tryz.prog ops Q (o::rest) a w:=
 An7 hS ho hg hz fun b w' h1=>by rw[ha];exact h b w' h1
theorem zbs{t e n:TypeId}{z:Value}{k bytes:Nat}{xs:Array (Nat×Operand)}{parts:List (Nat×Value)}{l:List Value}{a':Nat->Act}(hS:St W L w)(h:∀b w',St W (blk b l e::L) w'->wpList Tryz.prog ops Q rest (a' b) w')(ho:o.op=.buildSlice t n xs:=by with_reducible rfl)(hg:Region.wanted o (yielded ops a.tmps)=true:=by rfl)
  (hx:(xs.map fun(i,x)=>(i,a.eval x))=parts.toArray:=by(simp only[fD,fI,fJ,Act.eval,fE,fF,fG,fH,fK];try rfl)) (ht:s5 Tryz.prog t=some e:=by exact esS) (hi:A8 Tryz.prog e=some (some z,k,bytes):=by exact rsS) (hz:z.cells.size=k:=by rfl) (hn:decide (n*k<=16777216)=true:=by rfl) (hp:ar4 k n parts=true:=by rfl) (hl:aX4 k (O9 z n) parts=l:=by rfl)
  (ha:∀b,a.put o.dst (.S b n n)=a' b:=by(intro b;first|(simp only[Act.put,fA,fB,fC,Nat.reduceAdd];rfl)|rfl)):wpList Tryz.prog ops Q (o::rest) a w:=
 fj4 hS ho hg hx ht hi hz hn hp hl fun b w' h1=>by rw[ha];exact h b w' h1
theorem zap{s x:Operand}{t e:TypeId}{z:Value}{k bytes:Nat}{v xv:Value}{n m:Nat}{cs news:List Value}{a':Value->Act}(hS:St W L w)(h:∀v' w',St W (row v' k e (n+m) (cs++news)::R) w'->wpList Tryz.prog ops Q rest (a' v') w')(ho:o.op=.call { callee:=.builtin .append,args:=#[s,x],argTypes:=#[t,t] }:=by with_reducible rfl)
  (hg:Region.wanted o (yielded ops a.tmps)=true:=by rfl) (hs:a.eval s=v:=by rfl) (hx:a.eval x=xv:=by rfl) (ht:s5 Tryz.prog t=some e:=by exact esS) (hi:A8 Tryz.prog e=some (some z,k,bytes):=by exact rsS) (hz:z.cells.size=k:=by rfl) (hk:0<k:=by decide) (hu:Take L (row v k e n cs) R:=by exact i7)
  (hsrc:Src L xv m news:=by exact Src.mk d8.whole) (hl:news.length=m*k:=by(try rfl)) (h1:news.all (·.oneCell')=true:=by rfl) (h63:n+m<=maxLen) (hb:(n+m)*bytes<=140737488355328)
  (ha:∀v,a.put o.dst v=a' v:=by(intro v;first|(simp only[Act.put,fA,fB,fC,Nat.reduceAdd];rfl)|rfl)):wpList Tryz.prog ops Q (o::rest) a w:=
 Ae7 hS ho hg hs hx ht hi hz hk hu hsrc hl h1 h63 hb fun v w' h2=>by rw[ha];exact h v w' h2
end
section
variable{ops:Array Oper}{Q:Act->Prop}{a a':Act}{W:World}{L:List HP}{rest:List Oper}{o:Oper}
theorem zq1{t:TypeId}{x:Operand}{b off:Nat}{v:Value}(h:wpQuiet Tryz.prog ops (St W L) Q rest a')(ho:o.op=.load t x:=by with_reducible rfl)(hg:Region.wanted o (yielded ops a.tmps)=true:=by rfl)(hx:a.eval x=.pointer (some ⟨b,off,none⟩):=by rfl)(ht:K7 Tryz.prog t=some false:=by decide +kernel)(hc:i6 L b off v:=by exact N5)
  (ha:a.put o.dst v=a':=by first|(simp only[Act.put,fA,fB,fC,Nat.reduceAdd];rfl)|rfl):wpQuiet Tryz.prog ops (St W L) Q (o::rest) a:=
 Ar7 ho hg hx ht hc (by rw[ha];exact h)
theorem zqN{t:TypeId}{x:Operand}{b off:Nat}{vs:List Value}(h:wpQuiet Tryz.prog ops (St W L) Q rest a')(ho:o.op=.load t x:=by with_reducible rfl)(hg:Region.wanted o (yielded ops a.tmps)=true:=by rfl)(hx:a.eval x=.pointer (some ⟨b,off,none⟩):=by rfl)(ht:K7 Tryz.prog t=some true:=by decide +kernel)(hc:d8 L b off vs:=by exact r6)
  (hn:E5 Tryz.prog t=some vs.length:=by kernel_rfl) (ha:a.put o.dst (.agg vs.toArray)=a':=by first|(simp only[Act.put,fA,fB,fC,Nat.reduceAdd];rfl)|rfl):wpQuiet Tryz.prog ops (St W L) Q (o::rest) a:=
 QU7 ho hg hx ht hc hn (by rw[ha];exact h)
theorem zqn{x:Operand}{p:Addr}(h:wpQuiet Tryz.prog ops (St W L) Q rest a')(ho:o.op=.nilCheck x:=by with_reducible rfl)(hg:Region.wanted o (yielded ops a.tmps)=true:=by rfl)(hx:a.eval x=.pointer (some p):=by rfl)(ha:a.put o.dst (.pointer (some p))=a':=by first|(simp only[Act.put,fA,fB,fC,Nat.reduceAdd];rfl)|rfl):wpQuiet Tryz.prog ops (St W L) Q (o::rest) a:=
 QV7 ho hg hx (by rw[ha];exact h)
end
section
variable{W:World}{ops:Array Oper}{t:List Nat}{toks:List Tok}{fresh:Nat->Bool}{pin:Nat->Option Value}{Qf:Act->Prop}{nd:Nat->Value}{i:Nat}{o:Oper}{l:List Oper}{a a':Act}
theorem zcn{x:Operand}{p:Addr}(h:l7 Tryz.prog W ops t toks fresh pin Qf nd (i+1) l a')(hf:fresh i=false:=by rfl)(hn:au4 toks i=true:=by kernel_rfl)(ho:o.op=.nilCheck x:=by with_reducible rfl)(hg:Region.wanted o (yielded ops a.tmps)=true:=by rfl)(hx:a.eval x=.pointer (some p):=by rfl)
  (ha:a.put o.dst (.pointer (some p))=a':=by first|(simp only[Act.put,fA,fB,fC,Nat.reduceAdd];rfl)|rfl):l7 Tryz.prog W ops t toks fresh pin Qf nd i (o::l) a:=
 QW7 hf hn ho hg hx (by rw[ha];exact h)
theorem zc1{ty:TypeId}{x:Operand}{b off:Nat}{v:Value}(h:l7 Tryz.prog W ops t toks fresh pin Qf nd (i+1) l a')(hf:fresh i=false:=by rfl)(hn:au4 toks i=true:=by kernel_rfl)(ho:o.op=.load ty x:=by with_reducible rfl)(hg:Region.wanted o (yielded ops a.tmps)=true:=by rfl)(hx:a.eval x=.pointer (some ⟨b,off,none⟩):=by rfl)
  (ht:K7 Tryz.prog ty=some false:=by decide +kernel) (hc:∀F,i6 (kpL toks t i nd++F) b off v:=by(intro F;exact gm4)) (ha:a.put o.dst v=a':=by first|(simp only[Act.put,fA,fB,fC,Nat.reduceAdd];rfl)|rfl):l7 Tryz.prog W ops t toks fresh pin Qf nd i (o::l) a:=
 Pj7 hf hn ho hg hx ht hc (by rw[ha];exact h)
theorem zcN{ty:TypeId}{x:Operand}{b off:Nat}{vs:List Value}(h:l7 Tryz.prog W ops t toks fresh pin Qf nd (i+1) l a')(hf:fresh i=false:=by rfl)(hn:au4 toks i=true:=by kernel_rfl)(ho:o.op=.load ty x:=by with_reducible rfl)(hg:Region.wanted o (yielded ops a.tmps)=true:=by rfl)(hx:a.eval x=.pointer (some ⟨b,off,none⟩):=by rfl)
  (ht:K7 Tryz.prog ty=some true:=by decide +kernel) (hc:∀F,d8 (kpL toks t i nd++F) b off vs:=by(intro F;exact gn4)) (hz:E5 Tryz.prog ty=some vs.length:=by kernel_rfl) (ha:a.put o.dst (.agg vs.toArray)=a':=by first|(simp only[Act.put,fA,fB,fC,Nat.reduceAdd];rfl)|rfl):l7 Tryz.prog W ops t toks fresh pin Qf nd i (o::l) a:=
 Ll7 hf hn ho hg hx ht hc hz (by rw[ha];exact h)
theorem zca{ty:TypeId}{z:List Value}(h:l7 Tryz.prog W ops t toks fresh pin Qf nd (i+1) l a')(hf:fresh i=true:=by rfl)(ho:o.op=.alloc ty:=by with_reducible rfl)(hg:Region.wanted o (yielded ops a.tmps)=true:=by rfl)(hk:∀v,kpL toks t i (upd nd i v)=kpL toks t i nd:=by(intro _;rfl))(hz:m6 Tryz.prog ty=some z:=by exact zsS)(hc:cnL toks t i nd=[]:=by rfl)
  (hm:∀v,mdL toks i (upd nd i v)=[i8 v z ty]:=by(intro _;rfl)) (ha:a.put o.dst (nd i)=a':=by first|(simp only[Act.put,fA,fB,fC,Nat.reduceAdd];rfl)|rfl):l7 Tryz.prog W ops t toks fresh pin Qf nd i (o::l) a:=
 NC7 hf ho hg hk hz hc hm (by rw[ha];exact h)
theorem zct{ty:TypeId}{x y:Operand}{pv v:Value}{z z' vs:List Value}{T:TypeId}(h:l7 Tryz.prog W ops t toks fresh pin Qf nd (i+1) l a')(hf:fresh i=false:=by rfl)(ho:o.op=.store ty x y:=by with_reducible rfl)(hg:Region.wanted o (yielded ops a.tmps)=true:=by rfl)(hx:a.eval x=pv:=by focus((conv=>lhs;whnf);try rfl))(hy:a.eval y=v:=by focus((conv=>lhs;whnf);try rfl))(hv:v.cells.toList=vs:=by focus((conv=>lhs;whnf);try rfl))
  (hn:E5 Tryz.prog ty=some vs.length:=by kernel_rfl) (h1:vs.all (·.oneCell')=true:=by rfl) (hc:cnL toks t i nd=[i8 pv z T]:=by rfl) (hl:0+vs.length<=z.length:=by(simp only[jC,List.length_nil];omega)) (he:B9 z 0 vs=z':=by rfl) (hm:mdL toks i nd=[i8 pv z' T]:=by rfl)
  (ha:a.put o.dst undef=a':=by first|(simp only[Act.put,fA,fB,fC,Nat.reduceAdd];rfl)|rfl):l7 Tryz.prog W ops t toks fresh pin Qf nd i (o::l) a:=
 PJ7 hf ho hg hx hy hv hn h1 hc hl he hm (by rw[ha];exact h)
theorem zcs{ty:TypeId}{x y:Operand}{v:Value}{b off:Nat}{z z' vs:List Value}{T:TypeId}(h:l7 Tryz.prog W ops t toks fresh pin Qf nd (i+1) l a')(hf:fresh i=false:=by rfl)(ho:o.op=.store ty x y:=by with_reducible rfl)(hg:Region.wanted o (yielded ops a.tmps)=true:=by rfl)(hx:a.eval x=.pointer (some ⟨b,off,none⟩):=by rfl)(hy:a.eval y=v:=by focus((conv=>lhs;whnf);try rfl))(hv:v.cells.toList=vs:=by focus((conv=>lhs;whnf);try rfl))
  (hn:E5 Tryz.prog ty=some vs.length:=by kernel_rfl) (h1:vs.all (·.oneCell')=true:=by rfl) (hc:cnL toks t i nd=[blk b z T]:=by rfl) (hl:off+vs.length<=z.length:=by(simp only[jC,List.length_nil];omega)) (he:B9 z off vs=z':=by rfl) (hm:mdL toks i nd=[blk b z' T]:=by rfl)
  (ha:a.put o.dst undef=a':=by first|(simp only[Act.put,fA,fB,fC,Nat.reduceAdd];rfl)|rfl):l7 Tryz.prog W ops t toks fresh pin Qf nd i (o::l) a:=
 cR4 hf ho hg hx hy hv hn h1 hc hl he hm (by rw[ha];exact h)
theorem zcv{f:FuncId}{xs:Array Operand}{ats:Array TypeId}{args:Array Value}{v:Value}(h:l7 Tryz.prog W ops t toks fresh pin Qf nd (i+1) l a')(hf:fresh i=false:=by rfl)(hp:pin i=some v:=by rfl)(hg:Region.wanted o (yielded ops a.tmps)=true:=by rfl)
  (ho:o.op=.call { callee:=.value (.func f),args:=xs,argTypes:=ats }:=by with_reducible rfl) (hb:O6 Tryz.prog f=true:=by decide +kernel) (hx:xs.map a.eval=args:=by(simp only[fD,fI,fJ,Act.eval,fE,fF,fG,fH,fK];try rfl))
  (hs:∀F w,St W (cnL toks t i nd++(kpL toks t i nd++F)) w->Calls Tryz.prog f args w fun e w'=>e=.returned v/\St W (mdL toks i nd++(kpL toks t i nd++F)) w')
  (ha:a.put o.dst v=a':=by first|(simp only[Act.put,fA,fB,fC,Nat.reduceAdd];rfl)|rfl):l7 Tryz.prog W ops t toks fresh pin Qf nd i (o::l) a:=
 ND7 hf hp hg ho hb hx hs (by rw[ha];exact h)
end
end Go.Sl
end
section
namespace Go.Proofs.YtienbkdjkjbelaaGreat
open Go.RowKit Go.Sl
structure Ord where
 id:Int
 who:ByteArray
 buy:Bool
 item:Int
 cnt:Int
 price:Int
def Ord.cells(o:Ord):List Value:=[.I o.id,.string o.who,.bool o.buy,.I o.item,.I o.cnt,.I o.price]
theorem Ord.len(o:Ord):o.cells.length=6:=rfl
structure Trd where
 buyer:ByteArray
 seller:ByteArray
 buy:Int
 sell:Int
 item:Int
 cnt:Int
 price:Int
 bid:Int
def Trd.cells(o:Trd):List Value:=[.string o.buyer,.string o.seller,.I o.buy,.I o.sell,.I o.item,.I o.cnt,.I o.price,.I o.bid]
def I6(a b:Int):Int:=if b<a then b else a
def P5(o s:Ord):Trd:=
 if s.buy then⟨s.who,o.who,s.id,o.id,o.item,I6 o.cnt s.cnt,s.price,s.price⟩else⟨o.who,s.who,o.id,s.id,o.item,I6 o.cnt s.cnt,s.price,o.price⟩
def M8(a b:Ord):Bool:=if a.price=b.price then decide (a.id<b.id)else(decide (a.price<b.price) != a.buy)
def av4(a b:Ord):Bool:=if b.buy then decide (a.price<=b.price)else decide (b.price<=a.price)
structure MayP(o:Ord):Prop where
 id0:1<=o.id
 id1:o.id<=1099511627776
 who0:1<=o.who.size
 who1:o.who.size<=16
 item0:1<=o.item
 item1:o.item<=3
 cnt0:1<=o.cnt
 cnt1:o.cnt<=1048576
 price0:1<=o.price
 price1:o.price<=1024
def J7(o:Ord):Bool:=decide (1<=o.id)&&decide (o.id<=1099511627776)&&decide (1<=o.who.size)&&decide (o.who.size<=16)&&decide (1<=o.item)&&decide (o.item<=3)&&decide (1<=o.cnt)&&decide (o.cnt<=1048576)&&decide (1<=o.price)&&decide (o.price<=1024)
theorem Ao7{o:Ord}:J7 o=true↔MayP o:=by simp only[J7,jB,decide_eq_true_eq];exact⟨fun⟨⟨⟨⟨⟨⟨⟨⟨⟨a,b⟩,c⟩,d⟩,e⟩,f⟩,g⟩,h⟩,i⟩,j⟩=>⟨a,b,c,d,e,f,g,h,i,j⟩,fun h=>⟨⟨⟨⟨⟨⟨⟨⟨⟨h.id0,h.id1⟩,h.who0⟩,h.who1⟩,h.item0⟩,h.item1⟩,h.cnt0⟩,h.cnt1⟩,h.price0⟩,h.price1⟩⟩
theorem Pk7(v:Value)(w:World):(Instr.typeAssert (.iface 173 v) 20 173 false).run Tryz.prog w=.ok v w:=by kernel_rfl
theorem Kf7(o s:Ord)(W w:World)(L:List HP)(hS:St W L w):
  Calls Tryz.prog 191 #[.agg o.cells.toArray,.agg s.cells.toArray] w fun e w'=>e=.returned (.agg (P5 o s).cells.toArray)/\St W L w':=by
 obtain⟨i,u,y,t,c,p⟩:=o;obtain⟨i',u',y',t',c',p'⟩:=s;simp only[Ord.cells];go_enter Tryz.func191,Tryz.ntmps191;go_wp2_with(first|refine zbx hS ?_;clear hS;intro b w hS|refine zal hS ?_;clear hS;intro b w hS)
 refine rf2 [0,0,0,0,13,31] (fun i=>i==2||i==3) [⟨some 2,some 4,fun nd=>i8 (nd 2) [.I 0,.string ⟨#[]⟩,.bool false,.I 0,.I 0,.I 0] 173⟩,⟨some 3,some 5,fun nd=>i8 (nd 3) [.I 0,.string ⟨#[]⟩,.bool false,.I 0,.I 0,.I 0] 173⟩,⟨some 4,none,fun nd=>i8 (nd 2) [.I i,.string u,.bool y,.I t,.I c,.I p] 173⟩,⟨some 5,none,fun nd=>i8 (nd 3) [.I i',.string u',.bool y',.I t',.I c',.I p'] 173⟩]
  [none,none,none] hS ?_
 intro nd;refine zcN ?_;refine zcN ?_;refine zca ?_;refine zca ?_;refine zct ?_;refine zct ?_;refine Ad7 ?_;clear hS;intro w hS;have hS:St W [i8 (nd 2) _ _,i8 (nd 3) _ _,_,_,_,sats L] w:=hS;generalize nd 2=v5 at *;generalize nd 3=v6 at *;have h1:=hS.ptr;clear hS;obtain⟨b5,rfl,hS⟩:=h1;replace hS:=hS.swap;have h1:=hS.ptr;clear hS;obtain⟨b6,rfl,hS⟩:=h1;replace hS:=hS.unpack [_,_,_,_,_];simp only[jK,jN]at hS
 cases y'
 ·go_wp2_with(first|refine zl1 hS ?_|refine zsN hS ?_;clear hS;intro w hS)
  all_goals
   (apply Ap7;rfl;rfl;rfl;exact hS;decide +kernel;exact r6;kernel_rfl);exact⟨by simp[P5,Trd.cells,I6, *],hS.drop.drop.drop.drop.drop⟩
 ·go_wp2_with(first|refine zl1 hS ?_);refine rf2 [0,0,1,7] (fun i=>false) [⟨some 2,none,fun nd=>blk b5 [.I i',.string u',.bool true,.I t',.I c',.I p'] 173⟩,⟨some 3,none,fun nd=>blk b6 [.I i,.string u,.bool y,.I t,.I c,.I p] 173⟩] [some 3,some 2,none,none,none] hS ?_;intro nd;refine zcN ?_;refine zcN ?_;refine zcs ?_;refine zcs ?_;refine Ad7 ?_;clear hS;intro w hS;have hS:St W [blk b5 _ _,blk b6 _ _,_,_,_,sats L] w:=hS;replace hS:=hS.unpack [_,_,_,_,_];simp only[jK,jN]at hS;go_wp2_with(first|refine zl1 hS ?_|refine zsN hS ?_;clear hS;intro w hS)
  all_goals
   (apply Ap7;rfl;rfl;rfl;exact hS;decide +kernel;exact r6;kernel_rfl);exact⟨by simp[P5,Trd.cells,I6, *],hS.drop.drop.drop.drop.drop⟩
theorem Fa7(o s:Ord)(W w:World)(L:List HP)(hS:St W L w):
  Calls Tryz.prog 189 #[.agg o.cells.toArray,.agg s.cells.toArray] w fun e w'=>e=.returned (.bool (av4 o s))/\St W L w':=by
 obtain⟨i,u,y,t,c,p⟩:=o;obtain⟨i',u',y',t',c',p'⟩:=s;simp only[Ord.cells];go_enter Tryz.func189,Tryz.ntmps189;go_wp2_with(first|refine zl1 hS ?_|refine zlN hS ?_|refine zsN hS ?_;clear hS;intro w hS|refine zbx hS ?_;clear hS;intro b w hS)
 all_goals go_ret
 all_goals exact⟨by simp[av4, *],hS.drop.drop⟩
theorem Lm7(xs:List Ord)(junk:List Value)(g n cap i j:Nat)(hn:xs.length=n)(hi:i<xs.length)(hj:j<xs.length)(hcap:n<=cap)(hm:cap<=maxLen)(W w:World)(L:List HP)(hS:St W (blk g (xs.flatMap Ord.cells++junk) 173::L) w):
  Calls Tryz.prog 255 #[.S g n cap,.I i,.I j] w fun e w'=>e=.returned (.bool (M8 xs[i] xs[j]))/\St W (blk g (xs.flatMap Ord.cells++junk) 173::L) w':=by
 subst hn;unfold maxLen at hm;go_enter Tryz.func255,Tryz.ntmps255;go_wp2_with(fail)
 refine rf2 [0,0,3,7,0,0,48,112,0,0,783,2047] (fun i=>i==8||i==9) [⟨some 8,some 10,fun nd=>i8 (nd 8) [.I 0,.string ⟨#[]⟩,.bool false,.I 0,.I 0,.I 0] 173⟩,⟨some 9,some 11,fun nd=>i8 (nd 9) [.I 0,.string ⟨#[]⟩,.bool false,.I 0,.I 0,.I 0] 173⟩,⟨some 10,none,fun nd=>i8 (nd 8) xs[i].cells 173⟩,⟨some 11,none,fun nd=>i8 (nd 9) xs[j].cells 173⟩]
  [none] hS ?_
 intro nd;refine cR ?_;refine cR ?_;refine cR ?_;apply Ll7;rfl;kernel_rfl;rfl;rfl;rfl;decide +kernel;intro F;exact d8.elem Ord.len hi;kernel_rfl;refine frS ?_;refine cR ?_;refine cR ?_;refine cR ?_;apply Ll7;rfl;kernel_rfl;rfl;rfl;rfl;decide +kernel;intro F;exact d8.elem Ord.len hj;kernel_rfl;refine frS ?_;refine zca ?_;refine zca ?_;refine zct ?_;refine zct ?_;refine Ad7 ?_;clear hS;intro w hS;have hS:St W [i8 (nd 8) xs[i].cells _,i8 (nd 9) xs[j].cells _,_,sats L] w:=hS;generalize nd 8=v8 at *;generalize nd 9=v9 at *;have h1:=hS.ptr;clear hS;obtain⟨b8,rfl,hS⟩:=h1;replace hS:=hS.swap;have h1:=hS.ptr;clear hS;obtain⟨b9,rfl,hS⟩:=h1;replace hS:=hS.unpack [_,_,_];simp only[jK,jN]at hS;generalize ha:xs[i]=a at hS;generalize hb:xs[j]=b at hS;have Ha:=jH ha;have Hb:=jH hb;clear ha hb;obtain⟨i1,u1,y1,t1,c1,p1⟩:=a;obtain⟨i2,u2,y2,t2,c2,p2⟩:=b;simp only[Ord.cells]at hS;by_cases hp:p1=p2
 ·subst hp;go_wp2_with(first|refine zl1 hS ?_);go_ret;exact⟨by rw[Ha.out,Hb.out];simp[M8],hS.drop.drop⟩
 ·have hp':(p1==p2)=false:=by simpa using hp
  have hp'':(p1 != p2)=true:=by simpa using hp
  go_wp2_with(first|refine zl1 hS ?_);go_ret;exact⟨by rw[Ha.out,Hb.out];simp[M8,hp];cases decide (p1<p2) <;> cases y1 <;> rfl,hS.drop.drop⟩
theorem Bl7{xs:List Ord}{i j:Nat}{hi:i<xs.length}{hj:j<xs.length}{b:Bool}(hb:M8 xs[i] xs[j]=b)(junk:List Value)(g n cap:Nat)(hn:xs.length=n)(hcap:n<=cap)(hm:cap<=maxLen)(W w:World)(L:List HP)(hS:St W (blk g (xs.flatMap Ord.cells++junk) 173::L) w):
  Calls Tryz.prog 255 #[.S g n cap,.I i,.I j] w fun e w'=>e=.returned (.bool b)/\St W (blk g (xs.flatMap Ord.cells++junk) 173::L) w':=by
 subst hb;exact Lm7 xs junk g n cap i j hn hi hj hcap hm W w L hS
end Go.Proofs.YtienbkdjkjbelaaGreat
end
