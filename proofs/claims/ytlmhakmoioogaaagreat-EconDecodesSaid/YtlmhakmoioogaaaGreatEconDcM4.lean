/-
  A row that is only read.
-/
import Derived.Test.YtlmhakmoioogaaaGreatEconDcM2
import Derived.Test.YtlmhakmoioogaaaGreatEconDcM3
set_option maxHeartbeats 16000000
set_option maxRecDepth 100000
set_option linter.unusedSimpArgs false
set_option linter.unusedVariables false
section
namespace Go.Sl
open Go.RowKit
section
variable{W w:World}{L:List HP}{a:Option Addr}{v:Value}{k n c g off:Nat}{T:TypeId}{cs:List Value}
theorem St.rowAddr(h:St W (row (.slice a n c) k T n cs::L) w)(hn:0<n):(∃g,a=some ⟨g,0,none⟩)/\c<=9223372036854775807/\n<=c:=by
 rcases h.rowOpen with ⟨_,h0,_⟩|⟨g,cap,junk,hv,hn1,hm1,_⟩
 ·omega
 ·injection hv with e1 e2 e3
  subst e3;exact⟨⟨g,e1⟩,hm1,hn1⟩
theorem e8.row(hn:0<n)(h:cs[off]? = some v):e8 (Sl.row (.S g n c) k T n cs::L) g off v:=fun W w hS=>by
 rcases hS.rowOpen with ⟨_,h0,_⟩|⟨g',cap,junk,hv,hn1,hm1,hj1,hl1,hS'⟩
 ·omega
 ·injection hv with e1 e2 e3
  injection e1 with e1
  injection e1 with e1
  subst e1;exact hS'.cell .head (by rw[List.getElem?_append_left (List.getElem?_eq_some_iff.1 h).1];exact h)
theorem d7.rowE{α:Type}{enc:α->List Value}(henc:∀x,(enc x).length=k){xs:List α}{i:Nat}(h:i<xs.length):d7 (Sl.row (.S g xs.length c) k T xs.length (xs.flatMap enc)::L) g (i*k) (enc xs[i]):=fun j v hj=>by refine e8.row (by omega) ?_;have hl:j<(enc xs[i]).length:=(List.getElem?_eq_some_iff.1 hj).1;have:=DI7 henc xs [] i h j (by rwa [henc]at hl);rw[List.append_nil]at this;rw[this];exact hj
theorem e8.rowE{α:Type}{enc:α->List Value}(henc:∀x,(enc x).length=k){xs:List α}{i j:Nat}(h:i<xs.length)(hv:(enc xs[i])[j]? = some v):e8 (Sl.row (.S g xs.length c) k T xs.length (xs.flatMap enc)::L) g (i*k+j) v:=
 d7.rowE henc h j v hv
end
section
variable{P:Program}{W:World}{ops:Array Oper}{t:List Nat}{toks:List Tok}{fresh:Nat->Bool}{pin:Nat->Option Value}{Qf:Act->Prop}{nd:Nat->Value}{i:Nat}{o:Oper}{l:List Oper}{a:Act}
theorem Rh7{ty e n:TypeId}{z:Value}{k bytes:Nat}{xs:Array (Nat×Operand)}{parts:List (Nat×Value)}{ls:List Value}(hf:fresh i=true)(ho:o.op=.buildSlice ty n xs)(hg:Region.wanted o (yielded ops a.tmps)=true)(hx:(xs.map fun(i,x)=>(i,a.eval x))=parts.toArray)
  (ht:y6 P ty=some e) (hi:C9 P e=some (some z,k,bytes)) (hz:z.cells.size=k) (hn:decide (n*k<=16777216)=true) (hp:az4 k n parts=true) (hl:ba4 k (T8 z n) parts=ls) (hll:ls.length=n*k) (hn63:n<=maxLen) (hk:∀v,kpL toks t i (upd nd i v)=kpL toks t i nd) (hc:cnL toks t i nd=[])
  (hm:∀v,mdL toks i (upd nd i v)=[row v k e n ls]) (h:p8 P W ops t toks fresh pin Qf nd (i+1) l (a.put o.dst (nd i))):p8 P W ops t toks fresh pin Qf nd i (o::l) a:=
 Lk7 hf hg hk (fun F w hS=>by
  rw[hc]at hS;obtain⟨b,w',h1,h2⟩:=Gk7 (P:=P) hS ho hx ht hi hz hn hp hl;refine⟨_,w',h1,?_⟩;rw[hm];have h3:St W (blk b (ls++[]) e::(kpL toks t i nd++F)) w':=by rw[List.append_nil];exact h2
  exact St.rowShut h3 (Nat.le_refl _) hn63 (by rw[List.append_nil];exact hll) hll) h
end
end Go.Sl
end
section
namespace Go.Sl
open Go.RowKit
inductive Suf:List HP->List HP->Prop
 | refl {L:List HP}:Suf L L
 | tail {X:HP} {L L':List HP} (h:Suf L L'):Suf (X::L) L'
inductive Sel:List HP->List HP->Prop
 | done {L L':List HP} (h:Suf L L'):Sel L L'
 | cons {A:HP} {L L1 L':List HP} (t:Take L A L1) (s:Sel L1 L'):Sel L (A::L')
theorem Py7{L L':List HP}(s:Suf L L'):∀{h:R7},sats L h->sats L' h:=by
 induction s with
 | refl=>exact fun h=>h
 | tail _ ih=>exact fun⟨S,_,h2⟩=>ih (BZ7 h2)
theorem Sel.sats{L L':List HP}(s:Sel L L'):∀{h:R7},Sl.sats L h->Sl.sats L' h:=by
 induction s with
 | done h=>exact Py7 h
 | cons t _ ih=>exact fun h=>AU7 (fun _ x=>x) (fun _ x=>ih x) (t.sats h)
theorem St.sel{W w:World}{L L':List HP}(h:St W L w)(s:Sel L L'):St W L' w:=⟨h.os,h.tape,h.output,s.sats h.sat⟩
end Go.Sl
end
section
namespace Go.Sl
open Go.RowKit
section
variable{W w:World}{L:List HP}{a:Option Addr}{v:Value}{k n c g off:Nat}{T:TypeId}{cs news:List Value}
theorem St.rowCase(h:St W (row (.slice a n c) k T n cs::L) w):(a=none/\n=0/\c=0/\cs=[])\/∃g,a=some ⟨g,0,none⟩/\c<=9223372036854775807/\n<=c:=by
 rcases h.rowOpen with ⟨hv,h0,hc,_⟩|⟨g,cap,junk,hv,hn1,hm1,_⟩
 ·injection hv with e1 e2 e3
  exact .inl ⟨e1,h0,e3,hc⟩
 ·injection hv with e1 e2 e3
  subst e3;exact .inr ⟨g,e1,hm1,hn1⟩
theorem e8.rowS(h:cs[off]? = some v):e8 (Sl.row (.S g n c) k T n cs::L) g off v:=fun W w hS=>by
 rcases hS.rowOpen with ⟨hv,_⟩|⟨g',cap,junk,hv,hn1,hm1,hj1,hl1,hS'⟩
 ·cases hv
 ·injection hv with e1 e2 e3
  injection e1 with e1
  injection e1 with e1
  subst e1;exact hS'.cell .head (by rw[List.getElem?_append_left (List.getElem?_eq_some_iff.1 h).1];exact h)
theorem e8.rowM{L':List HP}(hu:Take L (Sl.row (.S g n c) k T n cs) L')(h:cs[off]? = some v):e8 L g off v:=fun W w hS=>e8.rowS h W w (hS.take hu)
theorem d7.rowM{L':List HP}(hu:Take L (Sl.row (.S g n c) k T n cs) L')(h:∀j u,news[j]? = some u->cs[off+j]? = some u):d7 L g off news:=fun j v hj=>e8.rowM hu (h j v hj)
theorem d7.elemM{α:Type}{enc:α->List Value}(henc:∀x,(enc x).length=k){xs:List α}{i:Nat}{L':List HP}(hu:Take L (Sl.row (.S g xs.length c) k T xs.length (xs.flatMap enc)) L')(h:i<xs.length):d7 L g (i*k) (enc xs[i]):=
 d7.rowM hu fun j u hj=>by have hl:j<(enc xs[i]).length:=(List.getElem?_eq_some_iff.1 hj).1;have:=DI7 henc xs [] i h j (by rwa [henc]at hl);rw[List.append_nil]at this;rw[this];exact hj
end
section
variable{P:Program}{ops:Array Oper}{Q:Exit->Act->World->Prop}{a:Act}{w:World}{W:World}{L R:List HP}{rest:List Oper}{o:Oper}
theorem Ct7{t e n:TypeId}{z:Value}{k bytes:Nat}{xs:Array (Nat×Operand)}{parts:List (Nat×Value)}{l:List Value}(hS:St W L w)(ho:o.op=.buildSlice t n xs)(hg:Region.wanted o (yielded ops a.tmps)=true)(hx:(xs.map fun(i,x)=>(i,a.eval x))=parts.toArray)
  (ht:y6 P t=some e) (hi:C9 P e=some (some z,k,bytes)) (hz:z.cells.size=k) (hn:decide (n*k<=16777216)=true) (hp:az4 k n parts=true) (hl:ba4 k (T8 z n) parts=l) (hll:l.length=n*k) (hn63:n<=maxLen)
  (h:∀v w',St W (row v k e n l::L) w'->wpList P ops Q rest (a.put o.dst v) w'):wpList P ops Q (o::rest) a w:=by
 obtain⟨b,w',hr,hS'⟩:=Gk7 (P:=P) hS ho hx ht hi hz hn hp hl;refine Ak7 hg hr (h _ w' ?_);have h3:St W (blk b (l++[]) e::L) w':=by rw[List.append_nil];exact hS'
 exact St.rowShut h3 (Nat.le_refl _) hn63 (by rw[List.append_nil];exact hll) hll
end
end Go.Sl
end
section
namespace Go.Sl
open Go.RowKit Go.Proofs Go.Proofs.YtlmhakmoioogaaaGreat
theorem frS{p p':Prop}(h:p')(e:p=p':=by(simp only[Act.put,fA,fB,fC,Nat.reduceAdd];rfl)):p:=e▸h
theorem g8{L L':List HP}{X:HP}(h:Take L X L':=by(focus((repeat(first|exact .head|apply Take.tail));done))):Take L X L':=h
theorem ga4{L L':List HP}{X:HP}(h:Take L X L':=by with_reducible (focus((repeat(first|exact .head|apply Take.tail));done))):Take L X L':=h
theorem cq4{L L':List HP}{X Y:HP}(h:Upd L X Y L':=by(focus((repeat(first|exact Upd.head|apply Upd.tail));done))):Upd L X Y L':=h
theorem O8{L:List HP}{b off:Nat}{v:Value}(h:e8 L b off v:=by first|(focus((repeat(first|exact e8.here rfl|apply e8.there));done))|assumption):e8 L b off v:=h
theorem x9{L:List HP}{b off:Nat}{vs:List Value}(h:d7 L b off vs:=by first|(focus((repeat(first|exact d7.whole|apply d7.there));done))|assumption):d7 L b off vs:=h
theorem gb4{L:List HP}{b off:Nat}{v:Value}(h:e8 L b off v:=by first|exact e8.here rfl|exact e8.there (e8.here rfl)|exact e8.there (e8.there (e8.here rfl))|exact e8.there (e8.there (e8.there (e8.here rfl)))|exact e8.there (e8.there (e8.there (e8.there (e8.here rfl))))|exact e8.there (e8.there (e8.there (e8.there (e8.there (e8.here rfl)))))|exact e8.there (e8.there (e8.there (e8.there (e8.there (e8.there (e8.here rfl))))))|assumption):e8 L b off v:=h
theorem gc4{L:List HP}{b off:Nat}{vs:List Value}(h:d7 L b off vs:=by first|exact d7.whole|exact d7.there d7.whole|exact d7.there (d7.there d7.whole)|exact d7.there (d7.there (d7.there d7.whole))|exact d7.there (d7.there (d7.there (d7.there d7.whole)))|exact d7.there (d7.there (d7.there (d7.there (d7.there d7.whole))))|exact d7.there (d7.there (d7.there (d7.there (d7.there (d7.there d7.whole)))))|assumption):d7 L b off vs:=h
theorem A9{L L':List HP}{X:HP}(h:Take L X L':=by first|exact Take.head|exact Take.tail Take.head|exact Take.tail (Take.tail Take.head)|exact Take.tail (Take.tail (Take.tail Take.head))|exact Take.tail (Take.tail (Take.tail (Take.tail Take.head)))|exact Take.tail (Take.tail (Take.tail (Take.tail (Take.tail Take.head))))|exact Take.tail (Take.tail (Take.tail (Take.tail (Take.tail (Take.tail Take.head)))))):Take L X L':=h
theorem gd4{L L':List HP}(h:Sel L L':=by(repeat' (first|(with_reducible first|exact Sel.done Suf.refl|exact Sel.done (Suf.tail Suf.refl)|exact Sel.done (Suf.tail (Suf.tail Suf.refl))|exact Sel.done (Suf.tail (Suf.tail (Suf.tail Suf.refl)))|(apply Sel.done;(focus((repeat(first|exact Suf.refl|apply Suf.tail));done))))|(refine Sel.cons (by exact ga4) ?_)))):Sel L L':=h
theorem St.s{W w:World}{L:List HP}(h:St W L w)(L':List HP)(s:Sel L L':=by exact gd4):St W L' w:=h.sel s
theorem esS{t e:TypeId}(h:y6 Tryz.prog t=some e:=by with_reducible first|exact Ty.e36|exact Ty.e46|exact Ty.e47|exact Ty.e48|exact Ty.e58|exact Ty.e62|exact Ty.e63|exact Ty.e91|exact Ty.e109|exact Ty.e151|exact Ty.e184|exact Ty.e185|exact Ty.e196|exact Ty.e218|exact Ty.e227|exact Ty.e269|exact Ty.e277|exact Ty.e310):y6 Tryz.prog t=some e:=h
theorem rsS{e:TypeId}{r:Option Value×Nat×Nat}(h:C9 Tryz.prog e=some r:=by with_reducible first|exact Ty.r1|exact Ty.r3|exact Ty.r5|exact Ty.r9|exact Ty.r29|exact Ty.r40|exact Ty.r63|exact Ty.r94|exact Ty.r137|exact Ty.r140|exact Ty.r143|exact Ty.r166|exact Ty.r189|exact Ty.r217|exact Ty.r231|exact Ty.r262|exact Ty.r273):C9 Tryz.prog e=some r:=h
theorem zsS{t:TypeId}{l:List Value}(h:w9 Tryz.prog t=some l:=by with_reducible first|exact Ty.z3|exact Ty.z26|exact Ty.z28|exact Ty.z29|exact Ty.z31|exact Ty.z35|exact Ty.z40|exact Ty.z87|exact Ty.z90|exact Ty.z94|exact Ty.z119|exact Ty.z140|exact Ty.z143|exact Ty.z166|exact Ty.z189|exact Ty.z207|exact Ty.z208|exact Ty.z231):w9 Tryz.prog t=some l:=h
section
variable{ops:Array Oper}{Q:Exit->Act->World->Prop}{a a':Act}{w W:World}{L L' R:List HP}{rest:List Oper}{o:Oper}
theorem zl1{t:TypeId}{x:Operand}{b off:Nat}{v:Value}(hS:St W L w)(h:wpList Tryz.prog ops Q rest a' w)(ho:o.op=.load t x:=by with_reducible rfl)(hg:Region.wanted o (yielded ops a.tmps)=true:=by rfl)(hx:a.eval x=.pointer (some ⟨b,off,none⟩):=by rfl)
  (ht:M8 Tryz.prog t=some false:=by decide +kernel) (hc:e8 L b off v:=by exact O8) (ha:a.put o.dst v=a':=by first|(simp only[Act.put,fA,fB,fC,Nat.reduceAdd];rfl)|rfl):wpList Tryz.prog ops Q (o::rest) a w:=
 Rg7 hS ho hg hx ht hc (by rw[ha];exact h)
theorem zlN{t:TypeId}{x:Operand}{b off:Nat}{vs:List Value}(hS:St W L w)(h:wpList Tryz.prog ops Q rest a' w)(ho:o.op=.load t x:=by with_reducible rfl)(hg:Region.wanted o (yielded ops a.tmps)=true:=by rfl)(hx:a.eval x=.pointer (some ⟨b,off,none⟩):=by rfl)
  (ht:M8 Tryz.prog t=some true:=by decide +kernel) (hc:d7 L b off vs:=by exact x9) (hn:E8 Tryz.prog t=some vs.length:=by kernel_rfl) (ha:a.put o.dst (.agg vs.toArray)=a':=by first|(simp only[Act.put,fA,fB,fC,Nat.reduceAdd];rfl)|rfl):wpList Tryz.prog ops Q (o::rest) a w:=
 SX7 hS ho hg hx ht hc hn (by rw[ha];exact h)
theorem zs1{t:TypeId}{x y:Operand}{b off:Nat}{l l':List Value}{T:TypeId}{v:Value}(hS:St W L w)(h:∀w',St W L' w'->wpList Tryz.prog ops Q rest a' w')(ho:o.op=.store t x y:=by with_reducible rfl)(hg:Region.wanted o (yielded ops a.tmps)=true:=by rfl)(hx:a.eval x=.pointer (some ⟨b,off,none⟩):=by rfl)
  (hy:a.eval y=v:=by focus((conv=>lhs;whnf);try rfl)) (hn:E8 Tryz.prog t=some 1:=by kernel_rfl) (hv:v.cells.toList=[v]:=by rfl) (h1:v.oneCell'=true:=by rfl) (hu:Upd L (blk b l T) (blk b l' T) L':=by exact cq4) (hl:off<l.length:=by(simp only[jC,List.length_nil];omega)) (he:l.set off v=l':=by((simp only[List.set_cons_zero,List.set_cons_succ,C6]);rfl))
  (ha:a.put o.dst undef=a':=by first|(simp only[Act.put,fA,fB,fC,Nat.reduceAdd];rfl)|rfl):wpList Tryz.prog ops Q (o::rest) a w:=
 Hr7 hS ho hg hx hy hn hv h1 hu hl he (by rw[ha];exact h)
theorem zsN{t:TypeId}{x y:Operand}{b off:Nat}{l l' vs:List Value}{T:TypeId}(hS:St W L w)(h:∀w',St W L' w'->wpList Tryz.prog ops Q rest a' w')(ho:o.op=.store t x y:=by with_reducible rfl)(hg:Region.wanted o (yielded ops a.tmps)=true:=by rfl)(hx:a.eval x=.pointer (some ⟨b,off,none⟩):=by rfl)
  (hy:a.eval y=.agg vs.toArray:=by focus((conv=>lhs;whnf);try rfl)) (hn:E8 Tryz.prog t=some vs.length:=by kernel_rfl) (h1:vs.all (·.oneCell')=true:=by rfl) (hu:Upd L (blk b l T) (blk b l' T) L':=by exact cq4) (hl:off+vs.length<=l.length:=by(simp only[jC,List.length_nil];omega)) (he:C6 l off vs=l':=by((simp only[List.set_cons_zero,List.set_cons_succ,C6]);rfl))
  (ha:a.put o.dst undef=a':=by first|(simp only[Act.put,fA,fB,fC,Nat.reduceAdd];rfl)|rfl):wpList Tryz.prog ops Q (o::rest) a w:=
 SY7 hS ho hg hx hy hn h1 hu hl he (by rw[ha];exact h)
theorem zbx{t:TypeId}{x:Operand}{v:Value}{l:List Value}{a':Nat->Act}(hS:St W L w)(h:∀b w',St W (blk b l t::L) w'->wpList Tryz.prog ops Q rest (a' b) w')(ho:o.op=.box t x:=by with_reducible rfl)(hg:Region.wanted o (yielded ops a.tmps)=true:=by rfl)(hx:a.eval x=v:=by rfl)(hv:v.cells=l.toArray:=by rfl)
  (ha:∀b,a.put o.dst (.P b)=a' b:=by(intro b;first|(simp only[Act.put,fA,fB,fC,Nat.reduceAdd];rfl)|rfl)):wpList Tryz.prog ops Q (o::rest) a w:=
 Df7 hS ho hg hx hv fun b w' h1=>by rw[ha];exact h b w' h1
theorem zal{t:TypeId}{l:List Value}{a':Nat->Act}(hS:St W L w)(h:∀b w',St W (blk b l t::L) w'->wpList Tryz.prog ops Q rest (a' b) w')(ho:o.op=.alloc t:=by with_reducible rfl)(hg:Region.wanted o (yielded ops a.tmps)=true:=by rfl)(hz:w9 Tryz.prog t=some l:=by exact zsS)
  (ha:∀b,a.put o.dst (.P b)=a' b:=by(intro b;first|(simp only[Act.put,fA,fB,fC,Nat.reduceAdd];rfl)|rfl)):wpList Tryz.prog ops Q (o::rest) a w:=
 Ao7 hS ho hg hz fun b w' h1=>by rw[ha];exact h b w' h1
theorem zbs{t e n:TypeId}{z:Value}{k bytes:Nat}{xs:Array (Nat×Operand)}{parts:List (Nat×Value)}{l:List Value}{a':Nat->Act}(hS:St W L w)(h:∀b w',St W (blk b l e::L) w'->wpList Tryz.prog ops Q rest (a' b) w')(ho:o.op=.buildSlice t n xs:=by with_reducible rfl)(hg:Region.wanted o (yielded ops a.tmps)=true:=by rfl)
  (hx:(xs.map fun(i,x)=>(i,a.eval x))=parts.toArray:=by(simp only[fD,fI,fJ,Act.eval,fE,fF,fG,fH,fK];try rfl)) (ht:y6 Tryz.prog t=some e:=by exact esS) (hi:C9 Tryz.prog e=some (some z,k,bytes):=by exact rsS) (hz:z.cells.size=k:=by rfl) (hn:decide (n*k<=16777216)=true:=by rfl) (hp:az4 k n parts=true:=by rfl) (hl:ba4 k (T8 z n) parts=l:=by rfl)
  (ha:∀b,a.put o.dst (.S b n n)=a' b:=by(intro b;first|(simp only[Act.put,fA,fB,fC,Nat.reduceAdd];rfl)|rfl)):wpList Tryz.prog ops Q (o::rest) a w:=
 eI4 hS ho hg hx ht hi hz hn hp hl fun b w' h1=>by rw[ha];exact h b w' h1
theorem zap{s x:Operand}{t e:TypeId}{z:Value}{k bytes:Nat}{v xv:Value}{n m:Nat}{cs news:List Value}{a':Value->Act}(hS:St W L w)(h:∀v' w',St W (row v' k e (n+m) (cs++news)::R) w'->wpList Tryz.prog ops Q rest (a' v') w')(ho:o.op=.call { callee:=.builtin .append,args:=#[s,x],argTypes:=#[t,t] }:=by with_reducible rfl)
  (hg:Region.wanted o (yielded ops a.tmps)=true:=by rfl) (hs:a.eval s=v:=by rfl) (hx:a.eval x=xv:=by rfl) (ht:y6 Tryz.prog t=some e:=by exact esS) (hi:C9 Tryz.prog e=some (some z,k,bytes):=by exact rsS) (hz:z.cells.size=k:=by rfl) (hk:0<k:=by decide) (hu:Take L (row v k e n cs) R:=by exact g8)
  (hsrc:Src L xv m news:=by exact Src.mk d7.whole) (hl:news.length=m*k:=by(try rfl)) (h1:news.all (·.oneCell')=true:=by rfl) (h63:n+m<=maxLen) (hb:(n+m)*bytes<=140737488355328)
  (ha:∀v,a.put o.dst v=a' v:=by(intro v;first|(simp only[Act.put,fA,fB,fC,Nat.reduceAdd];rfl)|rfl)):wpList Tryz.prog ops Q (o::rest) a w:=
 Aj7 hS ho hg hs hx ht hi hz hk hu hsrc hl h1 h63 hb fun v w' h2=>by rw[ha];exact h v w' h2
end
section
variable{ops:Array Oper}{Q:Act->Prop}{a a':Act}{W:World}{L:List HP}{rest:List Oper}{o:Oper}
theorem zq1{t:TypeId}{x:Operand}{b off:Nat}{v:Value}(h:wpQuiet Tryz.prog ops (St W L) Q rest a')(ho:o.op=.load t x:=by with_reducible rfl)(hg:Region.wanted o (yielded ops a.tmps)=true:=by rfl)(hx:a.eval x=.pointer (some ⟨b,off,none⟩):=by rfl)(ht:M8 Tryz.prog t=some false:=by decide +kernel)(hc:e8 L b off v:=by exact O8)
  (ha:a.put o.dst v=a':=by first|(simp only[Act.put,fA,fB,fC,Nat.reduceAdd];rfl)|rfl):wpQuiet Tryz.prog ops (St W L) Q (o::rest) a:=
 Am7 ho hg hx ht hc (by rw[ha];exact h)
theorem zqN{t:TypeId}{x:Operand}{b off:Nat}{vs:List Value}(h:wpQuiet Tryz.prog ops (St W L) Q rest a')(ho:o.op=.load t x:=by with_reducible rfl)(hg:Region.wanted o (yielded ops a.tmps)=true:=by rfl)(hx:a.eval x=.pointer (some ⟨b,off,none⟩):=by rfl)(ht:M8 Tryz.prog t=some true:=by decide +kernel)(hc:d7 L b off vs:=by exact x9)
  (hn:E8 Tryz.prog t=some vs.length:=by kernel_rfl) (ha:a.put o.dst (.agg vs.toArray)=a':=by first|(simp only[Act.put,fA,fB,fC,Nat.reduceAdd];rfl)|rfl):wpQuiet Tryz.prog ops (St W L) Q (o::rest) a:=
 Fx7 ho hg hx ht hc hn (by rw[ha];exact h)
theorem zqn{x:Operand}{p:Addr}(h:wpQuiet Tryz.prog ops (St W L) Q rest a')(ho:o.op=.nilCheck x:=by with_reducible rfl)(hg:Region.wanted o (yielded ops a.tmps)=true:=by rfl)(hx:a.eval x=.pointer (some p):=by rfl)(ha:a.put o.dst (.pointer (some p))=a':=by first|(simp only[Act.put,fA,fB,fC,Nat.reduceAdd];rfl)|rfl):wpQuiet Tryz.prog ops (St W L) Q (o::rest) a:=
 SZ7 ho hg hx (by rw[ha];exact h)
end
section
variable{W:World}{ops:Array Oper}{t:List Nat}{toks:List Tok}{fresh:Nat->Bool}{pin:Nat->Option Value}{Qf:Act->Prop}{nd:Nat->Value}{i:Nat}{o:Oper}{l:List Oper}{a a':Act}
theorem zcn{x:Operand}{p:Addr}(h:p8 Tryz.prog W ops t toks fresh pin Qf nd (i+1) l a')(hf:fresh i=false:=by rfl)(hn:ah4 toks i=true:=by kernel_rfl)(ho:o.op=.nilCheck x:=by with_reducible rfl)(hg:Region.wanted o (yielded ops a.tmps)=true:=by rfl)(hx:a.eval x=.pointer (some p):=by rfl)
  (ha:a.put o.dst (.pointer (some p))=a':=by first|(simp only[Act.put,fA,fB,fC,Nat.reduceAdd];rfl)|rfl):p8 Tryz.prog W ops t toks fresh pin Qf nd i (o::l) a:=
 Ta7 hf hn ho hg hx (by rw[ha];exact h)
theorem zc1{ty:TypeId}{x:Operand}{b off:Nat}{v:Value}(h:p8 Tryz.prog W ops t toks fresh pin Qf nd (i+1) l a')(hf:fresh i=false:=by rfl)(hn:ah4 toks i=true:=by kernel_rfl)(ho:o.op=.load ty x:=by with_reducible rfl)(hg:Region.wanted o (yielded ops a.tmps)=true:=by rfl)(hx:a.eval x=.pointer (some ⟨b,off,none⟩):=by rfl)
  (ht:M8 Tryz.prog ty=some false:=by decide +kernel) (hc:∀F,e8 (kpL toks t i nd++F) b off v:=by(intro F;exact gb4)) (ha:a.put o.dst v=a':=by first|(simp only[Act.put,fA,fB,fC,Nat.reduceAdd];rfl)|rfl):p8 Tryz.prog W ops t toks fresh pin Qf nd i (o::l) a:=
 IR7 hf hn ho hg hx ht hc (by rw[ha];exact h)
theorem zcN{ty:TypeId}{x:Operand}{b off:Nat}{vs:List Value}(h:p8 Tryz.prog W ops t toks fresh pin Qf nd (i+1) l a')(hf:fresh i=false:=by rfl)(hn:ah4 toks i=true:=by kernel_rfl)(ho:o.op=.load ty x:=by with_reducible rfl)(hg:Region.wanted o (yielded ops a.tmps)=true:=by rfl)(hx:a.eval x=.pointer (some ⟨b,off,none⟩):=by rfl)
  (ht:M8 Tryz.prog ty=some true:=by decide +kernel) (hc:∀F,d7 (kpL toks t i nd++F) b off vs:=by(intro F;exact gc4)) (hz:E8 Tryz.prog ty=some vs.length:=by kernel_rfl) (ha:a.put o.dst (.agg vs.toArray)=a':=by first|(simp only[Act.put,fA,fB,fC,Nat.reduceAdd];rfl)|rfl):p8 Tryz.prog W ops t toks fresh pin Qf nd i (o::l) a:=
 Nn7 hf hn ho hg hx ht hc hz (by rw[ha];exact h)
theorem zca{ty:TypeId}{z:List Value}(h:p8 Tryz.prog W ops t toks fresh pin Qf nd (i+1) l a')(hf:fresh i=true:=by rfl)(ho:o.op=.alloc ty:=by with_reducible rfl)(hg:Region.wanted o (yielded ops a.tmps)=true:=by rfl)(hk:∀v,kpL toks t i (upd nd i v)=kpL toks t i nd:=by(intro _;rfl))(hz:w9 Tryz.prog ty=some z:=by exact zsS)(hc:cnL toks t i nd=[]:=by rfl)
  (hm:∀v,mdL toks i (upd nd i v)=[j6 v z ty]:=by(intro _;rfl)) (ha:a.put o.dst (nd i)=a':=by first|(simp only[Act.put,fA,fB,fC,Nat.reduceAdd];rfl)|rfl):p8 Tryz.prog W ops t toks fresh pin Qf nd i (o::l) a:=
 Pw7 hf ho hg hk hz hc hm (by rw[ha];exact h)
theorem zct{ty:TypeId}{x y:Operand}{pv v:Value}{z z' vs:List Value}{T:TypeId}(h:p8 Tryz.prog W ops t toks fresh pin Qf nd (i+1) l a')(hf:fresh i=false:=by rfl)(ho:o.op=.store ty x y:=by with_reducible rfl)(hg:Region.wanted o (yielded ops a.tmps)=true:=by rfl)(hx:a.eval x=pv:=by focus((conv=>lhs;whnf);try rfl))(hy:a.eval y=v:=by focus((conv=>lhs;whnf);try rfl))(hv:v.cells.toList=vs:=by focus((conv=>lhs;whnf);try rfl))
  (hn:E8 Tryz.prog ty=some vs.length:=by kernel_rfl) (h1:vs.all (·.oneCell')=true:=by rfl) (hc:cnL toks t i nd=[j6 pv z T]:=by rfl) (hl:0+vs.length<=z.length:=by(simp only[jC,List.length_nil];omega)) (he:C6 z 0 vs=z':=by rfl) (hm:mdL toks i nd=[j6 pv z' T]:=by rfl)
  (ha:a.put o.dst undef=a':=by first|(simp only[Act.put,fA,fB,fC,Nat.reduceAdd];rfl)|rfl):p8 Tryz.prog W ops t toks fresh pin Qf nd i (o::l) a:=
 RI7 hf ho hg hx hy hv hn h1 hc hl he hm (by rw[ha];exact h)
theorem zcs{ty:TypeId}{x y:Operand}{v:Value}{b off:Nat}{z z' vs:List Value}{T:TypeId}(h:p8 Tryz.prog W ops t toks fresh pin Qf nd (i+1) l a')(hf:fresh i=false:=by rfl)(ho:o.op=.store ty x y:=by with_reducible rfl)(hg:Region.wanted o (yielded ops a.tmps)=true:=by rfl)(hx:a.eval x=.pointer (some ⟨b,off,none⟩):=by rfl)(hy:a.eval y=v:=by focus((conv=>lhs;whnf);try rfl))(hv:v.cells.toList=vs:=by focus((conv=>lhs;whnf);try rfl))
  (hn:E8 Tryz.prog ty=some vs.length:=by kernel_rfl) (h1:vs.all (·.oneCell')=true:=by rfl) (hc:cnL toks t i nd=[blk b z T]:=by rfl) (hl:off+vs.length<=z.length:=by(simp only[jC,List.length_nil];omega)) (he:C6 z off vs=z':=by rfl) (hm:mdL toks i nd=[blk b z' T]:=by rfl)
  (ha:a.put o.dst undef=a':=by first|(simp only[Act.put,fA,fB,fC,Nat.reduceAdd];rfl)|rfl):p8 Tryz.prog W ops t toks fresh pin Qf nd i (o::l) a:=
 dQ4 hf ho hg hx hy hv hn h1 hc hl he hm (by rw[ha];exact h)
theorem zcv{f:FuncId}{xs:Array Operand}{ats:Array TypeId}{args:Array Value}{v:Value}(h:p8 Tryz.prog W ops t toks fresh pin Qf nd (i+1) l a')(hf:fresh i=false:=by rfl)(hp:pin i=some v:=by rfl)(hg:Region.wanted o (yielded ops a.tmps)=true:=by rfl)
  (ho:o.op=.call { callee:=.value (.func f),args:=xs,argTypes:=ats }:=by with_reducible rfl) (hb:T6 Tryz.prog f=true:=by decide +kernel) (hx:xs.map a.eval=args:=by(simp only[fD,fI,fJ,Act.eval,fE,fF,fG,fH,fK];try rfl))
  (hs:∀F w,St W (cnL toks t i nd++(kpL toks t i nd++F)) w->Calls Tryz.prog f args w fun e w'=>e=.returned v/\St W (mdL toks i nd++(kpL toks t i nd++F)) w')
  (ha:a.put o.dst v=a':=by first|(simp only[Act.put,fA,fB,fC,Nat.reduceAdd];rfl)|rfl):p8 Tryz.prog W ops t toks fresh pin Qf nd i (o::l) a:=
 Px7 hf hp hg ho hb hx hs (by rw[ha];exact h)
end
end Go.Sl
end
section
namespace Go.Proofs.YtlmhakmoioogaaaGreat
open Go.RowKit Go.Sl
structure Ord where
 id:Int
 who:ByteArray
 buy:Bool
 item:Int
 cnt:Int
 price:Int
def Ord.cells(o:Ord):List Value:=[.I o.id,.string o.who,.bool o.buy,.I o.item,.I o.cnt,.I o.price]
theorem Ord.len(o:Ord):o.cells.length=6:=rfl
structure Trd where
 buyer:ByteArray
 seller:ByteArray
 buy:Int
 sell:Int
 item:Int
 cnt:Int
 price:Int
 bid:Int
def Trd.cells(o:Trd):List Value:=[.string o.buyer,.string o.seller,.I o.buy,.I o.sell,.I o.item,.I o.cnt,.I o.price,.I o.bid]
def as4(a b:Int):Int:=if b<a then b else a
def aa4(o s:Ord):Trd:=
 if s.buy then⟨s.who,o.who,s.id,o.id,o.item,as4 o.cnt s.cnt,s.price,s.price⟩else⟨o.who,s.who,o.id,s.id,o.item,as4 o.cnt s.cnt,s.price,o.price⟩
def Q8(a b:Ord):Bool:=if a.price=b.price then decide (a.id<b.id)else(decide (a.price<b.price) != a.buy)
def aB4(a b:Ord):Bool:=if b.buy then decide (a.price<=b.price)else decide (b.price<=a.price)
structure MayP(o:Ord):Prop where
 id0:1<=o.id
 id1:o.id<=1099511627776
 who0:1<=o.who.size
 who1:o.who.size<=16
 item0:1<=o.item
 item1:o.item<=3
 cnt0:1<=o.cnt
 cnt1:o.cnt<=1048576
 price0:1<=o.price
 price1:o.price<=1024
def O5(o:Ord):Bool:=decide (1<=o.id)&&decide (o.id<=1099511627776)&&decide (1<=o.who.size)&&decide (o.who.size<=16)&&decide (1<=o.item)&&decide (o.item<=3)&&decide (1<=o.cnt)&&decide (o.cnt<=1048576)&&decide (1<=o.price)&&decide (o.price<=1024)
theorem AZ7{o:Ord}:O5 o=true↔MayP o:=by simp only[O5,jB,decide_eq_true_eq];exact⟨fun⟨⟨⟨⟨⟨⟨⟨⟨⟨a,b⟩,c⟩,d⟩,e⟩,f⟩,g⟩,h⟩,i⟩,j⟩=>⟨a,b,c,d,e,f,g,h,i,j⟩,fun h=>⟨⟨⟨⟨⟨⟨⟨⟨⟨h.id0,h.id1⟩,h.who0⟩,h.who1⟩,h.item0⟩,h.item1⟩,h.cnt0⟩,h.cnt1⟩,h.price0⟩,h.price1⟩⟩
theorem Ri7(v:Value)(w:World):(Instr.typeAssert (.iface 166 v) 20 166 false).run Tryz.prog w=.ok v w:=by kernel_rfl
theorem Mx7(o s:Ord)(W w:World)(L:List HP)(hS:St W L w):
  Calls Tryz.prog 208 #[.agg o.cells.toArray,.agg s.cells.toArray] w fun e w'=>e=.returned (.agg (aa4 o s).cells.toArray)/\St W L w':=by
 obtain⟨i,u,y,t,c,p⟩:=o;obtain⟨i',u',y',t',c',p'⟩:=s;simp only[Ord.cells];go_enter Tryz.func208,Tryz.ntmps208;go_wp2_with(first|refine zbx hS ?_;clear hS;intro b w hS|refine zal hS ?_;clear hS;intro b w hS)
 refine rf2 [0,0,0,0,13,31] (fun i=>i==2||i==3) [⟨some 2,some 4,fun nd=>j6 (nd 2) [.I 0,.string ⟨#[]⟩,.bool false,.I 0,.I 0,.I 0] 166⟩,⟨some 3,some 5,fun nd=>j6 (nd 3) [.I 0,.string ⟨#[]⟩,.bool false,.I 0,.I 0,.I 0] 166⟩,⟨some 4,none,fun nd=>j6 (nd 2) [.I i,.string u,.bool y,.I t,.I c,.I p] 166⟩,⟨some 5,none,fun nd=>j6 (nd 3) [.I i',.string u',.bool y',.I t',.I c',.I p'] 166⟩]
  [none,none,none] hS ?_
 intro nd;refine zcN ?_;refine zcN ?_;refine zca ?_;refine zca ?_;refine zct ?_;refine zct ?_;refine Ac7 ?_;clear hS;intro w hS;have hS:St W [j6 (nd 2) _ _,j6 (nd 3) _ _,_,_,_,sats L] w:=hS;generalize nd 2=v5 at *;generalize nd 3=v6 at *;have h1:=hS.ptr;clear hS;obtain⟨b5,rfl,hS⟩:=h1;replace hS:=hS.swap;have h1:=hS.ptr;clear hS;obtain⟨b6,rfl,hS⟩:=h1;replace hS:=hS.unpack [_,_,_,_,_];simp only[jK,jN]at hS
 cases y'
 ·go_wp2_with(first|refine zl1 hS ?_|refine zsN hS ?_;clear hS;intro w hS)
  all_goals
   (apply AH7;rfl;rfl;rfl;exact hS;decide +kernel;exact x9;kernel_rfl);exact⟨by simp[aa4,Trd.cells,as4, *],hS.drop.drop.drop.drop.drop⟩
 ·go_wp2_with(first|refine zl1 hS ?_);refine rf2 [0,0,1,7] (fun i=>false) [⟨some 2,none,fun nd=>blk b5 [.I i',.string u',.bool true,.I t',.I c',.I p'] 166⟩,⟨some 3,none,fun nd=>blk b6 [.I i,.string u,.bool y,.I t,.I c,.I p] 166⟩] [some 3,some 2,none,none,none] hS ?_;intro nd;refine zcN ?_;refine zcN ?_;refine zcs ?_;refine zcs ?_;refine Ac7 ?_;clear hS;intro w hS;have hS:St W [blk b5 _ _,blk b6 _ _,_,_,_,sats L] w:=hS;replace hS:=hS.unpack [_,_,_,_,_];simp only[jK,jN]at hS;go_wp2_with(first|refine zl1 hS ?_|refine zsN hS ?_;clear hS;intro w hS)
  all_goals
   (apply AH7;rfl;rfl;rfl;exact hS;decide +kernel;exact x9;kernel_rfl);exact⟨by simp[aa4,Trd.cells,as4, *],hS.drop.drop.drop.drop.drop⟩
theorem Gp7(o s:Ord)(W w:World)(L:List HP)(hS:St W L w):
  Calls Tryz.prog 205 #[.agg o.cells.toArray,.agg s.cells.toArray] w fun e w'=>e=.returned (.bool (aB4 o s))/\St W L w':=by
 obtain⟨i,u,y,t,c,p⟩:=o;obtain⟨i',u',y',t',c',p'⟩:=s;simp only[Ord.cells];go_enter Tryz.func205,Tryz.ntmps205;go_wp2_with(first|refine zl1 hS ?_|refine zlN hS ?_|refine zsN hS ?_;clear hS;intro w hS|refine zbx hS ?_;clear hS;intro b w hS)
 all_goals go_ret
 all_goals exact⟨by simp[aB4, *],hS.drop.drop⟩
theorem No7(xs:List Ord)(junk:List Value)(g n cap i j:Nat)(hn:xs.length=n)(hi:i<xs.length)(hj:j<xs.length)(hcap:n<=cap)(hm:cap<=maxLen)(W w:World)(L:List HP)(hS:St W (blk g (xs.flatMap Ord.cells++junk) 166::L) w):
  Calls Tryz.prog 297 #[.S g n cap,.I i,.I j] w fun e w'=>e=.returned (.bool (Q8 xs[i] xs[j]))/\St W (blk g (xs.flatMap Ord.cells++junk) 166::L) w':=by
 subst hn;unfold maxLen at hm;go_enter Tryz.func297,Tryz.ntmps297;go_wp2_with(fail)
 refine rf2 [0,0,3,7,0,0,48,112,0,0,783,2047] (fun i=>i==8||i==9) [⟨some 8,some 10,fun nd=>j6 (nd 8) [.I 0,.string ⟨#[]⟩,.bool false,.I 0,.I 0,.I 0] 166⟩,⟨some 9,some 11,fun nd=>j6 (nd 9) [.I 0,.string ⟨#[]⟩,.bool false,.I 0,.I 0,.I 0] 166⟩,⟨some 10,none,fun nd=>j6 (nd 8) xs[i].cells 166⟩,⟨some 11,none,fun nd=>j6 (nd 9) xs[j].cells 166⟩]
  [none] hS ?_
 intro nd;refine cR ?_;refine cR ?_;refine cR ?_;apply Nn7;rfl;kernel_rfl;rfl;rfl;rfl;decide +kernel;intro F;exact d7.elem Ord.len hi;kernel_rfl;refine frS ?_;refine cR ?_;refine cR ?_;refine cR ?_;apply Nn7;rfl;kernel_rfl;rfl;rfl;rfl;decide +kernel;intro F;exact d7.elem Ord.len hj;kernel_rfl;refine frS ?_;refine zca ?_;refine zca ?_;refine zct ?_;refine zct ?_;refine Ac7 ?_;clear hS;intro w hS;have hS:St W [j6 (nd 8) xs[i].cells _,j6 (nd 9) xs[j].cells _,_,sats L] w:=hS;generalize nd 8=v8 at *;generalize nd 9=v9 at *;have h1:=hS.ptr;clear hS;obtain⟨b8,rfl,hS⟩:=h1;replace hS:=hS.swap;have h1:=hS.ptr;clear hS;obtain⟨b9,rfl,hS⟩:=h1;replace hS:=hS.unpack [_,_,_];simp only[jK,jN]at hS;generalize ha:xs[i]=a at hS;generalize hb:xs[j]=b at hS;have Ha:=jH ha;have Hb:=jH hb;clear ha hb;obtain⟨i1,u1,y1,t1,c1,p1⟩:=a;obtain⟨i2,u2,y2,t2,c2,p2⟩:=b;simp only[Ord.cells]at hS;by_cases hp:p1=p2
 ·subst hp;go_wp2_with(first|refine zl1 hS ?_);go_ret;exact⟨by rw[Ha.out,Hb.out];simp[Q8],hS.drop.drop⟩
 ·have hp':(p1==p2)=false:=by simpa using hp
  have hp'':(p1 != p2)=true:=by simpa using hp
  go_wp2_with(first|refine zl1 hS ?_);go_ret;exact⟨by rw[Ha.out,Hb.out];simp[Q8,hp];cases decide (p1<p2) <;> cases y1 <;> rfl,hS.drop.drop⟩
theorem BV7{xs:List Ord}{i j:Nat}{hi:i<xs.length}{hj:j<xs.length}{b:Bool}(hb:Q8 xs[i] xs[j]=b)(junk:List Value)(g n cap:Nat)(hn:xs.length=n)(hcap:n<=cap)(hm:cap<=maxLen)(W w:World)(L:List HP)(hS:St W (blk g (xs.flatMap Ord.cells++junk) 166::L) w):
  Calls Tryz.prog 297 #[.S g n cap,.I i,.I j] w fun e w'=>e=.returned (.bool b)/\St W (blk g (xs.flatMap Ord.cells++junk) 166::L) w':=by
 subst hb;exact No7 xs junk g n cap i j hn hi hj hcap hm W w L hS
end Go.Proofs.YtlmhakmoioogaaaGreat
end
section
namespace Go.Sl
open Go.RowKit
section
variable{P:Program}{ops:Array Oper}{Q:Exit->Act->World->Prop}{a:Act}{w:World}{rest:List Oper}{o:Oper}
theorem AM7{t:TypeId}{x y:Operand}{u i v:Value}(ho:o.op=.index t x y)(hg:Region.wanted o (yielded ops a.tmps)=true)(hx:a.eval x=u)(hy:a.eval y=i)(hr:∀w:World,(Instr.index t u i).run P w=.ok v w)
  (h:wpList P ops Q rest (a.put o.dst v) w):wpList P ops Q (o::rest) a w:=by
 refine Ak7 hg (v:=v) (w':=w) ?_ h;unfold execOp;simp only[ho,hx,hy,Sem.run_bind,hr,Result.andThen_ok,Sem.run_pure]
end
end Go.Sl
namespace Go.Proofs.YtlmhakmoioogaaaGreat
open Go.RowKit Go.Sl
theorem R8(a0 a1 a2 a3:Value)(w:World):(Instr.index 29 (.agg #[a0,a1,a2,a3]) (.I 0)).run Tryz.prog w=.ok a0 w:=by kernel_rfl
theorem R9(a0 a1 a2 a3:Value)(w:World):(Instr.index 29 (.agg #[a0,a1,a2,a3]) (.I 1)).run Tryz.prog w=.ok a1 w:=by kernel_rfl
theorem S5(a0 a1 a2 a3:Value)(w:World):(Instr.index 29 (.agg #[a0,a1,a2,a3]) (.I 2)).run Tryz.prog w=.ok a2 w:=by kernel_rfl
theorem S6(a0 a1 a2 a3:Value)(w:World):(Instr.index 29 (.agg #[a0,a1,a2,a3]) (.I 3)).run Tryz.prog w=.ok a3 w:=by kernel_rfl
structure It where
 x0:Int
 x1:Int
 x2:Int
 x3:Int
def It.cells(i:It):List Value:=[.I i.x0,.I i.x1,.I i.x2,.I i.x3]
theorem It.len(i:It):i.cells.length=4:=rfl
def it0:It:=⟨0,0,0,0⟩
def inH(n:Int):Bool:=decide (0<=n)&&decide (n<=1152921504606846976)
theorem Ca7{n:Int}:inH n=true↔0<=n/\n<=1152921504606846976:=by unfold inH;simp
theorem Dl7{n:Int}(h:n<0):inH n=false:=by unfold inH;simp;omega
theorem Cu7{n:Int}(h:1152921504606846976<n):inH n=false:=by unfold inH;simp;omega
def w8(i:It):Bool:=inH i.x0&&(inH i.x1&&(inH i.x2&&inH i.x3))
def IsR(W:World)(L:List HP)(i:It)(v:Value)(w:World):Prop:=
 St W L w/\(v=.I 0\/(v=.I 1/\inH i.x0=true)\/(v=.I 2/\inH i.x0=true/\inH i.x1=true)\/(v=.I 3/\inH i.x0=true/\inH i.x1=true/\inH i.x2=true)\/(v=.I 4/\inH i.x0=true/\inH i.x1=true/\inH i.x2=true/\inH i.x3=true))
theorem Np7(i:It)(W w:World)(R:List HP)(hS:St W R w):
  Calls Tryz.prog 126 #[.agg i.cells.toArray] w fun e w'=>e=.returned (.bool (w8 i))/\St W R w':=by
 obtain⟨x0,x1,x2,x3⟩:=i;simp only[It.cells];go_enter Tryz.func126,Tryz.ntmps126;go_wp2_with(first|refine zlN hS ?_|refine zbx hS ?_;clear hS;intro b w hS)
 go_loopw [6] (fun v wr=>IsR W (blk b [.I x0,.I x1,.I x2,.I x3] 29::R) ⟨x0,x1,x2,x3⟩ v wr) (fun v _=>4-(intOf v).toNat)
 case atStart=>exact⟨hS,.inl rfl⟩
 case round=>
  clear hS;obtain⟨hS,hk⟩:=hrel;simp only at hk
  rcases hk with rfl|⟨rfl,q0⟩|⟨rfl,q0,q1⟩|⟨rfl,q0,q1,q2⟩|⟨rfl,q0,q1,q2,q3⟩
  ·skip
   by_cases h1:x0<0
   ·have hx:=Dl7 h1;go_wp2_with(first|(with_reducible apply AM7);rfl;rfl;rfl;rfl;(first|exact R8 _ _ _ _|exact R9 _ _ _ _|exact S5 _ _ _ _|exact S6 _ _ _ _);refine frS ?_);go_ret;refine⟨by simp only[w8,hx,Bool.false_and,Bool.and_false,hx];rfl,hS.drop⟩
   ·have d1:decide (x0<0)=false:=by simpa using h1
    by_cases h2:1152921504606846976<x0
    ·have hx:=Cu7 h2;go_wp2_with(first|(with_reducible apply AM7);rfl;rfl;rfl;rfl;(first|exact R8 _ _ _ _|exact R9 _ _ _ _|exact S5 _ _ _ _|exact S6 _ _ _ _);refine frS ?_);go_ret;refine⟨by simp only[w8,hx,Bool.false_and,Bool.and_false,hx];rfl,hS.drop⟩
    ·have d2:decide (1152921504606846976<x0)=false:=by simpa using h2
     have hx:inH x0=true:=Ca7.2 ⟨by omega,by omega⟩;clear h1 h2;go_wp2_with(first|(with_reducible apply AM7);rfl;rfl;rfl;rfl;(first|exact R8 _ _ _ _|exact R9 _ _ _ _|exact S5 _ _ _ _|exact S6 _ _ _ _);refine frS ?_);go_roundw
     case rel=>exact⟨hS,.inr (.inl ⟨rfl,hx⟩)⟩
     case measure=>simp[intOf]
  ·skip
   by_cases h1:x1<0
   ·have hx:=Dl7 h1;go_wp2_with(first|(with_reducible apply AM7);rfl;rfl;rfl;rfl;(first|exact R8 _ _ _ _|exact R9 _ _ _ _|exact S5 _ _ _ _|exact S6 _ _ _ _);refine frS ?_);go_ret;refine⟨by simp only[w8,hx,Bool.false_and,Bool.and_false,q0];rfl,hS.drop⟩
   ·have d1:decide (x1<0)=false:=by simpa using h1
    by_cases h2:1152921504606846976<x1
    ·have hx:=Cu7 h2;go_wp2_with(first|(with_reducible apply AM7);rfl;rfl;rfl;rfl;(first|exact R8 _ _ _ _|exact R9 _ _ _ _|exact S5 _ _ _ _|exact S6 _ _ _ _);refine frS ?_);go_ret;refine⟨by simp only[w8,hx,Bool.false_and,Bool.and_false,q0];rfl,hS.drop⟩
    ·have d2:decide (1152921504606846976<x1)=false:=by simpa using h2
     have hx:inH x1=true:=Ca7.2 ⟨by omega,by omega⟩;clear h1 h2;go_wp2_with(first|(with_reducible apply AM7);rfl;rfl;rfl;rfl;(first|exact R8 _ _ _ _|exact R9 _ _ _ _|exact S5 _ _ _ _|exact S6 _ _ _ _);refine frS ?_);go_roundw
     case rel=>exact⟨hS,.inr (.inr (.inl ⟨rfl,q0,hx⟩))⟩
     case measure=>simp[intOf]
  ·skip
   by_cases h1:x2<0
   ·have hx:=Dl7 h1;go_wp2_with(first|(with_reducible apply AM7);rfl;rfl;rfl;rfl;(first|exact R8 _ _ _ _|exact R9 _ _ _ _|exact S5 _ _ _ _|exact S6 _ _ _ _);refine frS ?_);go_ret;refine⟨by simp only[w8,hx,Bool.false_and,Bool.and_false,q0];rfl,hS.drop⟩
   ·have d1:decide (x2<0)=false:=by simpa using h1
    by_cases h2:1152921504606846976<x2
    ·have hx:=Cu7 h2;go_wp2_with(first|(with_reducible apply AM7);rfl;rfl;rfl;rfl;(first|exact R8 _ _ _ _|exact R9 _ _ _ _|exact S5 _ _ _ _|exact S6 _ _ _ _);refine frS ?_);go_ret;refine⟨by simp only[w8,hx,Bool.false_and,Bool.and_false,q0];rfl,hS.drop⟩
    ·have d2:decide (1152921504606846976<x2)=false:=by simpa using h2
     have hx:inH x2=true:=Ca7.2 ⟨by omega,by omega⟩;clear h1 h2;go_wp2_with(first|(with_reducible apply AM7);rfl;rfl;rfl;rfl;(first|exact R8 _ _ _ _|exact R9 _ _ _ _|exact S5 _ _ _ _|exact S6 _ _ _ _);refine frS ?_);go_roundw
     case rel=>exact⟨hS,.inr (.inr (.inr (.inl ⟨rfl,q0,q1,hx⟩)))⟩
     case measure=>simp[intOf]
  ·skip
   by_cases h1:x3<0
   ·have hx:=Dl7 h1;go_wp2_with(first|(with_reducible apply AM7);rfl;rfl;rfl;rfl;(first|exact R8 _ _ _ _|exact R9 _ _ _ _|exact S5 _ _ _ _|exact S6 _ _ _ _);refine frS ?_);go_ret;refine⟨by simp only[w8,hx,Bool.false_and,Bool.and_false,q0];rfl,hS.drop⟩
   ·have d1:decide (x3<0)=false:=by simpa using h1
    by_cases h2:1152921504606846976<x3
    ·have hx:=Cu7 h2;go_wp2_with(first|(with_reducible apply AM7);rfl;rfl;rfl;rfl;(first|exact R8 _ _ _ _|exact R9 _ _ _ _|exact S5 _ _ _ _|exact S6 _ _ _ _);refine frS ?_);go_ret;refine⟨by simp only[w8,hx,Bool.false_and,Bool.and_false,q0];rfl,hS.drop⟩
    ·have d2:decide (1152921504606846976<x3)=false:=by simpa using h2
     have hx:inH x3=true:=Ca7.2 ⟨by omega,by omega⟩;clear h1 h2;go_wp2_with(first|(with_reducible apply AM7);rfl;rfl;rfl;rfl;(first|exact R8 _ _ _ _|exact R9 _ _ _ _|exact S5 _ _ _ _|exact S6 _ _ _ _);refine frS ?_);go_roundw
     case rel=>exact⟨hS,.inr (.inr (.inr (.inr ⟨rfl,q0,q1,q2,hx⟩)))⟩
     case measure=>simp[intOf]
  ·go_wp2_with(fail);go_ret;refine⟨by simp only[w8,q0,q1,q2,q3];rfl,hS.drop⟩
def aW4(a b:It):Bool:=decide (a.x0<b.x0)||(decide (a.x1<b.x1)||(decide (a.x2<b.x2)||decide (a.x3<b.x3)))
def LsR(W:World)(L:List HP)(a b:It)(v:Value)(w:World):Prop:=
 St W L w/\(v=.I 0\/(v=.I 1/\decide (a.x0<b.x0)=false)\/(v=.I 2/\decide (a.x0<b.x0)=false/\decide (a.x1<b.x1)=false)\/(v=.I 3/\decide (a.x0<b.x0)=false/\decide (a.x1<b.x1)=false/\decide (a.x2<b.x2)=false)\/(v=.I 4/\decide (a.x0<b.x0)=false/\decide (a.x1<b.x1)=false/\decide (a.x2<b.x2)=false/\decide (a.x3<b.x3)=false))
theorem RJ7(i j:It)(W w:World)(R:List HP)(hS:St W R w):
  Calls Tryz.prog 202 #[.agg i.cells.toArray,.agg j.cells.toArray] w fun e w'=>e=.returned (.bool (aW4 i j))/\St W R w':=by
 obtain⟨x0,x1,x2,x3⟩:=i;obtain⟨y0,y1,y2,y3⟩:=j;simp only[It.cells];go_enter Tryz.func202,Tryz.ntmps202;go_wp2_with(first|refine zlN hS ?_|refine zbx hS ?_;clear hS;intro b w hS)
 rename_i bA w1 K1 hK1
 go_loopw [8] (fun v wr=>LsR W (blk b [.I y0,.I y1,.I y2,.I y3] 29::blk bA [.I x0,.I x1,.I x2,.I x3] 29::R) ⟨x0,x1,x2,x3⟩ ⟨y0,y1,y2,y3⟩ v wr) (fun v _=>4-(intOf v).toNat)
 case atStart=>exact⟨hS,.inl rfl⟩
 case round=>
  clear hS;obtain⟨hS,hk⟩:=hrel;simp only at hk
  rcases hk with rfl|⟨rfl,q0⟩|⟨rfl,q0,q1⟩|⟨rfl,q0,q1,q2⟩|⟨rfl,q0,q1,q2,q3⟩
  ·skip
   by_cases h1:x0<y0
   ·have hx:decide (x0<y0)=true:=by simpa using h1
    go_wp2_with(first|(with_reducible apply AM7);rfl;rfl;rfl;rfl;(first|exact R8 _ _ _ _|exact R9 _ _ _ _|exact S5 _ _ _ _|exact S6 _ _ _ _);refine frS ?_|refine zl1 hS ?_);go_ret;refine⟨by simp only[aW4,hx,Bool.true_or,Bool.or_true];rfl,hS.drop.drop⟩
   ·have hx:decide (x0<y0)=false:=by simpa using h1
    clear h1;go_wp2_with(first|(with_reducible apply AM7);rfl;rfl;rfl;rfl;(first|exact R8 _ _ _ _|exact R9 _ _ _ _|exact S5 _ _ _ _|exact S6 _ _ _ _);refine frS ?_|refine zl1 hS ?_);go_roundw
    case rel=>exact⟨hS,.inr (.inl ⟨rfl,hx⟩)⟩
    case measure=>simp[intOf]
  ·skip
   by_cases h1:x1<y1
   ·have hx:decide (x1<y1)=true:=by simpa using h1
    go_wp2_with(first|(with_reducible apply AM7);rfl;rfl;rfl;rfl;(first|exact R8 _ _ _ _|exact R9 _ _ _ _|exact S5 _ _ _ _|exact S6 _ _ _ _);refine frS ?_|refine zl1 hS ?_);go_ret;refine⟨by simp only[aW4,hx,Bool.true_or,Bool.or_true];rfl,hS.drop.drop⟩
   ·have hx:decide (x1<y1)=false:=by simpa using h1
    clear h1;go_wp2_with(first|(with_reducible apply AM7);rfl;rfl;rfl;rfl;(first|exact R8 _ _ _ _|exact R9 _ _ _ _|exact S5 _ _ _ _|exact S6 _ _ _ _);refine frS ?_|refine zl1 hS ?_);go_roundw
    case rel=>exact⟨hS,.inr (.inr (.inl ⟨rfl,q0,hx⟩))⟩
    case measure=>simp[intOf]
  ·skip
   by_cases h1:x2<y2
   ·have hx:decide (x2<y2)=true:=by simpa using h1
    go_wp2_with(first|(with_reducible apply AM7);rfl;rfl;rfl;rfl;(first|exact R8 _ _ _ _|exact R9 _ _ _ _|exact S5 _ _ _ _|exact S6 _ _ _ _);refine frS ?_|refine zl1 hS ?_);go_ret;refine⟨by simp only[aW4,hx,Bool.true_or,Bool.or_true];rfl,hS.drop.drop⟩
   ·have hx:decide (x2<y2)=false:=by simpa using h1
    clear h1;go_wp2_with(first|(with_reducible apply AM7);rfl;rfl;rfl;rfl;(first|exact R8 _ _ _ _|exact R9 _ _ _ _|exact S5 _ _ _ _|exact S6 _ _ _ _);refine frS ?_|refine zl1 hS ?_);go_roundw
    case rel=>exact⟨hS,.inr (.inr (.inr (.inl ⟨rfl,q0,q1,hx⟩)))⟩
    case measure=>simp[intOf]
  ·skip
   by_cases h1:x3<y3
   ·have hx:decide (x3<y3)=true:=by simpa using h1
    go_wp2_with(first|(with_reducible apply AM7);rfl;rfl;rfl;rfl;(first|exact R8 _ _ _ _|exact R9 _ _ _ _|exact S5 _ _ _ _|exact S6 _ _ _ _);refine frS ?_|refine zl1 hS ?_);go_ret;refine⟨by simp only[aW4,hx,Bool.true_or,Bool.or_true];rfl,hS.drop.drop⟩
   ·have hx:decide (x3<y3)=false:=by simpa using h1
    clear h1;go_wp2_with(first|(with_reducible apply AM7);rfl;rfl;rfl;rfl;(first|exact R8 _ _ _ _|exact R9 _ _ _ _|exact S5 _ _ _ _|exact S6 _ _ _ _);refine frS ?_|refine zl1 hS ?_);go_roundw
    case rel=>exact⟨hS,.inr (.inr (.inr (.inr ⟨rfl,q0,q1,q2,hx⟩)))⟩
    case measure=>simp[intOf]
  ·go_wp2_with(fail);go_ret;refine⟨by simp only[aW4,q0,q1,q2,q3];rfl,hS.drop.drop⟩
end Go.Proofs.YtlmhakmoioogaaaGreat
end
