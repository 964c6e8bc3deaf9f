/-
  A row that is only read.
-/
import Derived.Test.YtjcfifkjbaffnaaGreatPkQM2
import Derived.Test.YtjcfifkjbaffnaaGreatPkQM3
import Derived.Test.YtjcfifkjbaffnaaGreatPkQM4
import Derived.MapKept
import Derived.Maps.RangeRun
set_option maxHeartbeats 16000000
set_option maxRecDepth 100000
set_option linter.unusedSimpArgs false
set_option linter.unusedVariables false
section
namespace Go.Sl
open Go.RowKit
section
variable{W w:World}{L:List HP}{a:Option Addr}{v:Value}{k n c g off:Nat}{T:TypeId}{cs:List Value}
theorem St.rowAddr(h:St W (row (.slice a n c) k T n cs::L) w)(hn:0<n):(∃g,a=some ⟨g,0,none⟩)/\c<=9223372036854775807/\n<=c:=by
 rcases h.rowOpen with ⟨_,h0,_⟩|⟨g,cap,junk,hv,hn1,hm1,_⟩
 ·omega
 ·injection hv with e1 e2 e3
  subst e3;exact⟨⟨g,e1⟩,hm1,hn1⟩
theorem a8.row(hn:0<n)(h:cs[off]? = some v):a8 (Sl.row (.S g n c) k T n cs::L) g off v:=fun W w hS=>by
 rcases hS.rowOpen with ⟨_,h0,_⟩|⟨g',cap,junk,hv,hn1,hm1,hj1,hl1,hS'⟩
 ·omega
 ·injection hv with e1 e2 e3
  injection e1 with e1
  injection e1 with e1
  subst e1;exact hS'.cell .head (by rw[List.getElem?_append_left (List.getElem?_eq_some_iff.1 h).1];exact h)
end
section
variable{P:Program}{W:World}{ops:Array Oper}{t:List Nat}{toks:List Tok}{fresh:Nat->Bool}{pin:Nat->Option Value}{Qf:Act->Prop}{nd:Nat->Value}{i:Nat}{o:Oper}{l:List Oper}{a:Act}
end
end Go.Sl
end
section
namespace Go.Sl
open Go.RowKit
inductive Suf:List HP->List HP->Prop
 | refl {L:List HP}:Suf L L
 | tail {X:HP} {L L':List HP} (h:Suf L L'):Suf (X::L) L'
inductive Sel:List HP->List HP->Prop
 | done {L L':List HP} (h:Suf L L'):Sel L L'
 | cons {A:HP} {L L1 L':List HP} (t:Take L A L1) (s:Sel L1 L'):Sel L (A::L')
theorem HD7{L L':List HP}(s:Suf L L'):∀{h:t7},sats L h->sats L' h:=by
 induction s with
 | refl=>exact fun h=>h
 | tail _ ih=>exact fun⟨S,_,h2⟩=>ih (AW7 h2)
theorem Sel.sats{L L':List HP}(s:Sel L L'):∀{h:t7},Sl.sats L h->Sl.sats L' h:=by
 induction s with
 | done h=>exact HD7 h
 | cons t _ ih=>exact fun h=>AH7 (fun _ x=>x) (fun _ x=>ih x) (t.sats h)
theorem St.sel{W w:World}{L L':List HP}(h:St W L w)(s:Sel L L'):St W L' w:=⟨h.os,h.tape,h.output,s.sats h.sat⟩
end Go.Sl
end
section
namespace Go.Sl
open Go.RowKit
section
variable{W w:World}{L:List HP}{a:Option Addr}{v:Value}{k n c g off:Nat}{T:TypeId}{cs news:List Value}
theorem a8.rowS(h:cs[off]? = some v):a8 (Sl.row (.S g n c) k T n cs::L) g off v:=fun W w hS=>by
 rcases hS.rowOpen with ⟨hv,_⟩|⟨g',cap,junk,hv,hn1,hm1,hj1,hl1,hS'⟩
 ·cases hv
 ·injection hv with e1 e2 e3
  injection e1 with e1
  injection e1 with e1
  subst e1;exact hS'.cell .head (by rw[List.getElem?_append_left (List.getElem?_eq_some_iff.1 h).1];exact h)
theorem a8.rowM{L':List HP}(hu:Take L (Sl.row (.S g n c) k T n cs) L')(h:cs[off]? = some v):a8 L g off v:=fun W w hS=>a8.rowS h W w (hS.take hu)
theorem a7.rowM{L':List HP}(hu:Take L (Sl.row (.S g n c) k T n cs) L')(h:∀j u,news[j]? = some u->cs[off+j]? = some u):a7 L g off news:=fun j v hj=>a8.rowM hu (h j v hj)
theorem a7.elemM{α:Type}{enc:α->List Value}(henc:∀x,(enc x).length=k){xs:List α}{i:Nat}{L':List HP}(hu:Take L (Sl.row (.S g xs.length c) k T xs.length (xs.flatMap enc)) L')(h:i<xs.length):a7 L g (i*k) (enc xs[i]):=
 a7.rowM hu fun j u hj=>by have hl:j<(enc xs[i]).length:=(List.getElem?_eq_some_iff.1 hj).1;have:=AX7 henc xs [] i h j (by rwa [henc]at hl);rw[List.append_nil]at this;rw[this];exact hj
end
section
variable{P:Program}{ops:Array Oper}{Q:Exit->Act->World->Prop}{a:Act}{w:World}{W:World}{L R:List HP}{rest:List Oper}{o:Oper}
theorem Ci7{t e n:TypeId}{z:Value}{k bytes:Nat}{xs:Array (Nat×Operand)}{parts:List (Nat×Value)}{l:List Value}(hS:St W L w)(ho:o.op=.buildSlice t n xs)(hg:Region.wanted o (yielded ops a.tmps)=true)(hx:(xs.map fun(i,x)=>(i,a.eval x))=parts.toArray)
  (ht:j5 P t=some e) (hi:k8 P e=some (some z,k,bytes)) (hz:z.cells.size=k) (hn:decide (n*k<=16777216)=true) (hp:C9 k n parts=true) (hl:F7 k (y9 z n) parts=l) (hll:l.length=n*k) (hn63:n<=maxLen)
  (h:∀v w',St W (row v k e n l::L) w'->wpList P ops Q rest (a.put o.dst v) w'):wpList P ops Q (o::rest) a w:=by
 obtain⟨b,w',hr,hS'⟩:=Es7 (P:=P) hS ho hx ht hi hz hn hp hl;refine Al7 hg hr (h _ w' ?_);have h3:St W (blk b (l++[]) e::L) w':=by rw[List.append_nil];exact hS'
 exact St.rowShut h3 (Nat.le_refl _) hn63 (by rw[List.append_nil];exact hll) hll
end
end Go.Sl
end
section
namespace Go.Sl
open Go.RowKit Go.Proofs Go.Proofs.YtjcfifkjbaffnaaGreat
theorem frS{p p':Prop}(h:p')(e:p=p':=by(simp only[Act.put,fA,fB,fC,Nat.reduceAdd];rfl)):p:=e▸h
theorem d7{L L':List HP}{X:HP}(h:Take L X L':=by(focus((repeat(first|exact .head|apply Take.tail));done))):Take L X L':=h
theorem bJ4{L L':List HP}{X:HP}(h:Take L X L':=by with_reducible (focus((repeat(first|exact .head|apply Take.tail));done))):Take L X L':=h
theorem bu4{L L':List HP}{X Y:HP}(h:Upd L X Y L':=by(focus((repeat(first|exact Upd.head|apply Upd.tail));done))):Upd L X Y L':=h
theorem b8{L:List HP}{X:HP}(h:Mem X L:=by with_reducible (focus((repeat(first|exact Mem.head|apply Mem.tail));done))):Mem X L:=h
theorem bv4{L:List HP}{b off:Nat}{v:Value}(h:a8 L b off v:=by first|(focus((repeat(first|exact a8.here rfl|apply a8.there));done))|assumption):a8 L b off v:=h
theorem s9{L:List HP}{b off:Nat}{vs:List Value}(h:a7 L b off vs:=by first|(focus((repeat(first|exact a7.whole|apply a7.there));done))|assumption):a7 L b off vs:=h
theorem bK4{L:List HP}{b off:Nat}{v:Value}(h:a8 L b off v:=by first|exact a8.here rfl|exact a8.there (a8.here rfl)|exact a8.there (a8.there (a8.here rfl))|exact a8.there (a8.there (a8.there (a8.here rfl)))|exact a8.there (a8.there (a8.there (a8.there (a8.here rfl))))|exact a8.there (a8.there (a8.there (a8.there (a8.there (a8.here rfl)))))|exact a8.there (a8.there (a8.there (a8.there (a8.there (a8.there (a8.here rfl))))))|assumption):a8 L b off v:=h
theorem bL4{L:List HP}{b off:Nat}{vs:List Value}(h:a7 L b off vs:=by first|exact a7.whole|exact a7.there a7.whole|exact a7.there (a7.there a7.whole)|exact a7.there (a7.there (a7.there a7.whole))|exact a7.there (a7.there (a7.there (a7.there a7.whole)))|exact a7.there (a7.there (a7.there (a7.there (a7.there a7.whole))))|exact a7.there (a7.there (a7.there (a7.there (a7.there (a7.there a7.whole)))))|assumption):a7 L b off vs:=h
theorem I7{L L':List HP}{X:HP}(h:Take L X L':=by first|exact Take.head|exact Take.tail Take.head|exact Take.tail (Take.tail Take.head)|exact Take.tail (Take.tail (Take.tail Take.head))|exact Take.tail (Take.tail (Take.tail (Take.tail Take.head)))|exact Take.tail (Take.tail (Take.tail (Take.tail (Take.tail Take.head))))|exact Take.tail (Take.tail (Take.tail (Take.tail (Take.tail (Take.tail Take.head)))))):Take L X L':=h
theorem bM4{L L':List HP}(h:Sel L L':=by(repeat' (first|(with_reducible first|exact Sel.done Suf.refl|exact Sel.done (Suf.tail Suf.refl)|exact Sel.done (Suf.tail (Suf.tail Suf.refl))|exact Sel.done (Suf.tail (Suf.tail (Suf.tail Suf.refl)))|(apply Sel.done;(focus((repeat(first|exact Suf.refl|apply Suf.tail));done))))|(refine Sel.cons (by exact bJ4) ?_)))):Sel L L':=h
theorem St.s{W w:World}{L:List HP}(h:St W L w)(L':List HP)(s:Sel L L':=by exact bM4):St W L' w:=h.sel s
theorem esS{t e:TypeId}(h:j5 Tryz.prog t=some e:=by with_reducible first|exact Ty.e22|exact Ty.e25|exact Ty.e26|exact Ty.e31|exact Ty.e38|exact Ty.e46|exact Ty.e97|exact Ty.e103|exact Ty.e114|exact Ty.e126):j5 Tryz.prog t=some e:=h
theorem rsS{e:TypeId}{r:Option Value×Nat×Nat}(h:k8 Tryz.prog e=some r:=by with_reducible first|exact Ty.r3|exact Ty.r5|exact Ty.r34|exact Ty.r46|exact Ty.r53|exact Ty.r55|exact Ty.r64|exact Ty.r71|exact Ty.r75|exact Ty.r96):k8 Tryz.prog e=some r:=h
theorem zsS{t:TypeId}{l:List Value}(h:j7 Tryz.prog t=some l:=by with_reducible first|exact Ty.z3|exact Ty.z24|exact Ty.z34|exact Ty.z53|exact Ty.z55|exact Ty.z71|exact Ty.z80|exact Ty.z96|exact Ty.z122):j7 Tryz.prog t=some l:=h
section
variable{ops:Array Oper}{Q:Exit->Act->World->Prop}{a a':Act}{w W:World}{L L' R:List HP}{rest:List Oper}{o:Oper}
theorem zl1{t:TypeId}{x:Operand}{b off:Nat}{v:Value}(hS:St W L w)(h:wpList Tryz.prog ops Q rest a' w)(ho:o.op=.load t x:=by with_reducible rfl)(hg:Region.wanted o (yielded ops a.tmps)=true:=by rfl)(hx:a.eval x=.pointer (some ⟨b,off,none⟩):=by rfl)
  (ht:m7 Tryz.prog t=some false:=by decide +kernel) (hc:a8 L b off v:=by exact bv4) (ha:a.put o.dst v=a':=by first|(simp only[Act.put,fA,fB,fC,Nat.reduceAdd];rfl)|rfl):wpList Tryz.prog ops Q (o::rest) a w:=
 JE7 hS ho hg hx ht hc (by rw[ha];exact h)
theorem zlN{t:TypeId}{x:Operand}{b off:Nat}{vs:List Value}(hS:St W L w)(h:wpList Tryz.prog ops Q rest a' w)(ho:o.op=.load t x:=by with_reducible rfl)(hg:Region.wanted o (yielded ops a.tmps)=true:=by rfl)(hx:a.eval x=.pointer (some ⟨b,off,none⟩):=by rfl)
  (ht:m7 Tryz.prog t=some true:=by decide +kernel) (hc:a7 L b off vs:=by exact s9) (hn:j6 Tryz.prog t=some vs.length:=by kernel_rfl) (ha:a.put o.dst (.agg vs.toArray)=a':=by first|(simp only[Act.put,fA,fB,fC,Nat.reduceAdd];rfl)|rfl):wpList Tryz.prog ops Q (o::rest) a w:=
 JF7 hS ho hg hx ht hc hn (by rw[ha];exact h)
theorem zs1{t:TypeId}{x y:Operand}{b off:Nat}{l l':List Value}{T:TypeId}{v:Value}(hS:St W L w)(h:∀w',St W L' w'->wpList Tryz.prog ops Q rest a' w')(ho:o.op=.store t x y:=by with_reducible rfl)(hg:Region.wanted o (yielded ops a.tmps)=true:=by rfl)(hx:a.eval x=.pointer (some ⟨b,off,none⟩):=by rfl)
  (hy:a.eval y=v:=by focus((conv=>lhs;whnf);try rfl)) (hn:j6 Tryz.prog t=some 1:=by kernel_rfl) (hv:v.cells.toList=[v]:=by rfl) (h1:v.oneCell'=true:=by rfl) (hu:Upd L (blk b l T) (blk b l' T) L':=by exact bu4) (hl:off<l.length:=by(simp only[jC,List.length_nil];omega)) (he:l.set off v=l':=by((simp only[List.set_cons_zero,List.set_cons_succ,l7]);rfl))
  (ha:a.put o.dst undef=a':=by first|(simp only[Act.put,fA,fB,fC,Nat.reduceAdd];rfl)|rfl):wpList Tryz.prog ops Q (o::rest) a w:=
 IA7 hS ho hg hx hy hn hv h1 hu hl he (by rw[ha];exact h)
theorem zsN{t:TypeId}{x y:Operand}{b off:Nat}{l l' vs:List Value}{T:TypeId}(hS:St W L w)(h:∀w',St W L' w'->wpList Tryz.prog ops Q rest a' w')(ho:o.op=.store t x y:=by with_reducible rfl)(hg:Region.wanted o (yielded ops a.tmps)=true:=by rfl)(hx:a.eval x=.pointer (some ⟨b,off,none⟩):=by rfl)
  (hy:a.eval y=.agg vs.toArray:=by focus((conv=>lhs;whnf);try rfl)) (hn:j6 Tryz.prog t=some vs.length:=by kernel_rfl) (h1:vs.all (·.oneCell')=true:=by rfl) (hu:Upd L (blk b l T) (blk b l' T) L':=by exact bu4) (hl:off+vs.length<=l.length:=by(simp only[jC,List.length_nil];omega)) (he:l7 l off vs=l':=by((simp only[List.set_cons_zero,List.set_cons_succ,l7]);rfl))
  (ha:a.put o.dst undef=a':=by first|(simp only[Act.put,fA,fB,fC,Nat.reduceAdd];rfl)|rfl):wpList Tryz.prog ops Q (o::rest) a w:=
 JG7 hS ho hg hx hy hn h1 hu hl he (by rw[ha];exact h)
theorem zbx{t:TypeId}{x:Operand}{v:Value}{l:List Value}{a':Nat->Act}(hS:St W L w)(h:∀b w',St W (blk b l t::L) w'->wpList Tryz.prog ops Q rest (a' b) w')(ho:o.op=.box t x:=by with_reducible rfl)(hg:Region.wanted o (yielded ops a.tmps)=true:=by rfl)(hx:a.eval x=v:=by rfl)(hv:v.cells=l.toArray:=by rfl)
  (ha:∀b,a.put o.dst (.P b)=a' b:=by(intro b;first|(simp only[Act.put,fA,fB,fC,Nat.reduceAdd];rfl)|rfl)):wpList Tryz.prog ops Q (o::rest) a w:=
 JH7 hS ho hg hx hv fun b w' h1=>by rw[ha];exact h b w' h1
theorem zal{t:TypeId}{l:List Value}{a':Nat->Act}(hS:St W L w)(h:∀b w',St W (blk b l t::L) w'->wpList Tryz.prog ops Q rest (a' b) w')(ho:o.op=.alloc t:=by with_reducible rfl)(hg:Region.wanted o (yielded ops a.tmps)=true:=by rfl)(hz:j7 Tryz.prog t=some l:=by exact zsS)
  (ha:∀b,a.put o.dst (.P b)=a' b:=by(intro b;first|(simp only[Act.put,fA,fB,fC,Nat.reduceAdd];rfl)|rfl)):wpList Tryz.prog ops Q (o::rest) a w:=
 Hx7 hS ho hg hz fun b w' h1=>by rw[ha];exact h b w' h1
theorem zbs{t e n:TypeId}{z:Value}{k bytes:Nat}{xs:Array (Nat×Operand)}{parts:List (Nat×Value)}{l:List Value}{a':Nat->Act}(hS:St W L w)(h:∀b w',St W (blk b l e::L) w'->wpList Tryz.prog ops Q rest (a' b) w')(ho:o.op=.buildSlice t n xs:=by with_reducible rfl)(hg:Region.wanted o (yielded ops a.tmps)=true:=by rfl)
  (hx:(xs.map fun(i,x)=>(i,a.eval x))=parts.toArray:=by(simp only[fD,fI,fJ,Act.eval,fE,fF,fG,fH,fK];try rfl)) (ht:j5 Tryz.prog t=some e:=by exact esS) (hi:k8 Tryz.prog e=some (some z,k,bytes):=by exact rsS) (hz:z.cells.size=k:=by rfl) (hn:decide (n*k<=16777216)=true:=by rfl) (hp:C9 k n parts=true:=by rfl) (hl:F7 k (y9 z n) parts=l:=by rfl)
  (ha:∀b,a.put o.dst (.S b n n)=a' b:=by(intro b;first|(simp only[Act.put,fA,fB,fC,Nat.reduceAdd];rfl)|rfl)):wpList Tryz.prog ops Q (o::rest) a w:=
 bs4 hS ho hg hx ht hi hz hn hp hl fun b w' h1=>by rw[ha];exact h b w' h1
theorem zap{s x:Operand}{t e:TypeId}{z:Value}{k bytes:Nat}{v xv:Value}{n m:Nat}{cs news:List Value}{a':Value->Act}(hS:St W L w)(h:∀v' w',St W (row v' k e (n+m) (cs++news)::R) w'->wpList Tryz.prog ops Q rest (a' v') w')(ho:o.op=.call { callee:=.builtin .append,args:=#[s,x],argTypes:=#[t,t] }:=by with_reducible rfl)
  (hg:Region.wanted o (yielded ops a.tmps)=true:=by rfl) (hs:a.eval s=v:=by rfl) (hx:a.eval x=xv:=by rfl) (ht:j5 Tryz.prog t=some e:=by exact esS) (hi:k8 Tryz.prog e=some (some z,k,bytes):=by exact rsS) (hz:z.cells.size=k:=by rfl) (hk:0<k:=by decide) (hu:Take L (row v k e n cs) R:=by exact d7)
  (hsrc:Src L xv m news:=by exact Src.mk a7.whole) (hl:news.length=m*k:=by(try rfl)) (h1:news.all (·.oneCell')=true:=by rfl) (h63:n+m<=maxLen) (hb:(n+m)*bytes<=140737488355328)
  (ha:∀v,a.put o.dst v=a' v:=by(intro v;first|(simp only[Act.put,fA,fB,fC,Nat.reduceAdd];rfl)|rfl)):wpList Tryz.prog ops Q (o::rest) a w:=
 At7 hS ho hg hs hx ht hi hz hk hu hsrc hl h1 h63 hb fun v w' h2=>by rw[ha];exact h v w' h2
end
section
variable{ops:Array Oper}{Q:Act->Prop}{a a':Act}{W:World}{L:List HP}{rest:List Oper}{o:Oper}
theorem zq1{t:TypeId}{x:Operand}{b off:Nat}{v:Value}(h:wpQuiet Tryz.prog ops (St W L) Q rest a')(ho:o.op=.load t x:=by with_reducible rfl)(hg:Region.wanted o (yielded ops a.tmps)=true:=by rfl)(hx:a.eval x=.pointer (some ⟨b,off,none⟩):=by rfl)(ht:m7 Tryz.prog t=some false:=by decide +kernel)(hc:a8 L b off v:=by exact bv4)
  (ha:a.put o.dst v=a':=by first|(simp only[Act.put,fA,fB,fC,Nat.reduceAdd];rfl)|rfl):wpQuiet Tryz.prog ops (St W L) Q (o::rest) a:=
 JI7 ho hg hx ht hc (by rw[ha];exact h)
theorem zqN{t:TypeId}{x:Operand}{b off:Nat}{vs:List Value}(h:wpQuiet Tryz.prog ops (St W L) Q rest a')(ho:o.op=.load t x:=by with_reducible rfl)(hg:Region.wanted o (yielded ops a.tmps)=true:=by rfl)(hx:a.eval x=.pointer (some ⟨b,off,none⟩):=by rfl)(ht:m7 Tryz.prog t=some true:=by decide +kernel)(hc:a7 L b off vs:=by exact s9)
  (hn:j6 Tryz.prog t=some vs.length:=by kernel_rfl) (ha:a.put o.dst (.agg vs.toArray)=a':=by first|(simp only[Act.put,fA,fB,fC,Nat.reduceAdd];rfl)|rfl):wpQuiet Tryz.prog ops (St W L) Q (o::rest) a:=
 JJ7 ho hg hx ht hc hn (by rw[ha];exact h)
theorem zqn{x:Operand}{p:Addr}(h:wpQuiet Tryz.prog ops (St W L) Q rest a')(ho:o.op=.nilCheck x:=by with_reducible rfl)(hg:Region.wanted o (yielded ops a.tmps)=true:=by rfl)(hx:a.eval x=.pointer (some p):=by rfl)(ha:a.put o.dst (.pointer (some p))=a':=by first|(simp only[Act.put,fA,fB,fC,Nat.reduceAdd];rfl)|rfl):wpQuiet Tryz.prog ops (St W L) Q (o::rest) a:=
 JK7 ho hg hx (by rw[ha];exact h)
end
section
variable{W:World}{ops:Array Oper}{t:List Nat}{toks:List Tok}{fresh:Nat->Bool}{pin:Nat->Option Value}{Qf:Act->Prop}{nd:Nat->Value}{i:Nat}{o:Oper}{l:List Oper}{a a':Act}
theorem zcn{x:Operand}{p:Addr}(h:d9 Tryz.prog W ops t toks fresh pin Qf nd (i+1) l a')(hf:fresh i=false:=by rfl)(hn:x9 toks i=true:=by kernel_rfl)(ho:o.op=.nilCheck x:=by with_reducible rfl)(hg:Region.wanted o (yielded ops a.tmps)=true:=by rfl)(hx:a.eval x=.pointer (some p):=by rfl)
  (ha:a.put o.dst (.pointer (some p))=a':=by first|(simp only[Act.put,fA,fB,fC,Nat.reduceAdd];rfl)|rfl):d9 Tryz.prog W ops t toks fresh pin Qf nd i (o::l) a:=
 JL7 hf hn ho hg hx (by rw[ha];exact h)
theorem zc1{ty:TypeId}{x:Operand}{b off:Nat}{v:Value}(h:d9 Tryz.prog W ops t toks fresh pin Qf nd (i+1) l a')(hf:fresh i=false:=by rfl)(hn:x9 toks i=true:=by kernel_rfl)(ho:o.op=.load ty x:=by with_reducible rfl)(hg:Region.wanted o (yielded ops a.tmps)=true:=by rfl)(hx:a.eval x=.pointer (some ⟨b,off,none⟩):=by rfl)
  (ht:m7 Tryz.prog ty=some false:=by decide +kernel) (hc:∀F,a8 (kpL toks t i nd++F) b off v:=by(intro F;exact bK4)) (ha:a.put o.dst v=a':=by first|(simp only[Act.put,fA,fB,fC,Nat.reduceAdd];rfl)|rfl):d9 Tryz.prog W ops t toks fresh pin Qf nd i (o::l) a:=
 JM7 hf hn ho hg hx ht hc (by rw[ha];exact h)
theorem zcN{ty:TypeId}{x:Operand}{b off:Nat}{vs:List Value}(h:d9 Tryz.prog W ops t toks fresh pin Qf nd (i+1) l a')(hf:fresh i=false:=by rfl)(hn:x9 toks i=true:=by kernel_rfl)(ho:o.op=.load ty x:=by with_reducible rfl)(hg:Region.wanted o (yielded ops a.tmps)=true:=by rfl)(hx:a.eval x=.pointer (some ⟨b,off,none⟩):=by rfl)
  (ht:m7 Tryz.prog ty=some true:=by decide +kernel) (hc:∀F,a7 (kpL toks t i nd++F) b off vs:=by(intro F;exact bL4)) (hz:j6 Tryz.prog ty=some vs.length:=by kernel_rfl) (ha:a.put o.dst (.agg vs.toArray)=a':=by first|(simp only[Act.put,fA,fB,fC,Nat.reduceAdd];rfl)|rfl):d9 Tryz.prog W ops t toks fresh pin Qf nd i (o::l) a:=
 JN7 hf hn ho hg hx ht hc hz (by rw[ha];exact h)
theorem zca{ty:TypeId}{z:List Value}(h:d9 Tryz.prog W ops t toks fresh pin Qf nd (i+1) l a')(hf:fresh i=true:=by rfl)(ho:o.op=.alloc ty:=by with_reducible rfl)(hg:Region.wanted o (yielded ops a.tmps)=true:=by rfl)(hk:∀v,kpL toks t i (upd nd i v)=kpL toks t i nd:=by(intro _;rfl))(hz:j7 Tryz.prog ty=some z:=by exact zsS)(hc:cnL toks t i nd=[]:=by rfl)
  (hm:∀v,mdL toks i (upd nd i v)=[f7 v z ty]:=by(intro _;rfl)) (ha:a.put o.dst (nd i)=a':=by first|(simp only[Act.put,fA,fB,fC,Nat.reduceAdd];rfl)|rfl):d9 Tryz.prog W ops t toks fresh pin Qf nd i (o::l) a:=
 HB7 hf ho hg hk hz hc hm (by rw[ha];exact h)
theorem zct{ty:TypeId}{x y:Operand}{pv v:Value}{z z' vs:List Value}{T:TypeId}(h:d9 Tryz.prog W ops t toks fresh pin Qf nd (i+1) l a')(hf:fresh i=false:=by rfl)(ho:o.op=.store ty x y:=by with_reducible rfl)(hg:Region.wanted o (yielded ops a.tmps)=true:=by rfl)(hx:a.eval x=pv:=by focus((conv=>lhs;whnf);try rfl))(hy:a.eval y=v:=by focus((conv=>lhs;whnf);try rfl))(hv:v.cells.toList=vs:=by focus((conv=>lhs;whnf);try rfl))
  (hn:j6 Tryz.prog ty=some vs.length:=by kernel_rfl) (h1:vs.all (·.oneCell')=true:=by rfl) (hc:cnL toks t i nd=[f7 pv z T]:=by rfl) (hl:0+vs.length<=z.length:=by(simp only[jC,List.length_nil];omega)) (he:l7 z 0 vs=z':=by rfl) (hm:mdL toks i nd=[f7 pv z' T]:=by rfl)
  (ha:a.put o.dst undef=a':=by first|(simp only[Act.put,fA,fB,fC,Nat.reduceAdd];rfl)|rfl):d9 Tryz.prog W ops t toks fresh pin Qf nd i (o::l) a:=
 IT7 hf ho hg hx hy hv hn h1 hc hl he hm (by rw[ha];exact h)
theorem zcs{ty:TypeId}{x y:Operand}{v:Value}{b off:Nat}{z z' vs:List Value}{T:TypeId}(h:d9 Tryz.prog W ops t toks fresh pin Qf nd (i+1) l a')(hf:fresh i=false:=by rfl)(ho:o.op=.store ty x y:=by with_reducible rfl)(hg:Region.wanted o (yielded ops a.tmps)=true:=by rfl)(hx:a.eval x=.pointer (some ⟨b,off,none⟩):=by rfl)(hy:a.eval y=v:=by focus((conv=>lhs;whnf);try rfl))(hv:v.cells.toList=vs:=by focus((conv=>lhs;whnf);try rfl))
  (hn:j6 Tryz.prog ty=some vs.length:=by kernel_rfl) (h1:vs.all (·.oneCell')=true:=by rfl) (hc:cnL toks t i nd=[blk b z T]:=by rfl) (hl:off+vs.length<=z.length:=by(simp only[jC,List.length_nil];omega)) (he:l7 z off vs=z':=by rfl) (hm:mdL toks i nd=[blk b z' T]:=by rfl)
  (ha:a.put o.dst undef=a':=by first|(simp only[Act.put,fA,fB,fC,Nat.reduceAdd];rfl)|rfl):d9 Tryz.prog W ops t toks fresh pin Qf nd i (o::l) a:=
 aO4 hf ho hg hx hy hv hn h1 hc hl he hm (by rw[ha];exact h)
theorem zcv{f:FuncId}{xs:Array Operand}{ats:Array TypeId}{args:Array Value}{v:Value}(h:d9 Tryz.prog W ops t toks fresh pin Qf nd (i+1) l a')(hf:fresh i=false:=by rfl)(hp:pin i=some v:=by rfl)(hg:Region.wanted o (yielded ops a.tmps)=true:=by rfl)
  (ho:o.op=.call { callee:=.value (.func f),args:=xs,argTypes:=ats }:=by with_reducible rfl) (hb:t8 Tryz.prog f=true:=by decide +kernel) (hx:xs.map a.eval=args:=by(simp only[fD,fI,fJ,Act.eval,fE,fF,fG,fH,fK];try rfl))
  (hs:∀F w,St W (cnL toks t i nd++(kpL toks t i nd++F)) w->Calls Tryz.prog f args w fun e w'=>e=.returned v/\St W (mdL toks i nd++(kpL toks t i nd++F)) w')
  (ha:a.put o.dst v=a':=by first|(simp only[Act.put,fA,fB,fC,Nat.reduceAdd];rfl)|rfl):d9 Tryz.prog W ops t toks fresh pin Qf nd i (o::l) a:=
 HC7 hf hp hg ho hb hx hs (by rw[ha];exact h)
end
end Go.Sl
end
section
namespace Go.Proofs.YtjcfifkjbaffnaaGreat
open Go.RowKit Go.Sl
structure Ord where
 id:Int
 who:ByteArray
 buy:Bool
 item:Int
 cnt:Int
 price:Int
def Ord.cells(o:Ord):List Value:=[.I o.id,.string o.who,.bool o.buy,.I o.item,.I o.cnt,.I o.price]
theorem Ord.len(o:Ord):o.cells.length=6:=rfl
structure Trd where
 buyer:ByteArray
 seller:ByteArray
 buy:Int
 sell:Int
 item:Int
 cnt:Int
 price:Int
 bid:Int
def Trd.cells(o:Trd):List Value:=[.string o.buyer,.string o.seller,.I o.buy,.I o.sell,.I o.item,.I o.cnt,.I o.price,.I o.bid]
end Go.Proofs.YtjcfifkjbaffnaaGreat
end
section
namespace Go.Sl
open Go.RowKit
section
variable{P:Program}{ops:Array Oper}{Q:Exit->Act->World->Prop}{a:Act}{w:World}{rest:List Oper}{o:Oper}
end
end Go.Sl
namespace Go.Proofs.YtjcfifkjbaffnaaGreat
open Go.RowKit Go.Sl
structure It where
 x0:Int
 x1:Int
 x2:Int
 x3:Int
def It.cells(i:It):List Value:=[.I i.x0,.I i.x1,.I i.x2,.I i.x3]
theorem It.len(i:It):i.cells.length=4:=rfl
end Go.Proofs.YtjcfifkjbaffnaaGreat
end
section
namespace Go.Sl
open Go.RowKit
def N6(b:Nat)(es:List MapEntry)(clk:Nat):HP:=K5 b (.map es.toArray clk)
def A7(P:Program)(t:TypeId):Option (TypeId×TypeId):=(P.underlying t).bind fun|.map k e=>some (k,e)|_=>none
def w6(P:Program)(t:TypeId):Option Value:=(P.info? t).bind (·.zero)
def as4:TypeDesc->Bool
 | .int _ | .string=>true
 | _=>false
section
variable{P:Program}{W w:World}{L R:List HP}
theorem Bk7{t K E:TypeId}(h:A7 P t=some (K,E)):P.underlying t=some (.map K E):=by
 unfold A7 at h;obtain⟨d,hd,hx⟩:=Option.bind_eq_some_iff.1 h
 cases d <;> simp at hx
 rw[hd,hx.1,hx.2]
theorem Gk7{t:TypeId}{z:Value}(h:w6 P t=some z):(zeroValue t).run P w=.ok z w:=by unfold w6 at h;obtain⟨i,hi,hz⟩:=Option.bind_eq_some_iff.1 h;simp[zeroValue,typeInfo,hi,hz]
theorem DN7{K:TypeId}{kd:TypeDesc}(hK:P.underlying K=some kd)(h:as4 kd=true)(e:Bool)(n:Nat)(v:Value):(Instr.checkKey e (n+1) K v).run P w=.ok () w:=by
 unfold Instr.checkKey
 cases kd <;> simp[as4]at h <;> simp[run_underlying hK]
theorem Ex7{K:TypeId}{kd:TypeDesc}{key:Value}{es:List MapEntry}{r:Option (Nat×Value)}(hK:P.underlying K=some kd)(hf:Instr.findNow kd key es 0=some r):(Instr.findKey K key es).run P w=.ok r w:=by unfold Instr.findKey;simp[run_underlying hK,hf]
theorem St.setMap{b:Nat}{es es':List MapEntry}{c c':Nat}(h:St W (N6 b es c::L) w):St W (N6 b es' c'::L) { w with heap:=w.heap.setIfInBounds b (.map es'.toArray c') }:=by
 have hg:=h.get (b:=b) .head;refine h.putO (b:=b) (o:=.map es.toArray c) (o':=.map es'.toArray c') .head rfl rfl rfl fun k=>?_
 show(w.heap.setIfInBounds b _)[k]? = _
 have hb:b<w.heap.size:=(Array.getElem?_eq_some_iff.1 hg).1;rw[Array.getElem?_setIfInBounds];by_cases hk:b=k
 ·subst hk;rw[if_pos rfl,if_pos hb,if_pos rfl]
 ·rw[if_neg hk,if_neg (fun h=>hk h.symm)]
theorem Dh7{b:Nat}{es:List MapEntry}{c:Nat}(h:St W (N6 b es c::L) w):(getObj b).run P w=.ok (.map es.toArray c) w:=MapKept.run_getObj_map (h.get (b:=b) .head)
def cw4(ok:Bool)(z:Value):Option (Nat×Value)->Value
 | some (_,v)=>if ok then .tuple #[v,.bool true]else v
 | none=>if ok then .tuple #[z,.bool false]else z
theorem Ey7{t:TypeId}(h:St W L w):∃b w',(Instr.makeMap t none).run P w=.ok (.map (some b)) w'/\St W (N6 b [] 0::L) w':=
 ⟨w.heap.size,w.alloc (.map #[] 0),by unfold Instr.makeMap;simp,h.alloc _⟩
def bN4(es:List MapEntry):Prop:=(es.map (·.born)).Nodup
end
theorem HE7(a b:Int):Instr.sameNow (.int .i64) (.I a) (.I b)=some (a==b):=by simp[Instr.sameNow]
def bh4(r m since:Nat)(seen:Array Nat)(stepped:Nat):HP:=K5 r (.mapIter (some m) since seen stepped)
section
variable{P:Program}{W w:World}{L:List HP}
end
section
variable{P:Program}{ops:Array Oper}{Q:Exit->Act->World->Prop}{a:Act}{w:World}{W:World}{L L' R:List HP}{rest:List Oper}{o:Oper}
end
end Go.Sl
end
section
namespace Go.Sl
open Go.RowKit
def I8{κ:Type}[DecidableEq κ](k:κ):List (κ×Value×Nat)->Nat->Option (Nat×Value)
 | [],_=>none
 | x::l,i=>if k=x.1 then some (i,x.2.1)else I8 k l (i+1)
def B7{κ:Type}(ek:κ->Value)(x:κ×Value×Nat):MapEntry:=⟨ek x.1,x.2.1,x.2.2⟩
structure KeyOk(P:Program)(K:TypeId){κ:Type}[DecidableEq κ](ek:κ->Value):Prop where
 chk:∀e k w,(Instr.checkKey e 10000 K (ek k)).run P w=.ok () w
 find:∀k (l:List (κ×Value×Nat)) w,(Instr.findKey K (ek k) (l.map (B7 ek))).run P w=.ok (I8 k l 0) w
 bits:∀k,Instr.sameBits 10000 (ek k) (ek k)=true
section
variable{κ:Type}[DecidableEq κ]
theorem Di7{k:κ}:∀(l:List (κ×Value×Nat)) (i:Nat),(∀x∈l,x.1≠k)->I8 k l i=none
 | [],_,_=>rfl
 | x::l,i,h=>by rw[I8,if_neg (fun e=>h x (List.mem_cons_self ..) e.symm)];exact Di7 l (i+1) fun y hy=>h y (List.mem_cons_of_mem _ hy)
theorem Dj7{k:κ}{v:Value}{s:Nat}:∀(l:List (κ×Value×Nat)) (i:Nat),(l.map (·.1)).Nodup->(k,v,s)∈l->∃j, ∃h:j<l.length,l[j]=(k,v,s)/\I8 k l i=some (i+j,v)
 | x::l,i,hn,hm=>by
  rw[List.map_cons,List.nodup_cons]at hn;by_cases hk:k=x.1
  ·have hx:x=(k,v,s):=by
    rcases List.mem_cons.1 hm with h|h
    ·exact h.symm
    ·exact absurd (List.mem_map.2 ⟨_,h,hk⟩) hn.1
   exact⟨0,Nat.succ_pos _,hx,by rw[I8,if_pos hk,hx];rfl⟩
  ·have hm':(k,v,s)∈l:=by
    rcases List.mem_cons.1 hm with h|h
    ·exact absurd (by rw[<-h]) hk
    ·exact h
   obtain⟨j,hj,h1,h2⟩:=Dj7 l (i+1) hn.2 hm';exact⟨j+1,by simpa using hj,h1,by rw[I8,if_neg hk,h2,show i+1+j=i+(j+1)by omega]⟩
theorem BA7{kd:TypeDesc}{ek:κ->Value}(h:∀a b,Instr.sameNow kd (ek a) (ek b)=some (decide (a=b)))(k:κ):∀(l:List (κ×Value×Nat)) (i:Nat),Instr.findNow kd (ek k) (l.map (B7 ek)) i=some (I8 k l i)
 | [],_=>rfl
 | x::l,i=>by
  have e:(B7 ek x).key=ek x.1:=rfl;rw[List.map_cons,Instr.findNow,e,h,I8];by_cases hk:k=x.1
  ·rw[decide_eq_true hk,if_pos hk];rfl
  ·rw[decide_eq_false hk,if_neg hk];exact BA7 h k l (i+1)
variable{P:Program}{K:TypeId}{kd:TypeDesc}{ek:κ->Value}
theorem KeyOk.plain(hK:P.underlying K=some kd)(hkd:as4 kd=true)(h:∀a b,Instr.sameNow kd (ek a) (ek b)=some (decide (a=b)))(hb:∀k,Instr.sameBits 10000 (ek k) (ek k)=true):KeyOk P K ek:=
 ⟨fun e k w=>DN7 hK hkd e 9999 (ek k),fun k l w=>Ex7 hK (BA7 h k l 0),hb⟩
end
theorem KeyOk.int{P:Program}{K:TypeId}(hK:P.underlying K=some (.int .i64)):KeyOk P K (fun z:Int=>.I z):=
 .plain hK rfl (fun a b=>by rw[HE7];exact congrArg some (Bool.beq_eq_decide_eq a b)) (fun k=>by simp[Instr.sameBits])
section
variable{κ:Type}[DecidableEq κ]{P:Program}{W w:World}{L R:List HP}{t K E:TypeId}{ek:κ->Value}
theorem DO7{b c:Nat}{ps:List (κ×Value×Nat)}{k:κ}{z:Value}{ok:Bool}(h:St W (N6 b (ps.map (B7 ek)) c::L) w)(ht:A7 P t=some (K,E))(hK:KeyOk P K ek)(hz:w6 P E=some z)(hn:∀x∈ps,x.1≠k):
  (Instr.lookup t (.map (some b)) (ek k) ok).run P w=.ok (if ok then .tuple #[z,.bool false]else z) w:=by
 unfold Instr.lookup;have hu:=run_underlying (P:=P) (Bk7 ht) w
 cases ok <;> simp[hu,Dh7 h,hK.chk,hK.find,Di7 ps 0 hn,Gk7 hz]
theorem DP7{b c:Nat}{ps:List (κ×Value×Nat)}{k:κ}{v:Value}{s:Nat}{ok:Bool}(h:St W (N6 b (ps.map (B7 ek)) c::L) w)(ht:A7 P t=some (K,E))(hK:KeyOk P K ek)(hn:(ps.map (·.1)).Nodup)(hm:(k,v,s)∈ps):
  (Instr.lookup t (.map (some b)) (ek k) ok).run P w=.ok (if ok then .tuple #[v,.bool true]else v) w:=by
 unfold Instr.lookup;have hu:=run_underlying (P:=P) (Bk7 ht) w;obtain⟨j,hj,h1,h2⟩:=Dj7 ps 0 hn hm
 cases ok <;> simp[hu,Dh7 h,hK.chk,hK.find,h2]
theorem DQ7{b c:Nat}{ps:List (κ×Value×Nat)}{k:κ}{v:Value}(h:St W (N6 b (ps.map (B7 ek)) c::L) w)(ht:A7 P t=some (K,E))(hK:KeyOk P K ek)(hn:∀x∈ps,x.1≠k):
  ∃w',(Instr.mapUpdate t (.map (some b)) (ek k) v).run P w=.ok () w'/\St W (N6 b ((ps++[(k,v,c)]).map (B7 ek)) (c+1)::L) w':=by
 refine⟨_,?_,h.setMap⟩;unfold Instr.mapUpdate;have hu:=run_underlying (P:=P) (Bk7 ht) w;have hs:=MapKept.run_setObj_map (P:=P) (.map (ps.map (B7 ek)++[(⟨ek k,v,c⟩:MapEntry)]).toArray (c+1)) (h.get (b:=b) .head);have e:(ps.map (B7 ek)).toArray.push (⟨ek k,v,c⟩:MapEntry)=(ps.map (B7 ek)++[(⟨ek k,v,c⟩:MapEntry)]).toArray:=by simp
 have e2:(ps++[(k,v,c)]).map (B7 ek)=ps.map (B7 ek)++[(⟨ek k,v,c⟩:MapEntry)]:=by rw[List.map_append];rfl
 rw[e2];simp only[hu,Sem.run_bind,Result.andThen_ok,Dh7 h,hK.chk,hK.find,Di7 ps 0 hn,e,hs]
def at4(ps:List (κ×Value×Nat))(k:κ)(v:Value):List (κ×Value×Nat):=ps.map fun x=>if x.1=k then(x.1,v,x.2.2)else x
theorem CO7{k:κ}{v:Value}:∀(ps:List (κ×Value×Nat)),k∉ps.map (·.1)->at4 ps k v=ps
 | [],_=>rfl
 | x::ps,h=>by
  have hx:x.1≠k:=fun e=>h (by rw[List.map_cons,e];exact List.mem_cons_self ..)
  have:=CO7 (k:=k) (v:=v) ps (fun e=>h (List.mem_cons_of_mem _ e));unfold at4 at this ⊢;rw[List.map_cons,if_neg hx,this]
theorem Gl7{k:κ}{v u:Value}{s:Nat}:∀(ps:List (κ×Value×Nat)) (j:Nat) (hj:j<ps.length),(ps.map (·.1)).Nodup->ps[j]=(k,u,s)->at4 ps k v=ps.set j (k,v,s)
 | x::ps,0,_,hn,hx=>by have hx':x=(k,u,s):=hx;rw[List.map_cons,List.nodup_cons,hx']at hn;have:=CO7 (v:=v) ps hn.1;unfold at4 at this ⊢;rw[List.map_cons,this,hx',if_pos rfl];rfl
 | x::ps,j+1,hj,hn,hx=>by
  rw[List.map_cons,List.nodup_cons]at hn;have hj':j<ps.length:=by simpa using hj
  have hx':ps[j]=(k,u,s):=hx;have hne:x.1≠k:=fun e=>hn.1 (List.mem_map.2 ⟨ps[j],jW _,by rw[hx',e]⟩)
  have:=Gl7 (v:=v) ps j hj' hn.2 hx';unfold at4 at this ⊢;rw[List.map_cons,if_neg hne,this];rfl
theorem Ez7{b c:Nat}{ps:List (κ×Value×Nat)}{k:κ}{u v:Value}{s:Nat}(h:St W (N6 b (ps.map (B7 ek)) c::L) w)(ht:A7 P t=some (K,E))(hK:KeyOk P K ek)(hn:(ps.map (·.1)).Nodup)(hm:(k,u,s)∈ps):
  ∃w',(Instr.mapUpdate t (.map (some b)) (ek k) v).run P w=.ok () w'/\St W (N6 b ((at4 ps k v).map (B7 ek)) c::L) w':=by
 obtain⟨j,hj,h1,h2⟩:=Dj7 ps 0 hn hm;rw[Nat.zero_add]at h2;have e2:(at4 ps k v).map (B7 ek)=(ps.map (B7 ek)).set j ⟨ek k,v,s⟩:=by rw[Gl7 ps j hj hn h1,List.map_set];rfl
 have e:(ps.map (B7 ek)).modify j (fun e=>{ e with key:=ek k,val:=v })=(ps.map (B7 ek)).set j ⟨ek k,v,s⟩:=by
  apply List.ext_getElem?;intro i;rw[List.getElem?_modify,List.getElem?_set];by_cases hi:j=i
  ·subst hi;simp[hj,h1,B7]
  ·simp[hi]
 refine⟨_,?_,h.setMap⟩;rw[e2];unfold Instr.mapUpdate;have hu:=run_underlying (P:=P) (Bk7 ht) w;have hks:(Instr.keyThatStays (ek k) (ek k)).run P w=.ok (ek k) w:=by unfold Instr.keyThatStays;simp[hK.bits]
 have hkk:((ps.map (B7 ek)).toArray[j]?).map (·.key)=some (ek k):=by simp[hj,h1,B7]
 have hkj:(B7 ek ps[j]).key=ek k:=by rw[h1];rfl
 simp[hu,Dh7 h,hK.chk,hK.find,h2,hj,hkj,hks];rw[e];exact MapKept.run_setObj_map (P:=P) (.map ((ps.map (B7 ek)).set j ⟨ek k,v,s⟩).toArray c) (h.get (b:=b) .head)
def cy4(ps:List (κ×Value×Nat))(k:κ):List (κ×Value×Nat):=ps.filter fun x=>decide (x.1≠k)
end
end Go.Sl
end
